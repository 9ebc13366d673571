/-
  Drawn regions: the temporaries' values.
-/
import Derived.Test.YtcmlfnkmpgdacabGreatDoorEvProofC
import Derived.LoopNIn
namespace Go.Ev

/-- what a temporary's value is, as far as it is known -/
noncomputable def tvc (E : Env) (pre : Pre) (R : List AV) (tm : Tm) (t : Nat) : AV := match cSrc E pre (.tmp t) with
  | some s => srcV s R tm
  | none => .u

structure PS (E : Env) (pre : Pre) (R : List AV) : Prop where
  len : R.length = pre.n
  ok : ∀ e ∈ pre.l, ∀ k, e.2 = .r k → k < pre.n
  kin : ∀ t, Nat.testBit E.K t = true → cSrc E pre (.tmp t) = some (.v t)

section
variable {E : Env} {pre : Pre} {R : List AV} {tm : Tm}

theorem PS.begin : PS E ⟨[], 0⟩ [] where
  len := rfl
  ok := fun e he => by simp at he
  kin := fun t ht => by simp [cSrc, findS, ht]

theorem PS.src_lt {x : Operand} (h : PS E pre R) {k : Nat} (hs : cSrc E pre x = some (.r k)) : k < pre.n := by
  cases x with
  | tmp t =>
    simp only [cSrc] at hs
    split at hs
    · rename_i s he
      simp at hs; subst hs
      obtain ⟨y, hy⟩ := findS_mem he
      exact h.ok _ hy k rfl
    · split at hs <;> simp at hs
  | const v => simp [cSrc] at hs
  | global g => simp only [cSrc] at hs; split at hs <;> simp at hs
  | func f => simp [cSrc] at hs

/-- 'x := y' where x is not kept -/
theorem PS.aka (h : PS E pre R) {d : Nat} {x : Operand} {s : Src} (hs : cSrc E pre x = some s) (hd : Nat.testBit E.K d = false) : PS E (pre.aka d s) R ∧ ∀ t, tvc E (pre.aka d s) R tm t = .u ∨ tvc E (pre.aka d s) R tm t = if some d = some t then srcV s R tm else tvc E pre R tm t := by
  have hc : ∀ t, cSrc E (pre.aka d s) (.tmp t) = if d = t then some s else cSrc E pre (.tmp t) := fun t => by
    simp only [cSrc, Pre.aka, findS]
    by_cases e : d = t
    · simp [e]
    · simp only [e, if_false]
  refine ⟨⟨h.len, fun e he k hk => ?_, fun t ht => ?_⟩, fun t => .inr ?_⟩
  · rcases List.mem_cons.1 he with e1 | e1
    · subst e1; simp only at hk; subst hk; exact h.src_lt hs
    · exact h.ok e e1 k hk
  · rw [hc]
    have : d ≠ t := fun e => by rw [e, ht] at hd; cases hd
    simp only [this, if_false]; exact h.kin t ht
  · unfold tvc; rw [hc]
    by_cases e : d = t
    · simp [e]
    · simp [e]

/-- a value is kept -/
theorem PS.kept (h : PS E pre R) {d : Nat} {v : AV} (hd : Nat.testBit E.K d = true) : PS E (pre.kept d) R ∧
    ∀ t, tvc E (pre.kept d) R (TR.set .u v (pathOf d) tm) t = .u ∨ tvc E (pre.kept d) R (TR.set .u v (pathOf d) tm) t = if some d = some t then v else tvc E pre R tm t := by
  have hc : ∀ t, t ≠ d → ∀ s, cSrc E (pre.kept d) (.tmp t) = some s → s = .x ∨ (cSrc E pre (.tmp t) = some s ∧ s ≠ .v d) := fun t htd s hs => by
    simp only [cSrc, Pre.kept, findS, findS_killS, Ne.symm htd, if_false] at hs
    cases hf : findS t pre.l with
    | some s' =>
      simp only [hf, Option.map_some, Option.some.injEq] at hs
      cases s' with
      | v t' =>
        simp only at hs
        split at hs
        · exact .inl hs.symm
        · rename_i hne; subst hs; exact .inr ⟨by simp [cSrc, hf], fun e => hne (by cases e; rfl)⟩
      | r j => simp only at hs; subst hs; exact .inr ⟨by simp [cSrc, hf], by simp⟩
      | c x => simp only at hs; subst hs; exact .inr ⟨by simp [cSrc, hf], by simp⟩
      | x => simp only at hs; exact .inl hs.symm
    | none =>
      simp only [hf, Option.map_none] at hs
      split at hs
      · rename_i hk; simp at hs; subst hs; exact .inr ⟨by simp [cSrc, hf, hk], fun e => htd (by cases e; rfl)⟩
      · simp at hs
  have hself : cSrc E (pre.kept d) (.tmp d) = some (.v d) := by simp [cSrc, Pre.kept, findS]
  refine ⟨⟨h.len, fun e he k hk => ?_, fun t ht => ?_⟩, fun t => ?_⟩
  · rcases List.mem_cons.1 he with e1 | e1
    · subst e1; simp at hk
    · obtain ⟨e2, he2, he3⟩ := List.mem_map.1 e1
      have h1 := h.ok e2 he2 k
      obtain ⟨x, s⟩ := e2
      cases s with
      | v t => simp only at he3; split at he3 <;> (subst he3; simp at hk)
      | r j => simp only at he3; subst he3; exact h1 hk
      | c x => simp only at he3; subst he3; simp at hk
      | x => simp only at he3; subst he3; simp at hk
  · by_cases e : t = d
    · subst e; exact hself
    · have := h.kin t ht
      simp only [cSrc, Pre.kept, findS, findS_killS, Ne.symm e, if_false]
      simp only [cSrc] at this
      cases hf : findS t pre.l with
      | some s =>
        simp only [hf, Option.some.injEq] at this
        subst this
        simp [e]
      | none => simp [ht]
  · by_cases e : t = d
    · subst e; refine .inr ?_
      unfold tvc; rw [hself]; simp [srcV, TR.get_setN]
    · have hne : ¬ (some d = some t) := fun h => e (by cases h; rfl)
      rw [if_neg hne]
      cases hs : cSrc E (pre.kept d) (.tmp t) with
      | none => exact .inl (by simp [tvc, hs])
      | some s =>
        rcases hc t e s hs with rfl | ⟨h1, h2⟩
        · exact .inl (by simp [tvc, hs, srcV])
        · refine .inr ?_
          simp only [tvc, hs, h1]
          cases s with
          | v t' => simp only [srcV, TR.get_setN]; rw [if_neg (fun e => h2 (by rw [e]))]
          | r k => rfl
          | c x => rfl
          | x => rfl

/-- a value is pushed -/
theorem PS.pushed (h : PS E pre R) {d : Nat} {v : AV} (hd : Nat.testBit E.K d = false) : PS E (pre.pushed d) (v :: R) ∧
    ∀ t, tvc E (pre.pushed d) (v :: R) tm t = .u ∨ tvc E (pre.pushed d) (v :: R) tm t = if some d = some t then v else tvc E pre R tm t := by
  have hc : ∀ t, cSrc E (pre.pushed d) (.tmp t) = if d = t then some (.r pre.n) else cSrc E pre (.tmp t) := fun t => by
    simp only [cSrc, Pre.pushed, findS]
    by_cases e : d = t
    · simp [e]
    · simp only [e, if_false]
  refine ⟨⟨by simp [Pre.pushed, h.len], fun e he k hk => ?_, fun t ht => ?_⟩, fun t => .inr ?_⟩
  · simp only [Pre.pushed] at he ⊢
    rcases List.mem_cons.1 he with e1 | e1
    · subst e1; simp at hk; omega
    · have := h.ok e e1 k hk; omega
  · rw [hc]
    have : d ≠ t := fun e => by rw [e, ht] at hd; cases hd
    simp only [this, if_false]; exact h.kin t ht
  · unfold tvc; rw [hc]
    by_cases e : d = t
    · simp only [e, if_true, srcV, ← h.len]
      have : (v :: R).length - 1 - R.length = 0 := by simp
      rw [this]; rfl
    · have hne : ¬ (some d = some t) := fun h => e (by cases h; rfl)
      simp only [e, if_false]
      cases hs : cSrc E pre (.tmp t) with
      | none => rw [if_neg hne]
      | some s =>
        simp only
        cases s with
        | r k =>
          have hlt := h.src_lt hs
          rw [← h.len] at hlt
          have : (v :: R).length - 1 - k = (R.length - 1 - k) + 1 := by simp; omega
          simp only [srcV]
          rw [this, if_neg (by simpa using e)]; rfl
        | v t' => simp [srcV, e]
        | c x => simp [srcV, e]
        | x => simp [srcV, e]

/-- a destination -/
theorem PS.dst (h : PS E pre R) {dst : Option Nat} {d : D} {pre' : Pre} (hd : cD E pre dst = some (d, pre')) (v : AV) (tm : Tm) :
    ∃ R1 tm1, (∀ k, dstK d v R tm k = k R1 tm1) ∧ PS E pre' R1 ∧ (∀ t, tvc E pre' R1 tm1 t = .u ∨ tvc E pre' R1 tm1 t = if dst = some t then v else tvc E pre R tm t) ∧ (TR.get .u dsP tm1 = TR.get .u dsP tm) ∧ (∀ t, dst = some t → t < E.T) := by
  cases dst with
  | none =>
    simp [cD] at hd
    obtain ⟨rfl, rfl⟩ := hd
    exact ⟨R, tm, fun _ => rfl, h, fun t => .inr (by simp), rfl, fun t ht => by cases ht⟩
  | some t0 =>
    simp only [cD] at hd
    split at hd
    · simp at hd
    · rename_i hc
      split at hd
      · rename_i hk
        simp at hd
        obtain ⟨rfl, rfl⟩ := hd
        obtain ⟨h1, h2⟩ := h.kept (tm := tm) (v := v) hk
        refine ⟨R, TR.set .u v (pathOf t0) tm, fun k => by show TR.force (k R) _ = _; rw [TR.force_eq, pathE_pathOf], h1, h2, ?_, fun t ht => by cases ht; omega⟩
        rw [dsP_eq, TR.get_setN, if_neg (by omega)]
      · rename_i hk
        simp at hd
        obtain ⟨rfl, rfl⟩ := hd
        obtain ⟨h1, h2⟩ := h.pushed (tm := tm) (v := v) (by simpa using hk)
        exact ⟨v :: R, tm, fun k => rfl, h1, h2, rfl, fun t ht => by cases ht; omega⟩

/-- an operation knows its own temporaries -/
theorem opR_bare {ts : List Nat} {a : Act} {ι : Io} {n : Dom} (h : PS E pre R) (hg : GlR E ι n) (hv : ∀ t ∈ ts, VR ι n (tvc E pre R tm t) (a.tmps.getD t undef)) : OpR E.bare (pre.only E ts) R tm a.eval ι n := fun x oa hx => by
  unfold cA at hx
  cases hs : cSrc E.bare (pre.only E ts) x with
  | none => simp [hs] at hx
  | some s =>
    simp [hs] at hx
    have hlen : R.length = (pre.only E ts).n := h.len
    rw [oaOf_val hlen hx]
    cases x with
    | tmp t =>
      have hf : findS t (pre.only E ts).l = some s := by
        simp only [cSrc] at hs
        split at hs
        · rename_i s' he; simp at hs; subst hs; exact he
        · rename_i he; split at hs
          · rename_i hk; simp [Env.bare] at hk
          · simp at hs
      have hm := findS_only_mem ts hf
      have := hv t hm
      rw [findS_only ts hm] at hf
      simp only [tvc, hf] at this
      exact this
    | const v => simp [cSrc] at hs; subst hs; exact VR_ofV _ _ _
    | global g =>
      simp only [cSrc] at hs
      split at hs
      · rename_i hlt
        simp at hs; subst hs
        obtain ⟨e1, e2, e3⟩ := hg g hlt
        have : (⟨g, 0, none⟩ : Addr) = ι.at g 0 := by simp [Io.at, e1, e2]
        simp only [Act.eval, srcV, this]
        exact .p g 0 e3
      · simp at hs
    | func f => simp [cSrc] at hs; subst hs; exact .f f [] [] #[] #[] .nil .nil

end
end Go.Ev

/-
  Drawn regions: one operation.
-/
namespace Go.Ev

theorem notes_spec (bs : Nat) (wl : List L3) : ∀ (l : List L3), (∃ k, notes l bs wl = k ++ wl ∧ ∀ x ∈ k, x ∈ l ∧ idOf x < bs) ∧ ∀ x ∈ l, idOf x < bs → x ∈ notes l bs wl := by
  intro l
  induction l with
  | nil => exact ⟨⟨[], rfl, fun x hx => by cases hx⟩, fun x hx => by cases hx⟩
  | cons y l ih =>
    obtain ⟨⟨k, e, hk⟩, h2⟩ := ih
    obtain ⟨id, off, n⟩ := y
    have he : notes (.mk id off n :: l) bs wl = note id off n bs (notes l bs wl) := rfl
    rw [he, note_eq]
    by_cases g : id < bs
    · simp only [g, if_true]
      refine ⟨⟨.mk id off n :: k, by rw [e]; rfl, fun x hx => ?_⟩, fun x hx hb => ?_⟩
      · rcases List.mem_cons.1 hx with rfl | hx
        · exact ⟨by simp, g⟩
        · exact ⟨List.mem_cons_of_mem _ (hk x hx).1, (hk x hx).2⟩
      · rcases List.mem_cons.1 hx with rfl | hx
        · exact List.mem_cons_self
        · exact List.mem_cons_of_mem _ (h2 x hx hb)
    · simp only [g, if_false]
      refine ⟨⟨k, e, fun x hx => ⟨List.mem_cons_of_mem _ (hk x hx).1, (hk x hx).2⟩⟩, fun x hx hb => ?_⟩
      rcases List.mem_cons.1 hx with rfl | hx
      · exact absurd hb g
      · exact h2 x hx hb

section
variable {P : Program} {w w1 : W}

theorem open_mem (w : W) : w.open'.mem = w.mem := by cases w; rfl
theorem open_nx (w : W) : w.open'.nx = w.nx := by cases w; rfl
theorem open_bs (w : W) : w.open'.bs = w.nx := by cases w; rfl
theorem open_wl (w : W) : w.open'.wl = [] := by cases w; rfl
theorem open_ob (w : W) (id : Nat) : w.open'.ob id = w.ob id := by cases w; rfl
theorem close_mem (w w1 : W) : (W.close' w w1).mem = w1.mem := by cases w; cases w1; rfl
theorem close_nx (w w1 : W) : (W.close' w w1).nx = w1.nx := by cases w; cases w1; rfl
theorem close_bs (w w1 : W) : (W.close' w w1).bs = w.bs := by cases w; cases w1; rfl
theorem close_wl (w w1 : W) : (W.close' w w1).wl = notes w1.wl w.bs w.wl := by cases w; cases w1; rfl
theorem close_ob (w w1 : W) (id : Nat) : (W.close' w w1).ob id = w1.ob id := by cases w; cases w1; rfl

theorem chg_close (h : Chg P w.open' w1) : Chg P w (W.close' w w1) where
  wfo := fun hw id => by rw [close_ob]; exact h.wfo (fun id => by rw [open_ob]; exact hw id) id
  nx := by rw [close_nx]; have := h.nx; rwa [open_nx] at this
  bs := close_bs _ _
  top := fun ht id hi => by
    rw [close_ob]
    rw [close_nx] at hi
    exact h.top (fun id hi => by rw [open_ob]; rw [open_nx] at hi; exact ht id hi) id hi
  wl := by
    rw [close_wl]
    obtain ⟨⟨k, e, hk⟩, _⟩ := notes_spec w.bs w.wl w1.wl
    obtain ⟨l, el, hl⟩ := h.wl
    rw [open_wl, List.append_nil] at el
    exact ⟨k, e, fun x hx => ⟨(hl x (el ▸ (hk x hx).1)).1, (hk x hx).2⟩⟩
  keep := fun id hb hn => by
    rw [close_mem, close_wl]
    obtain ⟨_, h2⟩ := notes_spec w.bs w.wl w1.wl
    obtain ⟨k1, k2⟩ := h.keep id (by rw [open_bs]; exact hn) (by rw [open_nx]; exact hn)
    rw [open_mem] at k1 k2
    exact ⟨fun hw => k1 fun ⟨x, hx, off, e⟩ => hw ⟨x, h2 x hx (by rw [e]; exact hb), off, e⟩, fun o hw => k2 o fun ⟨x, hx, off, n, e, g⟩ => hw ⟨x, h2 x hx (by rw [e]; exact hb), off, n, e, g⟩⟩

theorem top_open (h : Top w) : Top w.open' := fun id hi => by rw [open_ob]; rw [open_nx] at hi; exact h id hi
theorem wf_open (h : WfW P w) : WfW P w.open' := ⟨fun id => by rw [open_ob]; exact h.ob id, top_open h.top⟩

/-- what stays behind a run -/
theorem chg_fr (h : Chg P w.open' w1) (ht : Top w) {v : AV} {all : Bool} {rd : List L3} :
    (∀ id, ¬ WS ⟨v, all, rd, w1.wl, w.nx, w1.nx⟩ id → w1.mem.sh id = w.mem.sh id) ∧ (∀ id o, ¬ WC ⟨v, all, rd, w1.wl, w.nx, w1.nx⟩ id o → w1.mem.cel id o = w.mem.cel id o) := by
  have htop : ∀ id, w1.nx ≤ id → w1.ob id = .no := fun id hi => h.top (top_open ht) id hi
  have hnx := h.nx
  rw [open_nx] at hnx
  refine ⟨fun id hw => ?_, fun id o hw => ?_⟩
  · simp only [WS, not_or] at hw
    by_cases g : id < w.nx
    · have := (h.keep id (by rw [open_bs]; exact g) (by rw [open_nx]; exact g)).1 hw.2
      rwa [open_mem] at this
    · have g1 : w1.nx ≤ id := by omega
      have e1 := htop id g1
      have e2 := ht id (by omega)
      simp [W.mem, e1, e2]
  · simp only [WC, not_or] at hw
    by_cases g : id < w.nx
    · have := (h.keep id (by rw [open_bs]; exact g) (by rw [open_nx]; exact g)).2 o hw.2
      rwa [open_mem] at this
    · have g1 : w1.nx ≤ id := by omega
      have e1 := htop id g1
      have e2 := ht id (by omega)
      simp [W.mem, e1, e2]

theorem low_open (h : Chg P w.open' w1) : ∀ x ∈ w1.wl, roN ≤ idOf x ∧ idOf x < w.nx := fun x hx => by
  obtain ⟨l, el, hl⟩ := h.wl
  rw [open_wl, List.append_nil] at el
  have := hl x (el ▸ hx)
  rwa [open_bs] at this

end

theorem patch_none {v : AV} {all : Bool} {rd : List L3} {a : Nat} (m' M : Mem) : PatchR ⟨v, all, rd, [], a, a⟩ m' M M := by
  have h1 : ∀ id, ¬ WS ⟨v, all, rd, [], a, a⟩ id := fun id h => by
    rcases h with h | ⟨x, hx, _⟩
    · simp only at h; omega
    · cases hx
  have h2 : ∀ id o, ¬ WC ⟨v, all, rd, [], a, a⟩ id o := fun id o h => by
    rcases h with h | ⟨x, hx, _⟩
    · simp only at h; omega
    · cases hx
  exact ⟨fun id h => absurd h (h1 id), fun _ _ => rfl, fun id o h => absurd h (h2 id o), fun _ _ _ => rfl⟩

structure Cst where
  pre : Pre
  R : List AV
  tm : Tm
  w : W
  lg : List Rec

/-- what is known of the evaluator's state -/
structure CI (E : Env) (c : Cst) : Prop where
  ps : PS E c.pre c.R
  top : Top c.w
  wf : WfW E.P c.w

structure OpRel (E : Env) (opsA : Array Oper) (un : Nat → I → List Nat) (j : Nat) (o : Oper) (c c' : Cst) (s : Stp) : Prop where
  ci : CI E c'
  chg : Chg E.P c.w c'.w
  a : s.a = c.w.nx
  b : s.b = c'.w.nx
  low : ∀ x ∈ s.wr, roN ≤ idOf x ∧ idOf x < s.a
  frS : ∀ id, ¬ WS s id → c'.w.mem.sh id = c.w.mem.sh id
  frC : ∀ id o, ¬ WC s id o → c'.w.mem.cel id o = c.w.mem.cel id o
  tv : ∀ t, tvc E c'.pre c'.R c'.tm t = .u ∨ tvc E c'.pre c'.R c'.tm t = if o.dst = some t then s.v else tvc E c.pre c.R c.tm t
  ds : TR.get .u dsP c'.tm = TR.get .u dsP c.tm
  dT : ∀ t, o.dst = some t → t < E.T
  lg : (c'.lg = c.lg ∧ s.wr = [] ∧ s.rd = [] ∧ s.all = false ∧ s.a = s.b) ∨
    (c'.lg = .mk j s.all s.rd s.wr s.a s.b :: c.lg ∧ (s.all = false → ∀ x ∈ s.rd, idOf x < s.a) ∧ ∃ i, cOp E c.pre o = some i ∧ kindI i ≠ 0 ∧ checkU (un j i) (.mk j s.all s.rd s.wr s.a s.b) c.lg = true)
  exec : ∀ (F : Fence), FnOk F E.rd → ∀ (N0 : Nat) (Q : Exit → Act → World → Prop) (K : Act → World → Prop) (M : Mem) (n : Dom) (ι : Io) (a : Act) (ω : World), Rel E.P N0 ι M n ω → n.free s.a s.b →
    (∀ t ∈ namesO (opsA.toList.map (·.dst)) o, VR ι n (tvc E c.pre c.R c.tm t) (a.tmps.getD t undef)) → (∀ id, RdS s id → M.sh id = c.w.mem.sh id) → (∀ id o, RdC s id o → M.cel id o = c.w.mem.cel id o) →
    (∀ v' ω1 ι1 M', VR ι1 (n.upto s.a s.b) s.v v' → PatchR s c'.w.mem M M' → Rel E.P N0 ι1 M' (n.upto s.a s.b) ω1 → Evo ι M n ω ι1 M' (n.upto s.a s.b) ω1 → K (a.put o.dst v') ω1) →
    wpOpIn F 0 E.P opsA Q j K a ω

section
variable {E : Env} {pre : Pre} {R : List AV} {tm : Tm} {opsA : Array Oper}

theorem mem_names {o : Oper} {t : Nat} (all : List (Option Nat)) (h : Operand.tmp t ∈ o.op.operands.toList) : t ∈ namesO all o :=
  List.mem_append_left _ (List.mem_filterMap.2 ⟨.tmp t, h, rfl⟩)

theorem src_bare {a : Act} {ι : Io} {n : Dom} (hg : GlR E ι n) {y : Operand} {s : Src} (hs : cSrc E pre y = some s) (hv : ∀ t, y = .tmp t → VR ι n (tvc E pre R tm t) (a.tmps.getD t undef)) : VR ι n (srcV s R tm) (a.eval y) := by
  cases y with
  | tmp t => have := hv t rfl; simp only [tvc, hs] at this; exact this
  | const v => simp [cSrc] at hs; subst hs; exact VR_ofV _ _ _
  | global g =>
    simp only [cSrc] at hs
    split at hs
    · rename_i hlt
      simp at hs; subst hs
      obtain ⟨e1, e2, e3⟩ := hg g hlt
      have : (⟨g, 0, none⟩ : Addr) = ι.at g 0 := by simp [Io.at, e1, e2]
      simp only [Act.eval, srcV, this]
      exact .p g 0 e3
    · simp at hs
  | func f => simp [cSrc] at hs; subst hs; exact .f f [] [] #[] #[] .nil .nil

theorem cG_only {o : Oper} {g : Option (OA × Bool)} (hg : cG E (opsA.toList.map (·.dst)) pre o.guard = some g) : cG E.bare (opsA.toList.map (·.dst)) (pre.only E (namesO (opsA.toList.map (·.dst)) o)) o.guard = some g := by
  cases ho : o.guard with
  | none => rw [ho] at hg; exact hg
  | some jw =>
    obtain ⟨j, want⟩ := jw
    simp only [ho, cG] at hg ⊢
    cases hq : (opsA.toList.map (·.dst))[j]? with
    | none => simp [hq] at hg
    | some d =>
      cases d with
      | none => simp [hq] at hg
      | some d =>
        simp only [hq] at hg ⊢
        rw [cA_only fun t e => ?_]
        · exact hg
        · cases e
          refine List.mem_append_right _ ?_
          simp only [ho, hq]; simp

theorem cOp_only {o : Oper} {i : I} (hc : cOp E pre o = some i) : cOp E.bare (pre.only E (namesO (opsA.toList.map (·.dst)) o)) o = some i := by
  rw [← hc]
  exact cOp_congr rfl fun x hx => cA_only fun t e => mem_names _ (e ▸ hx)

end
end Go.Ev

/-
  Drawn regions: each kind of operation.
-/
namespace Go.Ev

section
variable {E : Env} {opsA : Array Oper} {un : Nat → I → List Nat} {j : Nat} {o : Oper} {c : Cst}

/-- no memory is touched -/
theorem oprel_still (hci : CI E c) {pre' : Pre} {R1 : List AV} {tm1 : Tm} {v : AV} (hps : PS E pre' R1) (htv : ∀ t, tvc E pre' R1 tm1 t = .u ∨ tvc E pre' R1 tm1 t = if o.dst = some t then v else tvc E c.pre c.R c.tm t)
    (hds : TR.get .u dsP tm1 = TR.get .u dsP c.tm) (hdT : ∀ t, o.dst = some t → t < E.T)
    (hex : ∀ (F : Fence), FnOk F E.rd → ∀ (Q : Exit → Act → World → Prop) (K : Act → World → Prop) (n : Dom) (ι : Io) (a : Act) (ω : World), GlR E ι n → (∀ t ∈ namesO (opsA.toList.map (·.dst)) o, VR ι n (tvc E c.pre c.R c.tm t) (a.tmps.getD t undef)) →
      (∀ v', VR ι n v v' → K (a.put o.dst v') ω) → wpOpIn F 0 E.P opsA Q j K a ω) :
    OpRel E opsA un j o c ⟨pre', R1, tm1, c.w, c.lg⟩ ⟨v, false, [], [], c.w.nx, c.w.nx⟩ where
  ci := ⟨hps, hci.top, hci.wf⟩
  chg := .refl _
  a := rfl
  b := rfl
  low := fun x hx => by cases hx
  frS := fun _ _ => rfl
  frC := fun _ _ _ => rfl
  tv := htv
  ds := hds
  dT := hdT
  lg := .inl ⟨rfl, rfl, rfl, rfl, rfl⟩
  exec := fun F hF N0 Q K M n ι a ω hR hf hv _ _ hK => hex F hF Q K n ι a ω hR.glob hv fun v' hv' => by
    refine hK v' ω ι M ?_ (patch_none _ _) ?_ ?_
    · simp only [Dom.upto_self]; exact hv'
    · simp only [Dom.upto_self]; exact hR
    · simp only [Dom.upto_self]; exact .refl _ _ _ _

theorem oprel_mv (hci : CI E c) (ho : opsA[j]? = some o) {d : Nat} {y : Operand} {s : Src} (hmv : isMv o = some (d, y)) (hs : cSrc E c.pre y = some s) (hT : d < E.T) (hds : d ≠ dsI) :
    (Nat.testBit E.K d = false → OpRel E opsA un j o c ⟨c.pre.aka d s, c.R, c.tm, c.w, c.lg⟩ ⟨srcV s c.R c.tm, false, [], [], c.w.nx, c.w.nx⟩) ∧
    (Nat.testBit E.K d = true → OpRel E opsA un j o c ⟨c.pre.kept d, c.R, TR.set .u (srcV s c.R c.tm) (pathOf d) c.tm, c.w, c.lg⟩ ⟨srcV s c.R c.tm, false, [], [], c.w.nx, c.w.nx⟩) := by
  obtain ⟨m1, m2, m3⟩ := isMv_spec hmv
  have hd : ∀ c, o.op ≠ .defer c := fun c e => by rcases m3 with m3 | m3 <;> rw [m3] at e <;> cases e
  have hopd : ∀ t, y = .tmp t → Operand.tmp t ∈ o.op.operands.toList := fun t e => by rcases m3 with m3 | m3 <;> (rw [m3, e]; simp [Op.operands])
  have hex : ∀ (F : Fence), FnOk F E.rd → ∀ (Q : Exit → Act → World → Prop) (K : Act → World → Prop) (n : Dom) (ι : Io) (a : Act) (ω : World), GlR E ι n → (∀ t ∈ namesO (opsA.toList.map (·.dst)) o, VR ι n (tvc E c.pre c.R c.tm t) (a.tmps.getD t undef)) →
      (∀ v', VR ι n (srcV s c.R c.tm) v' → K (a.put o.dst v') ω) → wpOpIn F 0 E.P opsA Q j K a ω := by
    intro F hF Q K n ι a ω hg hv hK
    unfold wpOpIn
    simp only [ho, Region.wanted, m1, if_true]
    exact wp_gives hF hd (mv_ok o a y _ _ m3) (.inl rfl) (hK _ (src_bare hg hs fun t e => hv t (mem_names _ (hopd t e))))
  refine ⟨fun hk => ?_, fun hk => ?_⟩
  · obtain ⟨p1, p2⟩ := hci.ps.aka (tm := c.tm) hs hk
    exact oprel_still hci p1 (by rw [m2]; exact p2) rfl (fun t e => by rw [m2] at e; cases e; exact hT) hex
  · obtain ⟨p1, p2⟩ := hci.ps.kept (tm := c.tm) (v := srcV s c.R c.tm) hk
    refine oprel_still hci p1 (by rw [m2]; exact p2) ?_ (fun t e => by rw [m2] at e; cases e; exact hT) hex
    rw [dsP_eq, TR.get_setN, if_neg (Ne.symm hds)]

/-- what an operation's guard asks -/
theorem wop_run {F : Fence} {Q : Exit → Act → World → Prop} {K : Act → World → Prop} {a : Act} {ω : World} (ho : opsA[j]? = some o) (hw : Region.wanted o (yielded opsA a.tmps) = true) (h : o.wpIn F 0 E.P a ω K Q) : wpOpIn F 0 E.P opsA Q j K a ω := by
  unfold wpOpIn; simp only [ho, hw, if_true]; exact h

theorem oprel_skip (hci : CI E c) (ho : opsA[j]? = some o) {d : D} {pre' : Pre} (hd : cD E c.pre o.dst = some (d, pre')) (hw : ∀ (ι : Io) (n : Dom) (a : Act), OpR E.bare (c.pre.only E (namesO (opsA.toList.map (·.dst)) o)) c.R c.tm a.eval ι n → Region.wanted o (yielded opsA a.tmps) = false) :
    ∃ R1 tm1, (∀ k, dstK d (.tup []) c.R c.tm k = k R1 tm1) ∧ OpRel E opsA un j o c ⟨pre', R1, tm1, c.w, c.lg⟩ ⟨.tup [], false, [], [], c.w.nx, c.w.nx⟩ := by
  obtain ⟨R1, tm1, h1, h2, h3, h4, h5⟩ := hci.ps.dst hd (.tup []) c.tm
  refine ⟨R1, tm1, h1, oprel_still hci h2 h3 h4 h5 fun F hF Q K n ι a ω hg hv hK => ?_⟩
  unfold wpOpIn
  simp only [ho, hw ι n a (opR_bare hci.ps hg hv), Bool.false_eq_true, if_false]
  exact ⟨fun f _ => hF.fn f, hK _ (.tup [] #[] .nil)⟩

theorem oprel_pure (hci : CI E c) (ho : opsA[j]? = some o) {d : D} {pre' : Pre} (hd : cD E c.pre o.dst = some (d, pre')) {i : I} (hc : cOp E c.pre o = some i) (hk : kindI i = 0)
    (hw : ∀ (ι : Io) (n : Dom) (a : Act), OpR E.bare (c.pre.only E (namesO (opsA.toList.map (·.dst)) o)) c.R c.tm a.eval ι n → Region.wanted o (yielded opsA a.tmps) = true) {S : Lv} {k : K1} {x : X} {tm' : Tm} {w' : W} (h : exI i S c.R c.tm c.w k = .ok x tm' w') :
    ∃ v, k v c.w = .ok x tm' w' ∧ ∃ R1 tm1, (∀ k, dstK d v c.R c.tm k = k R1 tm1) ∧ OpRel E opsA un j o c ⟨pre', R1, tm1, c.w, c.lg⟩ ⟨v, false, [], [], c.w.nx, c.w.nx⟩ := by
  obtain ⟨pv, e1, e2⟩ := pure_sound (R := c.R) (tm := c.tm) (cOp_only (opsA := opsA) hc) hk
  rw [e1] at h
  obtain ⟨v, hv, h⟩ := opt1_ok h
  obtain ⟨R1, tm1, h1, h2, h3, h4, h5⟩ := hci.ps.dst hd v c.tm
  refine ⟨v, h, R1, tm1, h1, oprel_still hci h2 h3 h4 h5 fun F hF Q K n ι a ω hg hvs hK => ?_⟩
  have hρ := opR_bare hci.ps hg hvs
  obtain ⟨v', q1, q2⟩ := e2 v hv _ ι n hρ ω
  exact wop_run ho (hw ι n a hρ) (wp_gives hF (no_defer hc) q1 (.inl rfl) (hK v' q2))

theorem agr_of {s : Stp} {m M : Mem} (hs : s.all = false) (h1 : ∀ id, RdS s id → M.sh id = m.sh id) (h2 : ∀ id o, RdC s id o → M.cel id o = m.cel id o) : Agr s.rd m M := fun x hx => by
  obtain ⟨id, off, n⟩ := x
  refine ⟨h1 id ?_, fun o ho => h2 id o ?_⟩
  · simp only [RdS, hs, Bool.false_eq_true, if_false]; exact ⟨_, hx, rfl⟩
  · simp only [RdC, hs, Bool.false_eq_true, if_false]; exact ⟨_, hx, off, n, rfl, ho⟩

theorem oprel_mem (hci : CI E c) (ho : opsA[j]? = some o) {d : D} {pre' : Pre} (hd : cD E c.pre o.dst = some (d, pre')) {i : I} (hc : cOp E c.pre o = some i) (hk : kindI i = 1)
    (hw : ∀ (ι : Io) (n : Dom) (a : Act), OpR E.bare (c.pre.only E (namesO (opsA.toList.map (·.dst)) o)) c.R c.tm a.eval ι n → Region.wanted o (yielded opsA a.tmps) = true) {S : Lv} {k : List Rec → K1} {x : X} {tm' : Tm} {w' : W}
    (h : exD i j (un j i) S c.lg c.R c.tm c.w k = .ok x tm' w') :
    ∃ v w1 s lg', k lg' v w1 = .ok x tm' w' ∧ ∃ R1 tm1, (∀ k, dstK d v c.R c.tm k = k R1 tm1) ∧ OpRel E opsA un j o c ⟨pre', R1, tm1, w1, lg'⟩ s := by
  unfold exD at h
  simp only [hk] at h
  split at h
  · cases h
  rename_i hlow
  obtain ⟨f, e1, e2⟩ := mem_sound (R := c.R) (tm := c.tm) (cOp_only (opsA := opsA) hc) hk
  rw [e1] at h
  obtain ⟨v, w1, hv, h⟩ := opt2_ok h
  obtain ⟨eds, heff, e3⟩ := e2 _ v w1 hv
  have hchg : Chg E.P c.w.open' w1 := heff.chg
  unfold finD at h
  cases hck : checkU (un j i) (.mk j false (needI i c.R c.tm) w1.wl c.w.nx w1.nx) c.lg with
  | false => simp [hck] at h
  | true =>
    simp only [hck] at h
    obtain ⟨R1, tm1, h1, h2, h3, h4, h5⟩ := hci.ps.dst hd v c.tm
    obtain ⟨f1, f2⟩ := chg_fr (v := v) (all := false) (rd := needI i c.R c.tm) hchg hci.top
    have hcl := chg_close hchg
    refine ⟨v, W.close' c.w w1, ⟨v, false, needI i c.R c.tm, w1.wl, c.w.nx, w1.nx⟩, _, h, R1, tm1, h1, ?_⟩
    exact
    { ci := ⟨h2, hcl.top hci.top, hcl.wf hci.wf⟩
      chg := hcl
      a := rfl
      b := (close_nx _ _).symm
      low := low_open hchg
      frS := by rw [close_mem]; exact f1
      frC := by rw [close_mem]; exact f2
      tv := h3
      ds := h4
      dT := h5
      lg := .inr ⟨rfl, fun _ x hx => by
          have : ¬ (anyL (fun x => Nat.ble c.w.nx (idOf x)) (needI i c.R c.tm) = true) := hlow
          have key : ∀ l : List L3, x ∈ l → ¬ (anyL (fun x => Nat.ble c.w.nx (idOf x)) l = true) → idOf x < c.w.nx := by
            intro l
            induction l with
            | nil => intro hx; cases hx
            | cons y l ih =>
              intro hx hn
              have hb : anyL (fun x => Nat.ble c.w.nx (idOf x)) (y :: l) = Bool.rec (anyL (fun x => Nat.ble c.w.nx (idOf x)) l) true (Nat.ble c.w.nx (idOf y)) := rfl
              rw [hb] at hn
              cases hy : Nat.ble c.w.nx (idOf y) with
              | true => simp [hy] at hn
              | false =>
                simp only [hy] at hn
                rcases List.mem_cons.1 hx with rfl | hx
                · rw [ble_dec] at hy
                  have := of_decide_eq_false hy
                  show idOf x < c.w.nx
                  omega
                · exact ih hx hn
          exact key _ hx this, i, hc, by rw [hk]; simp, hck⟩
      exec := fun F hF N0 Q K M n ι a ω hR hf hvs hrS hrC hK => by
        have hρ := opR_bare hci.ps hR.glob hvs
        have hA : Agr (needI i c.R c.tm) c.w.open'.mem M := by rw [open_mem]; exact agr_of (s := ⟨v, false, needI i c.R c.tm, w1.wl, c.w.nx, w1.nx⟩) rfl hrS hrC
        obtain ⟨ι', nx, v', ω', q1, q2, q3, q4, q5⟩ := e3 N0 M ι n ω _ hR (by rw [open_nx]; exact hf) hρ hA
        rw [open_nx] at q3 q4 q5
        exact wop_run ho (hw ι n a hρ) (wp_gives hF (no_defer hc) q1 q2 (hK v' ω' ι' _ q3 (by rw [close_mem]; exact eff_patch heff hci.top M) q4 q5)) }

end
end Go.Ev

/-
  Drawn regions: calls; all operations.
-/
namespace Go.Ev

section
variable {E : Env} {opsA : Array Oper} {un : Nat → I → List Nat} {j : Nat} {o : Oper} {c : Cst}

theorem oprel_call {S : Lv} (hS : LvOk E.P S) (hci : CI E c) (ho : opsA[j]? = some o) {d : D} {pre' : Pre} (hd : cD E c.pre o.dst = some (d, pre')) {i : I} (hc : cOp E c.pre o = some i) (hk : kindI i = 2)
    (hw : ∀ (ι : Io) (n : Dom) (a : Act), OpR E.bare (c.pre.only E (namesO (opsA.toList.map (·.dst)) o)) c.R c.tm a.eval ι n → Region.wanted o (yielded opsA a.tmps) = true) {k : List Rec → K1} {x : X} {tm' : Tm} {w' : W}
    (h : exD i j (un j i) S c.lg c.R c.tm c.w k = .ok x tm' w') :
    ∃ v w1 s lg', k lg' v w1 = .ok x tm' w' ∧ ∃ R1 tm1, (∀ k, dstK d v c.R c.tm k = k R1 tm1) ∧ OpRel E opsA un j o c ⟨pre', R1, tm1, w1, lg'⟩ s := by
  unfold exD at h
  simp only [hk] at h
  obtain ⟨cl, f, fa, aa, hop, hcal, hfa, haa, rfl⟩ := call_inv (cOp_only (opsA := opsA) hc) hk
  have h : opt2 (callV S (evA fa c.R c.tm) (evL aa c.R c.tm) c.w.open') (finD j (un j (.call fa aa)) true [] c.w c.lg k) = .ok x tm' w' := h
  obtain ⟨v, w1, hv, h⟩ := opt2_ok h
  have hchg : Chg E.P c.w.open' w1 := callV_chg hS hv (wf_open hci.wf)
  unfold finD at h
  cases hck : checkU (un j (.call fa aa)) (.mk j true [] w1.wl c.w.nx w1.nx) c.lg with
  | false => simp [hck] at h
  | true =>
    simp only [hck] at h
    obtain ⟨R1, tm1, h1, h2, h3, h4, h5⟩ := hci.ps.dst hd v c.tm
    obtain ⟨f1, f2⟩ := chg_fr (v := v) (all := true) (rd := []) hchg hci.top
    have hcl := chg_close hchg
    have hlow := low_open hchg
    have hnx : c.w.nx ≤ w1.nx := by have := hchg.nx; rwa [open_nx] at this
    refine ⟨v, W.close' c.w w1, ⟨v, true, [], w1.wl, c.w.nx, w1.nx⟩, _, h, R1, tm1, h1, ?_⟩
    exact
    { ci := ⟨h2, hcl.top hci.top, hcl.wf hci.wf⟩
      chg := hcl
      a := rfl
      b := (close_nx _ _).symm
      low := hlow
      frS := by rw [close_mem]; exact f1
      frC := by rw [close_mem]; exact f2
      tv := h3
      ds := h4
      dT := h5
      lg := .inr ⟨rfl, fun h => by simp at h, _, hc, by simp [kindI], hck⟩
      exec := fun F hF N0 Q K M n ι a ω hR hf hvs hrS hrC hK => by
        have hρ := opR_bare hci.ps hR.glob hvs
        have hlt : ∀ id, c.w.mem.sh id ≠ .no → id < c.w.nx := fun id hi => by
          rcases Nat.lt_or_ge id c.w.nx with g | g
          · exact g
          · exact absurd (by simp [W.mem, hci.top id g, shOf]) hi
        have aS : ∀ id, id < c.w.nx → M.sh id = c.w.mem.sh id := fun id hi => hrS id (by simp only [RdS, if_true]; exact hi)
        have aC : ∀ id o, id < c.w.nx → M.cel id o = c.w.mem.cel id o := fun id o hi => hrC id o (by simp only [RdC, if_true]; exact hi)
        have hsub : Sub c.w.open'.mem M := by rw [open_mem]; exact ⟨fun id hi => aS id (hlt id hi), fun id o hi _ => aC id o (hlt id hi)⟩
        have hR0 := hR.sub hsub
        have hcr := callV_run hS hv (wf_open hci.wf) hR0 (by rw [open_nx]; exact hf) (hρ f _ hfa) (vargs := cl.args.map a.eval) (by rw [Array.toList_map]; exact cL_rel hρ _ _ haa)
        have htop1 : ∀ id, w1.nx ≤ id → w1.mem.sh id = .no := fun id hi => by simp [W.mem, hchg.top (top_open hci.top) id hi, shOf]
        refine wop_run ho (hw ι n a hρ) (wp_call hF (no_defer hc) (by unfold execOp; simp only [hop, resolve, hcal]; exact hcr) fun v' ω1 ι1 q1 q2 q3 => ?_)
        rw [open_nx] at q1 q2 q3
        have hfr := Rel.frame (M' := { sh := fun id => if id < w1.nx then w1.mem.sh id else M.sh id, cel := fun id => if id < w1.nx then w1.mem.cel id else M.cel id }) hR hsub q2 q3 (fun id hid => ?_) (fun id hid => ?_)
        · refine hK v' ω1 ι1 _ q1 ⟨fun id hws => ?_, fun id hws => ?_, fun id oo hws => ?_, fun id oo hws => ?_⟩ hfr.1 hfr.2
          · have : id < w1.nx := by
              rcases hws with hws | ⟨x, hx, off, e⟩
              · exact hws.2
              · have h7 := (hlow x hx).2; rw [e] at h7; have h8 : id < c.w.nx := h7; omega
            simp only [this, if_true, close_mem]
          · by_cases g : id < w1.nx
            · have g2 : id < c.w.nx := by
                rcases Nat.lt_or_ge id c.w.nx with q | q
                · exact q
                · exact absurd (.inl ⟨q, g⟩) hws
              simp only [g, if_true]
              rw [f1 id hws, aS id g2]
            · simp only [g, if_false]
          · have : id < w1.nx := by
              rcases hws with hws | ⟨x, hx, off, n, e, _⟩
              · exact hws.2
              · have h7 := (hlow x hx).2; rw [e] at h7; have h8 : id < c.w.nx := h7; omega
            simp only [this, if_true, close_mem]
          · by_cases g : id < w1.nx
            · have g2 : id < c.w.nx := by
                rcases Nat.lt_or_ge id c.w.nx with q | q
                · exact q
                · exact absurd (.inl ⟨q, g⟩) hws
              simp only [g, if_true]
              rw [f2 id oo hws, aC id oo g2]
            · simp only [g, if_false]
        · rw [open_mem]
          refine f1 id fun hws => ?_
          rcases hws with hws | ⟨x, hx, off, e⟩
          · exact hf id hws.1 hws.2 (hR.ro id hid)
          · have h7 := (hlow x hx).1; rw [e] at h7; have h8 : roN ≤ id := h7; omega
        · by_cases g : id < w1.nx
          · simp only [g, if_true] at hid ⊢
            exact .inl ⟨hid, trivial, trivial⟩
          · simp only [g, if_false] at hid ⊢
            refine .inr ⟨?_, htop1 id (by omega), trivial, trivial⟩
            rw [open_mem]
            simp [W.mem, hci.top id (by omega), shOf] }

theorem opsD_mkQ {S : Lv} (i : I) (g : Option (OA × Bool)) (d : D) (un : List Nat) (l : Q) (lg : List Rec) (R : List AV) (tm : Tm) (w : W) :
    opsD S (mkQ i g d j un l) lg R tm w = wantK g R tm (dstK d (.tup []) R tm (fun R' tm' => opsD S l lg R' tm' w)) (exD i j un S lg R tm w (fun lg' v w' => dstK d v R tm (fun R' tm' => opsD S l lg' R' tm' w'))) := by
  unfold mkQ
  split <;> rfl

/-- the run of a drawn region, step by step -/
theorem opsD_chain {S : Lv} (hS : LvOk E.P S) : ∀ (ops : List Oper) (j : Nat) (q : Q) (c : Cst) (x : X) (tm' : Tm) (w' : W), (∀ i, ops[i]? = opsA[j + i]?) → cOps E (opsA.toList.map (·.dst)) un ops c.pre j = some q → opsD S q c.lg c.R c.tm c.w = .ok x tm' w' → CI E c →
    x = .nrm ∧ ∃ (f : Nat → Cst) (s : Nat → Stp), f 0 = c ∧ (f ops.length).tm = tm' ∧ (f ops.length).w = w' ∧ ∀ p o, ops[p]? = some o → OpRel E opsA un (j + p) o (f p) (f (p + 1)) (s p) := by
  intro ops
  induction ops with
  | nil =>
    intro j q c x tm' w' hi hc h hci
    simp [cOps] at hc
    subst hc
    have h : RC.ok .nrm c.tm c.w = .ok x tm' w' := h
    cases h
    exact ⟨rfl, fun _ => c, fun _ => ⟨.u, false, [], [], 0, 0⟩, rfl, rfl, rfl, fun p o hp => by simp at hp⟩
  | cons o ops ih =>
    intro j q c x tm' w' hi hc h hci
    have ho : opsA[j]? = some o := by have := hi 0; simpa using this.symm
    have hi' : ∀ i, ops[i]? = opsA[j + 1 + i]? := fun i => by
      have := hi (i + 1)
      rw [show j + 1 + i = j + (i + 1) by omega]
      simpa using this
    have go : ∀ (c1 : Cst) (s1 : Stp) (q1 : Q), OpRel E opsA un j o c c1 s1 → cOps E (opsA.toList.map (·.dst)) un ops c1.pre (j + 1) = some q1 → opsD S q1 c1.lg c1.R c1.tm c1.w = .ok x tm' w' →
        x = .nrm ∧ ∃ (f : Nat → Cst) (s : Nat → Stp), f 0 = c ∧ (f (o :: ops).length).tm = tm' ∧ (f (o :: ops).length).w = w' ∧ ∀ p o', (o :: ops)[p]? = some o' → OpRel E opsA un (j + p) o' (f p) (f (p + 1)) (s p) := by
      intro c1 s1 q1 hrel hq1 hrun
      obtain ⟨r1, f, s, f0, f1, f2, f3⟩ := ih (j + 1) q1 c1 x tm' w' hi' hq1 hrun hrel.ci
      refine ⟨r1, fun p => match p with
        | 0 => c
        | p + 1 => f p, fun p => match p with
        | 0 => s1
        | p + 1 => s p, rfl, f1, f2, fun p o' hp => ?_⟩
      cases p with
      | zero => simp at hp; subst hp; simp only [f0]; exact hrel
      | succ p =>
        have := f3 p o' (by simpa using hp)
        rw [show j + 1 + p = j + (p + 1) by omega] at this
        exact this
    unfold cOps at hc
    split at hc
    · rename_i d y hmv
      split at hc
      · rename_i s hs
        split at hc
        · simp at hc
        rename_i hT
        obtain ⟨m1, m2⟩ := oprel_mv (un := un) (c := c) hci ho hmv hs (by omega) (by omega)
        split at hc
        · rename_i hk
          split at hc
          · rename_i oa l hoa hl
            simp at hc
            subst hc
            have h : TR.force (fun tm' => opsD S l c.lg c.R tm' c.w) (TR.set .u (evA oa c.R c.tm) (pathE d d) c.tm) = .ok x tm' w' := h
            rw [TR.force_eq, pathE_pathOf, oaOf_val hci.ps.len hoa] at h
            exact go _ _ _ (m2 hk) hl h
          · simp at hc
        · rename_i hk
          exact go _ _ _ (m1 (by simpa using hk)) hc h
      · simp at hc
    · split at hc
      · split at hc
        · simp at hc
        split at hc
        · simp at hc
          subst hc
          cases h
        · simp at hc
      · split at hc
        · rename_i d pre' hd
          split at hc
          · rename_i g i l hg hi0 hl
            have hq : mkQ i g d j (un j i) l = q := by
              unfold mkQ
              split at hc <;> simp at hc <;> subst hc <;> simp_all
            rw [← hq, opsD_mkQ] at h
            rcases want_run (cG_only (opsA := opsA) hg) h with ⟨hr, hw⟩ | ⟨hs, hw⟩
            · rcases kind_lt i with hk | hk | hk | hk
              · have hr' : exI i S c.R c.tm c.w (fun v w' => dstK d v c.R c.tm (fun R' tm' => opsD S l c.lg R' tm' w')) = .ok x tm' w' := by unfold exD at hr; simp only [hk] at hr; exact hr
                obtain ⟨v, h1, R1, tm1, h2, h3⟩ := oprel_pure (un := un) hci ho hd hi0 hk hw hr'
                rw [h2] at h1
                exact go _ _ _ h3 hl h1
              · obtain ⟨v, w1, s, lg', h1, R1, tm1, h2, h3⟩ := oprel_mem (un := un) hci ho hd hi0 hk hw hr
                rw [h2] at h1
                exact go _ _ _ h3 hl h1
              · obtain ⟨v, w1, s, lg', h1, R1, tm1, h2, h3⟩ := oprel_call (un := un) hS hci ho hd hi0 hk hw hr
                rw [h2] at h1
                exact go _ _ _ h3 hl h1
              · unfold exD at hr; simp only [hk] at hr; cases hr
            · obtain ⟨R1, tm1, h2, h3⟩ := oprel_skip (un := un) hci ho hd hw
              rw [h2] at hs
              exact go _ _ _ h3 hl hs
          · simp at hc
        · simp at hc

end
end Go.Ev

/-
  Drawn regions: the pairs.
-/
namespace Go.Ev

theorem anyL_false {α : Type} {p : α → Bool} : ∀ {l : List α}, anyL p l = false → ∀ x ∈ l, p x = false := by
  intro l
  induction l with
  | nil => intro _ x hx; cases hx
  | cons a l ih =>
    intro h x hx
    have e : anyL p (a :: l) = Bool.rec (anyL p l) true (p a) := rfl
    rw [e] at h
    cases ha : p a with
    | true => simp [ha] at h
    | false =>
      simp only [ha] at h
      rcases List.mem_cons.1 hx with rfl | hx
      · exact ha
      · exact ih h x hx

theorem disj_spec {l m : List L3} (h : disj l m = true) : ∀ x ∈ l, ∀ y ∈ m, ovl x y = false := fun x hx y hy => by
  unfold disj at h
  simp only [Bool.not_eq_true'] at h
  exact anyL_false (anyL_false h x hx) y hy

theorem ovl_zero {id off off' n : Nat} : ovl (.mk id off n) (.mk id off' 0) = true := by simp [ovl]
theorem ovl_zero' {id off off' n : Nat} : ovl (.mk id off 0) (.mk id off' n) = true := by simp [ovl]
theorem ovl_at {id off off' n n' o : Nat} (h : n = 0 ∨ off ≤ o ∧ o < off + n) (h' : n' = 0 ∨ off' ≤ o ∧ o < off' + n') : ovl (.mk id off n) (.mk id off' n') = true := by
  rcases h with rfl | h
  · exact ovl_zero'
  · rcases h' with rfl | h'
    · exact ovl_zero
    · have e1 : Nat.ble (Nat.succ off) (Nat.add off' n') = true := by rw [ble_dec]; simp; omega
      have e2 : Nat.ble (Nat.succ off') (Nat.add off n) = true := by rw [ble_dec]; simp; omega
      simp only [ovl, e1, e2]; simp

theorem outside_spec {l : List L3} {a b : Nat} (h : outside l a b = true) : ∀ x ∈ l, ¬ (a ≤ idOf x ∧ idOf x < b) := fun x hx hab => by
  unfold outside at h
  simp only [Bool.not_eq_true'] at h
  have := anyL_false h x hx
  rw [ble_dec, ble_dec] at this
  simp [hab.1, Nat.succ_le_of_lt hab.2] at this

theorem isNil_spec {α : Type} {l : List α} (h : isNil l = true) : l = [] := by
  cases l with
  | nil => rfl
  | cons a l => simp [isNil] at h

/-- two steps that are told to be able to change places -/
theorem pair_of {st : Nat → Stp} {i j : Nat} (hr : (st i).b ≤ (st j).a) (hle : (st i).a ≤ (st i).b) (hli : ∀ x ∈ (st i).wr, idOf x < (st i).a) (hrd : (st i).all = false → ∀ x ∈ (st i).rd, idOf x < (st i).a)
    (h : pairOk (.mk i (st i).all (st i).rd (st i).wr (st i).a (st i).b) (.mk j (st j).all (st j).rd (st j).wr (st j).a (st j).b) = true) : PairR st i j := by
  have h : (disj (st j).rd (st i).wr && outside (st j).rd (st i).a (st i).b && disj (st j).wr (st i).wr && disj (st j).wr (st i).rd && outside (st j).wr (st i).a (st i).b &&
    (not (st i).all || isNil (st j).wr) && (not (st j).all || (isNil (st i).wr && Nat.beq (st i).a (st i).b))) = true := h
  simp only [Bool.and_eq_true] at h
  obtain ⟨⟨⟨⟨⟨⟨h1, h2⟩, h3⟩, h4⟩, h5⟩, h6⟩, h7⟩ := h
  have a1 : (st i).all = true → (st j).wr = [] := fun e => by rw [e] at h6; exact isNil_spec (by simpa using h6)
  have a2 : (st j).all = true → (st i).wr = [] ∧ (st i).a = (st i).b := fun e => by
    rw [e] at h7
    simp only [Bool.not_true, Bool.false_or, Bool.and_eq_true] at h7
    exact ⟨isNil_spec h7.1, Nat.eq_of_beq_eq_true h7.2⟩
  have lo : ∀ id off n, L3.mk id off n ∈ (st i).wr → id < (st i).a := fun id off n hx => hli _ hx
  refine ⟨?_, ?_, ?_, ?_, ?_, ?_⟩
  · intro id hR hW
    cases hall : (st j).all with
    | true =>
      obtain ⟨e1, e2⟩ := a2 hall
      rcases hW with hW | ⟨x, hx, _⟩
      · omega
      · rw [e1] at hx; cases hx
    | false =>
      simp only [RdS, hall, Bool.false_eq_true, if_false] at hR
      obtain ⟨x, hx, e⟩ := hR
      rcases hW with hW | ⟨y, hy, off, e'⟩
      · exact outside_spec h2 x hx (by rw [e]; exact hW)
      · subst e'
        have := disj_spec h1 x hx _ hy
        obtain ⟨id', o', n'⟩ := x
        have e : id' = id := e
        subst e
        rw [ovl_zero] at this; cases this
  · intro id o hR hW
    cases hall : (st j).all with
    | true =>
      obtain ⟨e1, e2⟩ := a2 hall
      rcases hW with hW | ⟨x, hx, _⟩
      · omega
      · rw [e1] at hx; cases hx
    | false =>
      simp only [RdC, hall, Bool.false_eq_true, if_false] at hR
      obtain ⟨x, hx, off, n, rfl, hc⟩ := hR
      rcases hW with hW | ⟨y, hy, off', n', rfl, hc'⟩
      · exact outside_spec h2 _ hx hW
      · have := disj_spec h1 _ hx _ hy
        rw [ovl_at hc hc'] at this; cases this
  · intro id hR hW
    cases hall : (st i).all with
    | true =>
      simp only [RdS, hall, if_true] at hR
      rcases hW with hW | ⟨x, hx, _⟩
      · omega
      · rw [a1 hall] at hx; cases hx
    | false =>
      simp only [RdS, hall, Bool.false_eq_true, if_false] at hR
      obtain ⟨x, hx, e⟩ := hR
      have hlx := hrd hall x hx
      rcases hW with hW | ⟨y, hy, off, e'⟩
      · omega
      · subst e'
        have := disj_spec h4 _ hy x hx
        obtain ⟨id', o', n'⟩ := x
        have e : id' = id := e
        subst e
        rw [ovl_zero'] at this; cases this
  · intro id o hR hW
    cases hall : (st i).all with
    | true =>
      simp only [RdC, hall, if_true] at hR
      rcases hW with hW | ⟨x, hx, _⟩
      · omega
      · rw [a1 hall] at hx; cases hx
    | false =>
      simp only [RdC, hall, Bool.false_eq_true, if_false] at hR
      obtain ⟨x, hx, off, n, rfl, hc⟩ := hR
      have hlx : id < (st i).a := hrd hall _ hx
      rcases hW with hW | ⟨y, hy, off', n', rfl, hc'⟩
      · omega
      · have := disj_spec h4 _ hy _ hx
        rw [ovl_at hc' hc] at this; cases this
  · intro id hW hW'
    rcases hW with hW | ⟨x, hx, off, rfl⟩ <;> rcases hW' with hW' | ⟨y, hy, off', rfl⟩
    · omega
    · exact outside_spec h5 _ hy hW
    · have := lo _ _ _ hx; omega
    · have := disj_spec h3 _ hy _ hx
      rw [ovl_zero] at this; cases this
  · intro id o hW hW'
    rcases hW with hW | ⟨x, hx, off, n, rfl, hc⟩ <;> rcases hW' with hW' | ⟨y, hy, off', n', rfl, hc'⟩
    · omega
    · exact outside_spec h5 _ hy hW
    · have := lo _ _ _ hx; omega
    · have := disj_spec h3 _ hy _ hx
      rw [ovl_at hc' hc] at this; cases this

/-- a step that touches nothing -/
theorem pair_still {st : Nat → Stp} {i j : Nat} (h : ((st i).wr = [] ∧ (st i).rd = [] ∧ (st i).all = false ∧ (st i).a = (st i).b) ∨ ((st j).wr = [] ∧ (st j).rd = [] ∧ (st j).all = false ∧ (st j).a = (st j).b)) : PairR st i j := by
  have nw : ∀ k, ((st k).wr = [] ∧ (st k).rd = [] ∧ (st k).all = false ∧ (st k).a = (st k).b) → (∀ id, ¬ WS (st k) id) ∧ (∀ id o, ¬ WC (st k) id o) ∧ (∀ id, ¬ RdS (st k) id) ∧ ∀ id o, ¬ RdC (st k) id o := fun k ⟨e1, e2, e3, e4⟩ => by
    refine ⟨fun id hw => ?_, fun id o hw => ?_, fun id hr => ?_, fun id o hr => ?_⟩
    · rcases hw with hw | ⟨x, hx, _⟩
      · omega
      · rw [e1] at hx; cases hx
    · rcases hw with hw | ⟨x, hx, _⟩
      · omega
      · rw [e1] at hx; cases hx
    · simp only [RdS, e3, Bool.false_eq_true, if_false] at hr; obtain ⟨x, hx, _⟩ := hr; rw [e2] at hx; cases hx
    · simp only [RdC, e3, Bool.false_eq_true, if_false] at hr; obtain ⟨x, hx, _⟩ := hr; rw [e2] at hx; cases hx
  rcases h with h | h
  · obtain ⟨n1, n2, n3, n4⟩ := nw i h
    exact ⟨fun id _ => n1 id, fun id o _ => n2 id o, fun id h => absurd h (n3 id), fun id o h => absurd h (n4 id o), fun id h => absurd h (n1 id), fun id o h => absurd h (n2 id o)⟩
  · obtain ⟨n1, n2, n3, n4⟩ := nw j h
    exact ⟨fun id h => absurd h (n3 id), fun id o h => absurd h (n4 id o), fun id _ => n1 id, fun id o _ => n2 id o, fun id _ => n1 id, fun id o _ => n2 id o⟩

theorem kindO_spec {E : Env} {pre : Pre} {o : Oper} {i : I} (hc : cOp E pre o = some i) (hk : kindI i ≠ 0) : kindO o ≠ 0 := by
  intro h0
  unfold cOp at hc
  cases ho : o.op <;> simp only [ho] at hc <;> simp only [kindO, ho] at h0
  case slice t x lo hi mx =>
    split at hc
    · simp at hc
    · split at hc
      · rename_i len e ht
        cases h1 : sizeA E.P e <;> cases h2 : cA E pre x <;> cases h3 : cQ E pre lo <;> cases h4 : cQ E pre hi <;> cases h5 : cQ E pre mx <;> simp [h1, h2, h3, h4, h5] at hc
        subst hc; simp [kindI] at hk
      · rename_i e ht
        cases h1 : sizeA E.P e <;> cases h2 : cA E pre x <;> cases h3 : cQ E pre lo <;> cases h4 : cQ E pre hi <;> cases h5 : cQ E pre mx <;> simp [h1, h2, h3, h4, h5] at hc
        subst hc; simp [kindI] at hk
      · simp at hc
  case field t x i =>
    split at hc
    · split at hc
      · rename_i f hf
        cases h1 : cA E pre x <;> cases h2 : sizeA E.P f.type <;> cases h3 : aggB E.P f.type <;> simp [h1, h2, h3] at hc
        subst hc; simp [kindI] at hk
      · simp at hc
    · simp at hc
  case index t x i =>
    split at hc
    · rename_i len e ht
      cases h1 : cA E pre x <;> cases h2 : sizeA E.P e <;> cases h3 : cA E pre i <;> cases h4 : aggB E.P e <;> simp [h1, h2, h3, h4] at hc
      subst hc; simp [kindI] at hk
    · simp at hc
  case build t ps =>
    split at hc
    · rename_i fs ht
      cases h1 : zeroA E.P t <;> cases h2 : placesL E.P fs.toList <;> simp [h1, h2] at hc
      rename_i z pl
      cases h3 : cPS E pre pl ps.toList <;> simp [h3] at hc
      subst hc; simp [kindI] at hk
    · rename_i len e ht
      cases h1 : zeroA E.P t <;> cases h2 : sizeA E.P e <;> simp [h1, h2] at hc
      rename_i z k
      cases h3 : cPA E pre k ps.toList <;> simp [h3] at hc
      subst hc; simp [kindI] at hk
    · simp at hc
  case call c =>
    obtain ⟨callee, args, argTypes⟩ := c
    cases callee with
    | value f => simp at h0
    | invoke r n => simp at h0
    | builtin b =>
      cases b <;> (try (simp at h0; done)) <;> simp only at hc <;> (revert hc; (repeat' split) <;> intro hc <;> first
        | (simp at hc; done)
        | (simp at hc; subst hc; simp [kindI] at hk; done)
        | (simp [Option.map_eq_some_iff] at hc; obtain ⟨_, _, hc⟩ := hc; subst hc; simp [kindI] at hk; done)
        | (simp [Option.bind_eq_some_iff] at hc; obtain ⟨_, _, _, _, hc⟩ := hc; subst hc; simp [kindI] at hk; done)
        | (simp_all; done))
  all_goals first
    | (simp at h0; done)
    | (revert hc; (repeat' split) <;> intro hc <;> first
      | (simp at hc; done)
      | (simp at hc; subst hc; simp [kindI] at hk; done)
      | (simp [Option.bind_eq_some_iff, Option.map_eq_some_iff] at hc; obtain ⟨_, _, _, _, _, _, hc⟩ := hc; subst hc; simp [kindI] at hk; done)
      | (simp [Option.bind_eq_some_iff, Option.map_eq_some_iff] at hc; obtain ⟨_, _, _, _, hc⟩ := hc; subst hc; simp [kindI] at hk; done)
      | (simp [Option.bind_eq_some_iff, Option.map_eq_some_iff] at hc; obtain ⟨_, _, hc⟩ := hc; subst hc; simp [kindI] at hk; done))

end Go.Ev

/-
  Drawn regions, whole.
-/
namespace Go.Ev

theorem tmpsOk_spec {ops : Array Oper} (h : tmpsOk ops = true) : (∀ (j : Nat) (o : Oper), ops[j]? = some o → ∀ e ∈ o.after, Region.binds .any e = true → e.on < j) ∧
    ∀ i j t oi oj, ops[i]? = some oi → ops[j]? = some oj → i ≠ j → oi.dst = some t → (oj.dst = some t ∨ t ∈ namesO (ops.toList.map (·.dst)) oj) → Nat.testBit ((Region.before ops).toList.getD (max i j) 0) (min i j) = true := by
  unfold tmpsOk at h
  simp only [Bool.and_eq_true, List.all_eq_true] at h
  obtain ⟨h1, h2⟩ := h
  refine ⟨fun j o ho e he hbd => ?_, fun i j t oi oj hi hj hne hd hor => ?_⟩
  · have := h1 (o, j) (List.mem_zipIdx_iff_getElem?.2 (by simpa using ho))
    simp only [Array.all_eq_true_iff_forall_mem] at this
    have := this e he
    simpa [hbd] using this
  · have := h2 (oj, j) (List.mem_zipIdx_iff_getElem?.2 (by simpa using hj)) (some t, i) (List.mem_zipIdx_iff_getElem?.2 (by simp [hi, hd]))
    simp only [Bool.or_eq_true, Bool.not_eq_true', beq_iff_eq] at this
    rcases this with (g | g) | g
    · exact absurd g hne
    · exfalso
      rw [Bool.or_eq_false_iff] at g
      rcases hor with hor | hor
      · simp [hor] at g
      · have := g.2; simp [hor] at this
    · exact g

theorem checkU_spec {un : List Nat} {y : Rec} {lg : List Rec} (h : checkU un y lg = true) {x : Rec} (hx : x ∈ lg) (hm : recJ x ∈ un) : pairOk x y = true := by
  unfold checkU at h
  simp only [Bool.not_eq_true'] at h
  have := anyL_false h x hx
  have hmem : ∀ (l : List Nat), recJ x ∈ l → memN (recJ x) l = true := by
    intro l
    induction l with
    | nil => intro h; cases h
    | cons a l ih =>
      intro h
      have e : memN (recJ x) (a :: l) = Bool.rec (memN (recJ x) l) true (Nat.beq (recJ x) a) := rfl
      rw [e]
      rcases List.mem_cons.1 h with rfl | h
      · simp
      · cases Nat.beq (recJ x) a
        · exact ih h
        · rfl
  rw [hmem un hm] at this
  simpa using this

theorem regd_sound {E : Env} (hm : E.P.follows .mixedOrders = true) (hK : Nat.testBit E.K dsI = false) {S : Lv} (hS : LvOk E.P S) {id : Nat} {ops : Array Oper} {q : Q} {tm : Tm} {w : W} {x : X} {tm' : Tm} {w' : W}
    (hc : cC E (.region id ops true) = some (.regd q)) (h : opsD S q [] [] tm w = .ok x tm' w') : CodeOk E (.region id ops true) tm w x tm' w' := by
  intro hwf
  simp only [cC, if_true] at hc
  split at hc
  case isFalse => simp at hc
  rename_i hcond
  simp only [Bool.and_eq_true] at hcond
  obtain ⟨hback, htmp⟩ := tmpsOk_spec hcond.1
  cases hq : cOps E (ops.toList.map (·.dst)) (unOf (ops.toList.map kindO) (Region.before ops).toList) ops.toList ⟨[], 0⟩ 0 with
  | none => simp [hq] at hc
  | some q' =>
    simp [hq] at hc
    subst hc
    obtain ⟨rfl, f, s, f0, f1, f2, f3⟩ := opsD_chain (E := E) (opsA := ops) (un := unOf (ops.toList.map kindO) (Region.before ops).toList) hS ops.toList 0 q' ⟨⟨[], 0⟩, [], tm, w, []⟩ x tm' w' (fun i => by simp) hq h ⟨.begin, hwf.top, hwf⟩
    simp only [Array.length_toList] at f1 f2
    have OR : ∀ p (hp : p < ops.size), OpRel E ops (unOf (ops.toList.map kindO) (Region.before ops).toList) p ops[p] (f p) (f (p + 1)) (s p) := fun p hp => by
      have := f3 p ops[p] (by simp [hp])
      rwa [Nat.zero_add] at this
    have chg : ∀ p, p ≤ ops.size → Chg E.P w (f p).w := by
      intro p
      induction p with
      | zero => intro _; rw [f0]; exact .refl _
      | succ p ih => intro hp; exact (ih (by omega)).trans (OR p (by omega)).chg
    have nxm : ∀ k p, p + k ≤ ops.size → (f p).w.nx ≤ (f (p + k)).w.nx := by
      intro k
      induction k with
      | zero => intro p _; exact Nat.le_refl _
      | succ k ih => intro p hp; exact Nat.le_trans (ih p (by omega)) (OR (p + k) (by omega)).chg.nx
    have rng : ∀ i j, i < j → j < ops.size → (s i).b ≤ (s j).a := fun i j hij hj => by
      rw [(OR i (by omega)).b, (OR j hj).a]
      have := nxm (j - (i + 1)) (i + 1) (by omega)
      rwa [show i + 1 + (j - (i + 1)) = j by omega] at this
    have hle : ∀ j, j < ops.size → (s j).a ≤ (s j).b := fun j hj => by rw [(OR j hj).a, (OR j hj).b]; exact (OR j hj).chg.nx
    have lgm : ∀ p, p ≤ ops.size → ∀ i (hi : i < p), (f (i + 1)).lg = .mk i (s i).all (s i).rd (s i).wr (s i).a (s i).b :: (f i).lg → Rec.mk i (s i).all (s i).rd (s i).wr (s i).a (s i).b ∈ (f p).lg := by
      intro p
      induction p with
      | zero => intro _ i hi; omega
      | succ p ih =>
        intro hp i hi hl
        by_cases e : i = p
        · subst e; rw [hl]; exact List.mem_cons_self
        · have := ih (by omega) i (by omega) hl
          rcases (OR p (by omega)).lg with g | g
          · rw [g.1]; exact this
          · rw [g.1]; exact List.mem_cons_of_mem _ this
    have nOf : ∀ (j : Nat) (o : Oper), ops[j]? = some o → ∀ t, named ops j t → t ∈ namesO (ops.toList.map (·.dst)) o := fun j o ho t ⟨o', ho', ht⟩ => by rw [ho] at ho'; cases ho'; exact ht
    refine ⟨by have := chg ops.size (Nat.le_refl _); rwa [f2] at this, fun F hF N0 ι n a ω hst hfree => ?_⟩
    have hfr : n.free w.nx (f ops.size).w.nx := by rw [f2]; exact hfree
    have T : ∀ Q : Exit → Act → World → Prop, Trc E.P F ops Q N0 E.T (fun p => (f p).w.mem) s (fun p t => tvc E (f p).pre (f p).R (f p).tm t) (fun j => (ops[j]?).bind (·.dst)) := fun Q =>
      { dsts := fun j o ho => by simp [ho]
        back := hback
        frS := fun p hp id hw => (OR p hp).frS id hw
        frC := fun p hp id o hw => (OR p hp).frC id o hw
        tvs := fun p hp t => by have := (OR p hp).tv t; simpa [hp] using this
        rng := rng
        le := hle
        pair := fun i j hij hj hb => by
          have hi : i < ops.size := by omega
          rcases (OR i hi).lg with gi | gi
          · exact pair_still (.inl gi.2)
          · rcases (OR j hj).lg with gj | gj
            · exact pair_still (.inr gj.2)
            · obtain ⟨gi1, gi2, ii, ci, ki, _⟩ := gi
              obtain ⟨_, _, ij, cj, kj, hck⟩ := gj
              refine pair_of (rng i j hij hj) (hle i hi) (fun x hx => ((OR i hi).low x hx).2) gi2 (checkU_spec hck (lgm j (by omega) i hij gi1) ?_)
              show i ∈ unOf _ _ j ij
              unfold unOf
              rw [if_neg kj, List.mem_filter]
              refine ⟨by simpa using hij, ?_⟩
              simp only [hb, Bool.not_false, Bool.true_and, bne_iff_ne, ne_eq]
              have := kindO_spec ci ki
              simpa [List.getD_eq_getElem?_getD, hi] using this
        tmp := fun i j t hi hj hne hd hor => by
          have hoi : ops[i]? = some ops[i] := Array.getElem?_eq_getElem hi
          have hoj : ops[j]? = some ops[j] := Array.getElem?_eq_getElem hj
          refine htmp i j t _ _ hoi hoj hne (by simpa [hoi] using hd) ?_
          rcases hor with g | g
          · exact .inl (by simpa [hoj] using g)
          · exact .inr (nOf j _ hoj t g)
        exec := fun j hj K M n ι a ω hR hf hT hv hrS hrC hK => by
          have hoj : ops[j]? = some ops[j] := Array.getElem?_eq_getElem hj
          have hdst : ((ops[j]?).bind (·.dst)) = ops[j].dst := by simp [hoj]
          rw [hdst] at hK
          exact (OR j hj).exec F hF N0 Q K M n ι a ω hR hf (fun t ht => hv t ⟨_, hoj, ht⟩) hrS hrC hK }
    refine wpIn_region_any hm ?_
    have noL : ∀ i, ¬ Lst (Array.replicate ops.size false) i := fun i hi => by
      unfold Lst at hi
      rw [Array.getD_eq_getD_getElem?, Array.getElem?_replicate] at hi
      split at hi <;> simp at hi
    have hsz : ∀ p, p ≤ ops.size → (f 0).w.nx ≤ (f p).w.nx := fun p hp => by have := nxm p 0 (by omega); rwa [Nat.zero_add] at this
    have hf0w : (f 0).w = w := by rw [f0]
    have dsc : ∀ p, p ≤ ops.size → TR.get .u dsP (f p).tm = TR.get .u dsP tm := by
      intro p
      induction p with
      | zero => intro _; rw [f0]
      | succ p ih => intro hp; rw [(OR p (by omega)).ds]; exact ih (by omega)
    refine draw_any (T (CodePost E N0 ι n w a ω .nrm tm' w')) (ι0 := ι) (n0 := n) (ω0 := { ω with drawn := ω.drawn + 1 }) (a0 := a) hst.siz (fun j t hd => ?_) (fun j hj id h1 h2 => ?_) ?_ ops.size _ a _ ι n w.mem ?_ ?_
    · cases ho : ops[j]? with
      | none => simp [ho] at hd
      | some o =>
        have hj := (Array.getElem?_eq_some_iff.1 ho).1
        have he := (Array.getElem?_eq_some_iff.1 ho).2
        exact (OR j hj).dT t (by rw [he]; simpa [ho] using hd)
    · rw [(OR j hj).a] at h1
      rw [(OR j hj).b] at h2
      have g1 := hsz j (by omega)
      have g2 := nxm (ops.size - (j + 1)) (j + 1) (by omega)
      rw [show j + 1 + (ops.size - (j + 1)) = ops.size by omega] at g2
      rw [hf0w] at g1
      exact hfr id (by omega) (by omega)
    · rintro a' ω' ι' n' M ⟨listed, hall, hI⟩
      have hM : M = w'.mem := by
        rw [← f2]
        apply Mem.ext
        · intro id; exact hI.memS id ops.size (Nat.le_refl _) (fun i hi hle => absurd (lst_lt hI.size hi) (by omega)) (fun i hi hn => absurd (hall i hi) hn)
        · intro id o; exact hI.memC id o ops.size (Nat.le_refl _) (fun i hi hle => absurd (lst_lt hI.size hi) (by omega)) (fun i hi hn => absurd (hall i hi) hn)
      subst hM
      have hn' : n' = n.upto w.nx w'.nx := by
        funext id
        rw [eq_iff_iff, hI.dom]
        simp only [Dom.upto]
        constructor
        · rintro (g | ⟨i, g1, g2, g3⟩)
          · exact .inl g
          · have hi := lst_lt hI.size g1
            rw [(OR i hi).a] at g2
            rw [(OR i hi).b] at g3
            have q1 := hsz i (by omega)
            have q2 := nxm (ops.size - (i + 1)) (i + 1) (by omega)
            rw [show i + 1 + (ops.size - (i + 1)) = ops.size by omega, f2] at q2
            rw [hf0w] at q1
            exact .inr (by omega)
        · rintro (g | g)
          · exact .inl g
          · refine .inr ?_
            have key : ∀ p, p ≤ ops.size → id < (f p).w.nx → ∃ i, i < p ∧ (f i).w.nx ≤ id ∧ id < (f (i + 1)).w.nx := by
              intro p
              induction p with
              | zero => intro _ h; rw [hf0w] at h; omega
              | succ p ih =>
                intro hp h
                by_cases q : id < (f p).w.nx
                · obtain ⟨i, i1, i2⟩ := ih (by omega) q; exact ⟨i, by omega, i2⟩
                · exact ⟨p, by omega, by omega, h⟩
            obtain ⟨i, i1, i2, i3⟩ := key ops.size (Nat.le_refl _) (by rw [f2]; exact g.2)
            exact ⟨i, hall i i1, by rw [(OR i i1).a]; exact i2, by rw [(OR i i1).b]; exact i3⟩
      subst hn'
      have hN : CI E (f ops.size) := by
        by_cases h0 : ops.size = 0
        · rw [h0, f0]; exact ⟨.begin, hwf.top, hwf⟩
        · have := (OR (ops.size - 1) (by omega)).ci
          rwa [show ops.size - 1 + 1 = ops.size by omega] at this
      refine ⟨rfl, ι', ⟨hI.rel, by have := hN.wf; rwa [f2] at this, fun t ht => ?_, by rw [hI.siz]; exact hst.siz, fun hr => ?_⟩, ?_, hI.siz⟩
      · have := hI.tmp t ops.size (Nat.le_refl _) (fun i hi hle => absurd (lst_lt hI.size hi) (by omega)) (fun i hi hn => absurd (hall i hi) hn)
        simp only [tvc, hN.ps.kin t ht, srcV, f1] at this
        exact this
      · rw [← f1, dsc ops.size (Nat.le_refl _), hI.dfs]
        exact (hst.dfs hr).ext hI.evo.ext hI.evo.le
      · have := hI.evo
        simp only [hf0w] at this
        exact ⟨this.ext, this.le, this.size, this.frame, this.own, this.os, this.tape, this.output⟩
    · have hrel : Rel E.P N0 ι w.mem n { ω with drawn := ω.drawn + 1 } := ⟨hst.rel.ro, hst.rel.lt, hst.rel.inj, hst.rel.own, hst.rel.size, hst.rel.ob, hst.rel.glob, hst.rel.base⟩
      refine ⟨by simp, fun j o hj => absurd hj (noL j), hrel, ?_, fun id => ⟨.inl, fun g => g.elim (fun g => g) fun ⟨i, g, _⟩ => absurd g (noL i)⟩, fun id p hp _ h2 => ?_, fun id o p hp _ h2 => ?_, fun t p hp _ h2 => ?_, rfl, rfl⟩
      · simp only [hf0w]; exact .refl _ _ _ _
      · have := (T (CodePost E N0 ι n w a ω .nrm tm' w')).fromS (id := id) p 0 (by omega) (fun i _ hi => h2 i (by omega) (noL i))
        simp only [Nat.zero_add, hf0w] at this
        exact this.symm
      · have := (T (CodePost E N0 ι n w a ω .nrm tm' w')).fromC (id := id) (o := o) p 0 (by omega) (fun i _ hi => h2 i (by omega) (noL i))
        simp only [Nat.zero_add, hf0w] at this
        exact this.symm
      · have base : VR ι n (tvc E (f 0).pre (f 0).R (f 0).tm t) (a.tmps.getD t undef) := by
          rw [f0]
          have hp := PreR.begin (E := E) hK hst.tms
          unfold tvc
          cases hs : cSrc E ⟨[], 0⟩ (.tmp t) with
          | none => exact .u _
          | some s => exact hp.val t s hs
        have := (T (CodePost E N0 ι n w a ω .nrm tm' w')).fromT (t := t) p 0 (by omega) (fun i _ hi => h2 i (by omega) (noL i)) base
        rwa [Nat.zero_add] at this
    · refine Nat.le_trans (List.countP_le_length) ?_
      simp

end Go.Ev

/-
  Code.
-/
namespace Go.Ev

section
variable {E : Env} {S : Lv}

theorem onRC_ok {k : X → Tm → W → RC} {r : RC} {x : X} {tm : Tm} {w : W} (h : onRC .no k r = .ok x tm w) : ∃ x1 tm1 w1, r = .ok x1 tm1 w1 ∧ k x1 tm1 w1 = .ok x tm w := by
  cases r with
  | no => cases h
  | ok x1 tm1 w1 => exact ⟨x1, tm1, w1, rfl, h⟩

/-- the post of a piece of code, behind another -/
theorem CodePost.trans {N0 : Nat} {ι : Io} {n : Dom} {w w1 w2 : W} {a a1 a2 : Act} {ω ω1 ω2 : World} {tm2 : Tm} {x : X} {e : Exit} (c1 : w.nx ≤ w1.nx) (c2 : w1.nx ≤ w2.nx) {ι1 : Io}
    (h1 : Evo ι w.mem n ω ι1 w1.mem (n.upto w.nx w1.nx) ω1) (hs : a1.tmps.size = a.tmps.size) (h2 : CodePost E N0 ι1 (n.upto w.nx w1.nx) w1 a1 ω1 x tm2 w2 e a2 ω2) : CodePost E N0 ι n w a ω x tm2 w2 e a2 ω2 := by
  obtain ⟨q1, ι2, q2, q3, q4⟩ := h2
  rw [Dom.upto_trans _ c1 c2] at q2 q3
  exact ⟨q1, ι2, q2, h1.trans q3, q4.trans hs⟩

theorem free_l {n : Dom} {a b c : Nat} (h : n.free a c) (hb : b ≤ c) : n.free a b := fun id h1 h2 => h id h1 (by omega)
theorem free_r {n : Dom} {a b c : Nat} (h : n.free a c) (hb : a ≤ b) : (n.upto a b).free b c := fun id h1 h2 hn => by
  rcases hn with hn | hn
  · exact h id (by omega) h2 hn
  · omega

theorem seq_sound {x y : Code} {tm tm1 tm2 : Tm} {w w1 w2 : W} {r : X} (h1 : CodeOk E x tm w .nrm tm1 w1) (h2 : CodeOk E y tm1 w1 r tm2 w2) : CodeOk E (.seq x y) tm w r tm2 w2 := fun hwf => by
  obtain ⟨c1, p1⟩ := h1 hwf
  obtain ⟨c2, p2⟩ := h2 (c1.wf hwf)
  refine ⟨c1.trans c2, fun F hF N0 ι n a ω hst hf => wpIn_seq (wpIn_mono (p1 F hF N0 ι n a ω hst (free_l hf c2.nx)) ?_)⟩
  rintro e a1 ω1 ⟨hx, ι1, st1, evo1, hs1⟩
  cases hx
  exact wpIn_mono (p2 F hF N0 ι1 _ a1 ω1 st1 (free_r hf c1.nx)) fun e a2 ω2 hp => CodePost.trans c1.nx c2.nx evo1 hs1 hp

theorem seq_left {x y : Code} {tm tm1 : Tm} {w w1 : W} {r : X} (hr : r ≠ .nrm) (h1 : CodeOk E x tm w r tm1 w1) : CodeOk E (.seq x y) tm w r tm1 w1 := fun hwf => by
  obtain ⟨c1, p1⟩ := h1 hwf
  refine ⟨c1, fun F hF N0 ι n a ω hst hf => wpIn_seq (wpIn_mono (p1 F hF N0 ι n a ω hst hf) ?_)⟩
  rintro e a1 ω1 hp
  have := hp.1
  cases r with
  | nrm => exact absurd rfl hr
  | exit id => cases this; exact hp
  | ret => cases this; exact hp

theorem roundsIn_mono {F : Fence} {P : Program} {c : Code} {Q Q' : Exit → Act → World → Prop} (hq : ∀ e a w, Q e a w → Q' e a w) : ∀ (m : Nat) (a : Act) (w : World), Code.roundsIn F 0 P c Q m a w → Code.roundsIn F 0 P c Q' m a w := by
  intro m
  induction m with
  | zero => intro a w h; exact h.elim
  | succ m ih =>
    intro a w h
    rw [roundsIn_succ] at h ⊢
    refine wpIn_mono h fun e a w he => ?_
    cases e <;> first
      | exact ih _ _ he
      | exact hq _ _ _ he

theorem loop_sound {c : Code} {cc : C} (hcc : ∀ tm w x tm' w', den S cc tm w = .ok x tm' w' → CodeOk E c tm w x tm' w') : ∀ (k : Nat) (tm : Tm) (w : W) (x : X) (tm' : Tm) (w' : W), loopK (den S cc) k tm w = .ok x tm' w' →
    WfW E.P w → Chg E.P w w' ∧ ∃ m, ∀ (F : Fence), FnOk F E.rd → ∀ (N0 : Nat) (ι : Io) (n : Dom) (a : Act) (ω : World), St E N0 ι n tm w a ω → n.free w.nx w'.nx → Code.roundsIn F 0 E.P c (CodePost E N0 ι n w a ω x tm' w') m a ω := by
  intro k
  induction k with
  | zero => intro tm w x tm' w' h; cases h
  | succ k ih =>
    intro tm w x tm' w' h hwf
    have h : onRC .no (fun x tm' w' => onX (loopK (den S cc) k tm' w') (fun i => .ok (.exit i) tm' w') (.ok .ret tm' w') x) (den S cc tm w) = .ok x tm' w' := h
    obtain ⟨x1, tm1, w1, h1, h2⟩ := onRC_ok h
    obtain ⟨c1, p1⟩ := hcc _ _ _ _ _ h1 hwf
    cases x1 with
    | nrm =>
      obtain ⟨c2, m, p2⟩ := ih _ _ _ _ _ h2 (c1.wf hwf)
      refine ⟨c1.trans c2, m + 1, fun F hF N0 ι n a ω hst hf => ?_⟩
      rw [roundsIn_succ]
      refine wpIn_mono (p1 F hF N0 ι n a ω hst (free_l hf c2.nx)) ?_
      rintro e a1 ω1 ⟨hx, ι1, st1, evo1, hs1⟩
      cases hx
      exact roundsIn_mono (fun e a2 ω2 hp => CodePost.trans c1.nx c2.nx evo1 hs1 hp) m _ _ (p2 F hF N0 ι1 _ a1 ω1 st1 (free_r hf c1.nx))
    | exit id =>
      have h2 : RC.ok (.exit id) tm1 w1 = .ok x tm' w' := h2
      cases h2
      refine ⟨c1, 1, fun F hF N0 ι n a ω hst hf => ?_⟩
      rw [roundsIn_succ]
      refine wpIn_mono (p1 F hF N0 ι n a ω hst hf) ?_
      rintro e a1 ω1 hp
      have := hp.1
      cases this
      exact hp
    | ret =>
      have h2 : RC.ok .ret tm1 w1 = .ok x tm' w' := h2
      cases h2
      refine ⟨c1, 1, fun F hF N0 ι n a ω hst hf => ?_⟩
      rw [roundsIn_succ]
      refine wpIn_mono (p1 F hF N0 ι n a ω hst hf) ?_
      rintro e a1 ω1 hp
      have := hp.1
      cases this
      exact hp

end
end Go.Ev

/-
  Code, whole.
-/
namespace Go.Ev

theorem leaf_ok {E : Env} {code : Code} {tm : Tm} {w : W} {x : X} {e : Exit} (hx : exitR x e) (h : ∀ (F : Fence) (Q : Exit → Act → World → Prop) (a : Act) (ω : World), FnOk F E.rd → Q e a ω → code.wpIn F 0 E.P Q a ω) : CodeOk E code tm w x tm w := fun _ =>
  ⟨.refl _, fun F hF N0 ι n a ω hst hf => h F _ a ω hF ⟨hx, ι, by rw [Dom.upto_self]; exact hst, by rw [Dom.upto_self]; exact .refl _ _ _ _, rfl⟩⟩

/-- the ranges over functions do what the evaluator does -/
def RfOk (E : Env) (S : Lv) : Prop := ∀ (g : Operand) (ps : Array Tmp) (as body : Code) (c : C) (tm : Tm) (w : W) (x : X) (tm' : Tm) (w' : W), cC E (.rangeFunc g ps as body) = some c → den S c tm w = .ok x tm' w' → CodeOk E (.rangeFunc g ps as body) tm w x tm' w'

theorem den_sound {E : Env} {S : Lv} (hm : E.P.follows .mixedOrders = true) (hK : Nat.testBit E.K dsI = false) (hS : LvOk E.P S) (hrf : RfOk E S) : ∀ (code : Code) (c : C) (tm : Tm) (w : W) (x : X) (tm' : Tm) (w' : W), cC E code = some c → den S c tm w = .ok x tm' w' → CodeOk E code tm w x tm' w' := by
  intro code
  induction code with
  | skip =>
    intro c tm w x tm' w' hc h
    simp [cC] at hc; subst hc
    have h : RC.ok .nrm tm w = .ok x tm' w' := h
    cases h
    exact leaf_ok rfl fun F Q a ω _ hq => wpIn_skip hq
  | region id ops draw =>
    intro c tm w x tm' w' hc h
    cases draw with
    | true =>
      have hc' := hc
      simp only [cC, if_true] at hc'
      split at hc'
      · obtain ⟨q, _, rfl⟩ := Option.map_eq_some_iff.1 hc'
        exact regd_sound hm hK hS hc h
      · simp at hc'
    | false =>
      simp only [cC, Bool.false_eq_true, if_false] at hc
      obtain ⟨q, hq, rfl⟩ := Option.map_eq_some_iff.1 hc
      intro hwf
      obtain ⟨rfl, c1, p1⟩ := opsL_sound hS hK ops _ ops.toList ⟨[], 0⟩ 0 q [] tm w x tm' w' (fun i => by simp) hq h hwf
      refine ⟨c1, fun F hF N0 ι n a ω hst hf => wpIn_region ?_⟩
      have := p1 F hF N0 ι n a ω _ hst (.begin hK hst.tms) hf (fun a' ω' hp => hp)
      rwa [Array.length_toList, ← List.range_eq_range'] at this
  | seq a b iha ihb =>
    intro c tm w x tm' w' hc h
    simp only [cC] at hc
    split at hc
    · rename_i ca cb ha hb
      simp at hc; subst hc
      have h : onRC .no (fun x tm' w' => onX (den S cb tm' w') (fun id => .ok (.exit id) tm' w') (.ok .ret tm' w') x) (den S ca tm w) = .ok x tm' w' := h
      obtain ⟨x1, tm1, w1, h1, h2⟩ := onRC_ok h
      have r1 := iha _ _ _ _ _ _ ha h1
      cases x1 with
      | nrm => exact seq_sound r1 (ihb _ _ _ _ _ _ hb h2)
      | exit id =>
        have h2 : RC.ok (.exit id) tm1 w1 = .ok x tm' w' := h2
        cases h2; exact seq_left (by simp) r1
      | ret =>
        have h2 : RC.ok .ret tm1 w1 = .ok x tm' w' := h2
        cases h2; exact seq_left (by simp) r1
    · simp at hc
  | cond co a b iha ihb =>
    intro c tm w x tm' w' hc h
    simp only [cC] at hc
    split at hc
    · rename_i cc ca cb hcc ha hb
      simp at hc; subst hc
      have h : onB (β := RC) .no (fun t => Bool.rec (den S cb tm w) (den S ca tm w) t) (evA cc [] tm) = .ok x tm' w' := h
      rw [onB_eq] at h
      cases ht : toB (evA cc [] tm) with
      | no => simp [ht] at h
      | ok t =>
        simp only [ht] at h
        have key : ∀ (ι : Io) (n : Dom) (a : Act), GlR E ι n → TmR ι n E.K tm a.tmps → a.eval co = .bool t := fun ι n a hg htm => by
          have hv := (PreR.begin hK htm).op hg co _ hcc
          rw [toB_ok ht] at hv
          generalize a.eval co = v at hv
          cases hv; rfl
        cases t with
        | true =>
          intro hwf
          obtain ⟨c1, p1⟩ := iha _ _ _ _ _ _ ha h hwf
          exact ⟨c1, fun F hF N0 ι n a ω hst hf => wpIn_cond_true (key ι n a hst.gl hst.tms) (p1 F hF N0 ι n a ω hst hf)⟩
        | false =>
          intro hwf
          obtain ⟨c1, p1⟩ := ihb _ _ _ _ _ _ hb h hwf
          exact ⟨c1, fun F hF N0 ι n a ω hst hf => wpIn_cond_false (key ι n a hst.gl hst.tms) (p1 F hF N0 ι n a ω hst hf)⟩
    · simp at hc
  | block id b ih =>
    intro c tm w x tm' w' hc h
    simp only [cC] at hc
    obtain ⟨cb, hb, rfl⟩ := Option.map_eq_some_iff.1 hc
    have h : onRC .no (fun x tm' w' => onX (.ok .nrm tm' w') (fun i => Bool.rec (.ok (.exit i) tm' w') (.ok .nrm tm' w') (Nat.beq i id)) (.ok .ret tm' w') x) (den S cb tm w) = .ok x tm' w' := h
    obtain ⟨x1, tm1, w1, h1, h2⟩ := onRC_ok h
    intro hwf
    obtain ⟨c1, p1⟩ := ih _ _ _ _ _ _ hb h1 hwf
    cases x1 with
    | nrm =>
      have h2 : RC.ok .nrm tm1 w1 = .ok x tm' w' := h2
      cases h2
      refine ⟨c1, fun F hF N0 ι n a ω hst hf => wpIn_block (wpIn_mono (p1 F hF N0 ι n a ω hst hf) ?_)⟩
      rintro e a1 ω1 hp
      have := hp.1; cases this; exact hp
    | ret =>
      have h2 : RC.ok .ret tm1 w1 = .ok x tm' w' := h2
      cases h2
      refine ⟨c1, fun F hF N0 ι n a ω hst hf => wpIn_block (wpIn_mono (p1 F hF N0 ι n a ω hst hf) ?_)⟩
      rintro e a1 ω1 hp
      have := hp.1; cases this; exact hp
    | exit i =>
      have h2 : (Bool.rec (.ok (.exit i) tm1 w1) (.ok .nrm tm1 w1) (Nat.beq i id) : RC) = .ok x tm' w' := h2
      cases hb : Nat.beq i id with
      | true =>
        simp only [hb] at h2
        cases h2
        have := Nat.eq_of_beq_eq_true hb
        subst this
        refine ⟨c1, fun F hF N0 ι n a ω hst hf => wpIn_block (wpIn_mono (p1 F hF N0 ι n a ω hst hf) ?_)⟩
        rintro e a1 ω1 hp
        have := hp.1; cases this
        simp only [Exit.inBlock, if_true]
        exact ⟨rfl, hp.2⟩
      | false =>
        simp only [hb] at h2
        cases h2
        have hne : i ≠ id := Nat.ne_of_beq_eq_false hb
        refine ⟨c1, fun F hF N0 ι n a ω hst hf => wpIn_block (wpIn_mono (p1 F hF N0 ι n a ω hst hf) ?_)⟩
        rintro e a1 ω1 hp
        have := hp.1; cases this
        simp only [Exit.inBlock, hne, if_false]
        exact hp
  | loop b ih =>
    intro c tm w x tm' w' hc h
    simp only [cC] at hc
    obtain ⟨cb, hb, rfl⟩ := Option.map_eq_some_iff.1 hc
    intro hwf
    obtain ⟨c1, m, p1⟩ := loop_sound (fun tm w x tm' w' h => ih _ _ _ _ _ _ hb h) loopN tm w x tm' w' h hwf
    exact ⟨c1, fun F hF N0 ι n a ω hst hf => wpIn_loop_rounds m (p1 F hF N0 ι n a ω hst hf)⟩
  | exit id =>
    intro c tm w x tm' w' hc h
    simp [cC] at hc; subst hc
    have h : RC.ok (.exit id) tm w = .ok x tm' w' := h
    cases h
    exact leaf_ok (e := .exit id) rfl fun F Q a ω _ hq => wpIn_exit hq
  | ret =>
    intro c tm w x tm' w' hc h
    simp [cC] at hc; subst hc
    have h : RC.ok .ret tm w = .ok x tm' w' := h
    cases h
    exact leaf_ok (e := .ret) rfl fun F Q a ω _ hq => wpIn_ret hq
  | rangeFunc g ps as body _ _ => intro c tm w x tm' w' hc h; exact hrf g ps as body c tm w x tm' w' hc h
  | _ => intro c tm w x tm' w' hc h; simp [cC] at hc

end Go.Ev

/-
  Ranges over functions.
-/
namespace Go.Ev

theorem RV_ok {k : AV → W → RC} {r : RV} {x : X} {tm : Tm} {w : W} (h : RV.rec (motive := fun _ => RC) .no k r = .ok x tm w) : ∃ v w1, r = .ok v w1 ∧ k v w1 = .ok x tm w := by
  cases r with
  | no => cases h
  | ok v w1 => exact ⟨v, w1, rfl, h⟩

theorem rf_sound {E : Env} {S : Lv} (hK : Nat.testBit E.K dsI = false) (hS : LvOk E.P S) : RfOk E S := by
  intro g ps as body c tm w x tm' w' hc h hwf
  simp only [cC] at hc
  split at hc
  · simp at hc
  rename_i hcond
  simp only [Bool.or_eq_true, not_or, Bool.not_eq_true, Bool.not_eq_true'] at hcond
  obtain ⟨hrd, hps⟩ := hcond
  split at hc
  case h_2 => simp at hc
  rename_i f as' body' hf has hbody
  simp at hc
  subst hc
  have h : rfK S f (ps.toList.map fun t => pathE t t) as' body' tm w = .ok x tm' w' := h
  unfold rfK at h
  obtain ⟨r, w1, h1, h⟩ := RV_ok h
  rw [newO_eq] at h1
  simp only [RV.ok.injEq] at h1
  obtain ⟨rfl, rfl⟩ := h1
  have h : RV.rec (motive := fun _ => RC) .no (fun l w2 => onP (β := RC) .no (fun lid _ =>
        RV.rec (motive := fun _ => RC) .no (fun _ w3 => onLp (β := RC) .no (fun st pend tm' ps' as' body' =>
            if st = 1 then .no else RV.rec (motive := fun _ => RC) .no (fun _ w4 => .ok pend (pushD (.p w.nx 0) tm) w4) (putO lid 0 0 (.lp 3 pend tm' ps' as' body') w3 (fun w4 => .ok .u w4))) (w3.ob lid))
          (FV.rec (motive := fun _ => RV) .no (fun _ _ _ => callV S (evA f [] tm) [.y lid] w2) (fun _ => .no) (toF (evA f [] tm)))) l)
        (newO (.lp 0 .nrm tm (ps.toList.map fun t => pathE t t) as' body') (w.add .df) (fun id w' => .ok (.p id 0) w')) = .ok x tm' w' := h
  obtain ⟨l, w2, h1, h⟩ := RV_ok h
  rw [newO_eq] at h1
  simp only [RV.ok.injEq] at h1
  obtain ⟨rfl, rfl⟩ := h1
  have h : RV.rec (motive := fun _ => RC) .no (fun _ w3 => onLp (β := RC) .no (fun st pend tm' ps' as' body' =>
            if st = 1 then .no else RV.rec (motive := fun _ => RC) .no (fun _ w4 => .ok pend (pushD (.p w.nx 0) tm) w4) (putO (w.nx + 1) 0 0 (.lp 3 pend tm' ps' as' body') w3 (fun w4 => .ok .u w4))) (w3.ob (w.nx + 1)))
          (FV.rec (motive := fun _ => RV) .no (fun _ _ _ => callV S (evA f [] tm) [.y (w.nx + 1)] ((w.add .df).add (.lp 0 .nrm tm (ps.toList.map fun t => pathE t t) as' body'))) (fun _ => .no) (toF (evA f [] tm))) = .ok x tm' w' := h
  obtain ⟨v, w3, hcall, h⟩ := RV_ok h
  cases hto : toF (evA f [] tm) with
  | no => simp [hto] at hcall
  | yl l => simp [hto] at hcall
  | fn fid va vb =>
  simp only [hto] at hcall
  cases e3 : w3.ob (w.nx + 1) with
  | lp st pend tm3 ps3 as3 body3 =>
    rw [e3] at h
    have h : (if st = 1 then .no else RV.rec (motive := fun _ => RC) .no (fun _ w4 => .ok pend (pushD (.p w.nx 0) tm) w4) (putO (w.nx + 1) 0 0 (.lp 3 pend tm3 ps3 as3 body3) w3 (fun w4 => .ok .u w4))) = RC.ok x tm' w' := h
    split at h
    · cases h
    rename_i hst
    rw [putO_eq] at h
    split at h
    · rename_i hro
      have h : RC.ok pend (pushD (.p w.nx 0) tm) (w3.set (w.nx + 1) 0 0 (.lp 3 pend tm3 ps3 as3 body3)) = .ok x tm' w' := h
      cases h
      have c1 : Chg E.P w (w.add .df) := Chg.add (.of_isLp rfl) w
      have c2 : Chg E.P (w.add .df) ((w.add .df).add (.lp 0 .nrm tm (ps.toList.map fun t => pathE t t) as' body')) := Chg.add (fun _ _ _ _ _ _ e => by cases e; exact ⟨{ E with rd := true }, as, body, rfl, rfl, hK, has, hbody⟩) _
      have f2 := c2.wf (c1.wf hwf)
      have c3 := callV_chg hS hcall f2
      have f3 := c3.wf f2
      have c4 : Chg E.P w3 (w3.set (w.nx + 1) 0 0 (.lp 3 x tm3 ps3 as3 body3)) := Chg.set (fun _ _ _ _ _ _ e => by cases e; exact f3.ob _ _ _ _ _ _ _ e3) hro (by rw [e3]; simp) (.inl rfl)
      refine ⟨((c1.trans c2).trans c3).trans c4, fun F hF N0 ι n a ω hst' hfr => ?_⟩
      have hro' : F.round = none := FnOk.round (hrd ▸ hF)
      have n3 : w.nx + 1 + 1 ≤ w3.nx := c3.nx
      have hfr : n.free w.nx w3.nx := hfr
      refine wpIn_rangeFunc fun fn _ => ?_
      rw [hro', run_enterLoop_outer]
      obtain ⟨ι1, e1, rel1, evo1⟩ := hst'.rel.new w.nx (hfr _ (Nat.le_refl _) (by omega)) (.deferred (some [])) ⟨ω.heap.size, 0, 0⟩ .df (celOf .df) rfl (fun ι' _ _ => rfl)
      obtain ⟨ι2, e2, rel2, evo2⟩ := rel1.new (w.nx + 1) (fun hn => by rcases hn with hn | hn; exact hfr _ (by omega) (by omega) hn; omega) (.loop { state := .ready, pending := none, fn, tmps := a.tmps, params := ps, assign := as, body, defers := ω.heap.size }) ⟨ω.heap.size + 1, 0, 0⟩ (.lp 0 .nrm tm (ps.toList.map fun t => pathE t t) as' body') (fun _ => .u) (by simp) (fun ι' he hk => by
        refine ⟨_, rfl, ⟨rfl, rfl, ⟨{ E with rd := true }, rfl, rfl, hK, has, hbody, hst'.siz, ?_, ?_⟩, rfl⟩⟩
        · exact (hst'.tms.ext evo1.ext evo1.le).ext he (Dom.le_add _ _)
        · intro t ht
          have := List.all_eq_true.1 (Bool.not_eq_false _ ▸ hps : (ps.toList.all fun t => decide (t < E.T) && t != dsI) = true) t ht
          simp at this
          exact this.1)
      generalize hω2 : (ω.alloc (.deferred (some []))).alloc (.loop { state := .ready, pending := none, fn, tmps := a.tmps, params := ps, assign := as, body, defers := ω.heap.size }) = ω2 at rel2 evo2 ⊢
      have hfv := toF_fn hto
      rw [hfv] at hcall
      have hv : VR ι n (evA f [] tm) (a.eval g) := (PreR.begin hK hst'.tms).op hst'.gl g _ hf
      rw [hfv] at hv
      generalize hgv : a.eval g = vg at hv
      cases hv with
      | f _ _ _ a' b' g1 g2 =>
        have rel2' : Rel E.P N0 ι2 ((w.add .df).add (.lp 0 .nrm tm (ps.toList.map fun t => pathE t t) as' body')).mem ((n.add w.nx).add (w.nx + 1)) ω2 := by
          rw [W.mem_add, W.mem_add]; exact rel2
        have ext2 := evo1.ext.trans evo2.ext evo1.le
        have le2 := evo1.le.trans evo2.le
        obtain ⟨hent, hcalls⟩ := callV_fn hS hcall f2 rel2' (fun id h1 h2 hn => by
          simp only [W.nx_add] at h1 h2
          rcases hn with (hn | hn) | hn
          · exact hfr id (by omega) h2 hn
          · omega
          · omega) (VRs.ext ext2 le2 g1) (VRs.ext ext2 le2 g2) (vargs := #[.func (.yield (ω.heap.size + 1)) #[] #[]]) (by
          have : (ω.heap.size + 1) = (ι2 (w.nx + 1)).blk := by rw [e2]
          rw [this]
          exact .cons _ _ _ _ (.y _ (Dom.at_add _ _)) .nil)
        · refine ⟨_, _, _, { target := .fn (.func fid) b', args := a' ++ #[.func (.yield (ω.heap.size + 1)) #[] #[]] }, ω2, fid, (a' ++ #[.func (.yield (ω.heap.size + 1)) #[] #[]] ++ b'), ω2, rfl, ?_, fun f' _ => hF.fn f', ?_, fun h => absurd h hF.depth, ?_⟩
          · simp only [resolve, hgv, Deferred.ofValue]; simp [Act.eval]
          · simp only [invoke]; exact hent.run _ _
          · have hFw : F = Fence.wide := by
              rcases hF with h | ⟨h, _⟩
              · exact h
              · rw [hrd] at h; cases h
            subst hFw
            refine hcalls.mono ?_
            rintro e ω3 ⟨v', ι3, rfl, q1, q2, q3⟩
            obtain ⟨r, hh, hL⟩ := q2.loop e3
            have hι : ι3 (w.nx + 1) = ⟨ω.heap.size + 1, 0, 0⟩ := by rw [q3.ext _ (Dom.at_add _ _), e2]
            have hbusy : r.state ≠ .busy := by
              have := hL.st
              intro hb
              rw [hb] at this
              match st, this, hst with
              | 0, h, _ => cases h
              | 1, _, h => exact h rfl
              | 2, h, _ => cases h
              | k + 3, h, _ => cases h
            obtain ⟨rel4, evo4⟩ := q2.setLoop e3 hro hh hL (st' := 3) (pend' := x) (ls := .exhausted) (pc := r.pending) rfl hL.pend
            have hend := run_endLoop (P := E.P) hh hbusy
            rw [hι] at rel4 evo4 hend
            refine ⟨_, _, hend, ?_⟩
            have hdom : ((n.add w.nx).add (w.nx + 1)).upto ((w.add .df).add (.lp 0 .nrm tm (ps.toList.map fun t => pathE t t) as' body')).nx w3.nx = n.upto w.nx w3.nx := by
              rw [← Dom.upto_succ, ← Dom.upto_succ, Dom.upto_trans _ (Nat.le_succ _) (Nat.le_succ _)]
              exact Dom.upto_trans _ (by omega) n3
            have q3' := q3
            rw [W.mem_add, W.mem_add] at q3'
            have ev := ((evo1.trans evo2).trans q3').trans evo4
            rw [hdom] at ev rel4
            have hst2 : ∀ tmx, tmx = pushD (.p w.nx 0) tm → St E N0 ι3 (n.upto w.nx w3.nx) tmx (w3.set (w.nx + 1) 0 0 (.lp 3 x tm3 ps3 as3 body3)) { a with defers := [{ target := .collected ω.heap.size, args := #[] }] ++ a.defers } _ := fun tmx e => by
              subst e
              refine ⟨rel4, c4.wf f3, fun t ht => ?_, hst'.siz, fun hr => ?_⟩
              · rw [get_pushD _ _ _ (fun e => by rw [e, hK] at ht; cases ht)]; exact (hst'.tms.ext ev.ext ev.le) t ht
              · rw [listT_pushD]
                have hm : ω.heap.size = (ι3 w.nx).blk := by rw [q3.ext _ (.inl (Dom.at_add _ _)), evo2.ext _ (Dom.at_add _ _), e1]
                rw [hm]
                exact .mark _ _ _ _ (.inr ⟨Nat.le_refl _, by omega⟩) ((hst'.dfs hr).ext ev.ext ev.le)
            have hp := hL.pend
            generalize r.pending = pc at hp hst2 ev ⊢
            cases x with
            | nrm => have hp : pc = none := hp; subst hp; exact ⟨rfl, ι3, hst2 _ rfl, ev, rfl⟩
            | exit id => have hp : pc = some (.exit id) := hp; subst hp; exact wpIn_exit ⟨rfl, ι3, hst2 _ rfl, ev, rfl⟩
            | ret => have hp : pc = some .ret := hp; subst hp; exact wpIn_ret ⟨rfl, ι3, hst2 _ rfl, ev, rfl⟩
    · cases h
  | no => rw [e3] at h; cases h
  | cs m t => rw [e3] at h; cases h
  | mp es => rw [e3] at h; cases h
  | df => rw [e3] at h; cases h

end Go.Ev

/-
  Calls.
-/
namespace Go.Ev

theorem optW_ok {k : W → RV} {o : Option W} {v : AV} {w : W} (h : Option.rec (motive := fun _ => RV) .no k o = .ok v w) : ∃ w1, o = some w1 ∧ k w1 = .ok v w := by
  cases o with
  | none => cases h
  | some w1 => exact ⟨w1, rfl, h⟩
theorem optL_ok {k : List AV → RV} {o : Option (List AV)} {v : AV} {w : W} (h : Option.rec (motive := fun _ => RV) .no k o = .ok v w) : ∃ l, o = some l ∧ k l = .ok v w := by
  cases o with
  | none => cases h
  | some l => exact ⟨l, rfl, h⟩
theorem boolRV_ok {r : RV} {b : Bool} {v : AV} {w : W} (h : Bool.rec (motive := fun _ => RV) .no r b = .ok v w) : b = true ∧ r = .ok v w := by
  cases b with
  | false => cases h
  | true => exact ⟨rfl, h⟩
theorem RC_ok' {k : X → Tm → W → RV} {r : RC} {v : AV} {w : W} (h : RC.rec (motive := fun _ => RV) .no k r = .ok v w) : ∃ x tm w1, r = .ok x tm w1 ∧ k x tm w1 = .ok v w := by
  cases r with
  | no => cases h
  | ok x tm w1 => exact ⟨x, tm, w1, rfl, h⟩

/-! ## Results -/

/-- the temporaries of the results are kept -/
def resK (K : Nat) (l : List ResultVar) : Bool := l.all fun x => match x with
  | .tmp t => Nat.testBit K t
  | .cell a _ => Nat.testBit K a

theorem loadAt_as {P : Program} {t : TypeId} {vx v' : Value} {ω : World} (h : (Instr.loadAt t vx).run P ω = .ok v' ω) : (do loadVar t (← asAddr vx)).run P ω = .ok v' ω := by
  cases vx with
  | pointer a =>
    cases a with
    | none => simp [Instr.loadAt, Instr.sureAddr] at h
    | some a => simpa [Instr.loadAt, Instr.sureAddr, asAddr] using h
  | _ => simp [Instr.loadAt, Instr.sureAddr] at h

/-- one result -/
def resF (tmps : Array Value) (x : ResultVar) : Sem Value := match x with
  | .tmp t => pure (tmps.getD t undef)
  | .cell a t => do loadVar t (← asAddr (tmps.getD a undef))
theorem results_eq (fn : Func) (tmps : Array Value) : results fn tmps = (do let vs ← fn.results.mapM (resF tmps); pure (if h : vs.size = 1 then vs[0] else .tuple vs)) := rfl

section
variable {P : Program} {N0 : Nat} {ι : Io} {n : Dom} {ω : World} {w : W} {tm : Tm} {tmps : Array Value} {K : Nat}

theorem agr_refl (l : List L3) (m : Mem) : Agr l m m := fun x _ => by
  cases x; exact ⟨rfl, fun _ _ => rfl⟩

theorem resL_run (hR : Rel P N0 ι w.mem n ω) (ht : TmR ι n K tm tmps) : ∀ (l : List ResultVar) (rs : List RS) (vs : List AV), cRS P l = some rs → resK K l = true → resL tm w rs = some vs →
    ∃ vs', (l.mapM (m := Sem) (resF tmps)).run P ω = .ok vs' ω ∧ VRs ι n vs vs' := by
  intro l
  induction l with
  | nil =>
    intro rs vs hc _ h
    simp [cRS] at hc; subst hc
    have h : some [] = some vs := h
    cases h
    exact ⟨[], by simp, .nil⟩
  | cons x l ih =>
    intro rs vs hc hk h
    simp only [resK, List.all_cons, Bool.and_eq_true] at hk
    obtain ⟨hk1, hk2⟩ := hk
    have step : ∀ (r : RS) (rs' : List RS), cRS P l = some rs' → resL tm w (r :: rs') = some vs → ∃ v vs1, (∃ w', res1 r tm w = .ok v w') ∧ resL tm w rs' = some vs1 ∧ vs = v :: vs1 := by
      intro r rs' _ h
      have h : RV.rec (motive := fun _ => Option (List AV)) none (fun v _ => Option.rec none (fun r => some (v :: r)) (resL tm w rs')) (res1 r tm w) = some vs := h
      cases e : res1 r tm w with
      | no => rw [e] at h; cases h
      | ok v w' =>
        rw [e] at h
        cases e2 : resL tm w rs' with
        | none => simp only [e2] at h; cases h
        | some vs1 => simp only [e2] at h; exact ⟨v, vs1, ⟨w', rfl⟩, rfl, by cases h; rfl⟩
    have fin : ∀ (f : ResultVar → Sem Value) (v : AV) (v' : Value) (vs1 : List AV) (vs1' : List Value), (f x).run P ω = .ok v' ω → VR ι n v v' → (l.mapM (m := Sem) f).run P ω = .ok vs1' ω → VRs ι n vs1 vs1' →
        ∃ vs', ((x :: l).mapM (m := Sem) f).run P ω = .ok vs' ω ∧ VRs ι n (v :: vs1) vs' := by
      intro f v v' vs1 vs1' h1 h2 h3 h4
      refine ⟨v' :: vs1', ?_, .cons _ _ _ _ h2 h4⟩
      rw [List.mapM_cons]
      simp only [Sem.run_bind, h1, Result.andThen_ok, h3, Sem.run_pure]
    cases x with
    | tmp t =>
      simp only [cRS] at hc
      obtain ⟨rs', hc', rfl⟩ := Option.map_eq_some_iff.1 hc
      obtain ⟨v, vs1, ⟨w', h1⟩, h2, rfl⟩ := step _ _ hc' h
      obtain ⟨vs1', q1, q2⟩ := ih _ _ hc' hk2 h2
      have h1 : RV.ok (TR.get .u (pathE t t) tm) w = .ok v w' := h1
      cases h1
      refine fin _ _ _ _ _ rfl ?_ q1 q2
      rw [pathE_pathOf]; exact ht t hk1
    | cell a t =>
      have hv := ht a hk1
      simp only [cRS] at hc
      split at hc
      · rename_i k rs' ha hz hc'
        simp at hc; subst hc
        obtain ⟨v, vs1, ⟨w', h1⟩, h2, rfl⟩ := step _ _ hc' h
        obtain ⟨vs1', q1, q2⟩ := ih _ _ hc' hk2 h2
        have h1 : loadnA k (TR.get .u (pathE a a) tm) w = .ok v w' := h1
        rw [pathE_pathOf] at h1
        obtain ⟨v', r1, r2⟩ := loadn_run ha hz h1 hR hv (agr_refl _ _)
        exact fin _ _ _ _ _ (loadAt_as r1) r2 q1 q2
      · rename_i k rs' ha hz hc'
        simp at hc; subst hc
        obtain ⟨v, vs1, ⟨w', h1⟩, h2, rfl⟩ := step _ _ hc' h
        obtain ⟨vs1', q1, q2⟩ := ih _ _ hc' hk2 h2
        have h1 : load1A (TR.get .u (pathE a a) tm) w = .ok v w' := h1
        rw [pathE_pathOf] at h1
        obtain ⟨v', r1, r2⟩ := load1_run ha hz h1 hR hv (agr_refl _ _)
        exact fin _ _ _ _ _ (loadAt_as r1) r2 q1 q2
      · simp at hc

theorem packR_run {vs : List AV} {vs' : List Value} (h : VRs ι n vs vs') : VR ι n (packR vs) (if h : vs'.toArray.size = 1 then vs'.toArray[0] else .tuple vs'.toArray) := by
  cases h with
  | nil => exact .tup _ _ .nil
  | cons a v l vs h1 h2 =>
    cases h2 with
    | nil => exact h1
    | cons a2 v2 l2 vs2 h3 h4 =>
      simp
      exact .tup _ _ (.cons _ _ _ _ h1 (.cons _ _ _ _ h3 h4))

theorem results_run {fn : Func} (hR : Rel P N0 ι w.mem n ω) (ht : TmR ι n K tm tmps) {rs : List RS} {vs : List AV} (hc : cRS P fn.results.toList = some rs) (hk : resK K fn.results.toList = true) (h : resL tm w rs = some vs) :
    ∃ v', (results fn tmps).run P ω = .ok v' ω ∧ VR ι n (packR vs) v' := by
  obtain ⟨vs', q1, q2⟩ := resL_run hR ht _ _ _ hc hk h
  refine ⟨_, ?_, packR_run q2⟩
  rw [results_eq, Array.mapM_eq_mapM_toList]
  simp only [Sem.run_bind, Sem.run_map, q1, Result.andThen_ok, Sem.run_pure]

end

/-! ## The temporaries where a function begins -/

theorem initT_lay : ∀ (args : List AV) (i : Nat) (t : Tm), initT args i t = layL args t i := by
  intro args
  induction args with
  | nil => intro i t; rfl
  | cons a args ih =>
    intro i t
    change TR.force (fun t' => initT args (Nat.succ i) t') (TR.set .u a (pathOf i) t) = TR.force (fun t' => layL args t' (Nat.succ i)) (TR.set .u a (pathOf i) t)
    rw [TR.force_eq, TR.force_eq, ih]
theorem initT_get : ∀ (args : List AV) (i : Nat) (t : Tm) (j : Nat), TR.get .u (pathOf j) (initT args i t) = if i ≤ j ∧ j < i + args.length then args.getD (j - i) .u else TR.get .u (pathOf j) t := fun args i t j => by rw [initT_lay]; exact layL_spec _ _ _ _

theorem initT_tm {ι : Io} {n : Dom} {args : List AV} {vs : Array Value} (h : VRs ι n args vs.toList) (k K : Nat) : TmR ι n K (initT args 0 .e) (vs ++ Array.replicate k undef) := fun t _ => by
  rw [initT_get]
  split
  · rename_i hlt
    obtain ⟨v, h1, h2⟩ := h.get t (by omega)
    have hl := h.length
    have e : (vs ++ Array.replicate k undef).getD t undef = v := by
      rw [Array.getD_eq_getD_getElem?, Array.getElem?_append_left (by simp at hl; omega), ← Array.getElem?_toList, h1]; rfl
    rw [e]
    have e2 : args.getD (t - 0) .u = args[t]'(by omega) := by simp; rw [List.getElem?_eq_getElem (by omega)]; rfl
    rw [e2]; exact h2
  · rw [get_e]; exact .u _

theorem initT_ds {args : List AV} (h : args.length ≤ dsI) : listT (TR.get .u dsP (initT args 0 .e)) = [] := by
  rw [dsP_eq, initT_get, if_neg (by omega), get_e]; rfl

/-! ## Deferred calls are carried out -/

theorem runDs_cons {S : Lv} {d : AV} {l : List AV} {w w2 : W} (h : runDs S (d :: l) w = some w2) : ∃ w1, runD1 S d w = some w1 ∧ runDs S l w1 = some w2 := by
  have h : Option.rec (motive := fun _ => Option W) none (runDs S l) (runD1 S d w) = some w2 := h
  cases e : runD1 S d w with
  | none => rw [e] at h; cases h
  | some w1 => rw [e] at h; exact ⟨w1, rfl, h⟩

theorem leaves_sound {P : Program} {S : Lv} (hS : LvOk P S) {fn : Func} {tmps : Array Value} {R : Ending → World → Prop} {N0 : Nat} : ∀ (l : List AV) (w w2 : W), runDs S l w = some w2 → WfW P w →
    Chg P w w2 ∧ ∀ (ι : Io) (n : Dom) (ω : World) (ds : List Deferred), Rel P N0 ι w.mem n ω → DsR ι n l ds → n.free w.nx w2.nx →
      (∀ (ι' : Io) (ω' : World), Rel P N0 ι' w2.mem (n.upto w.nx w2.nx) ω' → Evo ι w.mem n ω ι' w2.mem (n.upto w.nx w2.nx) ω' → LeavesIn Fence.wide 0 P fn tmps R [] .returning ω') →
      LeavesInM Fence.wide 0 P fn tmps R ds .returning ω := by
  intro l
  induction l with
  | nil =>
    intro w w2 h hwf
    have h : some w = some w2 := h
    cases h
    refine ⟨.refl _, fun ι n ω ds hR hd hf hk => ?_⟩
    cases hd
    exact hk ι ω (by rw [Dom.upto_self]; exact hR) (by rw [Dom.upto_self]; exact .refl _ _ _ _)
  | cons d l ih =>
    intro w w2 h hwf
    obtain ⟨w1, h1, h2⟩ := runDs_cons h
    have key : ∀ (c1 : Chg P w w1), WfW P w1 → (∀ (ι : Io) (n : Dom) (ω : World) (ds : List Deferred), Rel P N0 ι w.mem n ω → DsR ι n (d :: l) ds → n.free w.nx w1.nx →
        (∀ (ι' : Io) (ω' : World) (ds' : List Deferred), Rel P N0 ι' w1.mem (n.upto w.nx w1.nx) ω' → Evo ι w.mem n ω ι' w1.mem (n.upto w.nx w1.nx) ω' → DsR ι' (n.upto w.nx w1.nx) l ds' → LeavesInM Fence.wide 0 P fn tmps R ds' .returning ω') →
        LeavesInM Fence.wide 0 P fn tmps R ds .returning ω) → Chg P w w2 ∧ ∀ (ι : Io) (n : Dom) (ω : World) (ds : List Deferred), Rel P N0 ι w.mem n ω → DsR ι n (d :: l) ds → n.free w.nx w2.nx →
      (∀ (ι' : Io) (ω' : World), Rel P N0 ι' w2.mem (n.upto w.nx w2.nx) ω' → Evo ι w.mem n ω ι' w2.mem (n.upto w.nx w2.nx) ω' → LeavesIn Fence.wide 0 P fn tmps R [] .returning ω') →
      LeavesInM Fence.wide 0 P fn tmps R ds .returning ω := by
      intro c1 f1 hgo
      obtain ⟨c2, p2⟩ := ih w1 w2 h2 f1
      refine ⟨c1.trans c2, fun ι n ω ds hR hd hf hk => hgo ι n ω ds hR hd (free_l hf c2.nx) fun ι' ω' ds' r1 v1 d1 => ?_⟩
      refine p2 ι' _ ω' ds' r1 d1 (free_r hf c1.nx) fun ι'' ω'' r2 v2 => ?_
      rw [Dom.upto_trans _ c1.nx c2.nx] at r2 v2
      exact hk ι'' ω'' r2 (v1.trans v2)
    unfold runD1 at h1
    split at h1
    · rename_i id off
      split at h1
      · rename_i e
        rw [putO_eq] at h1
        split at h1
        · rename_i w' hput
          split at hput
          · rename_i hro
            simp only [RV.ok.injEq] at hput
            obtain ⟨_, rfl⟩ := hput
            cases h1
            have c1 : Chg P w (w.set id 0 0 .no) := Chg.set (.of_isLp rfl) hro (by rw [e]; simp) (.inl rfl)
            refine key c1 (c1.wf hwf) fun ι n ω ds hR hd hf hk => ?_
            cases hd with
            | mark _ _ _ ds' hn hd' =>
              have hs : w.mem.sh id = .df := by simp [W.mem, e, shOf]
              have hob := hR.ob id (by rw [hs]; simp)
              rw [hs] at hob
              have hob : ω.heap[(ι id).blk]? = some (.deferred (some [])) := hob
              have hlt : (ι id).blk < ω.heap.size := (Array.getElem?_eq_some_iff.1 hob).1
              have hu := hR.upd id .no (celOf .no) (by rw [hs]; simp) hro (w' := ω.putObj (ι id).blk (.deferred none)) (by simp) (fun b hb => World.putObj_heap_other hb) rfl rfl rfl trivial
              have hm : (w.set id 0 0 .no).mem = w.mem.put id .no (celOf .no) := W.mem_set ..
              refine ⟨by simp, .inl ⟨_, _, rfl, run_takeDeferred hob, ?_⟩⟩
              refine hk ι _ ds' ?_ ?_ ?_
              · rw [hm, W.nx_set, Dom.upto_self]; exact hu.1
              · rw [hm, W.nx_set, Dom.upto_self]; exact hu.2
              · rw [W.nx_set, Dom.upto_self]; exact hd'
          · cases hput
        · cases h1
      · cases h1
    · rename_i fid va vb args
      split at h1
      · rename_i v w' hcall
        cases h1
        obtain ⟨c1, hent, p1⟩ := hS.dcall _ _ _ _ _ hcall hwf
        refine key c1 (c1.wf hwf) fun ι n ω ds hR hd hf hk => ?_
        cases hd with
        | call _ _ _ _ a' b' vargs _ ds' g1 g2 g3 hd' =>
          refine ⟨by simp, .inr ⟨fun h => by simp [Fence.wide] at h, .func fid, b', fid, (a' ++ vargs) ++ b', rfl, ?_, fun _ _ => trivial, ?_⟩⟩
          · simp only [invoke]; exact hent.run _ _
          · refine (p1 N0 ι n ω _ .returning hR hf ?_).mono ?_
            · rw [appL_eq, appL_eq]
              simp only [Array.toList_append, List.append_assoc]
              exact g1.append (g3.append g2)
            · rintro e u' ω' ⟨rfl, v', ι', rfl, q1, q2, q3⟩
              exact hk ι' ω' ds' q2 q3 (hd'.ext q3.ext q3.le)
      · cases h1
    · cases h1

end Go.Ev

/-
  The evaluator is sound.
-/
namespace Go.Ev

/-- a function's code in the evaluator's table -/
structure CodeIn (P : Program) (fid : Nat) (f : CF) : Prop where
  ex : ∃ (fn : Func) (K : Nat), P.funcs[fid]? = some fn ∧ fn.name ≠ "runtime.NumGoroutine" ∧ cF P K fn = some f ∧ Nat.testBit K dsI = false ∧ resK K fn.results.toList = true

/-- a summary that stands for a function -/
def SumOk (P : Program) (fid : Nat) (s : List AV → W → RV) : Prop := ∀ args w v w', s args w = .ok v w' → WfW P w → Chg P w w' ∧ Enters P fid ∧ ∀ (N0 : Nat) (ι : Io) (n : Dom) (ω : World) (vs : Array Value), Rel P N0 ι w.mem n ω → n.free w.nx w'.nx → VRs ι n args vs.toList →
    CallsIn Fence.wide 0 P fid vs ω (CallPost P N0 ι n w ω v w')

structure TabOk (P : Program) (F : TR FE) : Prop where
  code : ∀ fid f, TR.get .no (pathOf fid) F = .code f → CodeIn P fid f
  sum : ∀ fid s, TR.get .no (pathOf fid) F = .sum s → SumOk P fid s

theorem cF_spec {P : Program} {K : Nat} {fn : Func} {f : CF} (h : cF P K fn = some f) : ∃ b c rs, fn.body = some b ∧ cC { P, K, T := fn.ntmps, rd := false } b = some c ∧ cRS P fn.results.toList = some rs ∧ f = .mk c rs := by
  unfold cF at h
  split at h
  · cases h
  · rename_i b hb
    split at h
    · rename_i c rs hc hr
      cases h
      exact ⟨b, c, rs, hb, hc, hr, rfl⟩
    · cases h

theorem isEnd_ok {x : X} (h : isEnd x = true) : x = .nrm ∨ x = .ret := by
  cases x with
  | nrm => exact .inl rfl
  | exit id => cases h
  | ret => exact .inr rfl

section
variable {P : Program} {S : Lv}

theorem body_run (hm : P.follows .mixedOrders = true) (hS : LvOk P S) {fn : Func} {K : Nat} {b : Code} {c : C} (hc : cC { P, K, T := fn.ntmps, rd := false } b = some c) (hK : Nat.testBit K dsI = false)
    {args : List AV} {w w1 : W} {x : X} {tm : Tm} (hl : args.length ≤ dsI) (h : den S c (initT args 0 .e) w = .ok x tm w1) (hwf : WfW P w) :
    Chg P w w1 ∧ ∀ (N0 : Nat) (ι : Io) (n : Dom) (ω : World) (vs : Array Value), Rel P N0 ι w.mem n ω → n.free w.nx w1.nx → VRs ι n args vs.toList →
      b.wpIn Fence.wide 0 P (CodePost { P, K, T := fn.ntmps, rd := false } N0 ι n w { tmps := vs ++ Array.replicate (fn.ntmps - vs.size) undef, defers := [] } ω x tm w1) { tmps := vs ++ Array.replicate (fn.ntmps - vs.size) undef, defers := [] } ω := by
  obtain ⟨c1, p1⟩ := den_sound (E := { P, K, T := fn.ntmps, rd := false }) hm hK hS (rf_sound hK hS) b c _ _ _ _ _ hc h hwf
  refine ⟨c1, fun N0 ι n ω vs hR hf hv => p1 Fence.wide (.inl rfl) N0 ι n _ ω ⟨hR, hwf, initT_tm hv _ _, ?_, fun _ => ?_⟩ hf⟩
  · simp; omega
  · rw [initT_ds hl]; exact .nil

theorem bodyK_sound (hm : P.follows .mixedOrders = true) (hS : LvOk P S) {fid : Nat} {f : CF} (hf : CodeIn P fid f) : SumOk P fid (bodyK S f) := by
  intro args w v w' h hwf
  obtain ⟨fn, K, h1, h2, h3, hK, hres⟩ := hf.ex
  obtain ⟨b, c, rs, hb, hc, hrs, rfl⟩ := cF_spec h3
  have h : Bool.rec (motive := fun _ => RV) .no (RC.rec (motive := fun _ => RV) .no (fun x tm w1 => Bool.rec (motive := fun _ => RV) .no (endF S rs tm w1) (isEnd x)) (den S c (initT args 0 .e) w)) (Nat.ble (lenL args) dsI) = .ok v w' := h
  obtain ⟨hl, h⟩ := boolRV_ok h
  obtain ⟨x, tm, w1, h4, h⟩ := RC_ok' h
  obtain ⟨hx, h⟩ := boolRV_ok h
  unfold endF at h
  obtain ⟨w2, h5, h⟩ := optW_ok h
  obtain ⟨l, h6, h⟩ := optL_ok h
  cases h
  have hl' : args.length ≤ dsI := by rw [← lenL_eq]; exact Nat.le_of_ble_eq_true hl
  obtain ⟨c1, p1⟩ := body_run hm hS hc hK hl' h4 hwf
  have f1 := c1.wf hwf
  have c2 : Chg P w1 w' := (leaves_sound hS (fn := fn) (tmps := #[]) (R := fun _ _ => True) (N0 := 0) _ _ _ h5 f1).1
  refine ⟨c1.trans c2, ⟨fn, h1, h2, by rw [hb]; rfl⟩, fun N0 ι n ω vs hR hf hv => ?_⟩
  refine callsIn_of_wp_marks h1 hb trivial ?_
  refine wpIn_mono (p1 N0 ι n ω vs hR (free_l hf c2.nx) hv) ?_
  rintro e a ω1 ⟨hxe, ι1, st1, evo1, _⟩
  have hpost : LeavesInM Fence.wide 0 P fn a.tmps (CallPost P N0 ι n w ω (packR l) w') a.defers .returning ω1 := by
    refine (leaves_sound hS (N0 := N0) _ _ _ h5 f1).2 ι1 _ ω1 a.defers st1.rel (st1.dfs rfl) (free_r hf c1.nx) ?_
    intro ι2 ω2 rel2 evo2
    have tm2 : TmR ι2 _ K tm a.tmps := st1.tms.ext evo2.ext evo2.le
    obtain ⟨v', q1, q2⟩ := results_run rel2 tm2 hrs hres h6
    refine ⟨v', q1, v', ι2, rfl, ?_, ?_, ?_⟩
    · rw [Dom.upto_trans _ c1.nx c2.nx] at q2; exact q2
    · rw [Dom.upto_trans _ c1.nx c2.nx] at rel2; exact rel2
    · have := evo1.trans evo2
      rw [Dom.upto_trans _ c1.nx c2.nx] at this; exact this
  rcases isEnd_ok hx with rfl | rfl
  · cases hxe; exact hpost
  · cases hxe; exact hpost

theorem bodyD_sound (hm : P.follows .mixedOrders = true) (hS : LvOk P S) {fid : Nat} {f : CF} (hf : CodeIn P fid f) {args : List AV} {w w' : W} {v : AV} (h : bodyD S f args w = .ok v w') (hwf : WfW P w) :
    Chg P w w' ∧ Enters P fid ∧ ∀ (N0 : Nat) (ι : Io) (n : Dom) (ω : World) (vs : Array Value) (u : FrameMode), Rel P N0 ι w.mem n ω → n.free w.nx w'.nx → VRs ι n args vs.toList →
    CallsDIn Fence.wide 0 P fid vs u ω (fun e u' ω' => u' = u ∧ CallPost P N0 ι n w ω v w' e ω') := by
  obtain ⟨fn, K, h1, h2, h3, hK, hres⟩ := hf.ex
  obtain ⟨b, c, rs, hb, hc, hrs, rfl⟩ := cF_spec h3
  have h : Bool.rec (motive := fun _ => RV) .no (RC.rec (motive := fun _ => RV) .no (fun x tm w1 => Bool.rec (motive := fun _ => RV) .no
    (Bool.rec (motive := fun _ => RV) .no (Option.rec (motive := fun _ => RV) .no (fun l => .ok (packR l) w1) (resL tm w1 rs)) (isNil (listT (TR.get .u dsP tm)))) (isEnd x)) (den S c (initT args 0 .e) w)) (Nat.ble (lenL args) dsI) = .ok v w' := h
  obtain ⟨hl, h⟩ := boolRV_ok h
  obtain ⟨x, tm, w1, h4, h⟩ := RC_ok' h
  obtain ⟨hx, h⟩ := boolRV_ok h
  obtain ⟨hnil, h⟩ := boolRV_ok h
  obtain ⟨l, h6, h⟩ := optL_ok h
  cases h
  have hl' : args.length ≤ dsI := by rw [← lenL_eq]; exact Nat.le_of_ble_eq_true hl
  obtain ⟨c1, p1⟩ := body_run hm hS hc hK hl' h4 hwf
  refine ⟨c1, ⟨fn, h1, h2, by rw [hb]; rfl⟩, fun N0 ι n ω vs u hR hf hv => ?_⟩
  refine callsDIn_of_wp h1 hb trivial ?_
  refine wpIn_mono (p1 N0 ι n ω vs hR hf hv) ?_
  rintro e a ω1 ⟨hxe, ι1, st1, evo1, _⟩
  have hd : a.defers = [] := by
    have := st1.dfs rfl
    generalize a.defers = ds at this ⊢
    cases hq : listT (TR.get .u dsP tm) with
    | nil => rw [hq] at this; cases this; rfl
    | cons d r => rw [hq] at hnil; cases hnil
  obtain ⟨v', q1, q2⟩ := results_run st1.rel st1.tms hrs hres h6
  have hpost : CallPost P N0 ι n w ω (packR l) w' (.returned v') ω1 := ⟨v', ι1, rfl, q2, st1.rel, evo1⟩
  rcases isEnd_ok hx with rfl | rfl
  · cases hxe; exact ⟨hd, v', q1, hpost⟩
  · cases hxe; exact ⟨hd, v', q1, hpost⟩

end

theorem semN_sound {P : Program} (hm : P.follows .mixedOrders = true) {F : TR FE} (hF : TabOk P F) : ∀ k, LvOk P (semN F k) := by
  intro k
  induction k with
  | zero =>
    refine ⟨fun _ _ _ _ _ h => ?_, fun _ _ _ _ _ h => ?_, fun _ _ _ _ _ _ h => ?_⟩ <;> cases h
  | succ k ih =>
    refine ⟨fun fid args w v w' h hwf => ?_, fun fid args w v w' h hwf => ?_, fun c tm w x tm' w' h E code hE hrd hK hc => ?_⟩
    · have h : FE.rec (motive := fun _ => RV) .no (fun f => bodyK (semN F k) f args w) (fun s => s args w) (TR.get .no (pathOf fid) F) = .ok v w' := h
      cases e : TR.get .no (pathOf fid) F with
      | no => rw [e] at h; cases h
      | code f => rw [e] at h; exact bodyK_sound hm ih (hF.code _ _ e) _ _ _ _ h hwf
      | sum s => rw [e] at h; exact hF.sum _ _ e _ _ _ _ h hwf
    · have h : FE.rec (motive := fun _ => RV) .no (fun f => bodyD (semN F k) f args w) (fun s => .no) (TR.get .no (pathOf fid) F) = .ok v w' := h
      cases e : TR.get .no (pathOf fid) F with
      | no => rw [e] at h; cases h
      | code f => rw [e] at h; exact bodyD_sound hm ih (hF.code _ _ e) h hwf
      | sum s => rw [e] at h; cases h
    · subst hE
      exact den_sound hm hK ih (rf_sound hK ih) code c tm w x tm' w' hc h

end Go.Ev
