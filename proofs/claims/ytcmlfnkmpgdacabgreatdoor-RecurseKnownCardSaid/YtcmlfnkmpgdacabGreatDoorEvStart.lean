/-
  What the listed variable reads as, in the evaluator's terms.
-/
import Derived.Test.YtcmlfnkmpgdacabGreatDoorEvProofE
import Derived.Test.YtcmlfnkmpgdacabGreatDoorEvRunA
import Derived.Test.YtcmlfnkmpgdacabGreatDoorRows
import Derived.MakeChecks
import Derived.OpenShut
import Derived.ChangeArms
import Derived.ChangeSlices
import Derived.FnData
namespace Go.Ev
open Go.Proofs.YtcmlfnkmpgdacabGreatDoor
set_option maxRecDepth 100000

abbrev U0 : TypeId × Value → Unit := fun _ => ()
noncomputable abbrev PP : Program := Go.Proofs.Tryz.prog

section
variable {W : World} {fuel : Nat}

/-- a slice of these numbers, at its place -/
structure SlAt (W : World) (v : Value) (ks : List Nat) (ps : List MemPlace) : Prop where
  ex : ∃ b o, v = .slice (some ⟨b, o, none⟩) ks.length ks.length ∧ ∀ i, i < ks.length → W.cell? ⟨b, o + i, none⟩ = some (.int .u64 (.ofNat (ks.getD i 0))) ∧ MemPlace.cell b (o + i) ∈ ps

theorem sz37 : PP.cellsOf 37 = 1 := by kernel_rfl

theorem int_of {cs : List Value} {k : IntKind} {t : TypeId} (ht : PP.underlying t = some (.int k)) {n : Int} {ps : List MemPlace} (h : DataW.trod U0 PP W 0 (fun _ => true) false fuel t cs = some (.lit (.int k n), ps)) : cs = [.int k n] := by
  obtain ⟨m, h1, h2, _⟩ := DataW.trod_int ht h
  simp at h2
  rw [h1, h2.1]

theorem nil_of {v : Value} {ps : List MemPlace} (h : DataW.trod U0 PP W 0 (fun _ => true) false fuel 30 [v] = some (.nil, ps)) : v = .slice none 0 0 := by
  rcases DataW.trod_slice Go.Proofs.Tryz.underlying30 h with ⟨h1, _⟩ | ⟨a, len, cap, elems, rest, n, _, _, h1, _⟩
  · simpa using h1
  · simp at h1

theorem sl_of {v : Value} {ks : List Nat} {ps : List MemPlace} (hk : ks ≠ []) (h : DataW.trod U0 PP W 0 (fun _ => true) false fuel 30 [v] = some (.slice (ks.map fun k => .lit (.int .u64 (.ofNat k))) [], ps)) : SlAt W v ks ps := by
  rcases DataW.trod_slice Go.Proofs.Tryz.underlying30 h with ⟨_, h1⟩ | ⟨a, len, cap, elems, rest, n, _, h0, h1, _, hlc, _, hlen, hel, hsp, _⟩
  · simp at h1
  · simp only [Prod.mk.injEq, DataW.slice.injEq] at h1
    obtain ⟨⟨e1, e2⟩, e3⟩ := h1
    have hr : rest = [] := by cases rest with
      | nil => rfl
      | cons a l => simp at e2
    subst hr
    have hl : elems.length = ks.length := by have := congrArg List.length e1; simpa using this.symm
    obtain ⟨hcap, _⟩ := hsp rfl
    have hcap : cap = len := by simp at hcap; omega
    subst hcap
    rw [← hlen, hl] at h0 hel
    rw [sz37] at hel
    have cell : ∀ i, i < ks.length → W.cell? (a.add i) = some (.int .u64 (.ofNat (ks.getD i 0))) := fun i hi => by
      have h2 := hel i hi
      have h3 : elems[i]? = some elems[i] := List.getElem?_eq_getElem (by omega)
      rw [h3, Nat.mul_one] at h2
      obtain ⟨cs, h4, h5⟩ := Option.bind_eq_some_iff.1 h2
      have h6 : (elems.map (·.1))[i]? = some elems[i].1 := by rw [List.getElem?_map, h3]; rfl
      rw [← e1, List.getElem?_map, List.getElem?_eq_getElem hi] at h6
      have h7 : elems[i].1 = .lit (.int .u64 (.ofNat (ks.getD i 0))) := by
        have : ks.getD i 0 = ks[i] := by simp [List.getElem?_eq_getElem hi]
        rw [this]; simpa using h6.symm
      have h8 : DataW.trod U0 PP W 0 (fun _ => true) false n 37 cs = some (.lit (.int .u64 (.ofNat (ks.getD i 0))), elems[i].2) := by rw [h5, ← h7]
      have := int_of Go.Proofs.Tryz.underlying37 h8
      subst this
      exact Go.ChangeShapes.cell_of_cells?_one h4
    have hpos : 0 < ks.length := by cases ks with
      | nil => exact absurd rfl hk
      | cons => simp
    have hspot : a.spot = none := by
      have h9 := cell 0 hpos
      have : a.add 0 = a := by simp [Addr.add]
      rw [this] at h9
      unfold World.cell? at h9
      split at h9
      · split at h9
        · cases h9
        · rename_i hs; simpa using hs
      · cases h9
    obtain ⟨b, o, sp⟩ := a
    simp only at hspot
    subst hspot
    have hadd : ∀ i, (⟨b, o, none⟩ : Addr).add i = ⟨b, o + i, none⟩ := fun i => by
      unfold Addr.add
      split
      · rename_i e; simp
      · rfl
    refine ⟨b, o, by simpa using h0, fun i hi => ⟨by rw [← hadd]; exact cell i hi, ?_⟩⟩
    rw [e3]
    simp only [List.append_nil]
    refine List.mem_append_left _ ?_
    unfold MemPlace.row
    rw [sz37, List.length_nil, Nat.add_zero, Nat.mul_one, hl]
    exact List.mem_map.2 ⟨i, by simpa using hi, rfl⟩

theorem sz269 : PP.cellsOf 269 = 5 := by kernel_rfl
theorem sz360 : PP.cellsOf 360 = 20 := by kernel_rfl
theorem sz3 : PP.cellsOf 3 = 1 := by kernel_rfl
theorem sz30 : PP.cellsOf 30 = 1 := by kernel_rfl

theorem elem_of {l : List Value} {a b c d : Int} {s : DataW Unit} {ps : List MemPlace}
    (h : DataW.trod U0 PP W 0 (fun _ => true) false fuel 269 l = some (.agg [.lit (.int .u64 a), .lit (.int .u64 b), .lit (.int .i64 c), .lit (.int .i64 d), s], ps)) :
    ∃ v n qs, l = [.int .u64 a, .int .u64 b, .int .i64 c, .int .i64 d, v] ∧ DataW.trod U0 PP W 0 (fun _ => true) false n 30 [v] = some (s, qs) ∧ ∀ p ∈ qs, p ∈ ps := by
  obtain ⟨xs, n, _, h1, hlen, hxs, hf⟩ := DataW.trod_struct Go.Proofs.Tryz.underlying269 h
  rw [sz269] at hlen
  simp only [Prod.mk.injEq, DataW.agg.injEq] at h1
  obtain ⟨h1, h2⟩ := h1
  match xs, h1, h2, hf with
  | [x0, x1, x2, x3, x4], h1, h2, hf =>
    simp only [List.map_cons, List.map_nil, List.cons.injEq, and_true] at h1
    obtain ⟨e0, e1, e2, e3, e4⟩ := h1
    have f0 : DataW.trod U0 PP W 0 (fun _ => true) false n 37 ((l.drop 0).take (PP.cellsOf 37)) = some x0 := hf 0 _ rfl
    have f1 : DataW.trod U0 PP W 0 (fun _ => true) false n 37 ((l.drop 1).take (PP.cellsOf 37)) = some x1 := hf 1 _ rfl
    have f2 : DataW.trod U0 PP W 0 (fun _ => true) false n 3 ((l.drop 2).take (PP.cellsOf 3)) = some x2 := hf 2 _ rfl
    have f3 : DataW.trod U0 PP W 0 (fun _ => true) false n 3 ((l.drop 3).take (PP.cellsOf 3)) = some x3 := hf 3 _ rfl
    have f4 : DataW.trod U0 PP W 0 (fun _ => true) false n 30 ((l.drop 4).take (PP.cellsOf 30)) = some x4 := hf 4 _ rfl
    rw [sz37] at f0 f1
    rw [sz3] at f2 f3
    rw [sz30] at f4
    match l, hlen with
    | [v0, v1, v2, v3, v4], _ =>
      simp only [List.drop_succ_cons, List.drop_zero, List.take_succ_cons, List.take_zero] at f0 f1 f2 f3 f4
      have g0 := int_of Go.Proofs.Tryz.underlying37 (ps := x0.2) (n := a) (by rw [f0, e0])
      have g1 := int_of Go.Proofs.Tryz.underlying37 (ps := x1.2) (n := b) (by rw [f1, e1])
      have g2 := int_of Go.Proofs.Tryz.underlying3 (ps := x2.2) (n := c) (by rw [f2, e2])
      have g3 := int_of Go.Proofs.Tryz.underlying3 (ps := x3.2) (n := d) (by rw [f3, e3])
      simp only [List.cons.injEq, and_true] at g0 g1 g2 g3
      subst g0 g1 g2 g3
      refine ⟨v4, n, x4.2, rfl, by rw [f4, e4], fun p hp => ?_⟩
      rw [h2]
      simp [hp]

theorem obL_lt {k : Nat} : ∀ (L : List Ob), (∀ o ∈ L, ∀ i c, o = Ob.mk i c → i < k) → ∀ id cs, obL L id = some cs → id < k := by
  intro L
  induction L with
  | nil => intro _ id cs h; cases h
  | cons o L ih =>
    obtain ⟨i, c⟩ := o
    intro h id cs hc
    simp only [obL] at hc
    cases e : obL L id with
    | some c' => exact ih (fun o ho => h o (List.mem_cons_of_mem _ ho)) id _ e
    | none =>
      rw [e] at hc
      by_cases g : i = id
      · subst g; exact h _ List.mem_cons_self i c rfl
      · simp [g] at hc

/-- an object whose cells these values are -/
theorem ob_of {P : Program} {ι : Io} {n : Dom} {L : Loc} {l : List AV} {vs : List Value} {c : Array Value} {t : TypeId} {o : Option Obj} (ho : o = some (.cells c t (0, 0))) (hL : L.tot = 0) (hv : VRs ι n l vs) (hc : ∀ i, i < l.length → c[L.sh + i]? = vs[i]?) :
    ObR P ι n L (celOf (mkCs l)) (.cs l.length) o := by
  refine ⟨c, t, ho, fun off hoff => ?_, by omega⟩
  rw [mkCs_cel] at hoff ⊢
  split at hoff
  · rename_i hlt
    obtain ⟨v, g1, g2⟩ := hv.get off hlt
    refine ⟨hlt, v, by rw [hc off hlt, g1], ?_⟩
    rw [if_pos hlt]
    have : l.getD off .u = l[off] := by simp [List.getElem?_eq_getElem hlt]
    rw [this]; exact g2
  · exact absurd rfl hoff

theorem cell_of {b o : Nat} {v : Value} {c : Array Value} {t : TypeId} {r : Nat × Nat} (hb : W.heap[b]? = some (.cells c t r)) (h : W.cell? ⟨b, o, none⟩ = some v) : c[o]? = some v := by
  unfold World.cell? at h
  simp only [hb] at h
  simpa using h

/-- the world's variable, as the evaluator has it -/
theorem start_rel (h : laidMetH PP [("attestor/field.fields", Rows.laid_attestor_field_fields)] W) : ∃ (ι : Io) (n : Dom), Rel PP W.heap.size ι (mkW hp7 4 []).mem n W ∧ ∀ k, n.free 4 k := by
  rw [MakeChecks.laidMetH_plain _ _ _ (by kernel_rfl)] at h
  obtain ⟨ps, ⟨g, t, cs, fuel, p, q, hg, ht, hv, hd, _, hps⟩, _, hblk⟩ := h
  obtain rfl := Option.some.inj ((show PP.globalNamed "attestor/field.fields" = some 0 by kernel_rfl).symm.trans hg)
  obtain rfl := Option.some.inj ((show (PP.globals[0]?).map (·.type) = some 360 by kernel_rfl).symm.trans ht)
  obtain ⟨xs, m, _, hx, hlen, hn, hel⟩ := DataW.trod_array Go.Proofs.Tryz.underlying360 hd
  rw [sz360] at hlen
  rw [sz269] at hel
  have hp : ∀ r, r ∈ p → r ∈ ps := fun r hr => by rw [hps]; simp [hr]
  simp only [Prod.mk.injEq] at hx
  obtain ⟨hx, hpp⟩ := hx
  unfold Rows.laid_attestor_field_fields at hx
  simp only [DataW.agg.injEq] at hx
  match xs, hn, hx, hel, hpp with
  | [x0, x1, x2, x3], _, hx, hel, hpp =>
    simp only [List.map_cons, List.map_nil, List.cons.injEq, and_true] at hx
    obtain ⟨e0, e1, e2, e3⟩ := hx
    have f0 : DataW.trod U0 PP W 0 (fun _ => true) false m 269 ((cs.toList.drop (0 * 5)).take 5) = some x0 := hel 0 (by decide)
    have f1 : DataW.trod U0 PP W 0 (fun _ => true) false m 269 ((cs.toList.drop (1 * 5)).take 5) = some x1 := hel 1 (by decide)
    have f2 : DataW.trod U0 PP W 0 (fun _ => true) false m 269 ((cs.toList.drop (2 * 5)).take 5) = some x2 := hel 2 (by decide)
    have f3 : DataW.trod U0 PP W 0 (fun _ => true) false m 269 ((cs.toList.drop (3 * 5)).take 5) = some x3 := hel 3 (by decide)
    obtain ⟨v0, n0, q0, l0, s0, i0⟩ := elem_of (ps := x0.2) (by rw [f0, e0])
    obtain ⟨v1, n1, q1, l1, s1, i1⟩ := elem_of (ps := x1.2) (by rw [f1, e1])
    obtain ⟨v2, n2, q2, l2, s2, i2⟩ := elem_of (ps := x2.2) (by rw [f2, e2])
    obtain ⟨v3, n3, q3, l3, s3, i3⟩ := elem_of (ps := x3.2) (by rw [f3, e3])
    have u1 := nil_of s1
    obtain ⟨b0, o0, w0, k0⟩ := (sl_of (ks := [3]) (by simp) s0).ex
    obtain ⟨b2, o2, w2, k2⟩ := (sl_of (ks := [3]) (by simp) s2).ex
    obtain ⟨b3, o3, w3, k3⟩ := (sl_of (ks := [7, 17]) (by simp) s3).ex
    have hcs : cs.toList = [.int .u64 97, .int .u64 5, .int .i64 5, .int .i64 5, v0, .int .u64 257, .int .u64 3, .int .i64 8, .int .i64 3, v1, .int .u64 12289, .int .u64 11, .int .i64 12, .int .i64 5, v2, .int .u64 998244353, .int .u64 3, .int .i64 23, .int .i64 3, v3] := by
      have hsplit : cs.toList = (cs.toList.drop (0 * 5)).take 5 ++ ((cs.toList.drop (1 * 5)).take 5 ++ ((cs.toList.drop (2 * 5)).take 5 ++ (cs.toList.drop (3 * 5)).take 5)) := by
        generalize cs.toList = l at hlen
        match l, hlen with
        | [a1, a2, a3, a4, a5, a6, a7, a8, a9, a10, a11, a12, a13, a14, a15, a16, a17, a18, a19, a20], _ => rfl
      rw [hsplit, l0, l1, l2, l3]; rfl
    have hsz : cs.size = 20 := by simpa using hlen
    have hheap0 : ∃ t0, W.heap[0]? = some (.cells cs t0 (0, 0)) := by
      have hm : MemPlace.cell 0 0 ∈ ps := by
        rw [hps]
        refine List.mem_append_left _ (List.mem_append_left _ ?_)
        unfold MemPlace.row
        exact List.mem_map.2 ⟨0, by simp [hsz], rfl⟩
      obtain ⟨⟨c, t0, hc⟩, _⟩ := hblk 0 0 hm
      simp only [World.var?, hg, Option.bind_some, hc, Option.some.injEq] at hv
      exact ⟨t0, by rw [hc, hv]⟩
    obtain ⟨t0, hheap0⟩ := hheap0
    have hin : ∀ (j : Nat) (x : DataW Unit × List MemPlace) (qs : List MemPlace), [x0, x1, x2, x3][j]? = some x → (∀ r, r ∈ qs → r ∈ x.2) → ∀ r, r ∈ qs → r ∈ ps := fun j x qs hj hq r hr => hp r (by
      rw [hpp]
      exact List.mem_flatMap.2 ⟨x, List.mem_of_getElem? hj, hq r hr⟩)
    obtain ⟨⟨c0, t1, h0⟩, _⟩ := hblk _ _ (hin 0 x0 q0 rfl i0 _ (k0 0 (by decide)).2)
    obtain ⟨⟨c2, t2, h2⟩, _⟩ := hblk _ _ (hin 2 x2 q2 rfl i2 _ (k2 0 (by decide)).2)
    obtain ⟨⟨c3, t3, h3⟩, _⟩ := hblk _ _ (hin 3 x3 q3 rfl i3 _ (k3 0 (by decide)).2)
    let ι : Io := fun id => match id with
      | 0 => ⟨0, 0, 0⟩
      | 1 => ⟨b0, o0, 0⟩
      | 2 => ⟨b2, o2, 0⟩
      | 3 => ⟨b3, o3, 0⟩
      | _ => ⟨0, 0, 0⟩
    let n : Dom := fun id => id < 4
    have hsh : ∀ id, (mkW hp7 4 []).mem.sh id ≠ .no → id = 0 ∨ id = 1 ∨ id = 2 ∨ id = 3 := fun id hid => by
      simp only [Go.Ev.W.mem, mkW_ob] at hid
      by_cases g : id = 0 ∨ id = 1 ∨ id = 2 ∨ id = 3
      · exact g
      · exfalso
        have e : obL hp7 id = none := by
          simp only [hp7, obL]
          simp only [not_or] at g
          obtain ⟨g0, g1, g2, g3⟩ := g
          simp [Ne.symm g0, Ne.symm g1, Ne.symm g2, Ne.symm g3]
        rw [e] at hid
        exact hid rfl
    have vr0 : VRs ι n [.n 7 97, .n 7 5, .n 3 5, .n 3 5, .sl 1 0 1 1 0, .n 7 257, .n 7 3, .n 3 8, .n 3 3, .sn, .n 7 12289, .n 7 11, .n 3 12, .n 3 5, .sl 2 0 1 1 0, .n 7 998244353, .n 7 3, .n 3 23, .n 3 3, .sl 3 0 2 2 0] cs.toList := by
      rw [hcs, w0, u1, w2, w3]
      have a1 : VR ι n (.sl 1 0 1 1 0) (.slice (some ⟨b0, o0, none⟩) 1 1) := .slx 1 0 1 1 (by decide)
      have a2 : VR ι n (.sl 2 0 1 1 0) (.slice (some ⟨b2, o2, none⟩) 1 1) := .slx 2 0 1 1 (by decide)
      have a3 : VR ι n (.sl 3 0 2 2 0) (.slice (some ⟨b3, o3, none⟩) 2 2) := .slx 3 0 2 2 (by decide)
      exact .cons _ _ _ _ (.nn 7 97) (.cons _ _ _ _ (.nn 7 5) (.cons _ _ _ _ (.nn 3 5) (.cons _ _ _ _ (.nn 3 5) (.cons _ _ _ _ a1 (.cons _ _ _ _ (.nn 7 257) (.cons _ _ _ _ (.nn 7 3) (.cons _ _ _ _ (.nn 3 8) (.cons _ _ _ _ (.nn 3 3) (.cons _ _ _ _ .sn
        (.cons _ _ _ _ (.nn 7 12289) (.cons _ _ _ _ (.nn 7 11) (.cons _ _ _ _ (.nn 3 12) (.cons _ _ _ _ (.nn 3 5) (.cons _ _ _ _ a2 (.cons _ _ _ _ (.nn 7 998244353) (.cons _ _ _ _ (.nn 7 3) (.cons _ _ _ _ (.nn 3 23) (.cons _ _ _ _ (.nn 3 3) (.cons _ _ _ _ a3 .nil)))))))))))))))))))
    have blk : ∀ id, id = 0 ∨ id = 1 ∨ id = 2 ∨ id = 3 → (ι id).blk < W.heap.size := fun id hid => by
      rcases hid with rfl | rfl | rfl | rfl
      · exact (Array.getElem?_eq_some_iff.1 hheap0).1
      · exact (Array.getElem?_eq_some_iff.1 h0).1
      · exact (Array.getElem?_eq_some_iff.1 h2).1
      · exact (Array.getElem?_eq_some_iff.1 h3).1
    refine ⟨ι, n, ?_, fun k id h1 _ h2 => by have h2 : id < 4 := h2; omega⟩
    exact
    { ro := fun id hid => hid
      lt := fun id hid => by have := hsh id hid; show id < 4; omega
      inj := fun i j hr hi => by have := hsh i hi; have hr : 4 ≤ i := hr; omega
      own := fun id hid hr => by have := hsh id hid; have hr : 4 ≤ id := hr; omega
      size := fun id hid => blk id (hsh id hid)
      ob := fun id hid => by
        rcases hsh id hid with rfl | rfl | rfl | rfl
        · exact ob_of (l := [.n 7 97, .n 7 5, .n 3 5, .n 3 5, .sl 1 0 1 1 0, .n 7 257, .n 7 3, .n 3 8, .n 3 3, .sn, .n 7 12289, .n 7 11, .n 3 12, .n 3 5, .sl 2 0 1 1 0, .n 7 998244353, .n 7 3, .n 3 23, .n 3 3, .sl 3 0 2 2 0]) hheap0 rfl vr0 (fun i _ => by show cs[0 + i]? = _; simp)
        · refine ob_of (l := [.n 7 3]) (vs := [.int .u64 3]) h0 rfl (.cons _ _ _ _ (.nn 7 3) .nil) (fun i hi => ?_)
          have : i = 0 := by simpa using hi
          subst this
          exact cell_of h0 (k0 0 (by decide)).1
        · refine ob_of (l := [.n 7 3]) (vs := [.int .u64 3]) h2 rfl (.cons _ _ _ _ (.nn 7 3) .nil) (fun i hi => ?_)
          have : i = 0 := by simpa using hi
          subst this
          exact cell_of h2 (k2 0 (by decide)).1
        · refine ob_of (l := [.n 7 7, .n 7 17]) (vs := [.int .u64 7, .int .u64 17]) h3 rfl (.cons _ _ _ _ (.nn 7 7) (.cons _ _ _ _ (.nn 7 17) .nil)) (fun i hi => ?_)
          have : i = 0 ∨ i = 1 := by have : i < 2 := hi; omega
          rcases this with rfl | rfl
          · exact cell_of h3 (k3 0 (by decide)).1
          · exact cell_of h3 (k3 1 (by decide)).1
      glob := fun g hg => by
        have : g < 1 := by rw [show PP.globals.size = 1 from by kernel_rfl] at hg; exact hg
        have : g = 0 := by omega
        subst this
        exact ⟨rfl, rfl, by decide⟩
      base := Nat.le_refl _ }
end
end Go.Ev
