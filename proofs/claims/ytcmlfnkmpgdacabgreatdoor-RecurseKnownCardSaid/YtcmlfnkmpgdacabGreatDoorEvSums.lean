/-
  The summaries of the scalar functions.
-/
import Derived.Test.YtcmlfnkmpgdacabGreatDoorEvProofE
import Derived.Test.YtcmlfnkmpgdacabGreatDoorEvTables
import Derived.KernelRfl
namespace Go.Ev

/-! ## Steps as equations -/
noncomputable def seqR (r : RC) (k : Tm → W → RC) : RC := onRC .no (fun x tm' w' => onX (k tm' w') (fun id => .ok (.exit id) tm' w') (.ok .ret tm' w') x) r
noncomputable def condR (v : AV) (a b : Tm → W → RC) (tm : Tm) (w : W) : RC := onB .no (fun t => Bool.rec (b tm w) (a tm w) t) v
noncomputable def callP (r : RV) (k : List AV → Tm → W → RC) (R : List AV) (tm : Tm) : RC := opt2 r (fun v w' => k (v :: R) tm w')
noncomputable def optP (o : Option AV) (k : List AV → Tm → W → RC) (R : List AV) (tm : Tm) (w : W) : RC := Option.rec (motive := fun _ => RC) .no (fun v => k (v :: R) tm w) o
noncomputable def optK (p : Pa) (o : Option AV) (k : List AV → Tm → W → RC) (R : List AV) (tm : Tm) (w : W) : RC := Option.rec (motive := fun _ => RC) .no (fun v => k R (TR.set .u v p tm) w) o
noncomputable def fin (r : RC) (k : X → Tm → W → RV) : RV := RC.rec (motive := fun _ => RV) .no k r
noncomputable def endR (S : Lv) (rs : List RS) : X → Tm → W → RV := fun x tm w1 => Bool.rec (motive := fun _ => RV) .no (endF S rs tm w1) (isEnd x)

section
variable {S : Lv} {tm : Tm} {w : W} {R : List AV} {lg : List Rec}
theorem q_body (c : C) (rs : List RS) (args : List AV) (h : Nat.ble (lenL args) dsI = true) : bodyK S (.mk c rs) args w = fin (den S c (initT args 0 .e) w) (endR S rs) := by
  show Bool.rec (motive := fun _ => RV) .no _ (Nat.ble (lenL args) dsI) = _
  rw [h]; rfl
theorem q_fin (x : X) (k : X → Tm → W → RV) : fin (.ok x tm w) k = k x tm w := rfl
theorem q_seq (a b : C) : den S (.seq a b) tm w = seqR (den S a tm w) (den S b) := rfl
theorem q_seqN (k : Tm → W → RC) : seqR (.ok .nrm tm w) k = k tm w := rfl
theorem q_seqR (k : Tm → W → RC) : seqR (.ok .ret tm w) k = .ok .ret tm w := rfl
theorem q_reg (l : Q) : den S (.reg l) tm w = opsL S l [] tm w := rfl
theorem q_regd (l : Q) : den S (.regd l) tm w = opsD S l [] [] tm w := rfl
theorem q_ret : den S .ret tm w = .ok .ret tm w := rfl
theorem q_skip : den S .skip tm w = .ok .nrm tm w := rfl
theorem q_cond (c : OA) (a b : C) : den S (.cond c a b) tm w = condR (evA c [] tm) (den S a) (den S b) tm w := rfl
theorem q_condT (a b : Tm → W → RC) : condR (.b true) a b tm w = a tm w := rfl
theorem q_condF (a b : Tm → W → RC) : condR (.b false) a b tm w = b tm w := rfl

theorem l_nil : opsL S .nil R tm w = .ok .nrm tm w := rfl
theorem l_mvk (p : Pa) (x : OA) (r : Q) : opsL S (.mvk p x r) R tm w = opsL S r R (TR.set .u (evA x R tm) p tm) w := by
  show TR.force (fun tm' => opsL S r R tm' w) _ = _; rw [TR.force_eq]
theorem l_bin (op : BinOp) (x y : OA) (r : Q) : opsL S (.bin op x y r) R tm w = optP (binF op (evA x R tm) (evA y R tm)) (opsL S r) R tm w := rfl
theorem l_bink (p : Pa) (op : BinOp) (x y : OA) (r : Q) : opsL S (.bink p op x y r) R tm w = optK p (binF op (evA x R tm) (evA y R tm)) (opsL S r) R tm w := by
  show Option.rec (motive := fun _ => RC) .no (fun v => TR.force (fun tm' => opsL S r R tm' w) (TR.set .u v p tm)) _ = Option.rec (motive := fun _ => RC) .no (fun v => opsL S r R (TR.set .u v p tm) w) _
  simp only [TR.force_eq]
theorem appL_nil (l : List AV) : appL l [] = l := by rw [appL_eq]; simp
theorem l_call (fid : Nat) (args : List OA) (j : Nat) (un : List Nat) (r : Q) : opsL S (.gen (.call (.c (.f fid [] [])) args) none .push j un r) R tm w = callP (S.call fid (evL args R tm) w) (opsL S r) R tm := by
  show opt2 (S.call fid (appL [] (appL (evL args R tm) [])) w) _ = _
  rw [appL_nil]; rfl
theorem l_notK (p : Pa) (x : OA) (j : Nat) (un : List Nat) (r : Q) : opsL S (.gen (.un .not x) none (.keep p) j un r) R tm w = optK p (unA .not (evA x R tm)) (opsL S r) R tm w := by
  show opt1 (unA .not (evA x R tm)) w (fun v w' => TR.force (fun tm' => opsL S r R tm' w') (TR.set .u v p tm)) = Option.rec (motive := fun _ => RC) .no (fun v => opsL S r R (TR.set .u v p tm) w) _
  simp only [TR.force_eq]; rfl
theorem d_nil : opsD S .nil lg R tm w = .ok .nrm tm w := rfl
theorem d_mvk (p : Pa) (x : OA) (r : Q) : opsD S (.mvk p x r) lg R tm w = opsD S r lg R (TR.set .u (evA x R tm) p tm) w := by
  show TR.force (fun tm' => opsD S r lg R tm' w) _ = _; rw [TR.force_eq]
theorem d_bin (op : BinOp) (x y : OA) (r : Q) : opsD S (.bin op x y r) lg R tm w = optP (binF op (evA x R tm) (evA y R tm)) (opsD S r lg) R tm w := rfl
noncomputable def callD' (w : W) (r : RV) (k : List Rec → List AV → Tm → W → RC) (j : Nat) (lg : List Rec) (R : List AV) (tm : Tm) : RC := opt2 r (finD j [] true [] w lg (fun lg' v w' => k lg' (v :: R) tm w'))
theorem d_call (fid : Nat) (args : List OA) (j : Nat) (r : Q) : opsD S (.gen (.call (.c (.f fid [] [])) args) none .push j [] r) lg R tm w = callD' w (S.call fid (evL args R tm) w.open') (opsD S r) j lg R tm := by
  show opt2 (S.call fid (appL [] (appL (evL args R tm) [])) w.open') _ = _
  rw [appL_nil]; rfl
theorem d_callN (k : List Rec → List AV → Tm → W → RC) (j : Nat) (v : AV) : callD' w (.ok v w.open') k j lg R tm = k (.mk j true [] [] w.nx w.nx :: lg) (v :: R) tm w := by
  obtain ⟨hp, nx, bs, wl⟩ := w
  show Bool.rec (motive := fun _ => RC) .no (k (.mk j true [] [] nx nx :: lg) (v :: R) tm (.mk hp nx bs wl)) (checkU [] (.mk j true [] [] nx nx) lg) = _
  rw [checkU_nil]; rfl
theorem q_callP (k : List AV → Tm → W → RC) (v : AV) (w' : W) : callP (.ok v w') k R tm = k (v :: R) tm w' := rfl
theorem q_optP (k : List AV → Tm → W → RC) (v : AV) : optP (some v) k R tm w = k (v :: R) tm w := rfl
theorem q_optK (p : Pa) (k : List AV → Tm → W → RC) (v : AV) : optK p (some v) k R tm w = k R (TR.set .u v p tm) w := rfl

theorem e_r0 (a : AV) : evA (.r 0) (a :: R) tm = a := rfl
theorem e_r1 (a b : AV) : evA (.r 1) (a :: b :: R) tm = b := rfl
theorem e_r2 (a b c : AV) : evA (.r 2) (a :: b :: c :: R) tm = c := rfl
theorem e_r3 (a b c d : AV) : evA (.r 3) (a :: b :: c :: d :: R) tm = d := rfl
theorem e_c (v : AV) : evA (.c v) R tm = v := rfl
theorem e_v (p : Pa) : evA (.v p) R tm = TR.get .u p tm := rfl
theorem e_nil : evL [] R tm = [] := rfl
theorem e_cons (x : OA) (l : List OA) : evL (x :: l) R tm = evA x R tm :: evL l R tm := rfl
end
theorem t_hn (d v : AV) (l r : Tm) : TR.get d .h (.n l v r) = v := rfl
theorem t_ln (d v : AV) (p : Pa) (l r : Tm) : TR.get d (.l p) (.n l v r) = TR.get d p l := rfl
theorem t_rn (d v : AV) (p : Pa) (l r : Tm) : TR.get d (.r p) (.n l v r) = TR.get d p r := rfl
theorem t_e (d : AV) (p : Pa) : TR.get d p .e = d := by cases p <;> rfl
theorem s_hn (d x v : AV) (l r : Tm) : TR.set d x .h (.n l v r) = .n l x r := rfl
theorem s_he (d x : AV) : TR.set d x .h .e = .n .e x .e := rfl
theorem s_ln (d x v : AV) (p : Pa) (l r : Tm) : TR.set d x (.l p) (.n l v r) = .n (TR.set d x p l) v r := rfl
theorem s_le (d x : AV) (p : Pa) : TR.set d x (.l p) .e = .n (TR.set d x p .e) d .e := rfl
theorem s_rn (d x v : AV) (p : Pa) (l r : Tm) : TR.set d x (.r p) (.n l v r) = .n l v (TR.set d x p r) := rfl
theorem s_re (d x : AV) (p : Pa) : TR.set d x (.r p) .e = .n .e d (TR.set d x p .e) := rfl
theorem i_1 (a : AV) : initT [a] 0 .e = .n .e a .e := rfl
theorem i_2 (a b : AV) : initT [a, b] 0 .e = .n (.n .e b .e) a .e := rfl
theorem i_3 (a b c : AV) : initT [a, b, c] 0 .e = .n (.n .e b .e) a (.n .e c .e) := rfl
theorem u_not (t : Bool) : unA .not (.b t) = some (.b (not t)) := rfl
theorem not_t : not true = false := rfl
theorem dsP_lit : dsP = .r (.r (.r (.r (.r (.r (.r (.r (.r .h)))))))) := rfl
theorem end_ret (S : Lv) (tm : Tm) (w : W) (p : Pa) (v : AV) (hv : TR.get .u p tm = v) (hd : TR.get .u dsP tm = .u) : endR S [.t p] .ret tm w = .ok v w := by
  show endF S [.t p] tm w = _
  unfold endF
  rw [hd]
  show RV.ok (TR.get .u p tm) w = _
  rw [hv]

theorem addN_ok {a c : Nat} (h : a + c < 18446744073709551616) : addN 7 a c = some (.n 7 (Nat.add a c)) := by
  unfold addN fit
  have : Nat.ble (lim 7) (Nat.add a c) = false := by
    cases e : Nat.ble (lim 7) (Nat.add a c) with
    | false => rfl
    | true => have := Nat.le_of_ble_eq_true e; have h2 : (18446744073709551616 : Nat) ≤ a + c := this; omega
  rw [this]
theorem b_add {a c : Nat} (h : a + c < 18446744073709551616) : binF .add (.n 7 a) (.n 7 c) = some (.n 7 (Nat.add a c)) := addN_ok h
theorem mulN_ok {a c : Nat} (h : a * c < 18446744073709551616) : mulN 7 a c = some (.n 7 (Nat.mul a c)) := by
  unfold mulN fit
  have : Nat.ble (lim 7) (Nat.mul a c) = false := by
    cases e : Nat.ble (lim 7) (Nat.mul a c) with
    | false => rfl
    | true => have := Nat.le_of_ble_eq_true e; have h2 : (18446744073709551616 : Nat) ≤ a * c := this; omega
  rw [this]
theorem b_mul {a c : Nat} (h : a * c < 18446744073709551616) : binF .mul (.n 7 a) (.n 7 c) = some (.n 7 (Nat.mul a c)) := mulN_ok h
theorem b_sub {a c : Nat} (h : c ≤ a) (h2 : a < 18446744073709551616) : binF .sub (.n 7 a) (.n 7 c) = some (.n 7 (Nat.sub a c)) := by
  show subN 7 a c = _
  unfold subN fit
  have e1 : Nat.ble c a = true := Nat.ble_eq_true_of_le h
  have e2 : Nat.ble (lim 7) (Nat.sub a c) = false := by
    cases e : Nat.ble (lim 7) (Nat.sub a c) with
    | false => rfl
    | true => have := Nat.le_of_ble_eq_true e; have h3 : (18446744073709551616 : Nat) ≤ a - c := this; omega
  rw [e1, e2]
theorem b_rem {a c : Nat} (h : Nat.beq c 0 = false) : binF .rem (.n 7 a) (.n 7 c) = some (.n 7 (Nat.mod a c)) := by
  show remN 7 a c = _
  unfold remN; rw [h]
theorem b_quo {a c : Nat} (h : Nat.beq c 0 = false) (h2 : a < 18446744073709551616) : binF .quo (.n 7 a) (.n 7 c) = some (.n 7 (Nat.div a c)) := by
  show quoN 7 a c = _
  unfold quoN fit
  have e2 : Nat.ble (lim 7) (Nat.div a c) = false := by
    cases e : Nat.ble (lim 7) (Nat.div a c) with
    | false => rfl
    | true => have := Nat.le_of_ble_eq_true e; have h3 : (18446744073709551616 : Nat) ≤ a / c := this; have := Nat.div_le_self a c; omega
  rw [h, e2]
theorem b_eql (a c : Nat) : binF .eql (.n 7 a) (.n 7 c) = some (.b (Nat.beq a c)) := rfl

section
variable {S : Lv} {f p a b : Nat}

theorem red_run (hv : ∀ w, S.call 53 [.n 3 f] w = .ok (.b true) w) (hq : ∀ w, S.call 54 [.n 3 f] w = .ok (.n 7 p) w) (p0 : Nat.beq p 0 = false) (w : W) : bodyK S c187 [.n 3 f, .n 7 a] w = .ok (.n 7 (Nat.mod a p)) w := by
  unfold c187
  rw [q_body _ _ _ rfl]
  simp only [hv, hq, b_rem p0, i_2, q_seq, q_reg, l_mvk, l_nil, q_seqN, l_call, l_bin, e_cons, e_nil, e_v, t_hn, t_ln, s_hn, s_he, s_ln, s_le, s_rn, e_c, q_callP, l_notK, e_r0, u_not, not_t, q_optK, q_cond, q_condF, q_skip, q_optP, q_ret, q_fin]
  exact end_ret _ _ _ _ _ rfl rfl

theorem add_run (hv : ∀ w, S.call 53 [.n 3 f] w = .ok (.b true) w) (hq : ∀ w, S.call 54 [.n 3 f] w = .ok (.n 7 p) w) (p0 : Nat.beq p 0 = false) (hp : p < 1073741824) (w : W) : bodyK S c14 [.n 3 f, .n 7 a, .n 7 b] w = .ok (.n 7 (Nat.mod (Nat.add (Nat.mod a p) (Nat.mod b p)) p)) w := by
  have hp0 : 0 < p := by cases p with | zero => cases p0 | succ p => omega
  have h1 : Nat.mod a p < p := Nat.mod_lt a hp0
  have h2 : Nat.mod b p < p := Nat.mod_lt b hp0
  have hadd := b_add (a := Nat.mod a p) (c := Nat.mod b p) (by omega)
  unfold c14
  rw [q_body _ _ _ rfl]
  simp only [hv, hq, b_rem p0, hadd, i_3, q_seq, q_reg, l_mvk, l_nil, q_seqN, l_call, e_cons, e_nil, e_v, t_hn, t_ln, t_rn, s_hn, s_he, s_ln, s_le, s_rn, e_c, q_callP, l_notK, e_r0, u_not, not_t, q_optK, q_cond, q_condF, q_skip, q_regd, d_call, d_callN, d_bin, q_optP, e_r2, e_r1, d_mvk, d_nil, q_ret, q_fin]
  exact end_ret _ _ _ _ _ rfl rfl

theorem mul_run (hv : ∀ w, S.call 53 [.n 3 f] w = .ok (.b true) w) (hq : ∀ w, S.call 54 [.n 3 f] w = .ok (.n 7 p) w) (p0 : Nat.beq p 0 = false) (hp : p < 1073741824) (w : W) : bodyK S c112 [.n 3 f, .n 7 a, .n 7 b] w = .ok (.n 7 (Nat.mod (Nat.mul (Nat.mod a p) (Nat.mod b p)) p)) w := by
  have hp0 : 0 < p := by cases p with | zero => cases p0 | succ p => omega
  have h1 : Nat.mod a p < p := Nat.mod_lt a hp0
  have h2 : Nat.mod b p < p := Nat.mod_lt b hp0
  have hmul := b_mul (a := Nat.mod a p) (c := Nat.mod b p) (Nat.lt_of_le_of_lt (Nat.mul_le_mul (Nat.le_of_lt (Nat.lt_trans h1 hp)) (Nat.le_of_lt (Nat.lt_trans h2 hp))) (by decide))
  unfold c112
  rw [q_body _ _ _ rfl]
  simp only [hv, hq, b_rem p0, hmul, i_3, q_seq, q_reg, l_mvk, l_nil, q_seqN, l_call, e_cons, e_nil, e_v, t_hn, t_ln, t_rn, s_hn, s_he, s_ln, s_le, s_rn, e_c, q_callP, l_notK, e_r0, u_not, not_t, q_optK, q_cond, q_condF, q_skip, q_regd, d_call, d_callN, d_bin, q_optP, e_r2, e_r1, d_mvk, d_nil, q_ret, q_fin]
  exact end_ret _ _ _ _ _ rfl rfl

theorem sub_run (hv : ∀ w, S.call 53 [.n 3 f] w = .ok (.b true) w) (hq : ∀ w, S.call 54 [.n 3 f] w = .ok (.n 7 p) w) (p0 : Nat.beq p 0 = false) (hp : p < 1073741824) (w : W) : bodyK S c200 [.n 3 f, .n 7 a, .n 7 b] w = .ok (.n 7 (Nat.mod (Nat.sub (Nat.add (Nat.mod a p) p) (Nat.mod b p)) p)) w := by
  have hp0 : 0 < p := by cases p with | zero => cases p0 | succ p => omega
  have h1 : Nat.mod a p < p := Nat.mod_lt a hp0
  have h2 : Nat.mod b p < p := Nat.mod_lt b hp0
  have h3 : Nat.add (Nat.mod a p) p = Nat.mod a p + p := rfl
  have hadd := b_add (a := Nat.mod a p) (c := p) (by omega)
  have hsub := b_sub (a := Nat.add (Nat.mod a p) p) (c := Nat.mod b p) (by omega) (by omega)
  unfold c200
  rw [q_body _ _ _ rfl]
  simp only [hv, hq, b_rem p0, hadd, hsub, i_3, q_seq, q_reg, l_mvk, l_nil, q_seqN, l_call, e_cons, e_nil, e_v, t_hn, t_ln, t_rn, s_hn, s_he, s_ln, s_le, s_rn, e_c, q_callP, l_notK, e_r0, u_not, not_t, q_optK, q_cond, q_condF, q_skip, q_regd, d_call, d_callN, d_bin, q_optP, e_r2, e_r1, d_mvk, d_nil, q_ret, q_fin]
  exact end_ret _ _ _ _ _ rfl rfl

theorem neg_run (hs : ∀ w, S.call 200 [.n 3 f, .n 7 0, .n 7 a] w = .ok (.n 7 b) w) (w : W) : bodyK S c123 [.n 3 f, .n 7 a] w = .ok (.n 7 (b)) w := by
  unfold c123
  rw [q_body _ _ _ rfl]
  simp only [hs, i_2, q_seq, q_reg, l_mvk, l_nil, q_seqN, l_call, e_cons, e_nil, e_v, t_hn, t_ln, s_hn, s_he, s_ln, s_le, s_rn, e_c, q_callP, e_r0, q_ret, q_fin]
  exact end_ret _ _ _ _ _ rfl rfl

theorem div_run {x y : Nat} (hi : ∀ w, S.call 190 [.n 3 f, .n 7 b] w = .ok (.n 7 x) w) (hm : ∀ w, S.call 112 [.n 3 f, .n 7 a, .n 7 x] w = .ok (.n 7 y) w) (w : W) : bodyK S c124 [.n 3 f, .n 7 a, .n 7 b] w = .ok (.n 7 (y)) w := by
  unfold c124
  rw [q_body _ _ _ rfl]
  simp only [hi, hm, i_3, q_seq, q_reg, l_mvk, l_nil, q_seqN, l_call, e_cons, e_nil, e_v, t_hn, t_ln, t_rn, s_hn, s_he, s_rn, e_c, q_callP, e_r0, q_ret, q_fin]
  exact end_ret _ _ _ _ _ rfl rfl

theorem inv_run (hv : ∀ w, S.call 53 [.n 3 f] w = .ok (.b true) w) (hq : ∀ w, S.call 54 [.n 3 f] w = .ok (.n 7 p) w) (hp2 : 2 ≤ p) (hp : p < 1073741824) {x : Nat} (hw : ∀ w, S.call 192 [.n 3 f, .n 7 a, .n 7 (Nat.sub p 2)] w = .ok (.n 7 x) w) (w : W) : bodyK S c190 [.n 3 f, .n 7 a] w = .ok (.n 7 (x)) w := by
  have hsub := b_sub (a := p) (c := 2) hp2 (by omega)
  unfold c190
  rw [q_body _ _ _ rfl]
  simp only [hv, hq, hsub, hw, i_2, q_seq, q_reg, l_mvk, l_nil, q_seqN, l_call, l_bin, e_cons, e_nil, e_v, t_hn, t_ln, s_hn, s_he, s_ln, s_le, s_rn, e_c, q_callP, l_notK, e_r0, u_not, not_t, q_optK, q_cond, q_condF, q_skip, q_optP, q_ret, q_fin]
  exact end_ret _ _ _ _ _ rfl rfl

theorem pow_zero (hv : ∀ w, S.call 53 [.n 3 f] w = .ok (.b true) w) (w : W) : bodyK S c192 [.n 3 f, .n 7 a, .n 7 0] w = .ok (.n 7 (1)) w := by
  have h0 : Nat.beq 0 0 = true := rfl
  unfold c192
  rw [q_body _ _ _ rfl]
  simp only [hv, h0, i_3, q_seq, q_reg, l_mvk, l_nil, q_seqN, q_seqR, l_call, l_bink, e_cons, e_nil, e_v, t_hn, t_ln, t_rn, s_hn, s_he, s_ln, s_rn, s_re, e_c, q_callP, l_notK, e_r0, u_not, not_t, q_optK, q_cond, q_condT, q_condF, q_skip, q_ret, q_fin, b_eql]
  exact end_ret _ _ _ _ _ rfl rfl

theorem pow_even (hv : ∀ w, S.call 53 [.n 3 f] w = .ok (.b true) w) (hn : Nat.beq b 0 = false) (hb : b < 18446744073709551616) {x y : Nat} (hr : ∀ w, S.call 192 [.n 3 f, .n 7 a, .n 7 (Nat.div b 2)] w = .ok (.n 7 x) w) (hm : ∀ w, S.call 112 [.n 3 f, .n 7 x, .n 7 x] w = .ok (.n 7 y) w) (ho : Nat.beq (Nat.mod b 2) 1 = false) (w : W) : bodyK S c192 [.n 3 f, .n 7 a, .n 7 b] w = .ok (.n 7 (y)) w := by
  have hq := b_quo (a := b) (c := 2) rfl hb
  have hr2 : binF .rem (.n 7 b) (.n 7 2) = some (.n 7 (Nat.mod b 2)) := b_rem rfl
  unfold c192
  rw [q_body _ _ _ rfl]
  simp only [hv, hn, hq, hr, hm, ho, hr2, i_3, q_seq, q_reg, l_mvk, l_nil, q_seqN, l_call, l_bin, l_bink, e_cons, e_nil, e_v, t_hn, t_ln, t_rn, s_hn, s_he, s_ln, s_le, s_rn, s_re, e_c, q_callP, l_notK, e_r0, u_not, not_t, q_optK, q_cond, q_condF, q_skip, q_optP, q_ret, q_fin, b_eql]
  exact end_ret _ _ _ _ _ rfl rfl

theorem pow_odd (hv : ∀ w, S.call 53 [.n 3 f] w = .ok (.b true) w) (hn : Nat.beq b 0 = false) (hb : b < 18446744073709551616) {x y : Nat} (hr : ∀ w, S.call 192 [.n 3 f, .n 7 a, .n 7 (Nat.div b 2)] w = .ok (.n 7 x) w) (hm : ∀ w, S.call 112 [.n 3 f, .n 7 x, .n 7 x] w = .ok (.n 7 y) w) {z : Nat} (hz : ∀ w, S.call 112 [.n 3 f, .n 7 y, .n 7 a] w = .ok (.n 7 z) w) (ho : Nat.beq (Nat.mod b 2) 1 = true) (w : W) : bodyK S c192 [.n 3 f, .n 7 a, .n 7 b] w = .ok (.n 7 (z)) w := by
  have hq := b_quo (a := b) (c := 2) rfl hb
  have hr2 : binF .rem (.n 7 b) (.n 7 2) = some (.n 7 (Nat.mod b 2)) := b_rem rfl
  unfold c192
  rw [q_body _ _ _ rfl]
  simp only [hv, hn, hq, hr, hm, ho, hr2, hz, i_3, q_seq, q_reg, l_mvk, l_nil, q_seqN, l_call, l_bin, l_bink, e_cons, e_nil, e_v, t_hn, t_ln, t_rn, s_hn, s_he, s_ln, s_le, s_rn, s_re, e_c, q_callP, l_notK, e_r0, u_not, not_t, q_optK, q_cond, q_condT, q_condF, q_skip, q_optP, q_ret, q_fin, b_eql]
  exact end_ret _ _ _ _ _ rfl rfl

end
end Go.Ev

/-
  The summaries of the scalar functions are right.
-/
namespace Go.Ev

theorem on1_ok {k : AV → RV} {l : List AV} {v : AV} {w : W} (h : on1 k l = .ok v w) : ∃ a, l = [a] ∧ k a = .ok v w := by
  cases l with
  | nil => cases h
  | cons a r => cases r with
    | nil => exact ⟨a, rfl, h⟩
    | cons b r => cases h
theorem on2_ok {k : AV → AV → RV} {l : List AV} {v : AV} {w : W} (h : on2 k l = .ok v w) : ∃ a b, l = [a, b] ∧ k a b = .ok v w := by
  cases l with
  | nil => cases h
  | cons a r => obtain ⟨b, rfl, h2⟩ := on1_ok (k := k a) h; exact ⟨a, b, rfl, h2⟩
theorem on3_ok {k : AV → AV → AV → RV} {l : List AV} {v : AV} {w : W} (h : on3 k l = .ok v w) : ∃ a b c, l = [a, b, c] ∧ k a b c = .ok v w := by
  cases l with
  | nil => cases h
  | cons a r => obtain ⟨b, c, rfl, h2⟩ := on2_ok (k := k a) h; exact ⟨a, b, c, rfl, h2⟩
theorem kN_ok {c : Nat} {k : Nat → RV} {x v : AV} {w : W} (h : kN c k x = .ok v w) : ∃ m, x = .n c m ∧ k m = .ok v w := by
  unfold kN at h
  cases x with
  | n c' m =>
    have h : Bool.rec (motive := fun _ => RV) .no (k m) (Nat.beq c c') = .ok v w := h
    obtain ⟨h1, h2⟩ := boolRV_ok h
    have := Nat.eq_of_beq_eq_true h1
    subst this
    exact ⟨m, rfl, h2⟩
  | _ => cases h
theorem kF_ok {k : Nat → RV} {x v : AV} {w : W} (h : kF k x = .ok v w) : ∃ f, x = .n 3 f ∧ Nat.ble f 3 = true ∧ k f = .ok v w := by
  obtain ⟨f, h1, h2⟩ := kN_ok h
  obtain ⟨h3, h4⟩ := boolRV_ok h2
  exact ⟨f, h1, h3, h4⟩
theorem le3 {f : Nat} (h : Nat.ble f 3 = true) : f = 0 ∨ f = 1 ∨ f = 2 ∨ f = 3 := by
  have := Nat.le_of_ble_eq_true h; omega

theorem pF0 (f : Nat) : Nat.beq (pF f) 0 = false := by unfold pF; cases Nat.beq f 0 <;> cases Nat.beq f 1 <;> cases Nat.beq f 2 <;> rfl
theorem pF30 (f : Nat) : pF f < 1073741824 := by unfold pF; cases Nat.beq f 0 <;> cases Nat.beq f 1 <;> cases Nat.beq f 2 <;> decide
theorem pF2 (f : Nat) : 2 ≤ pF f := by unfold pF; cases Nat.beq f 0 <;> cases Nat.beq f 1 <;> cases Nat.beq f 2 <;> decide

/-! ## Tables -/
theorem TabOk.nil (P : Program) : TabOk P .e := by
  have e : ∀ k, TR.get (.no : FE) (pathOf k) .e = .no := fun k => by cases pathOf k <;> rfl
  refine ⟨fun k f h => ?_, fun k f h => ?_⟩ <;> rw [e] at h <;> cases h
theorem TabOk.set {P : Program} {F : TR FE} (h : TabOk P F) {fid : Nat} {s : List AV → W → RV} (hs : SumOk P fid s) : TabOk P (TR.set .no (.sum s) (pathOf fid) F) :=
  ⟨fun k f hk => by
    rw [TR.get_setN] at hk
    split at hk
    · cases hk
    · exact h.code k f hk, fun k t hk => by
    rw [TR.get_setN] at hk
    split at hk
    · rename_i e; cases hk; exact e ▸ hs
    · exact h.sum k t hk⟩
theorem TabOk.setC {P : Program} {F : TR FE} (h : TabOk P F) {fid : Nat} {c : CF} (hs : CodeIn P fid c) : TabOk P (TR.set .no (.code c) (pathOf fid) F) :=
  ⟨fun k f hk => by
    rw [TR.get_setN] at hk
    split at hk
    · rename_i e; cases hk; exact e ▸ hs
    · exact h.code k f hk, fun k t hk => by
    rw [TR.get_setN] at hk
    split at hk
    · cases hk
    · exact h.sum k t hk⟩
theorem call_sum {F : TR FE} {n fid : Nat} {s : List AV → W → RV} (h : TR.get .no (pathOf fid) F = .sum s) (args : List AV) (w : W) : (semN F (n + 1)).call fid args w = s args w := by
  show FE.rec (motive := fun _ => RV) .no (fun f => bodyK (semN F n) f args w) (fun s => s args w) (TR.get .no (pathOf fid) F) = _
  rw [h]
theorem call_code {F : TR FE} {n fid : Nat} {c : CF} (h : TR.get .no (pathOf fid) F = .code c) (args : List AV) (w : W) : (semN F (n + 1)).call fid args w = bodyK (semN F n) c args w := by
  show FE.rec (motive := fun _ => RV) .no (fun f => bodyK (semN F n) f args w) (fun s => s args w) (TR.get .no (pathOf fid) F) = _
  rw [h]

/-- a summary from a function's code -/
theorem SumOk.of_body {P : Program} (hm : P.follows .mixedOrders = true) {fid : Nat} {c : CF} (hc : CodeIn P fid c) {S : Lv} (hS : LvOk P S) {s : List AV → W → RV} (h : ∀ args w v w', s args w = .ok v w' → bodyK S c args w = .ok v w') : SumOk P fid s :=
  fun args w v w' e hwf => bodyK_sound hm hS hc args w v w' (h args w v w' e) hwf

noncomputable section

structure Codes (P : Program) : Prop where
  i53 : CodeIn P 53 c53
  i54 : CodeIn P 54 c54
  i92 : CodeIn P 92 c92
  i175 : CodeIn P 175 c175
  i302 : CodeIn P 302 c302
  i187 : CodeIn P 187 c187
  i14 : CodeIn P 14 c14
  i200 : CodeIn P 200 c200
  i112 : CodeIn P 112 c112
  i123 : CodeIn P 123 c123
  i192 : CodeIn P 192 c192
  i190 : CodeIn P 190 c190
  i124 : CodeIn P 124 c124
  i201 : CodeIn P 201 c201
  i301 : CodeIn P 301 c301
  i303 : CodeIn P 303 c303

section
variable {P : Program} (hm : P.follows .mixedOrders = true) (hC : Codes P)
include hm hC

theorem vSum_ok : SumOk P 53 vSum := by
  refine .of_body hm hC.i53 (semN_sound hm (.nil P) 0) fun args w v w' e => ?_
  obtain ⟨a, rfl, e1⟩ := on1_ok e
  obtain ⟨f, rfl, hf, e2⟩ := kF_ok e1
  cases e2
  rcases le3 hf with rfl | rfl | rfl | rfl <;> kernel_rfl
theorem pSum_ok : SumOk P 54 pSum := by
  refine .of_body hm hC.i54 (semN_sound hm (.nil P) 0) fun args w v w' e => ?_
  obtain ⟨a, rfl, e1⟩ := on1_ok e
  obtain ⟨f, rfl, hf, e2⟩ := kF_ok e1
  cases e2
  rcases le3 hf with rfl | rfl | rfl | rfl <;> kernel_rfl
theorem gSum_ok : SumOk P 92 gSum := by
  refine .of_body hm hC.i92 (semN_sound hm (.nil P) 0) fun args w v w' e => ?_
  obtain ⟨a, rfl, e1⟩ := on1_ok e
  obtain ⟨f, rfl, hf, e2⟩ := kF_ok e1
  cases e2
  rcases le3 hf with rfl | rfl | rfl | rfl <;> kernel_rfl
theorem tSum_ok : SumOk P 175 tSum := by
  refine .of_body hm hC.i175 (semN_sound hm (.nil P) 0) fun args w v w' e => ?_
  obtain ⟨a, rfl, e1⟩ := on1_ok e
  obtain ⟨f, rfl, hf, e2⟩ := kF_ok e1
  cases e2
  rcases le3 hf with rfl | rfl | rfl | rfl <;> kernel_rfl
theorem eSum_ok : SumOk P 302 eSum := by
  refine .of_body hm hC.i302 (semN_sound hm (.nil P) 0) fun args w v w' e => ?_
  obtain ⟨a, rfl, e1⟩ := on1_ok e
  obtain ⟨f, rfl, hf, e2⟩ := kF_ok e1
  cases e2
  rcases le3 hf with rfl | rfl | rfl | rfl <;> kernel_rfl

omit hm hC in
/-- validity and the prime -/
def T1 : TR FE := TR.set .no (.sum vSum) (pathOf 53) (TR.set .no (.sum pSum) (pathOf 54) .e)
theorem T1_ok : TabOk P T1 := ((TabOk.nil P).set (pSum_ok hm hC)).set (vSum_ok hm hC)
omit hm hC in
theorem c_v {F : TR FE} {n : Nat} (h : TR.get .no (pathOf 53) F = .sum vSum) {f : Nat} (hf : Nat.ble f 3 = true) (w : W) : (semN F (n + 1)).call 53 [.n 3 f] w = .ok (.b true) w := by
  rw [call_sum h]
  show Bool.rec (motive := fun _ => RV) .no (.ok (.b true) w) (Nat.ble f 3) = _
  rw [hf]
omit hm hC in
theorem c_p {F : TR FE} {n : Nat} (h : TR.get .no (pathOf 54) F = .sum pSum) {f : Nat} (hf : Nat.ble f 3 = true) (w : W) : (semN F (n + 1)).call 54 [.n 3 f] w = .ok (.n 7 (pF f)) w := by
  rw [call_sum h]
  show Bool.rec (motive := fun _ => RV) .no (.ok (.n 7 (pF f)) w) (Nat.ble f 3) = _
  rw [hf]

theorem redSum_ok : SumOk P 187 redSum := by
  refine .of_body hm hC.i187 (semN_sound hm (T1_ok hm hC) 1) fun args w v w' e => ?_
  obtain ⟨a, b, rfl, e1⟩ := on2_ok e
  obtain ⟨f, rfl, hf, e2⟩ := kF_ok e1
  obtain ⟨x, rfl, e3⟩ := kN_ok e2
  cases e3
  exact red_run (c_v rfl hf) (c_p rfl hf) (pF0 f) w
theorem addSum_ok : SumOk P 14 addSum := by
  refine .of_body hm hC.i14 (semN_sound hm (T1_ok hm hC) 1) fun args w v w' e => ?_
  obtain ⟨a, b, c, rfl, e1⟩ := on3_ok e
  obtain ⟨f, rfl, hf, e2⟩ := kF_ok e1
  obtain ⟨x, rfl, e3⟩ := kN_ok e2
  obtain ⟨y, rfl, e4⟩ := kN_ok e3
  cases e4
  exact add_run (c_v rfl hf) (c_p rfl hf) (pF0 f) (pF30 f) w
theorem subSum_ok : SumOk P 200 subSum := by
  refine .of_body hm hC.i200 (semN_sound hm (T1_ok hm hC) 1) fun args w v w' e => ?_
  obtain ⟨a, b, c, rfl, e1⟩ := on3_ok e
  obtain ⟨f, rfl, hf, e2⟩ := kF_ok e1
  obtain ⟨x, rfl, e3⟩ := kN_ok e2
  obtain ⟨y, rfl, e4⟩ := kN_ok e3
  cases e4
  exact sub_run (c_v rfl hf) (c_p rfl hf) (pF0 f) (pF30 f) w
theorem mulSum_ok : SumOk P 112 mulSum := by
  refine .of_body hm hC.i112 (semN_sound hm (T1_ok hm hC) 1) fun args w v w' e => ?_
  obtain ⟨a, b, c, rfl, e1⟩ := on3_ok e
  obtain ⟨f, rfl, hf, e2⟩ := kF_ok e1
  obtain ⟨x, rfl, e3⟩ := kN_ok e2
  obtain ⟨y, rfl, e4⟩ := kN_ok e3
  cases e4
  exact mul_run (c_v rfl hf) (c_p rfl hf) (pF0 f) (pF30 f) w

omit hm hC in
theorem c_3 {F : TR FE} {n fid : Nat} {g : Nat → Nat → Nat → Nat} (h : TR.get .no (pathOf fid) F = .sum (fun l w => on3 (fun x a b => kF (fun f => kN 7 (fun a => kN 7 (fun b => .ok (.n 7 (g f a b)) w) b) a) x) l)) {f : Nat} (hf : Nat.ble f 3 = true) (a b : Nat) (w : W) :
    (semN F (n + 1)).call fid [.n 3 f, .n 7 a, .n 7 b] w = .ok (.n 7 (g f a b)) w := by
  rw [call_sum h]
  show Bool.rec (motive := fun _ => RV) .no (.ok (.n 7 (g f a b)) w) (Nat.ble f 3) = _
  rw [hf]

theorem negSum_ok : SumOk P 123 negSum := by
  have hT : TabOk P (TR.set .no (.sum subSum) (pathOf 200) .e) := (TabOk.nil P).set (subSum_ok hm hC)
  refine .of_body hm hC.i123 (semN_sound hm hT 1) fun args w v w' e => ?_
  obtain ⟨a, b, rfl, e1⟩ := on2_ok e
  obtain ⟨f, rfl, hf, e2⟩ := kF_ok e1
  obtain ⟨x, rfl, e3⟩ := kN_ok e2
  cases e3
  exact neg_run (c_3 (g := subF) rfl hf 0 x) w

omit hm hC in
/-- powers -/
def Tp : TR FE := TR.set .no (.code c192) (pathOf 192) (TR.set .no (.sum mulSum) (pathOf 112) (TR.set .no (.sum vSum) (pathOf 53) .e))
theorem Tp_ok : TabOk P Tp := (((TabOk.nil P).set (vSum_ok hm hC)).set (mulSum_ok hm hC)).setC hC.i192

omit hm hC in
theorem pow_all {f a : Nat} (hf : Nat.ble f 3 = true) : ∀ (k n : Nat), n < 2 ^ k → k ≤ 63 → ∀ w, bodyK (semN Tp (k + 1)) c192 [.n 3 f, .n 7 a, .n 7 n] w = .ok (.n 7 (powK f a k n)) w := by
  intro k
  induction k with
  | zero =>
    intro n hn _ w
    have : n = 0 := by simpa using hn
    subst this
    exact pow_zero (c_v rfl hf) w
  | succ k ih =>
    intro n hn hk w
    have e : powK f a (k + 1) n = Bool.rec (Bool.rec (mulF f (powK f a k (Nat.div n 2)) (powK f a k (Nat.div n 2))) (mulF f (mulF f (powK f a k (Nat.div n 2)) (powK f a k (Nat.div n 2))) a) (Nat.beq (Nat.mod n 2) 1)) 1 (Nat.beq n 0) := rfl
    rw [e]
    cases h0 : Nat.beq n 0 with
    | true =>
      have := Nat.eq_of_beq_eq_true h0
      subst this
      exact pow_zero (c_v rfl hf) w
    | false =>
      have hd : Nat.div n 2 < 2 ^ k := by
        have : n / 2 < 2 ^ k := by rw [Nat.pow_succ] at hn; omega
        exact this
      have hb : n < 18446744073709551616 := Nat.lt_of_lt_of_le hn (Nat.le_trans (Nat.pow_le_pow_right (by decide) (Nat.le_succ_of_le hk)) (by decide))
      have hr : ∀ w, (semN Tp (k + 1 + 1)).call 192 [.n 3 f, .n 7 a, .n 7 (Nat.div n 2)] w = .ok (.n 7 (powK f a k (Nat.div n 2))) w := fun w => by
        rw [call_code (c := c192) rfl]
        exact ih _ hd (by omega) w
      cases ho : Nat.beq (Nat.mod n 2) 1 with
      | false => exact pow_even (c_v rfl hf) h0 hb hr (c_3 (g := mulF) rfl hf _ _) ho w
      | true => exact pow_odd (c_v rfl hf) h0 hb hr (c_3 (g := mulF) rfl hf _ _) (c_3 (g := mulF) rfl hf _ _) ho w

theorem powSum_ok : SumOk P 192 powSum := by
  refine .of_body hm hC.i192 (semN_sound hm (Tp_ok hm hC) 33) fun args w v w' e => ?_
  obtain ⟨a, b, c, rfl, e1⟩ := on3_ok e
  obtain ⟨f, rfl, hf, e2⟩ := kF_ok e1
  obtain ⟨x, rfl, e3⟩ := kN_ok e2
  obtain ⟨y, rfl, e4⟩ := kN_ok e3
  have e : Bool.rec (motive := fun _ => RV) (.ok (.n 7 (powF f x y)) w) .no (Nat.ble 4294967296 y) = .ok v w' := e4
  cases hy : Nat.ble 4294967296 y with
  | true => rw [hy] at e; cases e
  | false =>
    rw [hy] at e
    cases e
    have hlt : y < 2 ^ 32 := by
      have : ¬ 4294967296 ≤ y := fun h => by rw [Nat.ble_eq_true_of_le h] at hy; cases hy
      omega
    exact pow_all hf 32 y hlt (by decide) w

omit hm hC in
/-- inverses, quotients -/
def Ti : TR FE := TR.set .no (.sum powSum) (pathOf 192) T1
theorem Ti_ok : TabOk P Ti := (T1_ok hm hC).set (powSum_ok hm hC)
theorem invSum_ok : SumOk P 190 invSum := by
  refine .of_body hm hC.i190 (semN_sound hm (Ti_ok hm hC) 1) fun args w v w' e => ?_
  obtain ⟨a, b, rfl, e1⟩ := on2_ok e
  obtain ⟨f, rfl, hf, e2⟩ := kF_ok e1
  obtain ⟨x, rfl, e3⟩ := kN_ok e2
  cases e3
  refine inv_run (c_v rfl hf) (c_p rfl hf) (pF2 f) (pF30 f) (fun w => ?_) w
  rw [call_sum (s := powSum) rfl]
  show Bool.rec (motive := fun _ => RV) .no (Bool.rec (motive := fun _ => RV) (.ok (.n 7 (powF f x (Nat.sub (pF f) 2))) w) .no (Nat.ble 4294967296 (Nat.sub (pF f) 2))) (Nat.ble f 3) = _
  have : Nat.ble 4294967296 (Nat.sub (pF f) 2) = false := by
    cases h : Nat.ble 4294967296 (Nat.sub (pF f) 2) with
    | false => rfl
    | true =>
      have h1 := Nat.le_of_ble_eq_true h
      have h2 := pF30 f
      have h3 : 4294967296 ≤ pF f - 2 := h1
      omega
  rw [hf, this]
theorem divSum_ok : SumOk P 124 divSum := by
  have hT : TabOk P (TR.set .no (.sum mulSum) (pathOf 112) (TR.set .no (.sum invSum) (pathOf 190) .e)) := ((TabOk.nil P).set (invSum_ok hm hC)).set (mulSum_ok hm hC)
  refine .of_body hm hC.i124 (semN_sound hm hT 1) fun args w v w' e => ?_
  obtain ⟨a, b, c, rfl, e1⟩ := on3_ok e
  obtain ⟨f, rfl, hf, e2⟩ := kF_ok e1
  obtain ⟨x, rfl, e3⟩ := kN_ok e2
  obtain ⟨y, rfl, e4⟩ := kN_ok e3
  cases e4
  refine div_run (x := powF f y (Nat.sub (pF f) 2)) (fun w => ?_) (c_3 (g := mulF) rfl hf _ _) w
  rw [call_sum (s := invSum) rfl]
  show Bool.rec (motive := fun _ => RV) .no (.ok (.n 7 (powF f y (Nat.sub (pF f) 2))) w) (Nat.ble f 3) = _
  rw [hf]

end
end
end Go.Ev

/-
  A round of the permutation: its summary.
-/
namespace Go.Ev

/-- a call that asks for no object and gives none: computed from nothing, it stands anywhere -/
theorem pure_ok {P : Program} (hG : P.globals.size ≤ roN) {fid : Nat} {s : List AV → W → RV} (hs : SumOk P fid s) {args : List AV} {v : AV} {w1 : W} (hr : s args (mkW [] 4 []) = .ok v w1) (hno : noId v = true) (hiA : idsLt 4 (.tup args) = true) (w : W) :
    Chg P w w ∧ Enters P fid ∧ ∀ (N0 : Nat) (ι : Io) (n : Dom) (ω : World) (vs : Array Value), Rel P N0 ι w.mem n ω → n.free w.nx w.nx → VRs ι n args vs.toList →
      CallsIn Fence.wide 0 P fid vs ω (CallPost P N0 ι n w ω v w) := by
  have hlt : ∀ id cs, obL [] id = some cs → id < 4 := fun id cs h => by cases h
  obtain ⟨c1, ent, p1⟩ := hs _ _ _ _ hr (mkW_wf P hlt [])
  have hno0 : ∀ id, (mkW [] 4 []).mem.sh id = .no := fun id => by simp only [W.mem, mkW_ob, obL, shOf]
  refine ⟨.refl _, ent, fun N0 ι n ω vs hR hf hvs => ?_⟩
  have hvs0 : VRs ι (below n 4) args vs.toList := by
    have := idsLt_vr (ι := ι) (n := n) (.tup args) hiA (.tuple vs) (.tup _ _ hvs)
    cases this; assumption
  have hsub : Sub (mkW [] 4 []).mem w.mem := ⟨fun id h => absurd (hno0 id) h, fun id _ h => absurd (hno0 id) h⟩
  refine (p1 N0 ι (below n 4) ω vs (Rel.below hG (Nat.le_refl _) (hR.sub hsub) hlt rfl) (fun id g1 _ g3 => ?_) hvs0).mono ?_
  · have g1 : 4 ≤ id := g1
    have := g3.2; omega
  rintro e ω' ⟨v', ι', rfl, q1, q2, q3⟩
  have hheap : ∀ b, b < ω.heap.size → ω'.heap[b]? = ω.heap[b]? := fun b hb => q3.frame b hb fun id h => absurd (hno0 id) h
  refine ⟨v', ι, rfl, ?_, ?_, ?_⟩
  · rw [Dom.upto_self]; exact noId_vr v hno v' q1
  · rw [Dom.upto_self]
    exact
    { ro := hR.ro
      lt := hR.lt
      inj := hR.inj
      own := hR.own
      size := fun id hid => Nat.lt_of_lt_of_le (hR.size id hid) q3.size
      ob := fun id hid => by rw [hheap _ (hR.size id hid)]; exact hR.ob id hid
      glob := hR.glob
      base := Nat.le_trans hR.base q3.size }
  · rw [Dom.upto_self]
    exact
    { ext := .refl _ _
      le := .refl _
      size := q3.size
      frame := fun b hb _ => hheap b hb
      own := fun id hid hr _ => ⟨id, hid, hr, rfl⟩
      os := q3.os
      tape := q3.tape
      output := q3.output }

noncomputable section
/-- the value alone -/
def okV (r : RV) : Option AV := RV.rec (motive := fun _ => Option AV) none (fun v _ => some v) r
theorem okV_ok {r : RV} {v : AV} (h : okV r = some v) : ∃ w, r = .ok v w := by
  cases r with
  | no => cases h
  | ok v' w => cases h; exact ⟨w, rfl⟩

/-- what a round calls -/
def Tr : TR FE := TR.set .no (.sum vSum) (pathOf 53) (TR.set .no (.sum pSum) (pathOf 54) (TR.set .no (.sum gSum) (pathOf 92) (TR.set .no (.sum eSum) (pathOf 302) (TR.set .no (.sum addSum) (pathOf 14) (TR.set .no (.sum mulSum) (pathOf 112)
  (TR.set .no (.sum powSum) (pathOf 192) (TR.set .no (.code c301) (pathOf 301) (TR.set .no (.code c303) (pathOf 303) .e))))))))

theorem kS_ok {k : Nat → Nat → Nat → Nat → RV} {x v : AV} {w : W} (h : kS .no k x = .ok v w) : ∃ a b c d, x = .agg [.n 7 a, .n 7 b, .n 7 c, .n 7 d] ∧ k a b c d = .ok v w := by
  unfold kS at h
  split at h
  · exact ⟨_, _, _, _, rfl, h⟩
  · cases h

theorem rnd_0 (a b c d : Nat) : okV (bodyK (semN Tr 3) c201 [.n 3 3, .n 3 0, .agg [.n 7 a, .n 7 b, .n 7 c, .n 7 d]] (mkW [] 4 [])) = some (rndV 0 a b c d) := by kernel_rfl

theorem rnd_1 (a b c d : Nat) : okV (bodyK (semN Tr 3) c201 [.n 3 3, .n 3 1, .agg [.n 7 a, .n 7 b, .n 7 c, .n 7 d]] (mkW [] 4 [])) = some (rndV 1 a b c d) := by kernel_rfl
theorem rnd_2 (a b c d : Nat) : okV (bodyK (semN Tr 3) c201 [.n 3 3, .n 3 2, .agg [.n 7 a, .n 7 b, .n 7 c, .n 7 d]] (mkW [] 4 [])) = some (rndV 2 a b c d) := by kernel_rfl
theorem rnd_3 (a b c d : Nat) : okV (bodyK (semN Tr 3) c201 [.n 3 3, .n 3 3, .agg [.n 7 a, .n 7 b, .n 7 c, .n 7 d]] (mkW [] 4 [])) = some (rndV 3 a b c d) := by kernel_rfl
theorem rnd_4 (a b c d : Nat) : okV (bodyK (semN Tr 3) c201 [.n 3 3, .n 3 4, .agg [.n 7 a, .n 7 b, .n 7 c, .n 7 d]] (mkW [] 4 [])) = some (rndV 4 a b c d) := by kernel_rfl
theorem rnd_5 (a b c d : Nat) : okV (bodyK (semN Tr 3) c201 [.n 3 3, .n 3 5, .agg [.n 7 a, .n 7 b, .n 7 c, .n 7 d]] (mkW [] 4 [])) = some (rndV 5 a b c d) := by kernel_rfl
theorem rnd_6 (a b c d : Nat) : okV (bodyK (semN Tr 3) c201 [.n 3 3, .n 3 6, .agg [.n 7 a, .n 7 b, .n 7 c, .n 7 d]] (mkW [] 4 [])) = some (rndV 6 a b c d) := by kernel_rfl
theorem rnd_7 (a b c d : Nat) : okV (bodyK (semN Tr 3) c201 [.n 3 3, .n 3 7, .agg [.n 7 a, .n 7 b, .n 7 c, .n 7 d]] (mkW [] 4 [])) = some (rndV 7 a b c d) := by kernel_rfl

theorem rndSum_ok {P : Program} (hm : P.follows .mixedOrders = true) (hC : Codes P) (hG : P.globals.size ≤ roN) : SumOk P 201 rndSum := by
  intro args w v w' e hwf
  obtain ⟨x, y, s, rfl, e1⟩ := on3_ok e
  obtain ⟨f, rfl, e2⟩ := kN_ok e1
  obtain ⟨hf, e3⟩ := boolRV_ok e2
  have hf := Nat.eq_of_beq_eq_true hf
  subst hf
  obtain ⟨r, rfl, e4⟩ := kN_ok e3
  obtain ⟨hr, e5⟩ := boolRV_ok e4
  have hr := Nat.le_of_ble_eq_true hr
  obtain ⟨a, b, c, d, rfl, e6⟩ := kS_ok e5
  cases e6
  have hT : TabOk P Tr := (((((((((TabOk.nil P).setC hC.i303).setC hC.i301).set (powSum_ok hm hC)).set (mulSum_ok hm hC)).set (addSum_ok hm hC)).set (eSum_ok hm hC)).set (gSum_ok hm hC)).set (pSum_ok hm hC)).set (vSum_ok hm hC)
  have hS : SumOk P 201 (bodyK (semN Tr 3) c201) := bodyK_sound hm (semN_sound hm hT 3) hC.i201
  have key : okV (bodyK (semN Tr 3) c201 [.n 3 3, .n 3 r, .agg [.n 7 a, .n 7 b, .n 7 c, .n 7 d]] (mkW [] 4 [])) = some (rndV r a b c d) := by
    have : r = 0 ∨ r = 1 ∨ r = 2 ∨ r = 3 ∨ r = 4 ∨ r = 5 ∨ r = 6 ∨ r = 7 := by omega
    rcases this with rfl | rfl | rfl | rfl | rfl | rfl | rfl | rfl
    · exact rnd_0 a b c d
    · exact rnd_1 a b c d
    · exact rnd_2 a b c d
    · exact rnd_3 a b c d
    · exact rnd_4 a b c d
    · exact rnd_5 a b c d
    · exact rnd_6 a b c d
    · exact rnd_7 a b c d
  obtain ⟨w1, h1⟩ := okV_ok key
  exact pure_ok hG hS h1 rfl rfl w

end
end Go.Ev
