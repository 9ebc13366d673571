/-
  The table is right.
-/
import Derived.Test.YtcmlfnkmpgdacabGreatDoorEvSums
import Derived.Test.YtcmlfnkmpgdacabGreatDoorEvMade0
import Derived.Test.YtcmlfnkmpgdacabGreatDoorEvMade1
import Derived.Test.YtcmlfnkmpgdacabGreatDoorEvMade2
import Derived.Test.YtcmlfnkmpgdacabGreatDoorEvMade3
namespace Go.Ev
set_option maxRecDepth 100000

theorem pathOf_odd (q : Nat) : pathOf (2 * q + 1) = .l (pathOf q) := by
  show (Bool.rec (Bool.rec (.r (pathF (2 * q) (Nat.sub (Nat.div (2 * q + 1) 2) 1))) (.l (pathF (2 * q) (Nat.div (2 * q + 1) 2))) (Nat.beq (Nat.mod (2 * q + 1) 2) 1)) .h (Nat.beq (2 * q + 1) 0) : Pa) = _
  have e1 : Nat.beq (2 * q + 1) 0 = false := rfl
  have e2 : Nat.mod (2 * q + 1) 2 = 1 := by have : (2 * q + 1) % 2 = 1 := by omega
                                            exact this
  have e3 : Nat.div (2 * q + 1) 2 = q := by have : (2 * q + 1) / 2 = q := by omega
                                            exact this
  rw [e1, e2, e3]
  show Pa.l (pathF (2 * q) q) = .l (pathF q q)
  rw [pathF_fuel (2 * q) q q (Nat.lt_of_lt_of_le Nat.lt_two_pow_self (Nat.pow_le_pow_right (by decide) (by omega))) Nat.lt_two_pow_self]
theorem pathOf_even (q : Nat) : pathOf (2 * q + 2) = .r (pathOf q) := by
  show (Bool.rec (Bool.rec (.r (pathF (2 * q + 1) (Nat.sub (Nat.div (2 * q + 2) 2) 1))) (.l (pathF (2 * q + 1) (Nat.div (2 * q + 2) 2))) (Nat.beq (Nat.mod (2 * q + 2) 2) 1)) .h (Nat.beq (2 * q + 2) 0) : Pa) = _
  have e1 : Nat.beq (2 * q + 2) 0 = false := rfl
  have e2 : Nat.mod (2 * q + 2) 2 = 0 := by have : (2 * q + 2) % 2 = 0 := by omega
                                            exact this
  have e3 : Nat.div (2 * q + 2) 2 = q + 1 := by have : (2 * q + 2) / 2 = q + 1 := by omega
                                                exact this
  have e4 : Nat.sub (q + 1) 1 = q := rfl
  rw [e1, e2, e3, e4]
  show Pa.r (pathF (2 * q + 1) q) = .r (pathF q q)
  rw [pathF_fuel (2 * q + 1) q q (Nat.lt_of_lt_of_le Nat.lt_two_pow_self (Nat.pow_le_pow_right (by decide) (by omega))) Nat.lt_two_pow_self]

/-- an entry is right -/
inductive EntOk (P : Program) (fid : Nat) : FE → Prop
  | no : EntOk P fid .no
  | code {c : CF} : CodeIn P fid c → EntOk P fid (.code c)
  | sum {s : List AV → W → RV} : SumOk P fid s → EntOk P fid (.sum s)
/-- a tree's entries are right; its k-th one is the function a * k + b's -/
inductive AllAt (P : Program) : Nat → Nat → TR FE → Prop
  | e {a b : Nat} : AllAt P a b .e
  | n {a b : Nat} {l r : TR FE} {v : FE} : EntOk P b v → AllAt P (2 * a) (a + b) l → AllAt P (2 * a) (2 * a + b) r → AllAt P a b (.n l v r)

theorem AllAt.get {P : Program} {a b : Nat} {t : TR FE} (h : AllAt P a b t) : ∀ q, EntOk P (a * q + b) (TR.get .no (pathOf q) t) := by
  induction h with
  | e => intro q; rw [show TR.get (.no : FE) (pathOf q) .e = .no from by cases pathOf q <;> rfl]; exact .no
  | @n a b l r v h1 _ _ ihl ihr =>
    intro q
    rcases Nat.lt_or_ge 0 q with hq | hq
    · rcases Nat.mod_two_eq_zero_or_one q with e | e
      · obtain ⟨k, rfl⟩ : ∃ k, q = 2 * k + 2 := ⟨q / 2 - 1, by omega⟩
        rw [pathOf_even]
        have := ihr k
        rw [show 2 * a * k + (2 * a + b) = a * (2 * k + 2) + b by rw [Nat.mul_add, ← Nat.mul_assoc, Nat.mul_comm a 2, Nat.add_assoc]] at this
        exact this
      · obtain ⟨k, rfl⟩ : ∃ k, q = 2 * k + 1 := ⟨q / 2, by omega⟩
        rw [pathOf_odd]
        have := ihl k
        rw [show 2 * a * k + (a + b) = a * (2 * k + 1) + b by rw [Nat.mul_add, ← Nat.mul_assoc, Nat.mul_comm a 2, Nat.mul_one, Nat.add_assoc]] at this
        exact this
    · have : q = 0 := by omega
      subst this
      show EntOk P (a * 0 + b) v
      rw [Nat.mul_zero, Nat.zero_add]; exact h1
theorem AllAt.tab {P : Program} {t : TR FE} (h : AllAt P 1 0 t) : TabOk P t := by
  have key := fun k => by have := h.get k; rw [Nat.one_mul, Nat.add_zero] at this; exact this
  refine ⟨fun k f e => ?_, fun k s e => ?_⟩
  · have := key k
    rw [e] at this
    cases this with | code h => exact h
  · have := key k
    rw [e] at this
    cases this with | sum h => exact h

theorem codes : Codes Go.Proofs.Tryz.prog where
  i53 := in53
  i54 := in54
  i92 := in92
  i175 := in175
  i302 := in302
  i187 := in187
  i14 := in14
  i200 := in200
  i112 := in112
  i123 := in123
  i192 := in192
  i190 := in190
  i124 := in124
  i201 := in201
  i301 := in301
  i303 := in303

theorem F0_ok (hm : Go.Proofs.Tryz.prog.follows .mixedOrders = true) (hG : Go.Proofs.Tryz.prog.globals.size ≤ roN) : TabOk Go.Proofs.Tryz.prog F0 :=
  have hC := codes
  AllAt.tab (show AllAt Go.Proofs.Tryz.prog 1 0 F0 from
 (.n .no
 (.n .no
 (.n .no
 (.n (.code in7)
 (.n .no
 (.n (.code in31)
 (.n (.code in63)
 (.n (.code in127)
 (.n (.code in255)
 .e .e) (.n .no
 .e .e)) (.n (.code in191)
 (.n (.code in319)
 .e .e) .e)) (.n (.code in95)
 (.n (.code in159)
 (.n (.code in287)
 .e .e) .e) (.n .no
 (.n (.code in351)
 .e .e) .e))) (.n (.code in47)
 (.n (.code in79)
 (.n (.code in143)
 (.n (.code in271)
 .e .e) (.n .no
 .e .e)) (.n (.code in207)
 (.n (.code in335)
 .e .e) .e)) (.n (.code in111)
 (.n (.sum (tSum_ok hm hC))
 (.n (.code in303)
 .e .e) .e) (.n (.code in239)
 (.n .no
 .e .e) .e)))) (.n (.code in23)
 (.n (.code in39)
 (.n (.code in71)
 (.n (.code in135)
 (.n (.code in263)
 .e .e) (.n .no
 .e .e)) (.n .no
 (.n (.code in327)
 .e .e) .e)) (.n (.code in103)
 (.n (.code in167)
 (.n (.code in295)
 .e .e) .e) (.n (.code in231)
 (.n (.code in359)
 .e .e) .e))) (.n .no
 (.n (.code in87)
 (.n (.code in151)
 (.n (.code in279)
 .e .e) .e) (.n .no
 (.n (.code in343)
 .e .e) .e)) (.n .no
 (.n .no
 (.n (.code in311)
 .e .e) .e) (.n (.code in247)
 (.n (.code in375)
 .e .e) .e))))) (.n (.code in11)
 (.n (.code in19)
 (.n (.code in35)
 (.n (.code in67)
 (.n .no
 (.n (.code in259)
 .e .e) (.n .no
 .e .e)) (.n (.code in195)
 (.n (.code in323)
 .e .e) .e)) (.n (.code in99)
 (.n (.code in163)
 (.n (.code in291)
 .e .e) .e) (.n .no
 (.n (.code in355)
 .e .e) .e))) (.n .no
 (.n (.code in83)
 (.n (.code in147)
 (.n (.code in275)
 .e .e) .e) (.n .no
 (.n (.code in339)
 .e .e) .e)) (.n .no
 (.n .no
 (.n (.code in307)
 .e .e) .e) (.n (.code in243)
 (.n .no
 .e .e) .e)))) (.n (.code in27)
 (.n (.code in43)
 (.n (.code in75)
 (.n (.code in139)
 (.n (.code in267)
 .e .e) (.n .no
 .e .e)) (.n (.code in203)
 (.n (.code in331)
 .e .e) .e)) (.n (.code in107)
 (.n (.code in171)
 (.n (.code in299)
 .e .e) .e) (.n (.code in235)
 (.n (.code in363)
 .e .e) .e))) (.n .no
 (.n (.code in91)
 (.n (.code in155)
 (.n .no
 .e .e) .e) (.n .no
 (.n .no
 .e .e) .e)) (.n (.sum (negSum_ok hm hC))
 (.n (.sum (redSum_ok hm hC))
 (.n (.code in315)
 .e .e) .e) (.n .no
 (.n .no
 .e .e) .e)))))) (.n .no
 (.n (.code in9)
 (.n .no
 (.n (.code in33)
 (.n (.code in65)
 (.n .no
 (.n .no
 .e .e) (.n .no
 .e .e)) (.n (.code in193)
 (.n (.code in321)
 .e .e) .e)) (.n (.code in97)
 (.n (.code in161)
 (.n (.code in289)
 .e .e) .e) (.n .no
 (.n (.code in353)
 .e .e) .e))) (.n (.code in49)
 (.n (.code in81)
 (.n (.code in145)
 (.n (.code in273)
 .e .e) (.n .no
 .e .e)) (.n (.code in209)
 (.n (.code in337)
 .e .e) .e)) (.n (.code in113)
 (.n (.code in177)
 (.n .no
 .e .e) .e) (.n (.code in241)
 (.n (.code in369)
 .e .e) .e)))) (.n (.code in25)
 (.n (.code in41)
 (.n (.code in73)
 (.n (.code in137)
 (.n (.code in265)
 .e .e) (.n .no
 .e .e)) (.n (.sum (rndSum_ok hm hC hG))
 (.n (.code in329)
 .e .e) .e)) (.n (.code in105)
 (.n (.code in169)
 (.n (.code in297)
 .e .e) .e) (.n (.code in233)
 (.n (.code in361)
 .e .e) .e))) (.n (.code in57)
 (.n (.code in89)
 (.n (.code in153)
 (.n (.code in281)
 .e .e) .e) (.n .no
 (.n .no
 .e .e) .e)) (.n .no
 (.n .no
 (.n .no
 .e .e) .e) (.n (.code in249)
 (.n (.code in377)
 .e .e) .e))))) (.n .no
 (.n (.code in21)
 (.n (.code in37)
 (.n (.code in69)
 (.n .no
 (.n (.code in261)
 .e .e) (.n .no
 .e .e)) (.n .no
 (.n (.code in325)
 .e .e) .e)) (.n (.code in101)
 (.n (.code in165)
 (.n .no
 .e .e) .e) (.n (.code in229)
 (.n .no
 .e .e) .e))) (.n (.sum (vSum_ok hm hC))
 (.n (.code in85)
 (.n (.code in149)
 (.n (.code in277)
 .e .e) .e) (.n (.code in213)
 (.n (.code in341)
 .e .e) .e)) (.n .no
 (.n (.code in181)
 (.n (.code in309)
 .e .e) .e) (.n (.code in245)
 (.n .no
 .e .e) .e)))) (.n (.code in29)
 (.n (.code in45)
 (.n (.code in77)
 (.n (.code in141)
 (.n (.code in269)
 .e .e) (.n .no
 .e .e)) (.n (.code in205)
 (.n .no
 .e .e) .e)) (.n .no
 (.n (.code in173)
 (.n (.code in301)
 .e .e) .e) (.n (.code in237)
 (.n (.code in365)
 .e .e) .e))) (.n (.code in61)
 (.n (.code in93)
 (.n (.code in157)
 (.n (.code in285)
 .e .e) .e) (.n .no
 (.n .no
 .e .e) .e)) (.n (.code in125)
 (.n (.code in189)
 (.n (.code in317)
 .e .e) .e) (.n (.code in253)
 (.n .no
 .e .e) .e))))))) (.n .no
 (.n .no
 (.n .no
 (.n (.code in16)
 (.n (.code in32)
 (.n (.code in64)
 (.n .no
 (.n .no
 .e .e) (.n .no
 .e .e)) (.n (.sum (powSum_ok hm hC))
 (.n (.code in320)
 .e .e) .e)) (.n .no
 (.n (.code in160)
 (.n (.code in288)
 .e .e) .e) (.n .no
 (.n (.code in352)
 .e .e) .e))) (.n (.code in48)
 (.n (.code in80)
 (.n (.code in144)
 (.n (.code in272)
 .e .e) (.n .no
 .e .e)) (.n .no
 (.n (.code in336)
 .e .e) .e)) (.n (.sum (mulSum_ok hm hC))
 (.n (.code in176)
 (.n .no
 .e .e) .e) (.n (.code in240)
 (.n .no
 .e .e) .e)))) (.n .no
 (.n (.code in40)
 (.n (.code in72)
 (.n (.code in136)
 (.n (.code in264)
 .e .e) (.n .no
 .e .e)) (.n (.sum (subSum_ok hm hC))
 (.n (.code in328)
 .e .e) .e)) (.n (.code in104)
 (.n (.code in168)
 (.n .no
 .e .e) .e) (.n .no
 (.n (.code in360)
 .e .e) .e))) (.n .no
 (.n (.code in88)
 (.n (.code in152)
 (.n (.code in280)
 .e .e) .e) (.n .no
 (.n .no
 .e .e) .e)) (.n .no
 (.n .no
 (.n .no
 .e .e) .e) (.n (.code in248)
 (.n (.code in376)
 .e .e) .e))))) (.n .no
 (.n (.code in20)
 (.n (.code in36)
 (.n (.code in68)
 (.n .no
 (.n (.code in260)
 .e .e) (.n .no
 .e .e)) (.n (.code in196)
 (.n (.code in324)
 .e .e) .e)) (.n (.code in100)
 (.n (.code in164)
 (.n (.code in292)
 .e .e) .e) (.n .no
 (.n (.code in356)
 .e .e) .e))) (.n .no
 (.n (.code in84)
 (.n (.code in148)
 (.n (.code in276)
 .e .e) .e) (.n .no
 (.n (.code in340)
 .e .e) .e)) (.n .no
 (.n (.code in180)
 (.n (.code in308)
 .e .e) .e) (.n (.code in244)
 (.n (.code in372)
 .e .e) .e)))) (.n (.code in28)
 (.n (.code in44)
 (.n (.code in76)
 (.n (.code in140)
 (.n (.code in268)
 .e .e) (.n .no
 .e .e)) (.n (.code in204)
 (.n .no
 .e .e) .e)) (.n (.code in108)
 (.n (.code in172)
 (.n .no
 .e .e) .e) (.n (.code in236)
 (.n (.code in364)
 .e .e) .e))) (.n (.code in60)
 (.n (.sum (gSum_ok hm hC))
 (.n (.code in156)
 (.n .no
 .e .e) .e) (.n .no
 (.n (.code in348)
 .e .e) .e)) (.n (.sum (divSum_ok hm hC))
 (.n (.code in188)
 (.n (.code in316)
 .e .e) .e) (.n (.code in252)
 (.n (.code in380)
 .e .e) .e)))))) (.n .no
 (.n (.code in10)
 (.n .no
 (.n (.code in34)
 (.n (.code in66)
 (.n .no
 (.n (.code in258)
 .e .e) (.n .no
 .e .e)) (.n (.code in194)
 (.n (.code in322)
 .e .e) .e)) (.n (.code in98)
 (.n (.code in162)
 (.n (.code in290)
 .e .e) .e) (.n .no
 (.n .no
 .e .e) .e))) (.n (.code in50)
 (.n (.code in82)
 (.n (.code in146)
 (.n (.code in274)
 .e .e) .e) (.n .no
 (.n (.code in338)
 .e .e) .e)) (.n (.code in114)
 (.n .no
 (.n (.code in306)
 .e .e) .e) (.n (.code in242)
 (.n .no
 .e .e) .e)))) (.n (.code in26)
 (.n (.code in42)
 (.n (.code in74)
 (.n (.code in138)
 (.n (.code in266)
 .e .e) (.n .no
 .e .e)) (.n (.code in202)
 (.n (.code in330)
 .e .e) .e)) (.n (.code in106)
 (.n (.code in170)
 (.n (.code in298)
 .e .e) .e) (.n (.code in234)
 (.n (.code in362)
 .e .e) .e))) (.n .no
 (.n (.code in90)
 (.n (.code in154)
 (.n .no
 .e .e) .e) (.n .no
 (.n .no
 .e .e) .e)) (.n (.code in122)
 (.n (.code in186)
 (.n (.code in314)
 .e .e) .e) (.n (.code in250)
 (.n .no
 .e .e) .e))))) (.n (.sum (addSum_ok hm hC))
 (.n (.code in22)
 (.n (.code in38)
 (.n (.code in70)
 (.n (.code in134)
 (.n (.code in262)
 .e .e) (.n .no
 .e .e)) (.n .no
 (.n (.code in326)
 .e .e) .e)) (.n (.code in102)
 (.n (.code in166)
 (.n (.code in294)
 .e .e) .e) (.n (.code in230)
 (.n (.code in358)
 .e .e) .e))) (.n (.sum (pSum_ok hm hC))
 (.n (.code in86)
 (.n (.code in150)
 (.n (.code in278)
 .e .e) .e) (.n .no
 (.n .no
 .e .e) .e)) (.n .no
 (.n (.code in182)
 (.n (.code in310)
 .e .e) .e) (.n .no
 (.n .no
 .e .e) .e)))) (.n (.code in30)
 (.n (.code in46)
 (.n (.code in78)
 (.n (.code in142)
 (.n (.code in270)
 .e .e) (.n .no
 .e .e)) (.n (.code in206)
 (.n .no
 .e .e) .e)) (.n .no
 (.n (.code in174)
 (.n (.sum (eSum_ok hm hC))
 .e .e) .e) (.n (.code in238)
 (.n (.code in366)
 .e .e) .e))) (.n (.code in62)
 (.n (.code in94)
 (.n (.code in158)
 (.n (.code in286)
 .e .e) .e) (.n .no
 (.n .no
 .e .e) .e)) (.n (.code in126)
 (.n (.sum (invSum_ok hm hC))
 (.n (.code in318)
 .e .e) .e) (.n (.code in254)
 (.n .no
 .e .e) .e)))))))))
end Go.Ev
