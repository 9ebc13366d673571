/-
  A deterministic evaluator over the model's code, with a memory of its own: the definitions.
-/
import Derived.Defers
namespace Go.Ev
/-! ## Values -/

inductive AV where
  | n (k m : Nat)
  | z (k m : Nat)
  | b (x : Bool)
  | u
  | s (x : ByteArray)
  | pn
  | p (id off : Nat)
  | sn
  | sl (id off len cap ex : Nat)
  | se
  | mn
  | m (id : Nat)
  | f (fn : Nat) (first cap : List AV)
  | y (l : Nat)
  | nf
  | agg (cs : List AV)
  | tup (vs : List AV)

def kd (k : Nat) : IntKind := match k with
  | 0 => .i8 | 1 => .i16 | 2 => .i32 | 3 => .i64 | 4 => .u8 | 5 => .u16 | 6 => .u32 | _ => .u64
def kc : IntKind → Nat
  | .i8 => 0 | .i16 => 1 | .i32 => 2 | .i64 => 3 | .u8 => 4 | .u16 => 5 | .u32 => 6 | .u64 => 7
/-- the first number that does not fit -/
def lim (k : Nat) : Nat := match k with
  | 0 => 128 | 1 => 32768 | 2 => 2147483648 | 3 => 9223372036854775808 | 4 => 256 | 5 => 65536 | 6 => 4294967296 | _ => 18446744073709551616

noncomputable def isU (v : AV) : Bool := AV.rec (motive_1 := fun _ => Bool) (motive_2 := fun _ => Unit) (fun _ _ => false) (fun _ _ => false) (fun _ => false) true (fun _ => false) false (fun _ _ => false) false (fun _ _ _ _ _ => false) false false (fun _ => false) (fun _ _ _ _ _ => false) (fun _ => false) false (fun _ _ => false) (fun _ _ => false) () (fun _ _ _ _ => ()) v
/-- a value that may stand in a cell -/
noncomputable def okC (v : AV) : Bool := AV.rec (motive_1 := fun _ => Bool) (motive_2 := fun _ => Unit) (fun _ _ => true) (fun _ _ => true) (fun _ => true) false (fun _ => true) true (fun _ _ => true) true (fun _ _ _ _ _ => true) true true (fun _ => true) (fun _ _ _ _ _ => true) (fun _ => true) true (fun _ _ => false) (fun _ _ => false) () (fun _ _ _ _ => ()) v

/-- the cells of a value -/
def cellsV (v : AV) : List AV := match v with
  | .agg cs => cs
  | v => [v]

def ofI (k : Nat) : Int → AV
  | .ofNat m => .n k m
  | .negSucc m => .z k m

def ofV : Value → AV
  | .bool x => .b x
  | .int k n => ofI (kc k) n
  | .string s => .s s
  | .pointer none => .pn
  | .slice none 0 0 => .sn
  | .map none => .mn
  | .nilFunc => .nf
  | _ => .u

/-! ## Trees -/

inductive Pa where
  | h
  | l (p : Pa)
  | r (p : Pa)
  deriving DecidableEq

noncomputable def pathF (f : Nat) : Nat → Pa :=
  Nat.rec (motive := fun _ => Nat → Pa) (fun _ => .h)
    (fun _ ih k => Bool.rec (Bool.rec (.r (ih (Nat.sub (Nat.div k 2) 1))) (.l (ih (Nat.div k 2))) (Nat.beq (Nat.mod k 2) 1)) .h (Nat.beq k 0)) f
noncomputable def pathOf (k : Nat) : Pa := pathF k k

/-- the same path, for the making of code -/
def pathE : Nat → Nat → Pa
  | 0, _ => .h
  | f + 1, k => if k = 0 then .h else if k % 2 = 1 then .l (pathE f (k / 2)) else .r (pathE f (k / 2 - 1))

inductive TR (α : Type) where
  | e
  | n (l : TR α) (v : α) (r : TR α)

noncomputable def TR.get {α : Type} (d : α) (p : Pa) : TR α → α :=
  Pa.rec (motive := fun _ => TR α → α) (fun t => TR.rec (motive := fun _ => α) d (fun _ v _ _ _ => v) t)
    (fun _ ih t => TR.rec (motive := fun _ => α) d (fun l _ _ _ _ => ih l) t)
    (fun _ ih t => TR.rec (motive := fun _ => α) d (fun _ _ r _ _ => ih r) t) p

noncomputable def TR.set {α : Type} (d x : α) (p : Pa) : TR α → TR α :=
  Pa.rec (motive := fun _ => TR α → TR α) (fun t => TR.rec (motive := fun _ => TR α) (.n .e x .e) (fun l _ r _ _ => .n l x r) t)
    (fun _ ih t => TR.rec (motive := fun _ => TR α) (.n (ih .e) d .e) (fun l v r _ _ => .n (ih l) v r) t)
    (fun _ ih t => TR.rec (motive := fun _ => TR α) (.n .e d (ih .e)) (fun l v r _ _ => .n l v (ih r)) t) p

/-- goes on with a tree whose head is known -/
noncomputable def TR.force {α β : Type} (k : TR α → β) (t : TR α) : β := TR.rec (motive := fun _ => β) (k .e) (fun l v r _ _ => k (.n l v r)) t

abbrev Tm := TR AV

noncomputable section

/-! ## Arithmetic -/

def toI : AV → Option (Nat × Int)
  | .n k m => some (k, .ofNat m)
  | .z k m => some (k, .negSucc m)
  | _ => none

def arithI (op : BinOp) (k : Nat) (a b : Int) : Option AV := match op with
  | .add => some (ofI k ((kd k).wrap (a + b)))
  | .sub => some (ofI k ((kd k).wrap (a - b)))
  | .mul => some (ofI k ((kd k).wrap (a * b)))
  | .quo => if b = 0 then none else some (ofI k ((kd k).wrap (a.tdiv b)))
  | .rem => if b = 0 then none else some (ofI k (a.tmod b))
  | .and => some (ofI k ((kd k).wrap (BitVec.ofInt (kd k).bits a &&& BitVec.ofInt (kd k).bits b).toNat))
  | .or => some (ofI k ((kd k).wrap (BitVec.ofInt (kd k).bits a ||| BitVec.ofInt (kd k).bits b).toNat))
  | .eql => some (.b (a == b))
  | .neq => some (.b (a != b))
  | .lss => some (.b (decide (a < b)))
  | .leq => some (.b (decide (a ≤ b)))
  | .gtr => some (.b (decide (a > b)))
  | .geq => some (.b (decide (a ≥ b)))
  | _ => none

/-- the comparison with nil of slices (0), pointers (1), and of truth values (2); 'none': not known here -/
def sameA : Nat → AV → AV → Option Bool
  | 2, .b x, .b y => some (x == y)
  | 0, .sn, .sn => some true
  | 0, .sn, .sl .. => some false
  | 0, .sl .., .sn => some false
  | 0, .sn, .se => some false
  | 0, .se, .sn => some false
  | 1, .pn, .pn => some true
  | 1, .pn, .p .. => some false
  | 1, .p .., .pn => some false
  | _, _, _ => none
def eqA (kind : Nat) (neg : Bool) (x y : AV) : Option AV := match sameA kind x y with
  | some r => some (.b (r != neg))
  | none => none

/-- the slow way -/
def binS (op : BinOp) (x y : AV) : Option AV := match op with
  | .shl => (match toI x, toI y with
    | some (k, a), some (_, c) => if c < 0 then none else some (ofI k ((kd k).wrap (a * 2 ^ (min c.toNat (kd k).bits))))
    | _, _ => none)
  | .shr => (match toI x, toI y with
    | some (k, a), some (_, c) => if c < 0 then none else some (ofI k (a.fdiv (2 ^ (min c.toNat (kd k).bits))))
    | _, _ => none)
  | op => (match toI x, toI y with
    | some (k, a), some (k', c) => if k = k' then arithI op k a c else none
    | _, _ => none)

inductive NV where
  | no
  | ok (k m : Nat)
/-- a number that is not negative -/
def toN (v : AV) : NV := AV.rec (motive_1 := fun _ => NV) (motive_2 := fun _ => Unit) (fun k m => .ok k m) (fun _ _ => .no) (fun _ => .no) .no (fun _ => .no) .no (fun _ _ => .no) .no (fun _ _ _ _ _ => .no) .no .no (fun _ => .no) (fun _ _ _ _ _ => .no) (fun _ => .no) .no (fun _ _ => .no) (fun _ _ => .no) () (fun _ _ _ _ => ()) v
/-- a place -/
def toP (v : AV) : NV := AV.rec (motive_1 := fun _ => NV) (motive_2 := fun _ => Unit) (fun _ _ => .no) (fun _ _ => .no) (fun _ => .no) .no (fun _ => .no) .no (fun id off => .ok id off) .no (fun _ _ _ _ _ => .no) .no .no (fun _ => .no) (fun _ _ _ _ _ => .no) (fun _ => .no) .no (fun _ _ => .no) (fun _ _ => .no) () (fun _ _ _ _ => ()) v
inductive BV where
  | no
  | ok (x : Bool)
/-- a truth value -/
def toB (v : AV) : BV := AV.rec (motive_1 := fun _ => BV) (motive_2 := fun _ => Unit) (fun _ _ => .no) (fun _ _ => .no) (fun x => .ok x) .no (fun _ => .no) .no (fun _ _ => .no) .no (fun _ _ _ _ _ => .no) .no .no (fun _ => .no) (fun _ _ _ _ _ => .no) (fun _ => .no) .no (fun _ _ => .no) (fun _ _ => .no) () (fun _ _ _ _ => ()) v

/-- 'two numbers of one kind that are not negative', the slow way otherwise -/
def nn (op : BinOp) (f : Nat → Nat → Nat → Option AV) (x y : AV) : Option AV :=
  NV.rec (motive := fun _ => Option AV) (binS op x y) (fun k a => NV.rec (motive := fun _ => Option AV) (binS op x y) (fun k' c => Bool.rec (binS op x y) (f k a c) (Nat.beq k k')) (toN y)) (toN x)

def fit (k m : Nat) (slow : Option AV) : Option AV := Bool.rec (some (.n k m)) slow (Nat.ble (lim k) m)

def addN (k a c : Nat) : Option AV := fit k (Nat.add a c) (binS .add (.n k a) (.n k c))
def subN (k a c : Nat) : Option AV := Bool.rec (binS .sub (.n k a) (.n k c)) (fit k (Nat.sub a c) (binS .sub (.n k a) (.n k c))) (Nat.ble c a)
def mulN (k a c : Nat) : Option AV := fit k (Nat.mul a c) (binS .mul (.n k a) (.n k c))
def quoN (k a c : Nat) : Option AV := Bool.rec (fit k (Nat.div a c) (binS .quo (.n k a) (.n k c))) none (Nat.beq c 0)
def remN (k a c : Nat) : Option AV := Bool.rec (some (.n k (Nat.mod a c))) none (Nat.beq c 0)
def eqlN (_ a c : Nat) : Option AV := some (.b (Nat.beq a c))
def neqN (_ a c : Nat) : Option AV := some (.b (not (Nat.beq a c)))
def lssN (_ a c : Nat) : Option AV := some (.b (Nat.ble (Nat.succ a) c))
def leqN (_ a c : Nat) : Option AV := some (.b (Nat.ble a c))
def gtrN (_ a c : Nat) : Option AV := some (.b (Nat.ble (Nat.succ c) a))
def geqN (_ a c : Nat) : Option AV := some (.b (Nat.ble c a))

def binA : BinOp → AV → AV → Option AV
  | .add => nn .add addN
  | .sub => nn .sub subN
  | .mul => nn .mul mulN
  | .quo => nn .quo quoN
  | .rem => nn .rem remN
  | .eql => nn .eql eqlN
  | .neq => nn .neq neqN
  | .lss => nn .lss lssN
  | .leq => nn .leq leqN
  | .gtr => nn .gtr gtrN
  | .geq => nn .geq geqN
  | op => binS op

def convA (k : Nat) (x : AV) : Option AV := match x with
  | .n _ m => fit k m (some (ofI k ((kd k).wrap (.ofNat m))))
  | .z _ m => some (ofI k ((kd k).wrap (.negSucc m)))
  | _ => none

def unA (op : UnOp) (x : AV) : Option AV := match op, x with
  | .not, .b t => some (.b (not t))
  | .neg, .n k m => some (ofI k ((kd k).wrap (0 - .ofNat m)))
  | .neg, .z k m => some (ofI k ((kd k).wrap (0 - .negSucc m)))
  | _, _ => none

def mmA (mx : Bool) (x y : AV) : Option AV := match x, y with
  | .n k a, .n _ c => some (.n k (Bool.rec (Bool.rec a c (Nat.ble (Nat.succ c) a)) (Bool.rec a c (Nat.ble (Nat.succ a) c)) mx))
  | .n k a, .z _ c => some (bif mx then .n k a else .z k c)
  | .z k a, .n _ c => some (bif mx then .n k c else .z k a)
  | _, _ => none

end
end Go.Ev

/-
  The evaluator: a code of its own, its run, and how it is made from the model's.
-/
namespace Go.Ev

/-! ## The evaluator's code -/

/-- an operand: the k-th last value of the region, a temporary, a constant -/
inductive OA where
  | r (k : Nat)
  | v (p : Pa)
  | c (x : AV)

inductive PT where
  | mk (off size : Nat) (x : OA)

inductive I where
  | mv (x : OA)
  | pick (c a b : OA)
  | alloc (z : List AV)
  | box (x : OA)
  | build (z : List AV) (ps : List PT)
  | bslice (n : Nat) (z : List AV) (ps : List PT)
  | load1 (x : OA)
  | loadn (n : Nat) (x : OA)
  | store (n : Nat) (x v : OA)
  | nilc (x : OA)
  | bin (op : BinOp) (x y : OA)
  | eqk (kind : Nat) (neg : Bool) (x y : OA)
  | un (op : UnOp) (x : OA)
  | conv (k : Nat) (x : OA)
  | mkf (fn : Nat) (first cap : List OA)
  | mkmap
  | mksl (es bytes : Nat) (z : List AV) (l c : OA)
  | slca (n es : Nat) (x : OA) (lo hi mx : Option OA)
  | slcs (es : Nat) (x : OA) (lo hi mx : Option OA)
  | fa (off : Nat) (x : OA)
  | fld (n : Nat) (ag : Bool) (off : Nat) (x : OA)
  | iaa (len es : Nat) (x i : OA)
  | ias (es : Nat) (x i : OA)
  | idx (len n : Nat) (ag : Bool) (x i : OA)
  | lookup (st : Bool) (kk : Nat) (z : AV) (ok : Bool) (m k : OA)
  | mupd (st : Bool) (kk : Nat) (m k x : OA)
  | ext (i : Nat) (x : OA)
  | lenc (n : Nat)
  | len (x : OA)
  | cap (x : OA)
  | mm (mx : Bool) (x y : OA)
  | app (es bytes : Nat) (s x : OA)
  | appz (es bytes : Nat) (z : List AV) (s x : OA)
  | copy (es : Nat) (d s : OA)
  | clear (es : Nat) (z : List AV) (s : OA)
  | call (f : OA) (args : List OA)
  | bad

/-- what becomes of a value: nothing; it is pushed; it is kept -/
inductive D where
  | drop
  | push
  | keep (p : Pa)

/-- the operations of a region -/
inductive Q where
  | nil
  | mvk (p : Pa) (x : OA) (r : Q)
  | bin (op : BinOp) (x y : OA) (r : Q)
  | bink (p : Pa) (op : BinOp) (x y : OA) (r : Q)
  | dfr (f : OA) (args : List OA) (r : Q)
  | gen (i : I) (g : Option (OA × Bool)) (d : D) (j : Nat) (un : List Nat) (r : Q)

inductive RS where
  | t (p : Pa)
  | c1 (p : Pa)
  | cn (p : Pa) (n : Nat)

inductive C where
  | skip
  | reg (l : Q)
  | regd (l : Q)
  | seq (a b : C)
  | cond (c : OA) (a b : C)
  | block (id : Nat) (b : C)
  | loop (b : C)
  | exit (id : Nat)
  | ret
  | rf (f : OA) (ps : List Pa) (as body : C)

inductive CF where
  | mk (c : C) (rs : List RS)

/-! ## Memory -/

inductive X where
  | nrm
  | exit (id : Nat)
  | ret

inductive AO where
  | no
  | cs (n : Nat) (t : TR AV)
  | mp (es : List (AV × AV))
  | df
  | lp (st : Nat) (pend : X) (tm : Tm) (ps : List Pa) (as body : C)

noncomputable section

/-- some cells of an object; n = 0: all of it -/
inductive L3 where
  | mk (id off n : Nat)

/-- objects; the next one's number; the bound below which writes are noted; the notes -/
inductive W where
  | mk (hp : TR AO) (nx bs : Nat) (wl : List L3)

def W.hp (w : W) : TR AO := W.rec (motive := fun _ => TR AO) (fun h _ _ _ => h) w
def W.nx (w : W) : Nat := W.rec (motive := fun _ => Nat) (fun _ n _ _ => n) w
def W.bs (w : W) : Nat := W.rec (motive := fun _ => Nat) (fun _ _ b _ => b) w
def W.wl (w : W) : List L3 := W.rec (motive := fun _ => List L3) (fun _ _ _ l => l) w
def W.ob (w : W) (id : Nat) : AO := TR.get .no (pathOf id) w.hp

inductive RV where
  | no
  | ok (v : AV) (w : W)

inductive RC where
  | no
  | ok (x : X) (tm : Tm) (w : W)

/-- objects below this are never written -/
def roN : Nat := 4

def note (id off n bs : Nat) (wl : List L3) : List L3 := Bool.rec wl (.mk id off n :: wl) (Nat.ble (Nat.succ id) bs)

/-- a new object -/
def newO (o : AO) (w : W) (k : Nat → W → RV) : RV :=
  W.rec (motive := fun _ => RV) (fun hp nx bs wl => TR.force (fun hp' => k nx (.mk hp' (Nat.succ nx) bs wl)) (TR.set .no o (pathOf nx) hp)) w

/-- another object in the place of one -/
def putO (id off n : Nat) (o : AO) (w : W) (k : W → RV) : RV :=
  W.rec (motive := fun _ => RV) (fun hp nx bs wl => Bool.rec .no (TR.force (fun hp' => k (.mk hp' nx bs (note id off n bs wl))) (TR.set .no o (pathOf id) hp)) (Nat.ble roN id)) w

/-- n cells from a place on -/
def loadL (t : TR AV) (n : Nat) : Nat → Option (List AV) :=
  Nat.rec (motive := fun _ => Nat → Option (List AV)) (fun _ => some [])
    (fun _ ih off => Bool.rec (Option.rec none (fun r => some (TR.get .u (pathOf off) t :: r)) (ih (Nat.succ off))) none (isU (TR.get .u (pathOf off) t))) n

/-- cells that are there are written -/
def storeL (vs : List AV) : TR AV → Nat → Option (TR AV) :=
  List.rec (motive := fun _ => TR AV → Nat → Option (TR AV)) (fun t _ => some t)
    (fun v _ ih t off => Bool.rec (Bool.rec none (TR.force (fun t' => ih t' (Nat.succ off)) (TR.set .u v (pathOf off) t)) (okC v)) none (isU (TR.get .u (pathOf off) t))) vs

/-- cells that are laid anew from a place on -/
def layL (vs : List AV) : TR AV → Nat → TR AV :=
  List.rec (motive := fun _ => TR AV → Nat → TR AV) (fun t _ => t)
    (fun v _ ih t off => TR.force (fun t' => ih t' (Nat.succ off)) (TR.set .u v (pathOf off) t)) vs

def lenL (vs : List AV) : Nat := List.rec (motive := fun _ => Nat) 0 (fun _ _ ih => Nat.succ ih) vs
def appL (vs ws : List AV) : List AV := List.rec (motive := fun _ => List AV) ws (fun v _ ih => v :: ih) vs

def repL (n : Nat) (vs : List AV) : List AV := Nat.rec (motive := fun _ => List AV) [] (fun _ ih => appL vs ih) n

/-- the object that these cells are -/
def mkCs (vs : List AV) : AO := .cs (lenL vs) (layL vs .e 0)

/-- a pointer's continuation -/
def onP {β : Type} (no : β) (k : Nat → Nat → β) (v : AV) : β := NV.rec (motive := fun _ => β) no k (toP v)
/-- a number's that is not negative -/
def onN {β : Type} (no : β) (k : Nat → β) (v : AV) : β := NV.rec (motive := fun _ => β) no (fun _ m => k m) (toN v)
/-- a truth value's -/
def onB {β : Type} (no : β) (k : Bool → β) (v : AV) : β := BV.rec (motive := fun _ => β) no k (toB v)
/-- a row of cells' -/
def onCs {β : Type} (no : β) (k : Nat → TR AV → β) (o : AO) : β :=
  AO.rec (motive := fun _ => β) no (fun n t => k n t) (fun _ => no) no (fun _ _ _ _ _ _ => no) o

def load1A (v : AV) (w : W) : RV :=
  onP .no (fun id off => onCs .no (fun _ t => Bool.rec (.ok (TR.get .u (pathOf off) t) w) .no (isU (TR.get .u (pathOf off) t))) (w.ob id)) v
def loadnA (n : Nat) (v : AV) (w : W) : RV :=
  onP .no (fun id off => onCs .no (fun _ t => Option.rec .no (fun l => .ok (.agg l) w) (loadL t n off)) (w.ob id)) v
def ptrNd (n : Nat) (v : AV) : List L3 := onP [] (fun id off => [.mk id off n]) v
def storeA (n : Nat) (x v : AV) (w : W) : RV :=
  onP .no (fun id off => onCs .no (fun m t => Bool.rec .no (Option.rec .no (fun t' => putO id off n (.cs m t') w (fun w' => .ok .u w')) (storeL (cellsV v) t off)) (Nat.beq (lenL (cellsV v)) n)) (w.ob id)) x
def allocA (vs : List AV) (w : W) : RV := newO (mkCs vs) w (fun id w' => .ok (.p id 0) w')
def boxA (v : AV) (w : W) : RV := match v with
  | .u => .no
  | .tup _ => .no
  | v => allocA (cellsV v) w


def nthC (k : Nat) : List AV → AV :=
  Nat.rec (motive := fun _ => List AV → AV) (fun R => List.rec (motive := fun _ => AV) .u (fun a _ _ => a) R)
    (fun _ ih R => List.rec (motive := fun _ => AV) .u (fun _ r _ => ih r) R) k
def evA (x : OA) (R : List AV) (tm : Tm) : AV :=
  OA.rec (motive := fun _ => AV) (fun k => nthC k R) (fun p => TR.get .u p tm) (fun v => v) x
def evL (l : List OA) (R : List AV) (tm : Tm) : List AV := List.rec (motive := fun _ => List AV) [] (fun x _ ih => evA x R tm :: ih) l
def evO (x : Option OA) (R : List AV) (tm : Tm) : Option AV := Option.rec none (fun x => some (evA x R tm)) x
def evP (l : List PT) (R : List AV) (tm : Tm) : List (Nat × Nat × AV) := List.rec (motive := fun _ => List (Nat × Nat × AV)) [] (fun x _ ih => PT.rec (fun a b x => (a, b, evA x R tm)) x :: ih) l

/-- parts laid over cells -/
def takeL (n : Nat) (l : List AV) : List AV := l.take n
def fillA : List (Nat × Nat × AV) → List AV → Option (List AV)
  | [], cs => some cs
  | (off, size, v) :: r, cs =>
    if lenL (cellsV v) = size ∧ off + size ≤ lenL cs ∧ isU v = false then fillA r (cs.take off ++ cellsV v ++ cs.drop (off + size)) else none
def buildA (z : List AV) (ps : List (Nat × Nat × AV)) : Option AV := (fillA ps z).map .agg
def bsliceA (n : Nat) (z : List AV) (ps : List (Nat × Nat × AV)) (w : W) : RV := match fillA ps z with
  | some cs => newO (mkCs cs) w (fun id w' => .ok (.sl id 0 n n 0) w')
  | none => .no

def mkslA (es bytes : Nat) (z : List AV) (l c : AV) (w : W) : RV :=
  onN .no (fun l => onN .no (fun c =>
    if l ≤ c ∧ c < 9223372036854775808 ∧ c * bytes ≤ 140737488355328 ∧ lenL z = es then newO (.cs (c * es) (layL (repL c z) .e 0)) w (fun id w' => .ok (.sl id 0 l c 0) w') else .no) c) l

def boundA (d : Nat) (o : Option AV) : Option Nat := match o with
  | none => some d
  | some v => onN none some v

def slcArr (n es : Nat) (x : AV) (lo hi mx : Option AV) : Option AV :=
  onP none (fun id off => match boundA n mx, boundA n hi, boundA 0 lo with
    | some m, some h, some l => if l ≤ h ∧ h ≤ m ∧ m ≤ n then some (.sl id (if m = l then off else off + l * es) (h - l) (m - l) 0) else none
    | _, _, _ => none) x
def slcSl (es : Nat) (x : AV) (lo hi mx : Option AV) : Option AV := match x with
  | .sl id off len cap ex => (match boundA cap mx, boundA len hi, boundA 0 lo with
    | some m, some h, some l =>
      if l ≤ h ∧ h ≤ m ∧ m ≤ cap ∧ (ex = 0 ∨ ex = es) then
        (if m = l then (if ex = 0 ∨ mx.isSome then some (.sl id off 0 0 0) else some .se)
         else some (.sl id (off + l * es) (h - l) (m - l) (if mx.isSome then 0 else ex)))
      else none
    | _, _, _ => none)
  | .sn => (match boundA 0 mx, boundA 0 hi, boundA 0 lo with
    | some 0, some 0, some 0 => some .sn
    | _, _, _ => none)
  | .se => (match mx, boundA 0 hi, boundA 0 lo with
    | none, some 0, some 0 => some .se
    | _, _, _ => none)
  | _ => none

def faA (off : Nat) (v : AV) : Option AV := onP none (fun id o => some (.p id (Nat.add o off))) v
def partA (n : Nat) (ag : Bool) (off : Nat) (cs : List AV) : Option AV :=
  if ag then some (.agg ((cs.drop off).take n)) else (match cs[off]? with
    | some v => some v
    | none => none)
def fldA (n : Nat) (ag : Bool) (off : Nat) (v : AV) : Option AV := match v with
  | .agg cs => partA n ag off cs
  | _ => none
def idxA (len n : Nat) (ag : Bool) (v i : AV) : Option AV := match v with
  | .agg cs => onN none (fun j => if j < len then partA n ag (j * n) cs else none) i
  | _ => none
def iaArr (len es : Nat) (x i : AV) : Option AV :=
  onP none (fun id off => onN none (fun j => Bool.rec none (some (.p id (Nat.add off (Nat.mul j es)))) (Nat.ble (Nat.succ j) len)) i) x
def iaSl (es : Nat) (x i : AV) : Option AV := match x with
  | .sl id off len _ _ => onN none (fun j => Bool.rec none (some (.p id (Nat.add off (Nat.mul j es)))) (Nat.ble (Nat.succ j) len)) i
  | _ => none

/-- the same key; 'none': not known here -/
def keyA : AV → AV → Option Bool
  | .n k a, .n k' c => if k = k' then some (Nat.beq a c) else none
  | .s a, .s c => some (a == c)
  | _, _ => none
def findA (k : AV) : List (AV × AV) → Option (Option AV)
  | [] => some none
  | (a, v) :: r => (match keyA k a with
    | some true => some (some v)
    | some false => findA k r
    | none => none)
def putA (k v : AV) : List (AV × AV) → Option (List (AV × AV))
  | [] => some [(k, v)]
  | (a, x) :: r => (match keyA k a with
    | some true => some ((k, v) :: r)
    | some false => (putA k v r).map ((a, x) :: ·)
    | none => none)
def keyKind (st : Bool) (kk : Nat) (k : AV) : Bool := match k with
  | .n c _ => Nat.beq c kk && !st
  | .s _ => st
  | _ => false
def lookupA (st : Bool) (kk : Nat) (z : AV) (ok : Bool) (m k : AV) (w : W) : RV :=
  if keyKind st kk k then (match m with
    | .mn => .ok (if ok then .tup [z, .b false] else z) w
    | .m id => (match w.ob id with
      | .mp es => (match findA k es with
        | some (some v) => .ok (if ok then .tup [v, .b true] else v) w
        | some none => .ok (if ok then .tup [z, .b false] else z) w
        | none => .no)
      | _ => .no)
    | _ => .no) else .no
def mapNd (m : AV) : List L3 := match m with
  | .m id => [.mk id 0 0]
  | _ => []
def mupdA (st : Bool) (kk : Nat) (m k v : AV) (w : W) : RV :=
  if keyKind st kk k && okC v then (match m with
    | .m id => (match w.ob id with
      | .mp es => (match putA k v es with
        | some es' => putO id 0 0 (.mp es') w (fun w' => .ok .u w')
        | none => .no)
      | _ => .no)
    | _ => .no) else .no

def extA (i : Nat) (v : AV) : Option AV := match v with
  | .tup vs => vs[i]?
  | _ => none
def lenA (v : AV) : Option AV := match v with
  | .sl _ _ len _ _ => some (.n 3 len)
  | .sn => some (.n 3 0)
  | .se => some (.n 3 0)
  | _ => none
def capA (v : AV) : Option AV := match v with
  | .sl _ _ _ cap 0 => some (.n 3 cap)
  | .sn => some (.n 3 0)
  | _ => none
def nilcA (v : AV) : Option AV := match v with
  | .p id off => some (.p id off)
  | .f a b c => some (.f a b c)
  | _ => none

/-- the cells of a source of append, copy -/
def srcA (es : Nat) (x : AV) (w : W) : Option (Nat × List AV) := match x with
  | .sl id off len _ _ => onCs none (fun _ t => Option.rec none (fun l => some (len, l)) (loadL t (len * es) off)) (w.ob id)
  | .sn => some (0, [])
  | .se => some (0, [])
  | _ => none
def dropO (ex : Nat) (id : Nat) (w : W) (k : W → RV) : RV := if ex = 0 then k w else putO id 0 0 .no w k
/-- a slice of n elements whose cells are these, of unknown capacity -/
def growA (len need es : Nat) (ex : Nat) (id off : Nat) (m : Nat) (t : TR AV) (new : List AV) (w : W) : RV :=
  let fin (o : AO) : RV := dropO ex id w (fun w' => newO o w' (fun nid w'' => .ok (.sl nid 0 need need es) w''))
  if ex ≠ 0 ∧ off = 0 ∧ m = len * es then fin (.cs (need * es) (layL new t (len * es)))
  else (match loadL t (len * es) off with
    | some old => fin (mkCs (old ++ new))
    | none => .no)
def allC (l : List AV) : Bool := List.rec (motive := fun _ => Bool) true (fun v _ ih => Bool.rec false ih (okC v)) l
def appendA (es : Nat) (s : AV) (n : Nat) (new : List AV) (w : W) : RV := match s with
  | .sn => if n = 0 then .ok .sn w else if 134217728 < n then .no else newO (mkCs new) w (fun nid w' => .ok (.sl nid 0 n n es) w')
  | .sl id off len cap ex =>
    if ex ≠ 0 ∧ ex ≠ es then .no else onCs .no (fun m t =>
      if len + n ≤ cap then
        (match storeL new t (off + len * es) with
          | some t' => (if n = 0 then .ok (.sl id off (len + n) cap ex) w else putO id (off + len * es) (n * es) (.cs m t') w (fun w' => .ok (.sl id off (len + n) cap ex) w'))
          | none => .no)
      else if 134217728 < len + n ∨ cap < len ∨ allC new = false then .no else growA len (len + n) es ex id off m t new w) (w.ob id)
  | _ => .no
def appA (es bytes : Nat) (s x : AV) (w : W) : RV :=
  if es = 0 ∨ bytes = 0 ∨ bytes > 1048576 then .no else
  (match srcA es x w with
    | some (n, new) => if n > 1048576 then .no else appendA es s n new w
    | none => .no)
def slNd (es : Nat) (x : AV) : List L3 := match x with
  | .sl id off len _ _ => if len = 0 then [] else [.mk id off (len * es)]
  | _ => []
def objNd (x : AV) : List L3 := match x with
  | .sl id _ _ _ _ => [.mk id 0 0]
  | _ => []
def appzA (es bytes : Nat) (z : List AV) (s x : AV) (w : W) : RV :=
  if es = 0 ∨ bytes = 0 ∨ bytes > 1048576 ∨ lenL z ≠ es then .no else
  onN .no (fun n => if n > 1048576 ∨ n = 0 then .no else appendA es s n (repL n z) w) x
def copyA (es : Nat) (d s : AV) (w : W) : RV := match d, s with
  | .sl ia oa la _ _, .sl ib ob lb _ _ =>
    onCs .no (fun _ tb => match loadL tb (min lb la * es) ob with
      | some new => onCs .no (fun m ta => match storeL new ta oa with
        | some t' => (if min lb la = 0 then .ok (.n 3 0) w else putO ia oa (min lb la * es) (.cs m t') w (fun w' => .ok (.n 3 (min lb la)) w'))
        | none => .no) (w.ob ia)
      | none => .no) (w.ob ib)
  | _, _ => .no
def clearA (es : Nat) (z : List AV) (s : AV) (w : W) : RV := match s with
  | .sn => .ok .u w
  | .sl id off len _ _ => if len = 0 then .ok .u w else
    if lenL z = es then onCs .no (fun m t => match storeL (repL len z) t off with
      | some t' => putO id off (len * es) (.cs m t') w (fun w' => .ok .u w')
      | none => .no) (w.ob id) else .no
  | _ => .no

/-! ## What runs code at the level below -/

structure Lv where
  call : Nat → List AV → W → RV
  dcall : Nat → List AV → W → RV
  round : C → Tm → W → RC

/-- the place of the deferred calls among the temporaries -/
def dsI : Nat := 1022
def dsP : Pa := .r (.r (.r (.r (.r (.r (.r (.r (.r .h))))))))
def listT (v : AV) : List AV := AV.rec (motive_1 := fun _ => List AV) (motive_2 := fun _ => Unit) (fun _ _ => []) (fun _ _ => []) (fun _ => []) [] (fun _ => []) [] (fun _ _ => []) [] (fun _ _ _ _ _ => []) [] [] (fun _ => []) (fun _ _ _ _ _ => []) (fun _ => []) [] (fun _ _ => []) (fun vs _ => vs) () (fun _ _ _ _ => ()) v
/-- another deferred call -/
def pushD (d : AV) (tm : Tm) : Tm := TR.set .u (.tup (d :: listT (TR.get .u dsP tm))) dsP tm

def setPs : List Pa → List AV → Tm → Option Tm
  | [], [], t => some t
  | i :: r, v :: vs, t => setPs r vs (TR.set .u v i t)
  | _, _, _ => none

def onLp {β : Type} (no : β) (k : Nat → X → Tm → List Pa → C → C → β) (o : AO) : β :=
  AO.rec (motive := fun _ => β) no (fun _ _ => no) (fun _ => no) no (fun st pend tm ps as body => k st pend tm ps as body) o

def isN : X → Bool
  | .nrm => true
  | _ => false

/-- one round of a range over a function -/
def roundV (S : Lv) (l : Nat) (args : List AV) (w : W) : RV :=
  onLp .no (fun st _ tm ps as body => match st with
    | 0 => (match setPs ps args tm with
      | some tm1 => (match S.round as tm1 w with
        | .ok .nrm tm2 w1 => onLp .no (fun st' pend' tm' ps' as' body' => if st' = 0 then putO l 0 0 (.lp 1 pend' tm' ps' as' body') w1 (fun w2 => match S.round body tm2 w2 with
            | .ok x _ w3 => onLp .no (fun st'' _ tm'' ps'' as'' body'' => if st'' = 1 then putO l 0 0 (.lp (if isN x then 0 else 2) x tm'' ps'' as'' body'') w3 (fun w4 => .ok (.b (isN x)) w4) else .no) (w3.ob l)
            | .no => .no) else .no) (w1.ob l)
        | _ => .no)
      | none => .no)
    | _ => .no) (w.ob l)

inductive FV where
  | no
  | fn (fid : Nat) (first cap : List AV)
  | yl (l : Nat)
def toF (v : AV) : FV := AV.rec (motive_1 := fun _ => FV) (motive_2 := fun _ => Unit) (fun _ _ => .no) (fun _ _ => .no) (fun _ => .no) .no (fun _ => .no) .no (fun _ _ => .no) .no (fun _ _ _ _ _ => .no) .no .no (fun _ => .no) (fun fid a b _ _ => .fn fid a b) (fun l => .yl l) .no (fun _ _ => .no) (fun _ _ => .no) () (fun _ _ _ _ => ()) v
/-- the call of a function value -/
def callV (S : Lv) (f : AV) (args : List AV) (w : W) : RV :=
  FV.rec (motive := fun _ => RV) .no (fun fid first cap => S.call fid (appL first (appL args cap)) w) (fun l => roundV S l args w) (toF f)

/-! ## Regions -/

def binF (op : BinOp) : AV → AV → Option AV :=
  BinOp.rec (motive := fun _ => AV → AV → Option AV) (nn .add addN) (nn .sub subN) (nn .mul mulN) (nn .quo quoN) (nn .rem remN) (binS .and) (binS .or) (binS .xor) (binS .shl) (binS .shr) (binS .andNot)
    (nn .eql eqlN) (nn .neq neqN) (nn .lss lssN) (nn .leq leqN) (nn .gtr gtrN) (nn .geq geqN) op

abbrev K1 := AV → W → RC
abbrev EX := Lv → List AV → Tm → W → K1 → RC
def opt1 (v : Option AV) (w : W) (k : K1) : RC := Option.rec (motive := fun _ => RC) .no (fun v => k v w) v
def opt2 (v : RV) (k : K1) : RC := RV.rec (motive := fun _ => RC) .no k v

def xMv (x : OA) : EX := fun _ R tm w k => k (evA x R tm) w
def xPick (c a b : OA) : EX := fun _ R tm w k => onB (β := RC) .no (fun t => Bool.rec (k (evA b R tm) w) (k (evA a R tm) w) t) (evA c R tm)
def xAlloc (z : List AV) : EX := fun _ _ _ w k => opt2 (allocA z w) k
def xBox (x : OA) : EX := fun _ R tm w k => opt2 (boxA (evA x R tm) w) k
def xBuild (z : List AV) (ps : List PT) : EX := fun _ R tm w k => opt1 (buildA z (evP ps R tm)) w k
def xBslice (n : Nat) (z : List AV) (ps : List PT) : EX := fun _ R tm w k => opt2 (bsliceA n z (evP ps R tm) w) k
def xLoad1 (x : OA) : EX := fun _ R tm w k => opt2 (load1A (evA x R tm) w) k
def xLoadn (n : Nat) (x : OA) : EX := fun _ R tm w k => opt2 (loadnA n (evA x R tm) w) k
def xStore (n : Nat) (x v : OA) : EX := fun _ R tm w k => opt2 (storeA n (evA x R tm) (evA v R tm) w) k
def xNilc (x : OA) : EX := fun _ R tm w k => opt1 (nilcA (evA x R tm)) w k
def xBin (op : BinOp) (x y : OA) : EX := fun _ R tm w k => opt1 (binF op (evA x R tm) (evA y R tm)) w k
def xEqk (kind : Nat) (neg : Bool) (x y : OA) : EX := fun _ R tm w k => opt1 (eqA kind neg (evA x R tm) (evA y R tm)) w k
def xUn (op : UnOp) (x : OA) : EX := fun _ R tm w k => opt1 (unA op (evA x R tm)) w k
def xConv (c : Nat) (x : OA) : EX := fun _ R tm w k => opt1 (convA c (evA x R tm)) w k
def xMkf (fn : Nat) (a b : List OA) : EX := fun _ R tm w k => k (.f fn (evL a R tm) (evL b R tm)) w
def xMkmap : EX := fun _ _ _ w k => opt2 (newO (.mp []) w (fun id w' => .ok (.m id) w')) k
def xMksl (es bytes : Nat) (z : List AV) (l c : OA) : EX := fun _ R tm w k => opt2 (mkslA es bytes z (evA l R tm) (evA c R tm) w) k
def xSlca (n es : Nat) (x : OA) (lo hi mx : Option OA) : EX := fun _ R tm w k => opt1 (slcArr n es (evA x R tm) (evO lo R tm) (evO hi R tm) (evO mx R tm)) w k
def xSlcs (es : Nat) (x : OA) (lo hi mx : Option OA) : EX := fun _ R tm w k => opt1 (slcSl es (evA x R tm) (evO lo R tm) (evO hi R tm) (evO mx R tm)) w k
def xFa (off : Nat) (x : OA) : EX := fun _ R tm w k => opt1 (faA off (evA x R tm)) w k
def xFld (n : Nat) (ag : Bool) (off : Nat) (x : OA) : EX := fun _ R tm w k => opt1 (fldA n ag off (evA x R tm)) w k
def xIaa (len es : Nat) (x i : OA) : EX := fun _ R tm w k => opt1 (iaArr len es (evA x R tm) (evA i R tm)) w k
def xIas (es : Nat) (x i : OA) : EX := fun _ R tm w k => opt1 (iaSl es (evA x R tm) (evA i R tm)) w k
def xIdx (len n : Nat) (ag : Bool) (x i : OA) : EX := fun _ R tm w k => opt1 (idxA len n ag (evA x R tm) (evA i R tm)) w k
def xLookup (st : Bool) (kk : Nat) (z : AV) (ok : Bool) (m kx : OA) : EX := fun _ R tm w k => opt2 (lookupA st kk z ok (evA m R tm) (evA kx R tm) w) k
def xMupd (st : Bool) (kk : Nat) (m kx x : OA) : EX := fun _ R tm w k => opt2 (mupdA st kk (evA m R tm) (evA kx R tm) (evA x R tm) w) k
def xExt (i : Nat) (x : OA) : EX := fun _ R tm w k => opt1 (extA i (evA x R tm)) w k
def xLenc (n : Nat) : EX := fun _ _ _ w k => k (.n 3 n) w
def xLen (x : OA) : EX := fun _ R tm w k => opt1 (lenA (evA x R tm)) w k
def xCap (x : OA) : EX := fun _ R tm w k => opt1 (capA (evA x R tm)) w k
def xMm (mx : Bool) (x y : OA) : EX := fun _ R tm w k => opt1 (mmA mx (evA x R tm) (evA y R tm)) w k
def xApp (es bytes : Nat) (s x : OA) : EX := fun _ R tm w k => opt2 (appA es bytes (evA s R tm) (evA x R tm) w) k
def xAppz (es bytes : Nat) (z : List AV) (s x : OA) : EX := fun _ R tm w k => opt2 (appzA es bytes z (evA s R tm) (evA x R tm) w) k
def xCopy (es : Nat) (d s : OA) : EX := fun _ R tm w k => opt2 (copyA es (evA d R tm) (evA s R tm) w) k
def xClear (es : Nat) (z : List AV) (s : OA) : EX := fun _ R tm w k => opt2 (clearA es z (evA s R tm) w) k
def xCall (f : OA) (args : List OA) : EX := fun S R tm w k => opt2 (callV S (evA f R tm) (evL args R tm) w) k

def xBad : EX := fun _ _ _ _ _ => .no

def exI (i : I) : EX :=
  I.rec (motive := fun _ => EX) xMv xPick xAlloc xBox xBuild xBslice xLoad1 xLoadn xStore xNilc xBin xEqk xUn xConv xMkf xMkmap xMksl xSlca xSlcs xFa xFld xIaa xIas xIdx xLookup xMupd xExt xLenc xLen xCap xMm xApp xAppz xCopy xClear xCall xBad i

abbrev KR := List AV → Tm → RC
def dstK (d : D) (v : AV) (R : List AV) (tm : Tm) (k : KR) : RC :=
  D.rec (motive := fun _ => RC) (k R tm) (k (v :: R) tm) (fun p => TR.force (k R) (TR.set .u v p tm)) d

def isNil {α : Type} (l : List α) : Bool := List.rec (motive := fun _ => Bool) true (fun _ _ _ => false) l
/-- the value of an operation that was passed by -/
def isUd (v : AV) : Bool := AV.rec (motive_1 := fun _ => Bool) (motive_2 := fun _ => Unit) (fun _ _ => false) (fun _ _ => false) (fun _ => false) false (fun _ => false) false (fun _ _ => false) false (fun _ _ _ _ _ => false) false false (fun _ => false) (fun _ _ _ _ _ => false) (fun _ => false) false (fun _ _ => false) (fun vs _ => isNil vs) () (fun _ _ _ _ => ()) v
/-- is an operation to be carried out? -/
def wantK (g : Option (OA × Bool)) (R : List AV) (tm : Tm) (skip run : RC) : RC :=
  Option.rec (motive := fun _ => RC) run (fun x => Prod.rec (fun v want => onB (β := RC) (Bool.rec .no skip (isUd (evA v R tm))) (fun t => Bool.rec (Bool.rec run skip t) (Bool.rec skip run t) want) (evA v R tm)) x) g

def opsL (S : Lv) (q : Q) : List AV → Tm → W → RC :=
  Q.rec (motive := fun _ => List AV → Tm → W → RC) (fun _ tm w => .ok .nrm tm w)
    (fun p x _ ih R tm w => TR.force (fun tm' => ih R tm' w) (TR.set .u (evA x R tm) p tm))
    (fun op x y _ ih R tm w => Option.rec (motive := fun _ => RC) .no (fun v => ih (v :: R) tm w) (binF op (evA x R tm) (evA y R tm)))
    (fun p op x y _ ih R tm w => Option.rec (motive := fun _ => RC) .no (fun v => TR.force (fun tm' => ih R tm' w) (TR.set .u v p tm)) (binF op (evA x R tm) (evA y R tm)))
    (fun f args _ ih R tm w => FV.rec (motive := fun _ => RC) .no (fun _ _ _ => TR.force (fun tm' => ih R tm' w) (pushD (.tup (evA f R tm :: evL args R tm)) tm)) (fun _ => .no) (toF (evA f R tm)))
    (fun i g d _ _ _ ih R tm w => wantK g R tm (dstK d (.tup []) R tm (fun R' tm' => ih R' tm' w)) (exI i S R tm w (fun v w' => dstK d v R tm (fun R' tm' => ih R' tm' w')))) q

/-! ### Regions that draw their order -/

/-- what an operation has read (all: it may have read anything), written, made -/
inductive Rec where
  | mk (j : Nat) (all : Bool) (rd wr : List L3) (a b : Nat)

def ovl (x y : L3) : Bool := L3.rec (motive := fun _ => Bool) (fun i o n => L3.rec (motive := fun _ => Bool) (fun i' o' n' =>
  Nat.beq i i' && (Nat.beq n 0 || Nat.beq n' 0 || (Nat.ble (Nat.succ o) (Nat.add o' n') && Nat.ble (Nat.succ o') (Nat.add o n)))) y) x
def anyL {α : Type} (p : α → Bool) (l : List α) : Bool := List.rec (motive := fun _ => Bool) false (fun a _ ih => Bool.rec ih true (p a)) l
def disj (l m : List L3) : Bool := not (anyL (fun x => anyL (ovl x) m) l)
def idOf (x : L3) : Nat := L3.rec (motive := fun _ => Nat) (fun i _ _ => i) x
def outside (l : List L3) (a b : Nat) : Bool := not (anyL (fun x => Nat.ble a (idOf x) && Nat.ble (Nat.succ (idOf x)) b) l)

/-- may two operations, the first of which stands ahead, change places? -/
def pairOk (x y : Rec) : Bool := Rec.rec (motive := fun _ => Bool) (fun _ all rd wr a b => Rec.rec (motive := fun _ => Bool) (fun _ all' rd' wr' _ _ =>
  disj rd' wr && outside rd' a b && disj wr' wr && disj wr' rd && outside wr' a b &&
  (not all || isNil wr') && (not all' || (isNil wr && Nat.beq a b))) y) x

def recJ (x : Rec) : Nat := Rec.rec (motive := fun _ => Nat) (fun j _ _ _ _ _ => j) x
def memN (j : Nat) (l : List Nat) : Bool := anyL (Nat.beq j) l
def checkU (un : List Nat) (y : Rec) (lg : List Rec) : Bool := not (anyL (fun x => memN (recJ x) un && not (pairOk x y)) lg)

def notes (l : List L3) (bs : Nat) (wl : List L3) : List L3 :=
  List.rec (motive := fun _ => List L3) wl (fun x _ ih => L3.rec (motive := fun _ => List L3) (fun i o n => note i o n bs ih) x) l

def W.open' (w : W) : W := W.rec (motive := fun _ => W) (fun hp nx _ _ => .mk hp nx nx []) w
def W.close' (w0 w : W) : W := W.rec (motive := fun _ => W) (fun _ _ bs wl => W.rec (motive := fun _ => W) (fun hp nx _ wr => .mk hp nx bs (notes wr bs wl)) w) w0

/-- what kind of an operation it is, for regions that draw: 0: it touches no memory; 1: it reads and writes what is told; 2: a call; 3: not here -/
def kindI (i : I) : Nat := match i with
  | .alloc _ | .box _ | .bslice .. | .load1 _ | .loadn .. | .store .. | .mkmap | .mksl .. | .lookup .. | .mupd .. | .app .. | .appz .. | .copy .. | .clear .. => 1
  | .call .. => 2
  | .bad => 3
  | _ => 0
def needI (i : I) (R : List AV) (tm : Tm) : List L3 := match i with
  | .load1 x => ptrNd 1 (evA x R tm)
  | .loadn n x => ptrNd n (evA x R tm)
  | .store n x _ => ptrNd n (evA x R tm)
  | .lookup _ _ _ _ m _ => mapNd (evA m R tm)
  | .mupd _ _ m _ _ => mapNd (evA m R tm)
  | .app es _ s x => objNd (evA s R tm) ++ slNd es (evA x R tm)
  | .appz _ _ _ s _ => objNd (evA s R tm)
  | .copy es d s => slNd es (evA d R tm) ++ slNd es (evA s R tm)
  | .clear es _ s => slNd es (evA s R tm)
  | _ => []

abbrev NxD := List Rec → List AV → Tm → W → RC

def finD (j : Nat) (un : List Nat) (all : Bool) (rd : List L3) (w0 : W) (lg : List Rec) (k : List Rec → K1) (v : AV) (w : W) : RC :=
  Bool.rec (motive := fun _ => RC) .no (k (.mk j all rd w.wl w0.nx w.nx :: lg) v (W.close' w0 w)) (checkU un (.mk j all rd w.wl w0.nx w.nx) lg)

def exD (i : I) (j : Nat) (un : List Nat) (S : Lv) (lg : List Rec) (R : List AV) (tm : Tm) (w : W) (k : List Rec → K1) : RC :=
  match kindI i with
  | 0 => exI i S R tm w (k lg)
  | 1 => if anyL (fun x => Nat.ble w.nx (idOf x)) (needI i R tm) then .no else exI i S R tm w.open' (finD j un false (needI i R tm) w lg k)
  | 2 => exI i S R tm w.open' (finD j un true [] w lg k)
  | _ => .no

def opsD (S : Lv) (q : Q) : NxD :=
  Q.rec (motive := fun _ => NxD) (fun _ _ tm w => .ok .nrm tm w)
    (fun p x _ ih lg R tm w => TR.force (fun tm' => ih lg R tm' w) (TR.set .u (evA x R tm) p tm))
    (fun op x y _ ih lg R tm w => Option.rec (motive := fun _ => RC) .no (fun v => ih lg (v :: R) tm w) (binF op (evA x R tm) (evA y R tm)))
    (fun p op x y _ ih lg R tm w => Option.rec (motive := fun _ => RC) .no (fun v => TR.force (fun tm' => ih lg R tm' w) (TR.set .u v p tm)) (binF op (evA x R tm) (evA y R tm)))
    (fun _ _ _ _ _ _ _ _ => .no)
    (fun i g d j un _ ih lg R tm w => wantK g R tm (dstK d (.tup []) R tm (fun R' tm' => ih lg R' tm' w)) (exD i j un S lg R tm w (fun lg' v w' => dstK d v R tm (fun R' tm' => ih lg' R' tm' w')))) q

/-! ## Code -/

def onRC (z : RC) (k : X → Tm → W → RC) (r : RC) : RC := RC.rec (motive := fun _ => RC) z k r
def onX {β : Type} (n : β) (e : Nat → β) (r : β) (x : X) : β := X.rec (motive := fun _ => β) n e r x

abbrev CC := Tm → W → RC

def seqK (a b : CC) : CC := fun tm w => onRC .no (fun x tm' w' => onX (b tm' w') (fun id => .ok (.exit id) tm' w') (.ok .ret tm' w') x) (a tm w)
def condK (c : OA) (a b : CC) : CC := fun tm w => onB .no (fun t => Bool.rec (b tm w) (a tm w) t) (evA c [] tm)
def blockK (id : Nat) (b : CC) : CC := fun tm w => onRC .no (fun x tm' w' => onX (.ok .nrm tm' w') (fun i => Bool.rec (.ok (.exit i) tm' w') (.ok .nrm tm' w') (Nat.beq i id)) (.ok .ret tm' w') x) (b tm w)
def loopK (b : CC) (n : Nat) : CC :=
  Nat.rec (motive := fun _ => CC) (fun _ _ => .no) (fun _ ih tm w => onRC .no (fun x tm' w' => onX (ih tm' w') (fun i => .ok (.exit i) tm' w') (.ok .ret tm' w') x) (b tm w)) n
def loopN : Nat := 1000000
def rfK (S : Lv) (f : OA) (ps : List Pa) (as body : C) : CC := fun tm w =>
    RV.rec (motive := fun _ => RC) .no (fun r w1 => onP (β := RC) .no (fun rid _ =>
      RV.rec (motive := fun _ => RC) .no (fun l w2 => onP (β := RC) .no (fun lid _ =>
        RV.rec (motive := fun _ => RC) .no (fun _ w3 => onLp (β := RC) .no (fun st pend tm' ps' as' body' =>
            if st = 1 then .no else RV.rec (motive := fun _ => RC) .no (fun _ w4 => .ok pend (pushD (.p rid 0) tm) w4) (putO lid 0 0 (.lp 3 pend tm' ps' as' body') w3 (fun w4 => .ok .u w4))) (w3.ob lid))
          (FV.rec (motive := fun _ => RV) .no (fun _ _ _ => callV S (evA f [] tm) [.y lid] w2) (fun _ => .no) (toF (evA f [] tm)))) l)
        (newO (.lp 0 .nrm tm ps as body) w1 (fun id w' => .ok (.p id 0) w'))) r)
      (newO .df w (fun id w' => .ok (.p id 0) w'))

def den (S : Lv) (c : C) : CC :=
  C.rec (motive := fun _ => CC) (fun tm w => .ok .nrm tm w) (fun l tm w => opsL S l [] tm w) (fun l tm w => opsD S l [] [] tm w) (fun _ _ a b => seqK a b) (fun c _ _ a b => condK c a b)
    (fun id _ b => blockK id b) (fun _ b => loopK b loopN) (fun id tm w => .ok (.exit id) tm w) (fun tm w => .ok .ret tm w) (fun f ps as body _ _ => rfK S f ps as body) c

/-! ## Calls -/

def initT (args : List AV) : Nat → Tm → Tm :=
  List.rec (motive := fun _ => Nat → Tm → Tm) (fun _ t => t) (fun v _ ih i t => TR.force (fun t' => ih (Nat.succ i) t') (TR.set .u v (pathOf i) t)) args

/-- the deferred calls, the last one first -/
def runD1 (S : Lv) (d : AV) (w : W) : Option W := match d with
  | .p id _ => (match w.ob id with
    | .df => (match putO id 0 0 .no w (fun w' => .ok .u w') with
      | .ok _ w' => some w'
      | .no => none)
    | _ => none)
  | .tup (.f fid a b :: args) => (match S.dcall fid (appL a (appL args b)) w with
    | .ok _ w' => some w'
    | .no => none)
  | _ => none
def runDs (S : Lv) (l : List AV) : W → Option W :=
  List.rec (motive := fun _ => W → Option W) (fun w => some w) (fun d _ ih w => Option.rec (motive := fun _ => Option W) none ih (runD1 S d w)) l

def res1 (x : RS) (tm : Tm) (w : W) : RV :=
  RS.rec (motive := fun _ => RV) (fun p => .ok (TR.get .u p tm) w) (fun p => load1A (TR.get .u p tm) w) (fun p n => loadnA n (TR.get .u p tm) w) x
def resL (tm : Tm) (w : W) (l : List RS) : Option (List AV) :=
  List.rec (motive := fun _ => Option (List AV)) (some []) (fun x _ ih => RV.rec (motive := fun _ => Option (List AV)) none (fun v _ => Option.rec none (fun r => some (v :: r)) ih) (res1 x tm w)) l
def packR (l : List AV) : AV := List.rec (motive := fun _ => AV) (.tup []) (fun v r _ => List.rec (motive := fun _ => AV) v (fun _ _ _ => .tup (v :: r)) r) l

def isEnd (x : X) : Bool := X.rec (motive := fun _ => Bool) true (fun _ => false) true x

def endF (S : Lv) (rs : List RS) (tm : Tm) (w1 : W) : RV :=
  Option.rec (motive := fun _ => RV) .no (fun w2 => Option.rec (motive := fun _ => RV) .no (fun l => .ok (packR l) w2) (resL tm w2 rs)) (runDs S (listT (TR.get .u dsP tm)) w1)

def bodyK (S : Lv) (f : CF) (args : List AV) (w : W) : RV :=
  CF.rec (motive := fun _ => RV) (fun c rs => Bool.rec (motive := fun _ => RV) .no (RC.rec (motive := fun _ => RV) .no (fun x tm w1 => Bool.rec (motive := fun _ => RV) .no (endF S rs tm w1) (isEnd x)) (den S c (initT args 0 .e) w)) (Nat.ble (lenL args) dsI)) f

/-- the body of a deferred call: it defers nothing itself -/
def bodyD (S : Lv) (f : CF) (args : List AV) (w : W) : RV :=
  CF.rec (motive := fun _ => RV) (fun c rs => Bool.rec (motive := fun _ => RV) .no (RC.rec (motive := fun _ => RV) .no (fun x tm w1 => Bool.rec (motive := fun _ => RV) .no
    (Bool.rec (motive := fun _ => RV) .no (Option.rec (motive := fun _ => RV) .no (fun l => .ok (packR l) w1) (resL tm w1 rs)) (isNil (listT (TR.get .u dsP tm)))) (isEnd x)) (den S c (initT args 0 .e) w)) (Nat.ble (lenL args) dsI)) f

inductive FE where
  | no
  | code (f : CF)
  | sum (s : List AV → W → RV)

def callD (F : TR FE) (S : Lv) (fid : Nat) (args : List AV) (w : W) : RV :=
  FE.rec (motive := fun _ => RV) .no (fun f => bodyK S f args w) (fun s => s args w) (TR.get .no (pathOf fid) F)

def callDD (F : TR FE) (S : Lv) (fid : Nat) (args : List AV) (w : W) : RV :=
  FE.rec (motive := fun _ => RV) .no (fun f => bodyD S f args w) (fun _ => .no) (TR.get .no (pathOf fid) F)

def semN (F : TR FE) (n : Nat) : Lv :=
  Nat.rec (motive := fun _ => Lv) ⟨fun _ _ _ => .no, fun _ _ _ => .no, fun _ _ _ => .no⟩ (fun _ S => ⟨callD F S, callDD F S, den S⟩) n

end

/-! ## How the code is made -/


def aggB (P : Program) (t : TypeId) : Option Bool := match P.underlying t with
  | some (.struct _) => some true
  | some (.array _ _) => some true
  | some _ => some false
  | none => none
/-- the zero value's cells -/
def zeroA (P : Program) (t : TypeId) : Option (List AV) := match P.info? t with
  | some i => (match i.zero with
    | some v => some (v.cells.toList.map ofV)
    | none => none)
  | none => none
/-- the zero value -/
def zeroV (P : Program) (t : TypeId) : Option AV := match P.info? t with
  | some i => i.zero.map ofV
  | none => none
def sizeA (P : Program) (t : TypeId) : Option Nat := (P.info? t).map (·.size)
def bytesA (P : Program) (t : TypeId) : Option Nat := (P.info? t).map (·.bytes)


structure Env where
  P : Program
  K : Nat
  T : Nat
  rd : Bool

/-- where a temporary's value is: the n-th value that the region has pushed; kept; a constant; nowhere any more -/
inductive Src where
  | r (n : Nat)
  | v (t : Nat)
  | c (x : AV)
  | x

structure Pre where
  l : List (Nat × Src)
  n : Nat

def findS (t : Nat) : List (Nat × Src) → Option Src
  | [] => none
  | (d, s) :: r => if d = t then some s else findS t r

def cSrc (E : Env) (pre : Pre) (x : Operand) : Option Src := match x with
  | .tmp t => (match findS t pre.l with
    | some s => some s
    | none => if Nat.testBit E.K t then some (.v t) else none)
  | .const v => some (.c (ofV v))
  | .global g => if g < E.P.globals.size then some (.c (.p g 0)) else none
  | .func f => some (.c (.f f [] []))
def oaOf (n : Nat) (s : Src) : Option OA := match s with
  | .r k => some (.r (n - 1 - k))
  | .v t => some (.v (pathE t t))
  | .c x => some (.c x)
  | .x => none
def cA (E : Env) (pre : Pre) (x : Operand) : Option OA := (cSrc E pre x).bind (oaOf pre.n)
def cL (E : Env) (pre : Pre) : List Operand → Option (List OA)
  | [] => some []
  | x :: r => match cA E pre x, cL E pre r with
    | some a, some l => some (a :: l)
    | _, _ => none
def cQ (E : Env) (pre : Pre) : Option Operand → Option (Option OA)
  | none => some none
  | some x => (cA E pre x).map some
def killS (d : Nat) (l : List (Nat × Src)) : List (Nat × Src) := l.map fun e => match e.2 with
  | .v t => if t = d then (e.1, .x) else e
  | _ => e
/-- behind an operation whose value is kept, is pushed -/
def Pre.kept (pre : Pre) (d : Nat) : Pre := { pre with l := (d, .v d) :: killS d pre.l }
def Pre.pushed (pre : Pre) (d : Nat) : Pre := { l := (d, .r pre.n) :: pre.l, n := pre.n + 1 }
def Pre.aka (pre : Pre) (d : Nat) (s : Src) : Pre := { pre with l := (d, s) :: pre.l }
def lenN {α : Type} : List α → Nat
  | [] => 0
  | _ :: r => Nat.succ (lenN r)
def repN : Nat → List AV → List AV
  | 0, _ => []
  | n + 1, l => l ++ repN n l
/-- parts of a struct, of an array -/
def placesL (P : Program) : List Field → Option (List (Nat × Nat))
  | [] => some []
  | f :: r => match sizeA P f.type, placesL P r with
    | some n, some l => some ((f.offset, n) :: l)
    | _, _ => none
def cPS (E : Env) (pre : Pre) (pl : List (Nat × Nat)) : List (Nat × Operand) → Option (List PT)
  | [] => some []
  | (i, x) :: r => match pl[i]?, cA E pre x, cPS E pre pl r with
    | some (off, n), some a, some l => some (.mk off n a :: l)
    | _, _, _ => none
def cPA (E : Env) (pre : Pre) (n : Nat) : List (Nat × Operand) → Option (List PT)
  | [] => some []
  | (i, x) :: r => match cA E pre x, cPA E pre n r with
    | some a, some l => some (.mk (i * n) n a :: l)
    | _, _ => none

def cOp (E : Env) (pre : Pre) (o : Oper) : Option I :=
  let v := cA E pre
  match o.op with
  | .move x => do pure (.mv (← v x))
  | .assign x => do pure (.mv (← v x))
  | .pick c a b => do pure (.pick (← v c) (← v a) (← v b))
  | .alloc t => do pure (.alloc (← zeroA E.P t))
  | .box _ x => do pure (.box (← v x))
  | .build t ps => (match E.P.underlying t with
    | some (.struct fs) => do pure (.build (← zeroA E.P t) (← cPS E pre (← placesL E.P fs.toList) ps.toList))
    | some (.array _ e) => do pure (.build (← zeroA E.P t) (← cPA E pre (← sizeA E.P e) ps.toList))
    | _ => none)
  | .buildSlice t n ps => (match E.P.underlying t with
    | some (.slice e) => (match sizeA E.P e, zeroA E.P e with
      | some es, some z => if n * es ≤ 16777216 ∧ lenN z = es ∧ 0 < es then (cPA E pre es ps.toList).map (.bslice n (repN n z)) else none
      | _, _ => none)
    | _ => none)
  | .load t a => (match aggB E.P t, sizeA E.P t with
    | some true, some n => (v a).map (.loadn n)
    | some false, some _ => (v a).map .load1
    | _, _ => none)
  | .store t a x => (match sizeA E.P t with
    | some n => if n = 0 then none else do pure (.store n (← v a) (← v x))
    | none => none)
  | .nilCheck x => do pure (.nilc (← v x))
  | .binOp op t x y _ => (match op, E.P.underlying t with
    | .eql, some .bool => do pure (.eqk 2 false (← v x) (← v y))
    | .eql, some (.slice _) => do pure (.eqk 0 false (← v x) (← v y))
    | .eql, some (.pointer _) => do pure (.eqk 1 false (← v x) (← v y))
    | .neq, some .bool => do pure (.eqk 2 true (← v x) (← v y))
    | .neq, some (.slice _) => do pure (.eqk 0 true (← v x) (← v y))
    | .neq, some (.pointer _) => do pure (.eqk 1 true (← v x) (← v y))
    | op, _ => do pure (.bin op (← v x) (← v y)))
  | .unOp op _ x => do pure (.un op (← v x))
  | .convert s d x => (match E.P.underlying s, E.P.underlying d with
    | some _, some (.int k) => (v x).map (.conv (kc k))
    | _, _ => none)
  | .makeFunc fn first cap => (match fn with
    | .func f => do pure (.mkf f (← cL E pre first.toList) (← cL E pre cap.toList))
    | _ => none)
  | .makeMap _ r => (match r with
    | none => some .mkmap
    | some _ => none)
  | .makeSlice t l c => (match E.P.underlying t with
    | some (.slice e) => (match sizeA E.P e, bytesA E.P e, zeroA E.P e with
      | some es, some bytes, some z => if 0 < es ∧ lenN z = es then do pure (.mksl es bytes z (← v l) (← v c)) else none
      | _, _, _ => none)
    | _ => none)
  | .slice t x lo hi mx => if mx.isSome && hi.isNone then none else (match E.P.underlying t with
    | some (.array n e) => do pure (.slca n (← sizeA E.P e) (← v x) (← cQ E pre lo) (← cQ E pre hi) (← cQ E pre mx))
    | some (.slice e) => do pure (.slcs (← sizeA E.P e) (← v x) (← cQ E pre lo) (← cQ E pre hi) (← cQ E pre mx))
    | _ => none)
  | .fieldAddr t x i => (match E.P.underlying t with
    | some (.struct fs) => (match fs[i]? with
      | some f => (match sizeA E.P f.type with
        | some n => if n = 0 then none else (v x).map (.fa f.offset)
        | none => none)
      | none => none)
    | _ => none)
  | .field t x i => (match E.P.underlying t with
    | some (.struct fs) => (match fs[i]? with
      | some f => do pure (.fld (← sizeA E.P f.type) (← aggB E.P f.type) f.offset (← v x))
      | none => none)
    | _ => none)
  | .indexAddr t x i => (match E.P.underlying t with
    | some (.array n e) => do pure (.iaa n (← sizeA E.P e) (← v x) (← v i))
    | some (.slice e) => do pure (.ias (← sizeA E.P e) (← v x) (← v i))
    | _ => none)
  | .index t x i => (match E.P.underlying t with
    | some (.array n e) => do pure (.idx n (← sizeA E.P e) (← aggB E.P e) (← v x) (← v i))
    | _ => none)
  | .lookup t m k ok => (match E.P.underlying t with
    | some (.map kt e) => (match E.P.underlying kt, zeroV E.P e with
      | some (.int j), some z => do pure (.lookup false (kc j) z ok (← v m) (← v k))
      | some .string, some z => do pure (.lookup true 0 z ok (← v m) (← v k))
      | _, _ => none)
    | _ => none)
  | .mapUpdate t m k x | .insert t m k x => (match E.P.underlying t with
    | some (.map kt _) => (match E.P.underlying kt with
      | some (.int j) => do pure (.mupd false (kc j) (← v m) (← v k) (← v x))
      | some .string => do pure (.mupd true 0 (← v m) (← v k) (← v x))
      | _ => none)
    | _ => none)
  | .extract x i => do pure (.ext i (← v x))
  | .call c => (match c.callee with
    | .value f => do pure (.call (← v f) (← cL E pre c.args.toList))
    | .builtin b => (match b, c.args.toList, c.argTypes.toList with
      | .len, [x], [t] => (match E.P.underlying t with
        | some (.array n _) => some (.lenc n)
        | some (.slice _) => (v x).map .len
        | _ => none)
      | .cap, [x], [t] => (match E.P.underlying t with
        | some (.slice _) => (v x).map .cap
        | _ => none)
      | .min, [x, y], _ => do pure (.mm false (← v x) (← v y))
      | .max, [x, y], _ => do pure (.mm true (← v x) (← v y))
      | .append, [s, x], [ts, tx] => (match E.P.underlying ts, E.P.underlying tx with
        | some (.slice e), some (.int _) => (match sizeA E.P e, bytesA E.P e, zeroA E.P e with
          | some es, some bytes, some z => if es = 0 ∨ bytes = 0 ∨ bytes > 1048576 ∨ lenN z ≠ es then none else do pure (.appz es bytes z (← v s) (← v x))
          | _, _, _ => none)
        | some (.slice e), some (.slice _) => (match sizeA E.P e, bytesA E.P e, zeroA E.P e with
          | some es, some bytes, some z => if es = 0 ∨ bytes = 0 ∨ bytes > 1048576 ∨ lenN z ≠ es then none else do pure (.app es bytes (← v s) (← v x))
          | _, _, _ => none)
        | _, _ => none)
      | .copy, [d, s], [td, _] => (match E.P.underlying td with
        | some (.slice e) => (match sizeA E.P e with
          | some es => if es = 0 then none else do pure (.copy es (← v d) (← v s))
          | none => none)
        | _ => none)
      | .clear, [s], [t] => (match E.P.underlying t with
        | some (.slice e) => (match sizeA E.P e, zeroA E.P e with
          | some es, some z => if es = 0 ∨ lenN z ≠ es then none else (v s).map (.clear es z)
          | _, _ => none)
        | _ => none)
      | _, _, _ => none)
    | _ => none)
  | .defer _ => none
  | _ => some .bad

/-- a guard's operand -/
def cG (E : Env) (all : List (Option Nat)) (pre : Pre) (g : Option (Nat × Bool)) : Option (Option (OA × Bool)) := match g with
  | none => some none
  | some (j, want) => (match all[j]? with
    | some (some d) => (cA E pre (.tmp d)).map fun a => some (a, want)
    | _ => none)

/-- an operation's destination: what becomes of its value, and what is known behind it -/
def cD (E : Env) (pre : Pre) (d : Option Nat) : Option (D × Pre) := match d with
  | none => some (.drop, pre)
  | some t => if E.T ≤ t ∨ t = dsI then none else if Nat.testBit E.K t then some (.keep (pathE t t), pre.kept t) else some (.push, pre.pushed t)

/-- a call that is deferred -/
def isDf (o : Oper) : Option (Operand × List Operand) := match o.guard, o.dst, o.op with
  | none, none, .defer c => (match c.callee with
    | .value f => some (f, c.args.toList)
    | _ => none)
  | _, _, _ => none

/-- 'x := y', of no guard -/
def isMv (o : Oper) : Option (Nat × Operand) := match o.guard, o.dst, o.op with
  | none, some d, .move x => some (d, x)
  | none, some d, .assign x => some (d, x)
  | _, _, _ => none

def cOps (E : Env) (all : List (Option Nat)) (un : Nat → I → List Nat) : List Oper → Pre → Nat → Option Q
  | [], _, _ => some .nil
  | o :: r, pre, j => match isMv o with
    | some (d, x) => (match cSrc E pre x with
      | some s => if E.T ≤ d ∨ d = dsI then none else if Nat.testBit E.K d then (match oaOf pre.n s, cOps E all un r (pre.kept d) (j + 1) with
          | some a, some l => some (.mvk (pathE d d) a l)
          | _, _ => none) else cOps E all un r (pre.aka d s) (j + 1)
      | none => none)
    | none => match isDf o with
    | some (f, args) => if E.rd then none else (match cA E pre f, cL E pre args, cOps E all un r pre (j + 1) with
      | some a, some b, some l => some (.dfr a b l)
      | _, _, _ => none)
    | none => (match cD E pre o.dst with
      | some (d, pre') => (match cG E all pre o.guard, cOp E pre o, cOps E all un r pre' (j + 1) with
        | some g, some i, some l => (match g, i, d with
          | none, .bin op x y, .push => some (.bin op x y l)
          | none, .bin op x y, .keep p => some (.bink p op x y l)
          | g, i, d => some (.gen i g d j (un j i) l))
        | _, _, _ => none)
      | none => none)

/-- the temporaries that an operation names -/
def tmpsO (xs : List Operand) : List Nat := xs.filterMap fun x => match x with
  | .tmp t => some t
  | _ => none
def namesO (all : List (Option Nat)) (o : Oper) : List Nat :=
  tmpsO o.op.operands.toList ++ (match o.guard with
    | some (j, _) => (match all[j]? with
      | some (some d) => [d]
      | _ => [])
    | none => [])
/-- two operations that share a temporary which one of them writes are ordered -/
def tmpsOk (ops : Array Oper) : Bool :=
  let all := ops.toList.map (·.dst)
  let b := (Region.before ops).toList
  ops.toList.zipIdx.all (fun (o, j) => o.after.all fun e => !Region.binds .any e || e.on < j) && ops.toList.zipIdx.all fun (o, j) => all.zipIdx.all fun (d, i) =>
    match d with
    | none => true
    | some t => i == j || !(((o.dst == some t) || (namesO all o).contains t)) || Nat.testBit (b.getD (max i j) 0) (min i j)

/-- the operations ahead of one that need not be, and that touch memory -/
def unOf (ks : List Nat) (bef : List Nat) (j : Nat) (i : I) : List Nat :=
  if kindI i = 0 then [] else (List.range j).filter fun i => !(Nat.testBit (bef.getD j 0) i) && (ks.getD i 0 != 0)

/-- the kinds of the operations -/
def kindO (o : Oper) : Nat := match o.op with
  | .move _ | .assign _ | .pick .. | .build .. | .nilCheck _ | .binOp .. | .unOp .. | .convert .. | .makeFunc .. | .slice .. | .fieldAddr .. | .field .. | .indexAddr .. | .index .. | .extract .. => 0
  | .call { callee := .builtin .len, .. } | .call { callee := .builtin .cap, .. } | .call { callee := .builtin .min, .. } | .call { callee := .builtin .max, .. } => 0
  | _ => 1

def cC (E : Env) : Code → Option C
  | .skip => some .skip
  | .region _ ops draw =>
    if draw then
      (if tmpsOk ops && decide (E.P.globals.size ≤ 4) then (cOps E (ops.toList.map (·.dst)) (unOf (ops.toList.map kindO) (Region.before ops).toList) ops.toList ⟨[], 0⟩ 0).map .regd else none)
    else (cOps E (ops.toList.map (·.dst)) (fun _ _ => []) ops.toList ⟨[], 0⟩ 0).map .reg
  | .seq a b => (match cC E a, cC E b with
    | some a, some b => some (.seq a b)
    | _, _ => none)
  | .cond c a b => (match cA E ⟨[], 0⟩ c, cC E a, cC E b with
    | some c, some a, some b => some (.cond c a b)
    | _, _, _ => none)
  | .block id b => (cC E b).map (.block id)
  | .loop b => (cC E b).map .loop
  | .exit id => some (.exit id)
  | .ret => some .ret
  | .rangeFunc f ps as body => if E.rd || !(ps.toList.all fun t => t < E.T && t != dsI) then none else (match cA E ⟨[], 0⟩ f, cC { E with rd := true } as, cC { E with rd := true } body with
    | some f, some as, some body => some (.rf f (ps.toList.map fun t => pathE t t) as body)
    | _, _, _ => none)
  | _ => none

/-! ## What has to be kept beyond its region -/

def bit (t : Nat) : Nat := Nat.shiftLeft 1 t
def useO (pre : List (Option Nat)) (xs : List Nat) : Nat := xs.foldl (fun s t => if pre.contains (some t) then s else Nat.lor s (bit t)) 0
def useR (all : List (Option Nat)) : List Oper → List (Option Nat) → Nat → Nat
  | [], _, s => s
  | o :: r, pre, s => useR all r (o.dst :: pre) (Nat.lor s (useO pre (namesO all o)))
def useC : Code → Nat → Nat
  | .region _ ops _, s => useR (ops.toList.map (·.dst)) ops.toList [] s
  | .seq a b, s => useC b (useC a s)
  | .cond c a b, s => useC b (useC a (Nat.lor s (useO [] (tmpsO [c]))))
  | .block _ b, s => useC b s
  | .loop b, s => useC b s
  | .rangeFunc f _ as body, s => useC body (useC as (Nat.lor s (useO [] (tmpsO [f]))))
  | _, s => s
def useRes (l : List ResultVar) : Nat := l.foldl (fun s x => match x with
  | .tmp t => Nat.lor s (bit t)
  | .cell a _ => Nat.lor s (bit a)) 0
def keepF (fn : Func) (c : Code) : Nat := useC c (useRes fn.results.toList)

def cRS (P : Program) : List ResultVar → Option (List RS)
  | [] => some []
  | .tmp t :: r => (cRS P r).map (.t (pathE t t) :: ·)
  | .cell a t :: r => (match aggB P t, sizeA P t, cRS P r with
    | some true, some n, some l => some (.cn (pathE a a) n :: l)
    | some false, some _, some l => some (.c1 (pathE a a) :: l)
    | _, _, _ => none)
def cF (P : Program) (K : Nat) (fn : Func) : Option CF := match fn.body with
  | none => none
  | some c => (match cC { P, K, T := fn.ntmps, rd := false } c, cRS P fn.results.toList with
    | some c, some rs => some (.mk c rs)
    | _, _ => none)

end Go.Ev

/-
  Definitions: summaries, computed calls, the evaluator with fewer steps.
-/
namespace Go.Ev
noncomputable section

def on1 (k : AV → RV) (l : List AV) : RV := List.rec (motive := fun _ => RV) .no (fun a r _ => List.rec (motive := fun _ => RV) (k a) (fun _ _ _ => .no) r) l
def on2 (k : AV → AV → RV) (l : List AV) : RV := List.rec (motive := fun _ => RV) .no (fun a r _ => on1 (k a) r) l
def on3 (k : AV → AV → AV → RV) (l : List AV) : RV := List.rec (motive := fun _ => RV) .no (fun a r _ => on2 (k a) r) l
/-- a number of this kind -/
def kN (c : Nat) (k : Nat → RV) (v : AV) : RV := NV.rec (motive := fun _ => RV) .no (fun c' m => Bool.rec (motive := fun _ => RV) .no (k m) (Nat.beq c c')) (toN v)
/-- a field -/
def kF (k : Nat → RV) (v : AV) : RV := kN 3 (fun f => Bool.rec (motive := fun _ => RV) .no (k f) (Nat.ble f 3)) v

def pF (f : Nat) : Nat := Bool.rec (Bool.rec (Bool.rec 998244353 12289 (Nat.beq f 2)) 257 (Nat.beq f 1)) 97 (Nat.beq f 0)
def gF (f : Nat) : Nat := Bool.rec (Bool.rec (Bool.rec 3 11 (Nat.beq f 2)) 3 (Nat.beq f 1)) 5 (Nat.beq f 0)
def tF (f : Nat) : Nat := Bool.rec (Bool.rec (Bool.rec 23 12 (Nat.beq f 2)) 8 (Nat.beq f 1)) 5 (Nat.beq f 0)
def eF (f : Nat) : Nat := Bool.rec (Bool.rec (Bool.rec 3 5 (Nat.beq f 2)) 3 (Nat.beq f 1)) 5 (Nat.beq f 0)

def addF (f a b : Nat) : Nat := Nat.mod (Nat.add (Nat.mod a (pF f)) (Nat.mod b (pF f))) (pF f)
def subF (f a b : Nat) : Nat := Nat.mod (Nat.sub (Nat.add (Nat.mod a (pF f)) (pF f)) (Nat.mod b (pF f))) (pF f)
def mulF (f a b : Nat) : Nat := Nat.mod (Nat.mul (Nat.mod a (pF f)) (Nat.mod b (pF f))) (pF f)
def powK (f a : Nat) (k : Nat) : Nat → Nat :=
  Nat.rec (motive := fun _ => Nat → Nat) (fun _ => 1)
    (fun _ ih n => Bool.rec (Bool.rec (mulF f (ih (Nat.div n 2)) (ih (Nat.div n 2))) (mulF f (mulF f (ih (Nat.div n 2)) (ih (Nat.div n 2))) a) (Nat.beq (Nat.mod n 2) 1)) 1 (Nat.beq n 0)) k
/-- exponents are below 2^32 -/
def powF (f a n : Nat) : Nat := powK f a 32 n

def vSum : List AV → W → RV := fun l w => on1 (kF (fun _ => .ok (.b true) w)) l
def pSum : List AV → W → RV := fun l w => on1 (kF (fun f => .ok (.n 7 (pF f)) w)) l
def gSum : List AV → W → RV := fun l w => on1 (kF (fun f => .ok (.n 7 (gF f)) w)) l
def tSum : List AV → W → RV := fun l w => on1 (kF (fun f => .ok (.n 3 (tF f)) w)) l
def eSum : List AV → W → RV := fun l w => on1 (kF (fun f => .ok (.n 3 (eF f)) w)) l
def redSum : List AV → W → RV := fun l w => on2 (fun x a => kF (fun f => kN 7 (fun a => .ok (.n 7 (Nat.mod a (pF f))) w) a) x) l
def addSum : List AV → W → RV := fun l w => on3 (fun x a b => kF (fun f => kN 7 (fun a => kN 7 (fun b => .ok (.n 7 (addF f a b)) w) b) a) x) l
def subSum : List AV → W → RV := fun l w => on3 (fun x a b => kF (fun f => kN 7 (fun a => kN 7 (fun b => .ok (.n 7 (subF f a b)) w) b) a) x) l
def mulSum : List AV → W → RV := fun l w => on3 (fun x a b => kF (fun f => kN 7 (fun a => kN 7 (fun b => .ok (.n 7 (mulF f a b)) w) b) a) x) l
def negSum : List AV → W → RV := fun l w => on2 (fun x a => kF (fun f => kN 7 (fun a => .ok (.n 7 (subF f 0 a)) w) a) x) l
def powSum : List AV → W → RV := fun l w => on3 (fun x a b => kF (fun f => kN 7 (fun a => kN 7 (fun n => Bool.rec (motive := fun _ => RV) (.ok (.n 7 (powF f a n)) w) .no (Nat.ble 4294967296 n)) b) a) x) l
def invSum : List AV → W → RV := fun l w => on2 (fun x a => kF (fun f => kN 7 (fun a => .ok (.n 7 (powF f a (Nat.sub (pF f) 2))) w) a) x) l
def divSum : List AV → W → RV := fun l w => on3 (fun x a b => kF (fun f => kN 7 (fun a => kN 7 (fun b => .ok (.n 7 (mulF f a (powF f b (Nat.sub (pF f) 2)))) w) b) a) x) l

def cstF (f r j : Nat) : Nat := addF f (powF f (gF f) (Nat.add (Nat.add (Nat.mul 4 r) j) 1)) 7
def cubF (f r j x : Nat) : Nat := powF f (addF f x (cstF f r j)) (eF f)
def dotF (f m0 m1 m2 m3 a b c d : Nat) : Nat := addF f (addF f (addF f (addF f 0 (mulF f m0 a)) (mulF f m1 b)) (mulF f m2 c)) (mulF f m3 d)
def kS {β : Type} (no : β) (k : Nat → Nat → Nat → Nat → β) (v : AV) : β := match v with
  | .agg [.n 7 a, .n 7 b, .n 7 c, .n 7 d] => k a b c d
  | _ => no
/-- a round of the permutation, in the field 3 -/
def rndV (r a b c d : Nat) : AV :=
  (fun a b c d => AV.agg [.n 7 (dotF 3 2 3 1 1 a b c d), .n 7 (dotF 3 1 2 3 1 a b c d), .n 7 (dotF 3 1 1 2 3 a b c d), .n 7 (dotF 3 3 1 1 2 a b c d)]) (cubF 3 r 0 a) (cubF 3 r 1 b) (cubF 3 r 2 c) (cubF 3 r 3 d)
def rndSum : List AV → W → RV := fun l w => on3 (fun x y s => kN 3 (fun f => Bool.rec (motive := fun _ => RV) .no (kN 3 (fun r => Bool.rec (motive := fun _ => RV) .no (kS .no (fun a b c d => .ok (rndV r a b c d) w) s) (Nat.ble r 7)) y) (Nat.beq f 3)) x) l

def eqV (a : AV) : AV → Bool :=
  AV.rec (motive_1 := fun _ => AV → Bool) (motive_2 := fun _ => List AV → Bool)
    (fun k m b => match b with | .n k' m' => Nat.beq k k' && Nat.beq m m' | _ => false)
    (fun k m b => match b with | .z k' m' => Nat.beq k k' && Nat.beq m m' | _ => false)
    (fun x b => match b with | .b y => Bool.rec (Bool.rec true false y) y x | _ => false)
    (fun _ => false)
    (fun _ _ => false)
    (fun b => match b with | .pn => true | _ => false)
    (fun i o b => match b with | .p i' o' => Nat.beq i i' && Nat.beq o o' | _ => false)
    (fun b => match b with | .sn => true | _ => false)
    (fun i o l c e b => match b with | .sl i' o' l' c' e' => Nat.beq i i' && Nat.beq o o' && Nat.beq l l' && Nat.beq c c' && Nat.beq e e' | _ => false)
    (fun b => match b with | .se => true | _ => false)
    (fun b => match b with | .mn => true | _ => false)
    (fun i b => match b with | .m i' => Nat.beq i i' | _ => false)
    (fun f _ _ h1 h2 b => match b with | .f f' x y => Nat.beq f f' && h1 x && h2 y | _ => false)
    (fun l b => match b with | .y l' => Nat.beq l l' | _ => false)
    (fun b => match b with | .nf => true | _ => false)
    (fun _ h b => match b with | .agg l => h l | _ => false)
    (fun _ h b => match b with | .tup l => h l | _ => false)
    (fun l => List.rec (motive := fun _ => Bool) true (fun _ _ _ => false) l)
    (fun _ _ h1 h2 l => List.rec (motive := fun _ => Bool) false (fun b r _ => h1 b && h2 r) l) a
def eqVs (l m : List AV) : Bool := eqV (.tup l) (.tup m)

inductive Ob where
  | mk (id : Nat) (cs : List AV)
/-- the objects from these on, put into a memory -/
def mkH (L : List Ob) (t : TR AO) : TR AO :=
  List.rec (motive := fun _ => TR AO → TR AO) (fun t => t) (fun o _ ih t => Ob.rec (motive := fun _ => TR AO) (fun id cs => TR.force ih (TR.set .no (mkCs cs) (pathOf id) t)) o) L t
def mkW (L : List Ob) (nx : Nat) (wl : List L3) : W := .mk (mkH L .e) nx 0 wl

/-- these cells are there -/
def chkL (t : TR AV) (l : List AV) : Nat → Bool :=
  List.rec (motive := fun _ => Nat → Bool) (fun _ => true) (fun a _ ih i => Bool.rec (motive := fun _ => Bool) false (ih (Nat.succ i)) (eqV (TR.get .u (pathOf i) t) a)) l
def chkO (l : List AV) (o : AO) : Bool := onCs false (fun n t => Bool.rec (motive := fun _ => Bool) false (chkL t l 0) (Nat.beq n (lenL l))) o
/-- these objects are there; they are all of what is laid up to nx -/
def chkH (L : List Ob) (w : W) (nx : Nat) : Bool :=
  List.rec (motive := fun _ => Bool) true (fun o _ ih => Bool.rec (motive := fun _ => Bool) false ih (Ob.rec (motive := fun _ => Bool) (fun id cs => Bool.rec (motive := fun _ => Bool) false (chkO cs (w.ob id)) (Nat.ble (Nat.succ id) nx)) o)) L
def chkW (L : List Ob) (nx : Nat) (w : W) : Bool :=
  Bool.rec (motive := fun _ => Bool) false (Bool.rec (motive := fun _ => Bool) false (chkH L w nx) (Nat.beq w.bs 0)) (Nat.beq w.nx nx)
def chkR (v : AV) (L : List Ob) (nx : Nat) (r : RV) : Bool :=
  RV.rec (motive := fun _ => Bool) false (fun v' w => Bool.rec (motive := fun _ => Bool) false (chkW L nx w) (eqV v' v)) r

def obL (L : List Ob) (id : Nat) : Option (List AV) := match L with
  | [] => none
  | .mk i cs :: r => match obL r id with
    | some cs => some cs
    | none => if i = id then some cs else none

/-- the arguments, the objects that the call knows; the value, these objects and new ones behind it -/
inductive Memo where
  | mk (A : List AV) (L : List Ob) (nx : Nat) (v : AV) (L' : List Ob) (nx' : Nat)

def isSomeL (o : Option (List AV)) : Bool := Option.rec (motive := fun _ => Bool) false (fun _ => true) o
def lenO (o : Option (List AV)) : Nat := Option.rec (motive := fun _ => Nat) 0 (fun l => Nat.succ (lenL l)) o
/-- the second list has what the first one has; what is never written stays -/
def covL (L L' : List Ob) : Bool :=
  List.rec (motive := fun _ => Bool) true (fun o _ ih => Bool.rec (motive := fun _ => Bool) false ih (Ob.rec (motive := fun _ => Bool) (fun id _ => isSomeL (obL L' id)) o)) L
def roL (L L' : List Ob) : Bool := Nat.beq (lenO (obL L 0)) (lenO (obL L' 0)) && Nat.beq (lenO (obL L 1)) (lenO (obL L' 1)) && Nat.beq (lenO (obL L 2)) (lenO (obL L' 2)) && Nat.beq (lenO (obL L 3)) (lenO (obL L' 3))

def chkU (L : List Ob) (nx : Nat) (w : W) : Bool :=
  Bool.rec (motive := fun _ => Bool) false (Bool.rec (motive := fun _ => Bool) false (chkH L w nx) (Nat.beq w.bs 0)) (Nat.ble w.nx nx)
def memo1 (m : Memo) (args : List AV) (w : W) (z : RV) : RV :=
  Memo.rec (motive := fun _ => RV) (fun A L nx v L' nx' => Bool.rec (motive := fun _ => RV) z (Bool.rec (motive := fun _ => RV) z
    (W.rec (motive := fun _ => RV) (fun hp _ bs wl => .ok v (.mk (mkH L' hp) nx' bs wl)) w) (chkU L nx w)) (eqVs args A)) m
def memoS (ms : List Memo) (args : List AV) (w : W) : RV := List.rec (motive := fun _ => RV) .no (fun m _ ih => memo1 m args w ih) ms

def pathQ (k : Nat) : Pa := Bool.rec (motive := fun _ => Pa) (pathF k k) (pathF 40 k) (Nat.ble k 1000000000000)

def pP (k : Nat → Nat → RC) (v : AV) : RC := AV.rec (motive_1 := fun _ => RC) (motive_2 := fun _ => Unit) (fun _ _ => .no) (fun _ _ => .no) (fun _ => .no) .no (fun _ => .no) .no (fun id off => k id off) .no (fun _ _ _ _ _ => .no) .no .no (fun _ => .no) (fun _ _ _ _ _ => .no) (fun _ => .no) .no (fun _ _ => .no) (fun _ _ => .no) () (fun _ _ _ _ => ()) v
def pN (k : Nat → RC) (v : AV) : RC := AV.rec (motive_1 := fun _ => RC) (motive_2 := fun _ => Unit) (fun _ m => k m) (fun _ _ => .no) (fun _ => .no) .no (fun _ => .no) .no (fun _ _ => .no) .no (fun _ _ _ _ _ => .no) .no .no (fun _ => .no) (fun _ _ _ _ _ => .no) (fun _ => .no) .no (fun _ _ => .no) (fun _ _ => .no) () (fun _ _ _ _ => ()) v
def pB (k : Bool → RC) (v : AV) : RC := AV.rec (motive_1 := fun _ => RC) (motive_2 := fun _ => Unit) (fun _ _ => .no) (fun _ _ => .no) k .no (fun _ => .no) .no (fun _ _ => .no) .no (fun _ _ _ _ _ => .no) .no .no (fun _ => .no) (fun _ _ _ _ _ => .no) (fun _ => .no) .no (fun _ _ => .no) (fun _ _ => .no) () (fun _ _ _ _ => ()) v
def pS (k : Nat → Nat → Nat → Nat → Nat → RC) (v : AV) : RC := AV.rec (motive_1 := fun _ => RC) (motive_2 := fun _ => Unit) (fun _ _ => .no) (fun _ _ => .no) (fun _ => .no) .no (fun _ => .no) .no (fun _ _ => .no) .no k .no .no (fun _ => .no) (fun _ _ _ _ _ => .no) (fun _ => .no) .no (fun _ _ => .no) (fun _ _ => .no) () (fun _ _ _ _ => ()) v
def cO (k : Nat → TR AV → RC) (o : AO) : RC := AO.rec (motive := fun _ => RC) .no k (fun _ => .no) .no (fun _ _ _ _ _ _ => .no) o
def pL (e : RC) (k : AV → List AV → RC) (l : List AV) : RC := List.rec (motive := fun _ => RC) e (fun a r _ => k a r) l

/-- two numbers of one kind -/
def nnF (op : BinOp) (f : Nat → Nat → Nat → Option AV) (x y : AV) (k : AV → RC) : RC :=
  AV.rec (motive_1 := fun _ => RC) (motive_2 := fun _ => Unit) (fun c a =>
    AV.rec (motive_1 := fun _ => RC) (motive_2 := fun _ => Unit) (fun c' b => Option.rec (motive := fun _ => RC) .no k (Bool.rec (binS op x y) (f c a b) (Nat.beq c c')))
      (fun _ _ => opt1' (binS op x y) k) (fun _ => .no) .no (fun _ => .no) .no (fun _ _ => .no) .no (fun _ _ _ _ _ => .no) .no .no (fun _ => .no) (fun _ _ _ _ _ => .no) (fun _ => .no) .no (fun _ _ => .no) (fun _ _ => .no) () (fun _ _ _ _ => ()) y)
    (fun _ _ => opt1' (binS op x y) k) (fun _ => .no) .no (fun _ => .no) .no (fun _ _ => .no) .no (fun _ _ _ _ _ => .no) .no .no (fun _ => .no) (fun _ _ _ _ _ => .no) (fun _ => .no) .no (fun _ _ => .no) (fun _ _ => .no) () (fun _ _ _ _ => ()) x
  where opt1' (o : Option AV) (k : AV → RC) : RC := Option.rec (motive := fun _ => RC) .no k o

def slowF (op : BinOp) (x y : AV) (k : AV → RC) : RC := Option.rec (motive := fun _ => RC) .no k (binS op x y)
def binK (op : BinOp) : AV → AV → (AV → RC) → RC :=
  BinOp.rec (motive := fun _ => AV → AV → (AV → RC) → RC) (nnF .add addN) (nnF .sub subN) (nnF .mul mulN) (nnF .quo quoN) (nnF .rem remN) (slowF .and) (slowF .or) (slowF .xor) (slowF .shl) (slowF .shr) (slowF .andNot)
    (nnF .eql eqlN) (nnF .neq neqN) (nnF .lss lssN) (nnF .leq leqN) (nnF .gtr gtrN) (nnF .geq geqN) op

def fLoad1 (x : OA) : EX := fun _ R tm w k => pP (fun id off => W.rec (motive := fun _ => RC) (fun hp _ _ _ => cO (fun _ t => Bool.rec (motive := fun _ => RC) (k (TR.get .u (pathQ off) t) w) .no (isU (TR.get .u (pathQ off) t))) (TR.get .no (pathQ id) hp)) w) (evA x R tm)
def fFa (o : Nat) (x : OA) : EX := fun _ R tm w k => pP (fun id off => k (.p id (Nat.add off o)) w) (evA x R tm)
def fIas (es : Nat) (x i : OA) : EX := fun _ R tm w k => pS (fun id off len _ _ => pN (fun j => Bool.rec (motive := fun _ => RC) .no (k (.p id (Nat.add off (Nat.mul j es))) w) (Nat.ble (Nat.succ j) len)) (evA i R tm)) (evA x R tm)
def fIaa (n es : Nat) (x i : OA) : EX := fun _ R tm w k => pP (fun id off => pN (fun j => Bool.rec (motive := fun _ => RC) .no (k (.p id (Nat.add off (Nat.mul j es))) w) (Nat.ble (Nat.succ j) n)) (evA i R tm)) (evA x R tm)
def fPick (c a b : OA) : EX := fun _ R tm w k => pB (fun t => Bool.rec (motive := fun _ => RC) (k (evA b R tm) w) (k (evA a R tm) w) t) (evA c R tm)
def fBin (op : BinOp) (x y : OA) : EX := fun _ R tm w k => binK op (evA x R tm) (evA y R tm) (fun v => k v w)
def setW (id off n : Nat) (o : AO) (k : W → RC) (w : W) : RC :=
  W.rec (motive := fun _ => RC) (fun hp nx bs wl => Bool.rec (motive := fun _ => RC) .no (TR.force (fun hp' => k (.mk hp' nx bs (note id off n bs wl))) (TR.set .no o (pathQ id) hp)) (Nat.ble roN id)) w
def fStore (n : Nat) (x v : OA) : EX := fun S R tm w k =>
  Bool.rec (motive := fun _ => RC) (xStore n x v S R tm w k)
    (pP (fun id off => W.rec (motive := fun _ => RC) (fun hp _ _ _ => cO (fun m t => Bool.rec (motive := fun _ => RC)
      (Bool.rec (motive := fun _ => RC) .no (TR.force (fun t' => setW id off n (.cs m t') (fun w' => k .u w') w) (TR.set .u (evA v R tm) (pathQ off) t)) (Nat.beq n 1)) .no (isU (TR.get .u (pathQ off) t))) (TR.get .no (pathQ id) hp)) w) (evA x R tm)) (okC (evA v R tm))
def newW (o : AO) (k : Nat → W → RC) (w : W) : RC :=
  W.rec (motive := fun _ => RC) (fun hp nx bs wl => TR.force (fun hp' => k nx (.mk hp' (Nat.succ nx) bs wl)) (TR.set .no o (pathQ nx) hp)) w
def fAlloc (z : List AV) : EX := fun _ _ _ w k => newW (mkCs z) (fun id w' => k (.p id 0) w') w
def fCall (f : OA) (args : List OA) : EX := fun S R tm w k =>
  AV.rec (motive_1 := fun _ => RC) (motive_2 := fun _ => Unit) (fun _ _ => .no) (fun _ _ => .no) (fun _ => .no) .no (fun _ => .no) .no (fun _ _ => .no) .no (fun _ _ _ _ _ => .no) .no .no (fun _ => .no)
    (fun fid a b _ _ => RV.rec (motive := fun _ => RC) .no k (S.call fid (appL a (appL (evL args R tm) b)) w)) (fun l => RV.rec (motive := fun _ => RC) .no k (roundV S l (evL args R tm) w)) .no (fun _ _ => .no) (fun _ _ => .no) () (fun _ _ _ _ => ()) (evA f R tm)
/-- take, drop, append by their recursor -/
def takR (n : Nat) : List AV → List AV := Nat.rec (motive := fun _ => List AV → List AV) (fun _ => []) (fun _ ih l => List.rec (motive := fun _ => List AV) [] (fun a r _ => a :: ih r) l) n
def drpR (n : Nat) : List AV → List AV := Nat.rec (motive := fun _ => List AV → List AV) (fun l => l) (fun _ ih l => List.rec (motive := fun _ => List AV) [] (fun _ r _ => ih r) l) n
/-- parts laid over cells, from a place on: the parts' places rise -/
def fillR (ps : List (Nat × Nat × AV)) : List AV → Option (List AV) :=
  List.rec (motive := fun _ => List AV → Option (List AV)) (fun cs => some cs)
    (fun p _ ih cs => Prod.rec (motive := fun _ => Option (List AV)) (fun off q => Prod.rec (motive := fun _ => Option (List AV)) (fun size v =>
      Bool.rec (motive := fun _ => Option (List AV)) none (Bool.rec (motive := fun _ => Option (List AV)) none (Bool.rec (motive := fun _ => Option (List AV))
        (ih (appL (takR off cs) (appL (cellsV v) (drpR (Nat.add off size) cs)))) none (isU v)) (Nat.ble (Nat.add off size) (lenL cs))) (Nat.beq (lenL (cellsV v)) size)) q) p) ps
def fBuild (z : List AV) (ps : List PT) : EX := fun _ R tm w k => Option.rec (motive := fun _ => RC) .no (fun l => k (.agg l) w) (fillR (evP ps R tm) z)
def fBslice (n : Nat) (z : List AV) (ps : List PT) : EX := fun _ R tm w k => Option.rec (motive := fun _ => RC) .no (fun cs => newW (mkCs cs) (fun id w' => k (.sl id 0 n n 0) w') w) (fillR (evP ps R tm) z)

def exF (i : I) : EX :=
  I.rec (motive := fun _ => EX) xMv fPick fAlloc xBox fBuild fBslice fLoad1 xLoadn fStore xNilc fBin xEqk xUn xConv xMkf xMkmap xMksl xSlca xSlcs fFa xFld fIaa fIas xIdx xLookup xMupd xExt xLenc xLen xCap xMm xApp xAppz xCopy xClear fCall xBad i

def dstF (d : D) (ih : List AV → Tm → W → RC) (R : List AV) (tm : Tm) (v : AV) (w : W) : RC :=
  D.rec (motive := fun _ => RC) (ih R tm w) (ih (v :: R) tm w) (fun p => TR.force (fun tm' => ih R tm' w) (TR.set .u v p tm)) d

def opsF (S : Lv) (q : Q) : List AV → Tm → W → RC :=
  Q.rec (motive := fun _ => List AV → Tm → W → RC) (fun _ tm w => .ok .nrm tm w)
    (fun p x _ ih R tm w => TR.force (fun tm' => ih R tm' w) (TR.set .u (evA x R tm) p tm))
    (fun op x y _ ih R tm w => binK op (evA x R tm) (evA y R tm) (fun v => ih (v :: R) tm w))
    (fun p op x y _ ih R tm w => binK op (evA x R tm) (evA y R tm) (fun v => TR.force (fun tm' => ih R tm' w) (TR.set .u v p tm)))
    (fun f args _ ih R tm w => FV.rec (motive := fun _ => RC) .no (fun _ _ _ => TR.force (fun tm' => ih R tm' w) (pushD (.tup (evA f R tm :: evL args R tm)) tm)) (fun _ => .no) (toF (evA f R tm)))
    (fun i g d _ _ _ ih R tm w => Option.rec (motive := fun _ => RC) (exF i S R tm w (dstF d ih R tm))
      (fun g => wantK (some g) R tm (dstF d ih R tm (.tup []) w) (exF i S R tm w (dstF d ih R tm))) g) q

def finF (j : Nat) (un : List Nat) (all : Bool) (rd : List L3) (w0 : W) (lg : List Rec) (k : List Rec → K1) (v : AV) (w : W) : RC :=
  List.rec (motive := fun _ => RC) (k (.mk j all rd w.wl w0.nx w.nx :: lg) v (W.close' w0 w)) (fun _ _ _ => finD j un all rd w0 lg k v w) un
abbrev EXD := Nat → List Nat → Lv → List Rec → List AV → Tm → W → (List Rec → K1) → RC
def d0 (x : EX) : EXD := fun _ _ S lg R tm w k => x S R tm w (k lg)
def d1 (x : EX) (nd : List AV → Tm → List L3) : EXD := fun j un S lg R tm w k => Bool.rec (motive := fun _ => RC) (x S R tm w.open' (finF j un false (nd R tm) w lg k)) .no (anyL (fun x => Nat.ble w.nx (idOf x)) (nd R tm))
def d1e (x : EX) : EXD := fun j un S lg R tm w k => x S R tm w.open' (finF j un false [] w lg k)
def d2 (x : EX) : EXD := fun j un S lg R tm w k => x S R tm w.open' (finF j un true [] w lg k)
def d3 : EXD := fun _ _ _ _ _ _ _ _ => .no
def exG (i : I) : EXD :=
  I.rec (motive := fun _ => EXD) (fun x => d0 (xMv x)) (fun c a b => d0 (fPick c a b)) (fun z => d1e (fAlloc z)) (fun x => d1e (xBox x)) (fun z ps => d0 (fBuild z ps)) (fun n z ps => d1e (fBslice n z ps)) (fun x => d1 (fLoad1 x) (fun R tm => ptrNd 1 (evA x R tm)))
    (fun n x => d1 (xLoadn n x) (fun R tm => ptrNd n (evA x R tm))) (fun n x v => d1 (fStore n x v) (fun R tm => ptrNd n (evA x R tm))) (fun x => d0 (xNilc x)) (fun op x y => d0 (fBin op x y)) (fun a b x y => d0 (xEqk a b x y)) (fun op x => d0 (xUn op x)) (fun c x => d0 (xConv c x))
    (fun f a b => d0 (xMkf f a b)) (d1e xMkmap) (fun a b z l c => d1e (xMksl a b z l c)) (fun n es x a b c => d0 (xSlca n es x a b c)) (fun es x a b c => d0 (xSlcs es x a b c)) (fun o x => d0 (fFa o x)) (fun n ag o x => d0 (xFld n ag o x)) (fun l es x i => d0 (fIaa l es x i))
    (fun es x i => d0 (fIas es x i)) (fun l n ag x i => d0 (xIdx l n ag x i)) (fun st kk z ok m k => d1 (xLookup st kk z ok m k) (fun R tm => mapNd (evA m R tm))) (fun st kk m k x => d1 (xMupd st kk m k x) (fun R tm => mapNd (evA m R tm))) (fun i x => d0 (xExt i x)) (fun n => d0 (xLenc n)) (fun x => d0 (xLen x)) (fun x => d0 (xCap x))
    (fun b x y => d0 (xMm b x y)) (fun es bytes s x => d1 (xApp es bytes s x) (fun R tm => objNd (evA s R tm) ++ slNd es (evA x R tm))) (fun es bytes z s x => d1 (xAppz es bytes z s x) (fun R tm => objNd (evA s R tm))) (fun es d s => d1 (xCopy es d s) (fun R tm => slNd es (evA d R tm) ++ slNd es (evA s R tm)))
    (fun es z s => d1 (xClear es z s) (fun R tm => slNd es (evA s R tm))) (fun f a => d2 (fCall f a)) d3 i

def opsG (S : Lv) (q : Q) : NxD :=
  Q.rec (motive := fun _ => NxD) (fun _ _ tm w => .ok .nrm tm w)
    (fun p x _ ih lg R tm w => TR.force (fun tm' => ih lg R tm' w) (TR.set .u (evA x R tm) p tm))
    (fun op x y _ ih lg R tm w => binK op (evA x R tm) (evA y R tm) (fun v => ih lg (v :: R) tm w))
    (fun p op x y _ ih lg R tm w => binK op (evA x R tm) (evA y R tm) (fun v => TR.force (fun tm' => ih lg R tm' w) (TR.set .u v p tm)))
    (fun _ _ _ _ _ _ _ _ => .no)
    (fun i g d j un _ ih lg R tm w => Option.rec (motive := fun _ => RC) (exG i j un S lg R tm w (fun lg' => dstF d (ih lg') R tm))
      (fun g => wantK (some g) R tm (dstF d (ih lg) R tm (.tup []) w) (exG i j un S lg R tm w (fun lg' => dstF d (ih lg') R tm))) g) q

def denF (S : Lv) (c : C) : CC :=
  C.rec (motive := fun _ => CC) (fun tm w => .ok .nrm tm w) (fun l tm w => opsF S l [] tm w) (fun l tm w => opsG S l [] [] tm w)
    (fun _ _ a b tm w => RC.rec (motive := fun _ => RC) .no (fun x tm' w' => X.rec (motive := fun _ => RC) (b tm' w') (fun id => .ok (.exit id) tm' w') (.ok .ret tm' w') x) (a tm w))
    (fun c _ _ a b tm w => pB (fun t => Bool.rec (motive := fun _ => RC) (b tm w) (a tm w) t) (evA c [] tm))
    (fun id _ b => blockK id b) (fun _ b => loopK b loopN) (fun id tm w => .ok (.exit id) tm w) (fun tm w => .ok .ret tm w) (fun f ps as body _ _ => rfK S f ps as body) c

def endE (rs : List RS) (tm : Tm) (w1 : W) : RV :=
  Option.rec (motive := fun _ => RV) .no (fun l => .ok (packR l) w1) (resL tm w1 rs)
def bodyF (S : Lv) (f : CF) (args : List AV) (w : W) : RV :=
  CF.rec (motive := fun _ => RV) (fun c rs => Bool.rec (motive := fun _ => RV) .no (RC.rec (motive := fun _ => RV) .no (fun x tm w1 => Bool.rec (motive := fun _ => RV) .no
    (List.rec (motive := fun _ => RV) (endE rs tm w1) (fun _ _ _ => endF S rs tm w1) (listT (TR.get .u dsP tm))) (isEnd x)) (denF S c (initT args 0 .e) w)) (Nat.ble (lenL args) dsI)) f

def callF (F : TR FE) (S : Lv) (fid : Nat) (args : List AV) (w : W) : RV :=
  FE.rec (motive := fun _ => RV) .no (fun f => bodyF S f args w) (fun s => s args w) (TR.get .no (pathQ fid) F)
def semF (F : TR FE) (n : Nat) : Lv :=
  Nat.rec (motive := fun _ => Lv) ⟨fun _ _ _ => .no, fun _ _ _ => .no, fun _ _ _ => .no⟩ (fun _ S => ⟨callF F S, callDD F S, denF S⟩) n
/-- a value without objects -/
def noId (a : AV) : Bool :=
  AV.rec (motive_1 := fun _ => Bool) (motive_2 := fun _ => Bool) (fun _ _ => true) (fun _ _ => true) (fun _ => true) true (fun _ => true) true (fun _ _ => false) true (fun _ _ _ _ _ => false) false true (fun _ => false) (fun _ _ _ _ _ => false) (fun _ => false) true
    (fun _ h => h) (fun _ h => h) true (fun _ _ h1 h2 => Bool.rec (motive := fun _ => Bool) false h2 h1) a

/-- less is told of a value -/
def leU (a b : AV) : Bool := Bool.rec (motive := fun _ => Bool) (eqV a b) true (isU b)
def leUs (l : List AV) : List AV → Bool :=
  List.rec (motive := fun _ => List AV → Bool) (fun m => List.rec (motive := fun _ => Bool) true (fun _ _ _ => false) m) (fun a _ ih m => List.rec (motive := fun _ => Bool) false (fun b r _ => Bool.rec (motive := fun _ => Bool) false (ih r) (leU a b)) m) l
def leV (a b : AV) : Bool := match a, b with
  | .tup l, .tup m => leUs l m
  | a, b => leU a b

/-- a computed call that leaves nothing new: what it gives is told without objects -/
inductive MemoZ where
  | mk (A : List AV) (L : List Ob) (nx : Nat) (v : AV)

def memoZ1 (m : MemoZ) (args : List AV) (w : W) (z : RV) : RV :=
  MemoZ.rec (motive := fun _ => RV) (fun A L nx v => Bool.rec (motive := fun _ => RV) z (Bool.rec (motive := fun _ => RV) z (.ok v w) (chkU L nx w)) (eqVs args A)) m
def memoZ (ms : List MemoZ) (args : List AV) (w : W) : RV := List.rec (motive := fun _ => RV) .no (fun m _ ih => memoZ1 m args w ih) ms

def chkZ (v : AV) (L : List Ob) (nx : Nat) (r : RV) : Bool :=
  RV.rec (motive := fun _ => Bool) false (fun v' w => Bool.rec (motive := fun _ => Bool) false (Bool.rec (motive := fun _ => Bool) false (Bool.rec (motive := fun _ => Bool) false (chkH L w nx) (Nat.beq w.bs 0)) (noId v)) (leV v' v)) r

/-- all objects that a value names are below k -/
def idsLt (k : Nat) (a : AV) : Bool :=
  AV.rec (motive_1 := fun _ => Bool) (motive_2 := fun _ => Bool) (fun _ _ => true) (fun _ _ => true) (fun _ => true) true (fun _ => true) true (fun i _ => Nat.ble (Nat.succ i) k) true (fun i _ _ _ _ => Nat.ble (Nat.succ i) k) true true (fun i => Nat.ble (Nat.succ i) k)
    (fun _ _ _ h1 h2 => h1 && h2) (fun i => Nat.ble (Nat.succ i) k) true (fun _ h => h) (fun _ h => h) true (fun _ _ h1 h2 => Bool.rec (motive := fun _ => Bool) false h2 h1) a
def idsLtL (k : Nat) (L : List Ob) : Bool :=
  List.rec (motive := fun _ => Bool) true (fun o _ ih => Bool.rec (motive := fun _ => Bool) false ih (Ob.rec (motive := fun _ => Bool) (fun _ cs => idsLt k (.tup cs)) o)) L


end
end Go.Ev
