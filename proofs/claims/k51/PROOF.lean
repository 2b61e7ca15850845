import PyProof.Rows.All
import PySem.Challenge.RW_restchoices_k51_whole_games_of_crowds
import HandS.ForMost
import HandS.ForExc
import HandS.TupAny
import HandS.TupMul
import HandS.TupLe
import HandS.Style
import HandS.Wide
import HandS.WideBits
import HandS.Zip
import HandS.Conv
import HandS.Defaults
import HandS.IsInst
import HandS.EndBits
import HandS.ExcInit
import KE.GoesZip
import KE.GoesEnum
import KE.GoesMore
set_option Elab.async false
set_option linter.all false
set_option maxRecDepth 100000
set_option maxHeartbeats 4000000
set_option exponentiation.threshold 2000
/-! DnSem: a plain meaning for the pure Python of these laws: data without addresses, one urn (a list of toInts that is
passed on and changed), exceptions as outcomes. -/
namespace Dn

/-- data: what stands at an address is folded into it -/
inductive D where
  | non | bl (b : Bool) | int (i : Int) | str (s : List Nat) | tup (l : List D) | lst (l : List D) | dct (ks vs : List D) | urn | scr (l : List Int)

abbrev Urn := List Int
structure Er where
  cls : Nat
  d : Option D

inductive Out (α : Type) where
  | ok (a : α) (u : Urn) | er (x : Er) (u : Urn) | bad

def Out.bind {α β : Type} : Out α → (α → Urn → Out β) → Out β
  | .ok a u, f => f a u
  | .er x u, _ => .er x u
  | .bad, _ => .bad
@[simp] theorem Out.bind_ok {α β : Type} (a : α) (u : Urn) (f : α → Urn → Out β) : (Out.ok a u).bind f = f a u := by cases u <;> rfl
@[simp] theorem Out.bind_er {α β : Type} (x : Er) (u : Urn) (f : α → Urn → Out β) : (Out.er x u).bind f = .er x u := rfl
@[simp] theorem Out.bind_bad {α β : Type} (f : α → Urn → Out β) : (Out.bad).bind f = .bad := rfl
/-- within a comprehension no exception may come -/
def Out.calm {α : Type} : Out α → Out α
  | .er _ _ => .bad
  | o => o
@[simp] theorem Out.calm_ok {α : Type} (a : α) (u : Urn) : (Out.ok a u).calm = .ok a u := rfl

def lift {α : Type} (o : Option α) (u : Urn) : Out α := match o with
  | some a => .ok a u
  | none => .bad
@[simp] theorem lift_some {α : Type} (a : α) (u : Urn) : lift (some a) u = .ok a u := rfl

abbrev Env := List (Option D)
abbrev ME := Env → Urn → Out D
abbrev MEs := Env → Urn → Out (List D)
abbrev Fn := List D → Urn → Out D

/-! ### data operations -/
def LN : Nat := 16777216
def big : Nat := 400000

mutual
/-- no list, dict, urn anywhere within -/
def noL : D → Bool
  | .non => true | .bl _ => true | .int _ => true | .str _ => true
  | .tup l => noLs l
  | .lst _ => false | .dct _ _ => false | .urn => false | .scr _ => true
def noLs : List D → Bool
  | [] => true
  | d :: r => noL d && noLs r
end

mutual
/-- == -/
def eqD : D → D → Bool
  | .non, .non => true
  | .bl a, .bl b => a == b
  | .bl a, .int j => (if a then 1 else 0) == j
  | .int i, .bl b => i == (if b then 1 else 0)
  | .int i, .int j => i == j
  | .str x, .str y => x == y
  | .tup xs, .tup ys => eqDs xs ys
  | .lst xs, .lst ys => eqDs xs ys
  | _, _ => false
def eqDs : List D → List D → Bool
  | [], [] => true
  | x :: xs, y :: ys => eqD x y && eqDs xs ys
  | _, _ => false
end
mutual
/-- data whose == is carried: its depth within n -/
def okEq : Nat → D → Bool
  | _, .non => true | _, .bl _ => true | _, .int _ => true
  | _, .str s => decide (s.length ≤ 1000) && s.all fun c => decide (c < 128)
  | 0, .tup _ => false
  | n + 1, .tup l => okEqs n l
  | 0, .lst _ => false
  | n + 1, .lst l => okEqs n l
  | _, .dct _ _ => false | _, .urn => false | _, .scr _ => false
def okEqs : Nat → List D → Bool
  | _, [] => true
  | n, d :: r => okEq n d && okEqs n r
end

def isInts : List D → Bool
  | [] => true
  | .int _ :: r => isInts r
  | _ :: _ => false
def toInts : List D → List Int
  | [] => []
  | .int i :: r => i :: toInts r
  | _ :: r => 0 :: toInts r
def isBls : List D → Bool
  | [] => true
  | .bl _ :: r => isBls r
  | _ :: _ => false
def toBls : List D → List Bool
  | [] => []
  | .bl b :: r => b :: toBls r
  | _ :: r => false :: toBls r
def flat : D → Bool
  | .non => true | .bl _ => true | .int _ => true | .str _ => true | _ => false
/-- == of flat data -/
def eqF : D → D → Bool
  | .non, .non => true
  | .bl a, .bl b => a == b
  | .bl a, .int b => (if a then 1 else 0) == b
  | .int a, .bl b => a == (if b then 1 else 0)
  | .int a, .int b => a == b
  | .str a, .str b => a == b
  | _, _ => false

def mulOk (i j : Int) : Bool := decide (i.natAbs < 2 ^ 64) || decide (j.natAbs < 2 ^ 64) || (decide (i.natAbs.log2 < big) && decide (j.natAbs.log2 < big))
@[simp] def opAdd : D → D → Option D
  | .int i, .int j => some (.int (i + j))
  | .tup a, .tup b => if a.length + b.length ≤ LN then some (.tup (a ++ b)) else none
  | .lst a, .lst b => if a.length + b.length ≤ LN then some (.lst (a ++ b)) else none
  | _, _ => none
@[simp] def opSub : D → D → Option D
  | .int i, .int j => some (.int (i - j))
  | _, _ => none
def opMul : D → D → Option D
  | .int i, .int j => if mulOk i j then some (.int (i * j)) else none
  | .tup l, .int k => if l ≠ [] ∧ 2 ≤ k ∧ k ≤ 1000 ∧ l.length ≤ 1000 then some (.tup (List.replicate k.toNat l).flatten) else none
  | .lst l, .int k => if -(2 ^ 63) ≤ k ∧ k < 2 ^ 63 ∧ l.length * k.toNat ≤ LN then some (.lst (List.replicate k.toNat l).flatten) else none
  | _, _ => none
/-- of lists alone -/
def opMulL : D → D → Option D
  | .lst l, .int k => if -(2 ^ 63) ≤ k ∧ k < 2 ^ 63 ∧ l.length * k.toNat ≤ LN then some (.lst (List.replicate k.toNat l).flatten) else none
  | _, _ => none
def opFdiv : D → D → Option D
  | .int i, .int j => if 0 < j ∧ j.natAbs.log2 < 9000 then some (.int (i / j)) else none
  | _, _ => none
def opMod : D → D → Option D
  | .int i, .int j => if 0 < j then some (.int (i % j)) else none
  | _, _ => none
def opPow : D → D → Option D
  | .int i, .int j => if 0 ≤ j ∧ j ≤ 1000000 ∧ i.natAbs < 2 ^ 64 then some (.int (i ^ j.toNat)) else none
  | _, _ => none
/-- the order of tuples of toInts -/
def lexLt : List Int → List Int → Bool
  | [], [] => false
  | [], _ :: _ => true
  | _ :: _, [] => false
  | a :: x, b :: y => if a = b then lexLt x y else decide (a < b)
@[simp] def opLt : D → D → Option D
  | .int i, .int j => some (.bl (decide (i < j)))
  | .tup a, .tup b => if isInts a && isInts b then some (.bl (lexLt (toInts a) (toInts b))) else none
  | _, _ => none
@[simp] def opLe : D → D → Option D
  | .int i, .int j => some (.bl (decide (i ≤ j)))
  | _, _ => none
@[simp] def opGt : D → D → Option D
  | .int i, .int j => some (.bl (decide (j < i)))
  | _, _ => none
@[simp] def opGe : D → D → Option D
  | .int i, .int j => some (.bl (decide (j ≤ i)))
  | _, _ => none
def opEq (x y : D) : Option D := if okEq 64 x && okEq 64 y then some (.bl (eqD x y)) else none
def opNe (x y : D) : Option D := if okEq 64 x && okEq 64 y then some (.bl (!eqD x y)) else none
def opIsB : D → D → Option D
  | .bl a, .bl b => some (.bl (a == b))
  | _, _ => none
def opIsNB : D → D → Option D
  | .bl a, .bl b => some (.bl (!(a == b)))
  | _, _ => none
@[simp] def items : D → Option (List D)
  | .tup l => some l
  | .lst l => some l
  | .scr l => some (l.map D.int)
  | _ => none
def opIn (x y : D) : Option D := match items y with
  | some l => if flat x && l.all flat then some (.bl (l.any fun z => eqF z x)) else none
  | none => none
def opNotIn (x y : D) : Option D := match items y with
  | some l => if flat x && l.all flat then some (.bl (!(l.any fun z => eqF z x))) else none
  | none => none
@[simp] def unNeg : D → Option D
  | .int i => some (.int (-i))
  | _ => none

/-- the place that an index of any sign means -/
def ixN (n : Nat) (i : Int) : Option Nat := if 0 ≤ i then (if i < n then some i.toNat else none) else if -(n : Int) ≤ i then some (i + n).toNat else none
def atI {α : Type} (xs : List α) (i : Int) : Option α := (ixN xs.length i).bind fun j => xs[j]?
def sIx (n : Nat) (d : Nat) : Option Int → Nat
  | none => d
  | some i => if i < 0 then (i + n).toNat else min i.toNat n
def cut {α : Type} (xs : List α) (lo hi : Option Int) : List α := (xs.drop (sIx xs.length 0 lo)).take (sIx xs.length xs.length hi - sIx xs.length 0 lo)
def ixD (x i : D) : Option D := match i with
  | .int k => (match x with
    | .tup l => atI l k
    | .lst l => atI l k
    | .scr l => (atI l k).map D.int
    | _ => none)
  | _ => none
def slD (x : D) (lo hi : Option Int) : Option D := match x with
  | .tup l => some (.tup (cut l lo hi))
  | .lst l => some (.lst (cut l lo hi))
  | .scr l => some (.lst ((cut l lo hi).map D.int))
  | _ => none

/-! ### built-ins -/
def fAbs : List D → Option D
  | [.int i] => some (.int (if i < 0 then -i else i))
  | _ => none
@[simp] def fInt : List D → Option D
  | [.int i] => some (.int i)
  | [.bl b] => some (.int (if b then 1 else 0))
  | _ => none
@[simp] def fLen : List D → Option D
  | [.tup l] => some (.int l.length)
  | [.lst l] => some (.int l.length)
  | [.scr l] => some (.int l.length)
  | _ => none
def fAll : List D → Option D
  | [.lst l] => if isBls l then some (.bl ((toBls l).all id)) else none
  | _ => none
def fAny : List D → Option D
  | [.lst l] => if isBls l then some (.bl ((toBls l).any id)) else none
  | _ => none
def fSum : List D → Option D
  | [.lst l] => if isInts l then some (.int (toInts l).sum) else none
  | _ => none
def cat2 : List D → Option (List D)
  | [] => some []
  | .lst l :: r => (cat2 r).map fun m => l ++ m
  | _ :: _ => none
/-- sum(lists, []) -/
def fSumL : List D → Option D
  | [.lst l, .lst []] => match cat2 l with
    | some m => if m.length ≤ LN then some (.lst m) else none
    | none => none
  | _ => none
def fTuple : List D → Option D
  | [.tup l] => some (.tup l)
  | [.lst l] => some (.tup l)
  | _ => none
def fList : List D → Option D
  | [.tup l] => some (.lst l)
  | [.lst l] => some (.lst l)
  | _ => none
def fMax2 : List D → Option D
  | [.int i, .int j] => some (.int (if j > i then j else i))
  | _ => none
def fMin2 : List D → Option D
  | [.int i, .int j] => some (.int (if j < i then j else i))
  | _ => none
def fDivmod : List D → Option D
  | [.int i, .int j] => if 0 < j ∧ i.natAbs < 2 ^ 400 then some (.tup [.int (i / j), .int (i % j)]) else none
  | _ => none
inductive Ty where
  | int | bool | str | tuple | list | dict
  deriving DecidableEq
@[simp] def isTy : D → Ty → Bool
  | .bl _, .int => true
  | .bl _, .bool => true
  | .int _, .int => true
  | .str _, .str => true
  | .tup _, .tuple => true
  | .lst _, .list => true
  | .dct _ _, .dict => true
  | .urn, .list => true
  | .scr _, .list => true
  | _, _ => false

/-! ### expressions -/
@[simp] def get (ρ : Env) (i : Nat) : Option D := match ρ[i]? with
  | some (some d) => some d
  | _ => none
def mLit (d : D) : ME := fun _ u => .ok d u
def mVar (i : Nat) : ME := fun ρ u => lift (get ρ i) u
def mBin (f : D → D → Option D) (a b : ME) : ME := fun ρ u => (a ρ u).bind fun x u => (b ρ u).bind fun y u => lift (f x y) u
def mUn (f : D → Option D) (a : ME) : ME := fun ρ u => (a ρ u).bind fun x u => lift (f x) u
/-- a op b op' c -/
def mChain (f g : D → D → Option D) (a b c : ME) : ME := fun ρ u => (a ρ u).bind fun x u => (b ρ u).bind fun y u => (lift (f x y) u).bind fun r u => match r with
  | .bl true => (c ρ u).bind fun z u => lift (g y z) u
  | .bl false => .ok (.bl false) u
  | _ => .bad
def mNot (a : ME) : ME := fun ρ u => (a ρ u).bind fun x u => match x with
  | .bl b => .ok (.bl (!b)) u
  | _ => .bad
def mAnd (a b : ME) : ME := fun ρ u => (a ρ u).bind fun x u => match x with
  | .bl true => b ρ u
  | .bl false => .ok (.bl false) u
  | _ => .bad
def mOr (a b : ME) : ME := fun ρ u => (a ρ u).bind fun x u => match x with
  | .bl true => .ok (.bl true) u
  | .bl false => b ρ u
  | _ => .bad
/-- a test's outcome -/
def asB : D → Urn → Out Bool
  | .bl b, u => .ok b u
  | _, _ => .bad
@[simp] theorem asB_bl (b : Bool) (u : Urn) : asB (.bl b) u = .ok b u := rfl
def mIf (c a b : ME) : ME := fun ρ u => ((c ρ u).bind asB).bind fun x u => if x then a ρ u else b ρ u
@[simp] def isNon : D → Bool
  | .non => true
  | _ => false
def mIsN (a : ME) : ME := fun ρ u => (a ρ u).bind fun x u => .ok (.bl (isNon x)) u
def mNotN (a : ME) : ME := fun ρ u => (a ρ u).bind fun x u => .ok (.bl (!isNon x)) u
def mNil : MEs := fun _ u => .ok [] u
def mCons (a : ME) (r : MEs) : MEs := fun ρ u => (a ρ u).bind fun x u => (r ρ u).bind fun xs u => .ok (x :: xs) u
def mTup (a : MEs) : ME := fun ρ u => (a ρ u).bind fun xs u => .ok (.tup xs) u
def mLst (a : MEs) : ME := fun ρ u => (a ρ u).bind fun xs u => .ok (.lst xs) u
/-- a subscript: of the urn, too -/
def ixU (x k : D) (u : Urn) : Out D := match x with
  | .urn => (match k with
    | .int j => lift ((atI u j).map D.int) u
    | _ => .bad)
  | _ => lift (ixD x k) u
def mIx (a i : ME) : ME := fun ρ u => (a ρ u).bind fun x u => (i ρ u).bind fun k u => ixU x k u
abbrev MO := Env → Urn → Out (Option Int)
def oNo : MO := fun _ u => .ok none u
def oYes (a : ME) : MO := fun ρ u => (a ρ u).bind fun x u => match x with
  | .int i => .ok (some i) u
  | _ => .bad
def mSl (a : ME) (lo hi : MO) : ME := fun ρ u => (a ρ u).bind fun x u => (lo ρ u).bind fun l u => (hi ρ u).bind fun h u => lift (slD x l h) u
def mCall (f : Fn) (a : MEs) : ME := fun ρ u => (a ρ u).bind fun xs u => f xs u
/-- with keywords: the values come in the order in which they are written, and are put in the parameters' -/
@[simp] def pick (p : List Nat) (xs : List D) : List D := p.filterMap fun i => xs[i]?
def mCallK (f : Fn) (p : List Nat) (a : MEs) : ME := fun ρ u => (a ρ u).bind fun xs u => f (pick p xs) u
def mB (f : List D → Option D) (a : MEs) : ME := fun ρ u => (a ρ u).bind fun xs u => lift (f xs) u
def mIsTy (ts : List Ty) (a : ME) : ME := fun ρ u => (a ρ u).bind fun x u => .ok (.bl (ts.any fun t => isTy x t)) u

/-- f(e), e a new list of numbers: f's urn -/
def mCallU (f : Fn) (a : ME) : ME := fun ρ u => (a ρ u).bind fun x u => match x with
  | .lst l => if isInts l then (match f [.urn] (toInts l) with
    | .ok (.bl b) _ => .ok (.bl b) u
    | _ => .bad) else .bad
  | _ => .bad

/-! ### what is walked -/
def iSeq (a : ME) : MEs := fun ρ u => (a ρ u).bind fun x u => lift (items x) u
def rng (lo hi : Int) : List D := (List.range (hi - lo).toNat).map fun k => .int (lo + (k : Nat))
def rOk (lo hi : Int) : Bool := decide (-1000000 ≤ lo) && decide (lo ≤ 1000000) && decide (-1000000 ≤ hi) && decide (hi ≤ 1000000)
def iRng (a : MEs) : MEs := fun ρ u => (a ρ u).bind fun xs u => match xs with
  | [.int hi] => if rOk 0 hi then .ok (rng 0 hi) u else .bad
  | [.int lo, .int hi] => if rOk lo hi then .ok (rng lo hi) u else .bad
  | _ => .bad
def zip2 : List D → List D → List D
  | x :: xs, y :: ys => .tup [x, y] :: zip2 xs ys
  | _, _ => []
def iZip (a : MEs) : MEs := fun ρ u => (a ρ u).bind fun xs u => match xs with
  | [x, y] => (match items x with
    | some l => (match items y with
      | some m => .ok (zip2 l m) u
      | none => .bad)
    | none => .bad)
  | _ => .bad
def enumD : Nat → List D → List D
  | _, [] => []
  | k, x :: xs => .tup [.int k, x] :: enumD (k + 1) xs
def iEnum (a : MEs) : MEs := fun ρ u => (a ρ u).bind fun xs u => match xs with
  | [x] => (match items x with
    | some l => .ok (enumD 0 l) u
    | none => .bad)
  | _ => .bad
/-- list(range(..)), tuple(range(..)) -/
def mLstI (a : MEs) : ME := fun ρ u => (a ρ u).bind fun xs u => .ok (.lst xs) u
def mTupI (a : MEs) : ME := fun ρ u => (a ρ u).bind fun xs u => .ok (.tup xs) u

/-! ### targets of a comprehension -/
abbrev TG := D → Env → Option Env
abbrev TGs := List D → Env → Option Env
def gName (i : Nat) : TG := fun d ρ => some (ρ.set i (some d))
def gsNil : TGs := fun ds ρ => match ds with
  | [] => some ρ
  | _ => none
def gsCons (g : TG) (r : TGs) : TGs := fun ds ρ => match ds with
  | d :: ds => (g d ρ).bind fun ρ => r ds ρ
  | [] => none
def gTup (r : TGs) : TG := fun d ρ => match d with
  | .tup l => r l ρ
  | _ => none
@[simp] def wipeE (ρ : Env) : List Nat → Env
  | [] => ρ
  | v :: vs => (wipeE ρ vs).set v none

/-! ### comprehensions -/
def lcGo (g : TG) (c elt : ME) (ρ : Env) : List D → Urn → Out (List D)
  | [], u => .ok [] u
  | d :: ds, u => match g d ρ with
    | none => .bad
    | some ρ1 => ((c ρ1 u).bind asB).bind fun b u => if b then (elt ρ1 u).bind fun x u => (lcGo g c elt ρ ds u).bind fun xs u => .ok (x :: xs) u else lcGo g c elt ρ ds u
def mTrue : ME := fun _ u => .ok (.bl true) u
def mLc (it : MEs) (g : TG) (c elt : ME) (vs : List Nat) : ME := fun ρ u => (it ρ u).bind fun ds u => ((lcGo g c elt (wipeE ρ vs) ds u).calm).bind fun xs u => .ok (.lst xs) u
/-- two clauses -/
def lcGo2 (g : TG) (it2 : MEs) (g2 : TG) (c2 elt : ME) (vs1 : List Nat) (ρ : Env) : List D → Urn → Out (List D)
  | [], u => .ok [] u
  | d :: ds, u => match g d ρ with
    | none => .bad
    | some ρ1 => (it2 ρ1 u).bind fun es u => (lcGo g2 c2 elt (wipeE ρ1 vs1) es u).bind fun xs u => (lcGo2 g it2 g2 c2 elt vs1 ρ ds u).bind fun ys u => .ok (xs ++ ys) u
/-- the list of l and xs, where it is not too long -/
def lim (l xs : List D) (u : Urn) : Out D := if l.length + xs.length ≤ LN then .ok (.lst (l ++ xs)) u else .bad
def mLc2 (it : MEs) (g : TG) (it2 : MEs) (g2 : TG) (c2 elt : ME) (vs vs1 : List Nat) : ME := fun ρ u => (it ρ u).bind fun ds u => ((lcGo2 g it2 g2 c2 elt vs1 (wipeE ρ vs) ds u).calm).bind fun xs u => lim [] xs u

@[simp] theorem Out.bind_assoc {α β γ : Type} (o : Out α) (f : α → Urn → Out β) (h : β → Urn → Out γ) : (o.bind f).bind h = o.bind fun a u => (f a u).bind h := by cases o <;> rfl
theorem Out.bind_ret {α : Type} (o : Out α) : (o.bind fun a u => .ok a u) = o := by cases o <;> rfl
/-! ### statements -/
/-- a slot: data that stand still, or a list of one's own (own2: of lists of one's own) that may be changed -/
inductive Slot where
  | no | val (d : D) | own (l : List D) | own2 (ll : List (List D))
abbrev SEnv := List Slot
def Slot.snap : Slot → Option D
  | .no => none
  | .val d => some d
  | .own l => some (.lst l)
  | .own2 ll => some (.lst (ll.map D.lst))
def Slot.hide : Slot → Option D
  | .val d => some d
  | _ => none
@[simp] def snapE (Γ : SEnv) : Env := Γ.map Slot.snap
@[simp] def hideE (Γ : SEnv) : Env := Γ.map Slot.hide
@[simp] def Slot.frz : Slot → Slot
  | .own l => .val (.lst l)
  | .own2 ll => .val (.lst (ll.map D.lst))
  | s => s

inductive SOut where
  | nx (Γ : SEnv) (u : Urn) | rt (d : D) (u : Urn) | bk (Γ : SEnv) (u : Urn) | ct (Γ : SEnv) (u : Urn) | er (x : Er) (u : Urn) | bad
abbrev MS := SEnv → Urn → SOut
def thenS {α : Type} : Out α → (α → Urn → SOut) → SOut
  | .ok a u, f => f a u
  | .er x u, _ => .er x u
  | .bad, _ => .bad
@[simp] theorem thenS_ok {α : Type} (a : α) (u : Urn) (f : α → Urn → SOut) : thenS (.ok a u) f = f a u := by cases u <;> rfl
@[simp] theorem thenS_er {α : Type} (x : Er) (u : Urn) (f : α → Urn → SOut) : thenS (.er x u) f = .er x u := rfl
def SOut.andThen : SOut → MS → SOut
  | .nx Γ u, f => f Γ u
  | o, _ => o
@[simp] theorem SOut.andThen_nx (Γ : SEnv) (u : Urn) (f : MS) : (SOut.nx Γ u).andThen f = f Γ u := by cases u <;> rfl
@[simp] theorem SOut.andThen_rt (d : D) (u : Urn) (f : MS) : (SOut.rt d u).andThen f = .rt d u := rfl
@[simp] theorem SOut.andThen_bk (Γ : SEnv) (u : Urn) (f : MS) : (SOut.bk Γ u).andThen f = .bk Γ u := rfl
@[simp] theorem SOut.andThen_ct (Γ : SEnv) (u : Urn) (f : MS) : (SOut.ct Γ u).andThen f = .ct Γ u := rfl
@[simp] theorem SOut.andThen_er (x : Er) (u : Urn) (f : MS) : (SOut.er x u).andThen f = .er x u := rfl
def sNop : MS := fun Γ u => .nx Γ u
def sSeq (a b : MS) : MS := fun Γ u => (a Γ u).andThen b
def sBreak : MS := fun Γ u => .bk Γ u
def sCont : MS := fun Γ u => .ct Γ u
def sRet (m : ME) : MS := fun Γ u => thenS (m (snapE Γ) u) fun d u => .rt d u
def sRetN : MS := fun _ u => .rt .non u
def sExp (m : ME) : MS := fun Γ u => thenS (m (snapE Γ) u) fun _ u => .nx Γ u
def sIf (c : ME) (a b : MS) : MS := fun Γ u => thenS ((c (snapE Γ) u).bind asB) fun x u => if x then a Γ u else b Γ u
/-- x = e: e doesn't speak of lists of one's own -/
def sSet (i : Nat) (m : ME) : MS := fun Γ u => thenS (m (hideE Γ) u) fun d u => .nx (Γ.set i (.val d)) u
/-- x = e: e may speak of them, and gives data without lists -/
def sSetN (i : Nat) (m : ME) : MS := fun Γ u => thenS (m (snapE Γ) u) fun d u => if noL d then .nx (Γ.set i (.val d)) u else .bad
/-- x = a new list, of one's own -/
def sSetF (i : Nat) (m : ME) : MS := fun Γ u => thenS (m (hideE Γ) u) fun d u => match d with
  | .lst l => .nx (Γ.set i (.own l)) u
  | _ => .bad
/-- the list in slot i is no longer changed -/
def sFrz (i : Nat) (m : MS) : MS := fun Γ u => match Γ[i]? with
  | some s => m (Γ.set i s.frz) u
  | none => .bad
def sApp (i : Nat) (m : ME) : MS := fun Γ u => match Γ[i]? with
  | some (.own l) => thenS (m (hideE Γ) u) fun d u => if l.length < LN then .nx (Γ.set i (.own (l ++ [d]))) u else .bad
  | _ => .bad
def sAppN (i : Nat) (m : ME) : MS := fun Γ u => match Γ[i]? with
  | some (.own l) => thenS (m (snapE Γ) u) fun d u => if l.length < LN ∧ noL d = true then .nx (Γ.set i (.own (l ++ [d]))) u else .bad
  | _ => .bad
/-- x[k] = e -/
def putD (l : List D) (kd d : D) : Option (List D) := match kd with
  | .int j => if noL d then (ixN l.length j).map fun p => l.set p d else none
  | _ => none
def sPut (i : Nat) (k e : ME) : MS := fun Γ u => match Γ[i]? with
  | some (.own l) => thenS (e (snapE Γ) u) fun d u => thenS (k (snapE Γ) u) fun kd u => match putD l kd d with
    | some l' => .nx (Γ.set i (.own l')) u
    | none => .bad
  | _ => .bad
/-- urn[k] = e, the urn in slot i -/
def putU (u : Urn) (kd d : D) : Option Urn := match kd with
  | .int j => (match d with
    | .int z => (ixN u.length j).map fun p => u.set p z
    | _ => none)
  | _ => none
def sPutU (i : Nat) (k e : ME) : MS := fun Γ u => match Γ[i]? with
  | some (.val .urn) => thenS (e (snapE Γ) u) fun d u => thenS (k (snapE Γ) u) fun kd u => match putU u kd d with
    | some u => .nx Γ u
    | none => .bad
  | _ => .bad
/-- urn[k], x = e, the urn in slot i, x in slot j -/
def sUnpU (i j : Nat) (k : Int) (e : ME) : MS := fun Γ u => match Γ[i]? with
  | some (.val .urn) => thenS (e (hideE Γ) u) fun d u => match d with
    | .tup [z, d] => (match putU u (.int k) z with
      | some u => .nx (Γ.set j (.val d)) u
      | none => .bad)
    | _ => .bad
  | _ => .bad
/-- a, b, .. = e1, e2, ..: true: a new list of one's own -/
abbrev MQ := Env → Urn → Out (List (Bool × D))
def qNil : MQ := fun _ u => .ok [] u
def qCons (a : ME) (r : MQ) : MQ := fun ρ u => (a ρ u).bind fun x u => (r ρ u).bind fun xs u => .ok ((false, x) :: xs) u
def qConsF (a : ME) (r : MQ) : MQ := fun ρ u => (a ρ u).bind fun x u => (r ρ u).bind fun xs u => .ok ((true, x) :: xs) u
@[simp] def setsE : List Nat → List (Bool × D) → SEnv → Option SEnv
  | [], [], Γ => some Γ
  | i :: is, (false, d) :: qs, Γ => setsE is qs (Γ.set i (.val d))
  | i :: is, (true, .lst l) :: qs, Γ => setsE is qs (Γ.set i (.own l))
  | _, _, _ => none
def sPar (is : List Nat) (q : MQ) : MS := fun Γ u => thenS (q (hideE Γ) u) fun qs u => match setsE is qs Γ with
  | some Γ => .nx Γ u
  | none => .bad
/-- .. that may speak of lists of one's own, and gives data without lists -/
def sParN (is : List Nat) (q : MEs) : MS := fun Γ u => thenS (q (snapE Γ) u) fun ds u => if noLs ds then match setsE is (ds.map fun d => (false, d)) Γ with
  | some Γ => .nx Γ u
  | none => .bad
  else .bad
/-- x = a new list of new lists -/
def lsts : List D → Option (List (List D))
  | [] => some []
  | .lst l :: r => (lsts r).map fun m => l :: m
  | _ :: _ => none
def sSet2 (i : Nat) (m : ME) : MS := fun Γ u => thenS (m (hideE Γ) u) fun d u => match d with
  | .lst l => (match lsts l with
    | some ll => .nx (Γ.set i (.own2 ll)) u
    | none => .bad)
  | _ => .bad
def ix2 (ll : List (List D)) : D → Option Nat
  | .int j => ixN ll.length j
  | _ => none
/-- x[k].append(e) -/
def app2 (ll : List (List D)) (p : Nat) (d : D) : Option (List (List D)) := (ll[p]?).bind fun l => if l.length < LN ∧ noL d = true then some (ll.set p (l ++ [d])) else none
def sApp2 (i : Nat) (k m : ME) : MS := fun Γ u => match Γ[i]? with
  | some (.own2 ll) => thenS (k (snapE Γ) u) fun kd u => match ix2 ll kd with
    | some p => thenS (m (snapE Γ) u) fun d u => (match app2 ll p d with
      | some ll => .nx (Γ.set i (.own2 ll)) u
      | none => .bad)
    | none => .bad
  | _ => .bad
/-- x[k][j] = d -/
def put2 (ll : List (List D)) (p : Nat) (jd d : D) : Option (List (List D)) := match jd with
  | .int z => (ll[p]?).bind fun l => (ixN l.length z).bind fun q => if noL d = true then some (ll.set p (l.set q d)) else none
  | _ => none
def sPut2 (i : Nat) (k j : ME) (d : D) : MS := fun Γ u => match Γ[i]? with
  | some (.own2 ll) => thenS (k (snapE Γ) u) fun kd u => match ix2 ll kd with
    | some p => thenS (j (snapE Γ) u) fun jd u => (match put2 ll p jd d with
      | some ll => .nx (Γ.set i (.own2 ll)) u
      | none => .bad)
    | none => .bad
  | _ => .bad
/-- x[k][j], x[k'][j'] = e -/
def sPut22 (i : Nat) (k1 j1 k2 j2 e : ME) : MS := fun Γ u => thenS (e (snapE Γ) u) fun d u => match d with
  | .tup [d1, d2] => if noL d2 then (sPut2 i k1 j1 d1 Γ u).andThen (sPut2 i k2 j2 d2) else .bad
  | _ => .bad
abbrev TGS := D → SEnv → Option SEnv
abbrev TGSs := List D → SEnv → Option SEnv
def hName (i : Nat) : TGS := fun d Γ => some (Γ.set i (.val d))
def hsNil : TGSs := fun ds Γ => match ds with
  | [] => some Γ
  | _ => none
def hsCons (g : TGS) (r : TGSs) : TGSs := fun ds Γ => match ds with
  | d :: ds => (g d Γ).bind fun Γ => r ds Γ
  | [] => none
def hTup (r : TGSs) : TGS := fun d Γ => match d with
  | .tup l => r l Γ
  | _ => none
/-- a, b = e -/
def sUnp (g : TGS) (m : ME) : MS := fun Γ u => thenS (m (hideE Γ) u) fun d u => match g d Γ with
  | some Γ => .nx Γ u
  | none => .bad
def forGo (g : TGS) (body : MS) : List D → SEnv → Urn → SOut
  | [], Γ, u => .nx Γ u
  | d :: ds, Γ, u => match g d Γ with
    | none => .bad
    | some Γ1 => match body Γ1 u with
      | .nx Γ u => forGo g body ds Γ u
      | .ct Γ u => forGo g body ds Γ u
      | .bk Γ u => .nx Γ u
      | .rt d u => .rt d u
      | .er x u => .er x u
      | .bad => .bad
def sFor (it : MEs) (g : TGS) (body : MS) : MS := fun Γ u => thenS (it (hideE Γ) u) fun ds u => forGo g body ds Γ u
/-- the things walked hold no lists -/
def sForN (it : MEs) (g : TGS) (body : MS) : MS := fun Γ u => thenS (it (snapE Γ) u) fun ds u => if noLs ds then forGo g body ds Γ u else .bad
def whileGo (c : ME) (body : MS) : Nat → SEnv → Urn → SOut
  | 0, _, _ => .bad
  | n + 1, Γ, u => thenS ((c (snapE Γ) u).bind asB) fun x u => if x then (match body Γ u with
      | .nx Γ u => whileGo c body n Γ u
      | .ct Γ u => whileGo c body n Γ u
      | .bk Γ u => .nx Γ u
      | .rt d u => .rt d u
      | .er x u => .er x u
      | .bad => .bad) else .nx Γ u
def sWhile (n : Nat) (c : ME) (body : MS) : MS := fun Γ u => whileGo c body n Γ u
def sRaise (cls : Nat) (m : ME) : MS := fun Γ u => thenS (m (snapE Γ) u) fun d u => .er ⟨cls, some d⟩ u

/-- st, rest: st does not return -/
def sSeqF (a b : MS) : MS := fun Γ u => match a Γ u with
  | .rt _ _ => .bad
  | o => o.andThen b
/-! ### a def -/
@[simp] def startE (n : Nat) (ds : List D) : SEnv := ds.map Slot.val ++ List.replicate (n - ds.length) Slot.no
def ret : SOut → Out D
  | .rt d u => .ok d u
  | .nx _ u => .ok .non u
  | .er x u => .er x u
  | _ => .bad
/-- n slots, the first p of them the parameters -/
def fn (n p : Nat) (body : MS) : Fn := fun ds u => if ds.length = p then ret (body (startE n ds) u) else .bad

def retF : SOut → Out D
  | .rt d u => .ok d u
  | .er x u => .er x u
  | _ => .bad
/-- .. that gives a new list -/
def fnF (n p : Nat) (body : MS) : Fn := fun ds u => if ds.length = p then retF (body (startE n ds) u) else .bad

end Dn
namespace Dn
open PySem PySem.Spec PyProof.Rows L2

/-! ### data and values -/
def strOf (s : List Nat) : Str := ⟨s.toArray⟩
def KTup (K : PySem.W.Frag) (a : Addr) (xs : List V) : Prop :=
  ∃ (o : Obj) (its : Array Value) (n : Nat), K.lookup a = some o ∧ o.cls = .type "tuple" ∧ o.data = .seq its n ∧ its.size ≤ sizeLine ∧ Vals xs its.toList
def KLst (K : PySem.W.Frag) (a : Addr) (xs : List V) : Prop :=
  ∃ (o : Obj) (its : Array Value) (n : Nat), K.lookup a = some o ∧ o.cls = .type "list" ∧ o.dict = none ∧ o.data = .seq its n ∧ its.size ≤ sizeLine ∧ Vals xs its.toList
abbrev AZ := Addr → Prop
mutual
/-- the value v bears the data d; its lists and tuples stand outside Z -/
def Rep (K : PySem.W.Frag) (Z : AZ) (U : Option Addr) (H : Hp) : D → V → Prop
  | .non, v => v = .non
  | .bl b, v => v = .bl b
  | .int i, v => v = .int i
  | .str s, v => v = .str (strOf s)
  | .tup l, v => ∃ a xs, v = .ref a ∧ ((¬ Z a ∧ Rd H a (.tup xs)) ∨ KTup K a xs) ∧ Reps K Z U H l xs
  | .lst l, v => ∃ a xs, v = .ref a ∧ (¬ Z a ∧ H a = some (.lst xs)) ∧ Reps K Z U H l xs
  | .dct _ _, _ => False
  | .urn, v => ∃ a, U = some a ∧ v = .ref a
  | .scr l, v => ∃ a, v = .ref a ∧ ((¬ Z a ∧ ∃ o, H a = some (.frz o (.lst (l.map V.int)))) ∨ KLst K a (l.map V.int))
def Reps (K : PySem.W.Frag) (Z : AZ) (U : Option Addr) (H : Hp) : List D → List V → Prop
  | [], xs => xs = []
  | d :: r, xs => ∃ x ys, xs = x :: ys ∧ Rep K Z U H d x ∧ Reps K Z U H r ys
end
def Ext (U : Option Addr) (H H' : Hp) : Prop := ∀ b o, U ≠ some b → H b = some o → H' b = some o
def UrnAt (U : Option Addr) (H : Hp) (u : Urn) : Prop := ∀ a, U = some a → H a = some (.lst (u.map V.int))
section
variable {K : PySem.W.Frag} {Z Z' : AZ} {U : Option Addr} {H H' H1 H2 : Hp}
theorem Ext.refl : Ext U H H := fun _ _ _ h => h
theorem Ext.trans (a : Ext U H H1) (b : Ext U H1 H2) : Ext U H H2 := fun c o n h => b c o n (a c o n h)
theorem Ext.new {p : Addr} {o : HO} (n : H p = none) : Ext U H (upd H p o) := fun b u _ h => by
  rw [upd_ne (ne_of_none h n)]; exact h
theorem UrnAt.ext {u : Urn} {p : Addr} {o : HO} (h : UrnAt U H u) (n : H p = none) : UrnAt U (upd H p o) u := fun a e => by
  have := h a e
  rw [upd_ne (ne_of_none this n)]; exact this
theorem Rd.mono {a : Addr} {o : HO} (h : ∀ u, H a = some u → H' a = some u) (r : Rd H a o) : Rd H' a o := by
  rcases r with r | ⟨ob, r⟩
  · exact .inl (h _ r)
  · exact .inr ⟨ob, h _ r⟩
theorem Rd.there {a : Addr} {o : HO} (r : Rd H a o) : ∃ u, H a = some u := by
  rcases r with r | ⟨ob, r⟩
  · exact ⟨_, r⟩
  · exact ⟨_, r⟩
theorem Rd.nofree {a : Addr} {o : HO} (r : Rd H a o) (e : H a = none) : False := by
  obtain ⟨u, e'⟩ := Rd.there r
  rw [e] at e'
  cases e'
mutual
/-- the general step: other heap, other forbidden places -/
theorem Rep.move (hm : ∀ b o, ¬ Z b → H b = some o → ¬ Z' b ∧ H' b = some o) : ∀ (d : D) (v : V), Rep K Z U H d v → Rep K Z' U H' d v
  | .non, v, h => by rw [Rep] at h ⊢; exact h
  | .bl b, v, h => by rw [Rep] at h ⊢; exact h
  | .int i, v, h => by rw [Rep] at h ⊢; exact h
  | .str s, v, h => by rw [Rep] at h ⊢; exact h
  | .tup l, v, h => by
    rw [Rep] at h ⊢
    obtain ⟨a, xs, e, q, r⟩ := h
    refine ⟨a, xs, e, ?_, Reps.move hm l xs r⟩
    rcases q with ⟨n, q⟩ | q
    · rcases q with q | ⟨ob, q⟩
      · exact .inl ⟨(hm a _ n q).1, .inl (hm a _ n q).2⟩
      · exact .inl ⟨(hm a _ n q).1, .inr ⟨ob, (hm a _ n q).2⟩⟩
    · exact .inr q
  | .lst l, v, h => by
    rw [Rep] at h ⊢
    obtain ⟨a, xs, e, ⟨n, q⟩, r⟩ := h
    exact ⟨a, xs, e, hm a _ n q, Reps.move hm l xs r⟩
  | .dct _ _, v, h => by rw [Rep] at h; exact h.elim
  | .urn, v, h => by rw [Rep] at h ⊢; exact h
  | .scr l, v, h => by
    rw [Rep] at h ⊢
    obtain ⟨a, e, q⟩ := h
    refine ⟨a, e, ?_⟩
    rcases q with ⟨n, ob, q⟩ | q
    · exact .inl ⟨(hm a _ n q).1, ob, (hm a _ n q).2⟩
    · exact .inr q
theorem Reps.move (hm : ∀ b o, ¬ Z b → H b = some o → ¬ Z' b ∧ H' b = some o) : ∀ (l : List D) (xs : List V), Reps K Z U H l xs → Reps K Z' U H' l xs
  | [], xs, h => by rw [Reps] at h ⊢; exact h
  | d :: r, xs, h => by
    rw [Reps] at h ⊢
    obtain ⟨x, ys, e, h1, h2⟩ := h
    exact ⟨x, ys, e, Rep.move hm d x h1, Reps.move hm r ys h2⟩
end
theorem Rep.mono {d : D} {v : V} (h : ∀ b o, ¬ Z b → H b = some o → H' b = some o) (r : Rep K Z U H d v) : Rep K Z U H' d v :=
  Rep.move (fun b o n q => ⟨n, h b o n q⟩) d v r
theorem Reps.mono {d : List D} {v : List V} (h : ∀ b o, ¬ Z b → H b = some o → H' b = some o) (r : Reps K Z U H d v) : Reps K Z U H' d v :=
  Reps.move (fun b o n q => ⟨n, h b o n q⟩) d v r
theorem Rep.sub {d : D} {v : V} (h : ∀ b, Z' b → Z b) (r : Rep K Z U H d v) : Rep K Z' U H d v :=
  Rep.move (fun b o n q => ⟨fun z => n (h b z), q⟩) d v r
theorem Reps.sub {d : List D} {v : List V} (h : ∀ b, Z' b → Z b) (r : Reps K Z U H d v) : Reps K Z' U H d v :=
  Reps.move (fun b o n q => ⟨fun z => n (h b z), q⟩) d v r
/-- new places are forbidden, too -/
theorem Rep.grow {d : D} {v : V} (h : ∀ b, Z' b → Z b ∨ H b = none) (r : Rep K Z U H d v) : Rep K Z' U H d v :=
  Rep.move (fun b o n q => ⟨fun z => (h b z).elim n fun e => (by rw [e] at q; cases q), q⟩) d v r
theorem Reps.grow {d : List D} {v : List V} (h : ∀ b, Z' b → Z b ∨ H b = none) (r : Reps K Z U H d v) : Reps K Z' U H d v :=
  Reps.move (fun b o n q => ⟨fun z => (h b z).elim n fun e => (by rw [e] at q; cases q), q⟩) d v r
mutual
/-- data without lists: lists are forbidden, too -/
theorem Rep.noL (hm : ∀ b, Z' b → ¬ Z b → ∃ xs, H b = some (.lst xs)) : ∀ (d : D) (v : V), Dn.noL d = true → Rep K Z U H d v → Rep K Z' U H d v
  | .non, v, _, h => by rw [Rep] at h ⊢; exact h
  | .bl b, v, _, h => by rw [Rep] at h ⊢; exact h
  | .int i, v, _, h => by rw [Rep] at h ⊢; exact h
  | .str s, v, _, h => by rw [Rep] at h ⊢; exact h
  | .tup l, v, e, h => by
    rw [Dn.noL] at e
    rw [Rep] at h ⊢
    obtain ⟨a, xs, ev, q, r⟩ := h
    refine ⟨a, xs, ev, ?_, Reps.noL hm l xs e r⟩
    rcases q with ⟨n, q⟩ | q
    · refine .inl ⟨fun z => ?_, q⟩
      obtain ⟨ys, e2⟩ := hm a z n
      rcases q with q | ⟨ob, q⟩ <;> rw [e2] at q <;> cases q
    · exact .inr q
  | .lst l, v, e, h => by rw [Dn.noL] at e; cases e
  | .dct _ _, v, e, h => by rw [Dn.noL] at e; cases e
  | .urn, v, e, h => by rw [Dn.noL] at e; cases e
  | .scr l, v, e, h => by
    rw [Rep] at h ⊢
    obtain ⟨a, ev, q⟩ := h
    refine ⟨a, ev, ?_⟩
    rcases q with ⟨n, ob, q⟩ | q
    · refine .inl ⟨fun z => ?_, ob, q⟩
      obtain ⟨ys, e2⟩ := hm a z n
      rw [e2] at q
      cases q
    · exact .inr q
theorem Reps.noL (hm : ∀ b, Z' b → ¬ Z b → ∃ xs, H b = some (.lst xs)) : ∀ (l : List D) (xs : List V), noLs l = true → Reps K Z U H l xs → Reps K Z' U H l xs
  | [], xs, _, h => by rw [Reps] at h ⊢; exact h
  | d :: r, xs, e, h => by
    rw [noLs, Bool.and_eq_true] at e
    rw [Reps] at h ⊢
    obtain ⟨x, ys, e1, h1, h2⟩ := h
    exact ⟨x, ys, e1, Rep.noL hm d x e.1 h1, Reps.noL hm r ys e.2 h2⟩
end
theorem Reps.len : ∀ {l : List D} {xs : List V}, Reps K Z U H l xs → xs.length = l.length
  | [], xs, h => by rw [Reps] at h; rw [h]; rfl
  | d :: r, xs, h => by
    rw [Reps] at h
    obtain ⟨x, ys, e1, h1, h2⟩ := h
    rw [e1, List.length_cons, List.length_cons, h2.len]
theorem Reps.get : ∀ {l : List D} {xs : List V} {i : Nat} {d : D}, Reps K Z U H l xs → l[i]? = some d → ∃ x, xs[i]? = some x ∧ Rep K Z U H d x
  | [], xs, i, d, h, e => by simp at e
  | d' :: r, xs, 0, d, h, e => by
    rw [Reps] at h
    obtain ⟨x, ys, e1, h1, h2⟩ := h
    simp at e
    subst e
    exact ⟨x, by rw [e1]; rfl, h1⟩
  | d' :: r, xs, i + 1, d, h, e => by
    rw [Reps] at h
    obtain ⟨x, ys, e1, h1, h2⟩ := h
    obtain ⟨z, e2, q⟩ := Reps.get (i := i) h2 (by simpa using e)
    exact ⟨z, by rw [e1]; simpa using e2, q⟩
theorem Reps.at {l : List D} {xs : List V} {i : Nat} {x : V} (h : Reps K Z U H l xs) (e : xs[i]? = some x) : ∃ d, l[i]? = some d ∧ Rep K Z U H d x := by
  have hl := h.len
  have hi : i < l.length := by rw [← hl]; exact (List.getElem?_eq_some_iff.mp e).1
  obtain ⟨y, e2, q⟩ := h.get (List.getElem?_eq_getElem hi)
  rw [e] at e2
  cases e2
  exact ⟨_, List.getElem?_eq_getElem hi, q⟩
theorem Reps.app : ∀ {l m : List D} {xs ys : List V}, Reps K Z U H l xs → Reps K Z U H m ys → Reps K Z U H (l ++ m) (xs ++ ys)
  | [], m, xs, ys, h, h' => by rw [Reps] at h; rw [h]; exact h'
  | d :: r, m, xs, ys, h, h' => by
    rw [Reps] at h
    obtain ⟨x, zs, e1, h1, h2⟩ := h
    rw [e1, List.cons_append, List.cons_append, Reps]
    exact ⟨x, zs ++ ys, rfl, h1, Reps.app h2 h'⟩
theorem Reps.nil : Reps K Z U H [] [] := by rw [Reps]
theorem Reps.cons {d : D} {l : List D} {x : V} {xs : List V} (h : Rep K Z U H d x) (h' : Reps K Z U H l xs) : Reps K Z U H (d :: l) (x :: xs) := by
  rw [Reps]; exact ⟨x, xs, rfl, h, h'⟩
theorem Reps.of_at : ∀ {l : List D} {xs : List V}, xs.length = l.length → (∀ (i : Nat) (d : D) (x : V), l[i]? = some d → xs[i]? = some x → Rep K Z U H d x) → Reps K Z U H l xs
  | [], xs, hl, h => by
    cases xs with
    | nil => exact .nil
    | cons _ _ => cases hl
  | d :: r, xs, hl, h => by
    cases xs with
    | nil => cases hl
    | cons x ys =>
      refine .cons (h 0 d x rfl rfl) (Reps.of_at (by simpa using hl) fun i d' x' e1 e2 => h (i + 1) d' x' (by simpa using e1) (by simpa using e2))
theorem Reps.take {l : List D} {xs : List V} (n : Nat) (h : Reps K Z U H l xs) : Reps K Z U H (l.take n) (xs.take n) :=
  .of_at (by rw [List.length_take, List.length_take, h.len]) fun i d x e1 e2 => by
    rw [List.getElem?_take] at e1 e2
    split at e1
    · rename_i hi
      rw [if_pos hi] at e2
      obtain ⟨y, e3, q⟩ := h.get e1
      rw [e2] at e3; cases e3; exact q
    · cases e1
theorem Reps.drop {l : List D} {xs : List V} (n : Nat) (h : Reps K Z U H l xs) : Reps K Z U H (l.drop n) (xs.drop n) :=
  .of_at (by rw [List.length_drop, List.length_drop, h.len]) fun i d x e1 e2 => by
    rw [List.getElem?_drop] at e1 e2
    obtain ⟨y, e3, q⟩ := h.get e1
    rw [e2] at e3; cases e3; exact q
theorem Reps.set {l : List D} {xs : List V} {d : D} {x : V} (n : Nat) (h : Reps K Z U H l xs) (r : Rep K Z U H d x) : Reps K Z U H (l.set n d) (xs.set n x) :=
  .of_at (by rw [List.length_set, List.length_set, h.len]) fun i d' x' e1 e2 => by
    rw [List.getElem?_set] at e1 e2
    have hl := h.len
    by_cases hi : n = i
    · rw [if_pos hi] at e1 e2
      split at e1
      · split at e2
        · cases e1; cases e2; exact r
        · cases e2
      · cases e1
    · rw [if_neg hi] at e1 e2
      obtain ⟨y, e3, q⟩ := h.get e1
      rw [e2] at e3; cases e3; exact q
theorem Reps.rep {l : List D} {xs : List V} (h : Reps K Z U H l xs) : ∀ n : Nat, Reps K Z U H (List.replicate n l).flatten (List.replicate n xs).flatten
  | 0 => .nil
  | n + 1 => by
    rw [List.replicate_succ, List.replicate_succ, List.flatten_cons, List.flatten_cons]
    exact h.app (Reps.rep h n)
end

/-! ### the state -/
structure Bs (Z : AZ) (U : Option Addr) (H : Hp) (u : Urn) : Prop where
  zu : ∀ a, U = some a → Z a
  za : ∀ a, Z a → ∃ o, H a = some o
  urn : UrnAt U H u
def RelE (K : PySem.W.Frag) (Z : AZ) (U : Option Addr) (σ : L2.St) (H : Hp) (ρ : Env) : Prop := ρ.length = σ.length ∧ ∀ i d, get ρ i = some d → ∃ v, σ[i]? = some (some v) ∧ Rep K Z U H d v
/-- what lies behind an exception: EA, the exception's wish W -/
abbrev EAT := AZ → Option Addr → Er → Value → Option Addr → Hp → Prop
structure G where
  U : Option Addr
  W : XK
  EA : EAT
section
variable (K : PySem.W.Frag) (g : G)
def PostE {α β : Type} (R : AZ → Hp → α → β → Prop) (Z : AZ) (H : Hp) (o : Out α) (Q : β → Hp → Prop) : Prop := match o with
  | .ok d u => ∀ v H', Ext g.U H H' → UrnAt g.U H' u → R Z H' d v → Q v H'
  | .er x u => ∀ C dx H', Ext g.U H H' → UrnAt g.U H' u → g.EA Z g.U x C dx H' → g.W C dx H'
  | .bad => False
abbrev RD : AZ → Hp → D → V → Prop := fun Z H d v => Rep K Z g.U H d v
abbrev RDs : AZ → Hp → List D → List V → Prop := fun Z H d v => Reps K Z g.U H d v
def tE (m : ME) : TE := fun σ H Q => ∃ ρ u Z, Bs Z g.U H u ∧ RelE K Z g.U σ H ρ ∧ PostE g (RD K g) Z H (m ρ u) Q
def tEs (m : MEs) : TA := fun σ H Q => ∃ ρ u Z, Bs Z g.U H u ∧ RelE K Z g.U σ H ρ ∧ PostE g (RDs K g) Z H (m ρ u) Q
end
section
variable {K : PySem.W.Frag} {g : G} {Z : AZ} {H H1 : Hp} {u : Urn} {σ : L2.St} {ρ : Env}
theorem Ext.rep {d : D} {v : V} (b : Bs Z g.U H u) (e : Ext g.U H H1) (r : Rep K Z g.U H d v) : Rep K Z g.U H1 d v :=
  r.mono fun c o n h => e c o (fun z => n (b.zu c z)) h
theorem Ext.reps {d : List D} {v : List V} (b : Bs Z g.U H u) (e : Ext g.U H H1) (r : Reps K Z g.U H d v) : Reps K Z g.U H1 d v :=
  r.mono fun c o n h => e c o (fun z => n (b.zu c z)) h
theorem Bs.ext {u1 : Urn} (b : Bs Z g.U H u) (e : Ext g.U H H1) (h : UrnAt g.U H1 u1) : Bs Z g.U H1 u1 :=
  ⟨b.zu, fun a z => by
    by_cases q : g.U = some a
    · exact ⟨_, h a q⟩
    · obtain ⟨o, ho⟩ := b.za a z
      exact ⟨o, e a o q ho⟩, h⟩
theorem RelE.ext (b : Bs Z g.U H u) (e : Ext g.U H H1) (r : RelE K Z g.U σ H ρ) : RelE K Z g.U σ H1 ρ := ⟨r.1, fun i d h => by
  obtain ⟨v, e1, r1⟩ := r.2 i d h
  exact ⟨v, e1, e.rep b r1⟩⟩
section
variable {α β γ δ : Type} {R : AZ → Hp → α → β → Prop} {S : AZ → Hp → γ → δ → Prop} {o : Out α} {f : α → Urn → Out γ} {Q : δ → Hp → Prop} {T : β → Hp → Prop}
theorem PostE.ext (e : Ext g.U H H1) (h : PostE g R Z H o T) : PostE g R Z H1 o T := by
  cases o with
  | ok d u => exact fun v H' e' u' r => h v H' (e.trans e') u' r
  | er x u => exact fun C dx H' e' u' r => h C dx H' (e.trans e') u' r
  | bad => exact h
theorem PostE.bind (h : PostE g S Z H (o.bind f) Q) (k : ∀ d u1 v H1, Ext g.U H H1 → UrnAt g.U H1 u1 → R Z H1 d v → PostE g S Z H1 (f d u1) Q → T v H1) : PostE g R Z H o T := by
  cases o with
  | ok d u => exact fun v H' e' u' r => k d u v H' e' u' r (PostE.ext e' h)
  | er x u => exact h
  | bad => exact h
end
end

/-! ### expressions -/
structure ED (g : G) (X : Cx) (e : Expr) (m : ME) : Prop where
  pe : PE X e (tE X.K g m)
theorem PE.imp {X : Cx} {e : Expr} {t t' : TE} (h : PE X e t) (i : ∀ σ H Q, t' σ H Q → t σ H Q) : PE X e t' := ⟨fun pins s σ H Q I q => h.run pins s σ H Q I (i σ H Q q)⟩
theorem PT.imp {X : Cx} {e : Expr} {t t' : TT} (h : PT X e t) (i : ∀ σ H Q, t' σ H Q → t σ H Q) : PT X e t' := ⟨fun pins s σ H Q I q => h.run pins s σ H Q I (i σ H Q q)⟩
theorem PA.imp {X : Cx} {e : List Expr} {t t' : TA} (h : PA X e t) (i : ∀ σ H Q, t' σ H Q → t σ H Q) : PA X e t' := ⟨fun pos pins s σ H Q I q => h.run pos pins s σ H Q I (i σ H Q q)⟩
section
variable {g : G} {X : Cx} {a b c e : Expr} {ma mb mc : ME} {pos : Pos}
/-- a value that is at hand -/
def rD (K : PySem.W.Frag) (g : G) (d : D) : TE := fun _ H Q => ∃ Z u, Bs Z g.U H u ∧ ∀ v, Rep K Z g.U H d v → Q v H
theorem ed_var (i : Nat) {x : Str} (hN : X.N[i]? = some x := by rfl) (hv : Vis X.env.scope x := by first | exact Or.inl rfl | exact Or.inr (Or.inl rfl) | exact Or.inr (Or.inr rfl))
    (hd : (x == ("__debug__" : Str)) = false := by decide +kernel) (hcd : (x == ("__classdict__" : Str)) = false := by decide +kernel) : ED g X (.Name x pos) (mVar i) := by
  refine ⟨PE.imp (pe_var (i := i) hN hv hd hcd) fun σ H Q h => ?_⟩
  obtain ⟨ρ, u, Z, bs, rel, post⟩ := h
  unfold mVar at post
  cases q : get ρ i with
  | none => rw [q] at post; exact post.elim
  | some d =>
    rw [q] at post
    obtain ⟨v, e1, r⟩ := rel.2 i d q
    exact ⟨v, e1, post v H .refl bs.urn r⟩
/-- a value without a heap -/
inductive Lit : D → V → Prop
  | non : Lit .non .non
  | bl (b : Bool) : Lit (.bl b) (.bl b)
  | int (i : Int) : Lit (.int i) (.int i)
  | str (s : List Nat) : Lit (.str s) (.str (strOf s))
theorem Lit.rep {K : PySem.W.Frag} {Z : AZ} {U : Option Addr} {H : Hp} {d : D} {v : V} (l : Lit d v) : Rep K Z U H d v := by
  cases l <;> rw [Rep]
theorem ed_lit {d : D} {v : V} (l : Lit d v) (h : PE X e (tC v)) : ED g X e (mLit d) := by
  refine ⟨PE.imp h fun σ H Q h => ?_⟩
  obtain ⟨ρ, u, Z, bs, rel, post⟩ := h
  exact post v H .refl bs.urn l.rep
theorem ed_int {i j} : ED g X (.Constant (.int i) j pos) (mLit (.int i)) := ed_lit (.int i) pe_int
theorem ed_bl {i j} : ED g X (.Constant (.bool i) j pos) (mLit (.bl i)) := ed_lit (.bl i) pe_bl
theorem ed_non {j} : ED g X (.Constant .none j pos) (mLit .non) := ed_lit .non pe_non
theorem ed_str {x : Str} {s : List Nat} {j} (hs : x = strOf s) : ED g X (.Constant (.str x) j pos) (mLit (.str s)) := by subst hs; exact ed_lit (.str s) pe_str
/-- a constant of the module -/
theorem ed_glob {x : Str} {d : D} {v : V} {w : Value} (hg : Gl X x) (hm : X.mg x = some w) (r : RelV v w) (l : Lit d v) (hd : (x == ("__debug__" : Str)) = false := by decide +kernel) : ED g X (.Name x pos) (mLit d) :=
  ed_lit l (pe_glob hg hm r hd)
/-- an operator by values -/
def rOp (K : PySem.W.Frag) (g : G) (f : D → D → Option D) : R2 := fun x y H Q => ∃ Z u dx dy d, Bs Z g.U H u ∧ Rep K Z g.U H dx x ∧ Rep K Z g.U H dy y ∧ f dx dy = some d ∧ ∀ v H', Ext g.U H H' → UrnAt g.U H' u → Rep K Z g.U H' d v → Q v H'
def rUn (K : PySem.W.Frag) (g : G) (f : D → Option D) : V → Hp → VK → Prop := fun x H Q => ∃ Z u dx d, Bs Z g.U H u ∧ Rep K Z g.U H dx x ∧ f dx = some d ∧ ∀ v H', Ext g.U H H' → UrnAt g.U H' u → Rep K Z g.U H' d v → Q v H'
/-- a built-in by values -/
def rB (K : PySem.W.Frag) (g : G) (f : List D → Option D) : List V → Hp → VK → Prop := fun xs H Q => ∃ Z u ds d, Bs Z g.U H u ∧ Reps K Z g.U H ds xs ∧ f ds = some d ∧ ∀ v H', Ext g.U H H' → UrnAt g.U H' u → Rep K Z g.U H' d v → Q v H'
theorem imp_op {f : D → D → Option D} {σ : L2.St} {H : Hp} {Q : VK} (h : tE X.K g (mBin f ma mb) σ H Q) : tOp (rOp X.K g f) (tE X.K g ma) (tE X.K g mb) σ H Q := by
  obtain ⟨ρ, u, Z, bs, rel, post⟩ := h
  refine ⟨ρ, u, Z, bs, rel, post.bind fun d u1 v H1 e1 n1 r1 post1 => ?_⟩
  have bs1 := bs.ext e1 n1
  refine ⟨ρ, u1, Z, bs1, rel.ext bs e1, post1.bind fun d2 u2 v2 H2 e2 n2 r2 post2 => ?_⟩
  have bs2 := bs1.ext e2 n2
  cases q : f d d2 with
  | none => rw [q] at post2; exact post2.elim
  | some z =>
    rw [q] at post2
    exact ⟨Z, u2, d, d2, z, bs2, e2.rep bs1 r1, r2, q, post2⟩
theorem ed_op {op : Operator} {f : D → D → Option D} (ho : OpR X (binaryOp op) (rOp X.K g f)) (ha : ED g X a ma) (hb : ED g X b mb) : ED g X (.BinOp a op b pos) (mBin f ma mb) :=
  ⟨PE.imp (pe_op ho ha.pe hb.pe) fun _ _ _ h => imp_op h⟩
theorem ed_cmp {op : CmpOp} {f : D → D → Option D} (ho : OpR X (compareOp op) (rOp X.K g f)) (ha : ED g X a ma) (hb : ED g X b mb) (hm : behindInMarks op b = false := by rfl) : ED g X (.Compare a [op] [b] pos) (mBin f ma mb) :=
  ⟨PE.imp (pe_cmpR ho ha.pe hb.pe hm) fun _ _ _ h => imp_op h⟩
theorem ed_un {op : UnaryOp} {f : D → Option D} (ho : UnR X (unaryOp op) (rUn X.K g f)) (ha : ED g X a ma) : ED g X (.UnaryOp op a pos) (mUn f ma) := by
  refine ⟨PE.imp (pe_un ho ha.pe) fun σ H Q h => ?_⟩
  obtain ⟨ρ, u, Z, bs, rel, post⟩ := h
  refine ⟨ρ, u, Z, bs, rel, post.bind fun d u1 v H1 e1 n1 r1 post1 => ?_⟩
  cases q : f d with
  | none => rw [q] at post1; exact post1.elim
  | some z =>
    rw [q] at post1
    exact ⟨Z, u1, d, z, bs.ext e1 n1, r1, q, post1⟩
theorem rep_bl {K : PySem.W.Frag} {Z : AZ} {U : Option Addr} {H : Hp} {b : Bool} {v : V} : Rep K Z U H (.bl b) v ↔ v = .bl b := by rw [Rep]
theorem rep_int {K : PySem.W.Frag} {Z : AZ} {U : Option Addr} {H : Hp} {b : Int} {v : V} : Rep K Z U H (.int b) v ↔ v = .int b := by rw [Rep]
theorem rep_non {K : PySem.W.Frag} {Z : AZ} {U : Option Addr} {H : Hp} {v : V} : Rep K Z U H .non v ↔ v = .non := by rw [Rep]
theorem rep_str {K : PySem.W.Frag} {Z : AZ} {U : Option Addr} {H : Hp} {s : List Nat} {v : V} : Rep K Z U H (.str s) v ↔ v = .str (strOf s) := by rw [Rep]
theorem rep_tup {K : PySem.W.Frag} {Z : AZ} {U : Option Addr} {H : Hp} {l : List D} {v : V} : Rep K Z U H (.tup l) v ↔ ∃ a xs, v = .ref a ∧ ((¬ Z a ∧ Rd H a (.tup xs)) ∨ KTup K a xs) ∧ Reps K Z U H l xs := by rw [Rep]
theorem rep_lst {K : PySem.W.Frag} {Z : AZ} {U : Option Addr} {H : Hp} {l : List D} {v : V} : Rep K Z U H (.lst l) v ↔ ∃ a xs, v = .ref a ∧ (¬ Z a ∧ H a = some (.lst xs)) ∧ Reps K Z U H l xs := by rw [Rep]
theorem rep_urn {K : PySem.W.Frag} {Z : AZ} {U : Option Addr} {H : Hp} {v : V} : Rep K Z U H .urn v ↔ ∃ a, U = some a ∧ v = .ref a := by rw [Rep]
theorem sqT_of {K : PySem.W.Frag} {Z : AZ} {H : Hp} {a : Addr} {xs : List V} (h : (¬ Z a ∧ Rd H a (.tup xs)) ∨ KTup K a xs) : SqT K H a xs := h.elim (fun z => .inl z.2) .inr
theorem sqL_of {K : PySem.W.Frag} {Z : AZ} {H : Hp} {a : Addr} {xs : List V} (h : ¬ Z a ∧ H a = some (.lst xs)) : SqL K H a xs := .inl (.inl h.2)
theorem rep_scr {K : PySem.W.Frag} {Z : AZ} {U : Option Addr} {H : Hp} {l : List Int} {v : V} : Rep K Z U H (.scr l) v ↔ ∃ a, v = .ref a ∧ ((¬ Z a ∧ ∃ o, H a = some (.frz o (.lst (l.map V.int)))) ∨ KLst K a (l.map V.int)) := by rw [Rep]
theorem sqS_of {K : PySem.W.Frag} {Z : AZ} {H : Hp} {a : Addr} {xs : List V} (h : (¬ Z a ∧ ∃ o, H a = some (.frz o (.lst xs))) ∨ KLst K a xs) : SqL K H a xs := h.elim (fun z => .inl (.inr z.2)) .inr
/-- a op b op' c -/
theorem ed_chain {op op' : CmpOp} {f f' : D → D → Option D} (ho : OpR X (compareOp op) (rOp X.K g f)) (ho' : OpR X (compareOp op') (rOp X.K g f')) (ha : ED g X a ma) (hb : ED g X b mb) (hc : ED g X c mc)
    (hm : PE X (.Compare a [op, op'] [b, c] pos) (tChain (rOp X.K g f) (rOp X.K g f') (tE X.K g ma) (tE X.K g mb) (tE X.K g mc))) : ED g X (.Compare a [op, op'] [b, c] pos) (mChain f f' ma mb mc) := by
  refine ⟨PE.imp hm fun σ H Q h => ?_⟩
  obtain ⟨ρ, u, Z, bs, rel, post⟩ := h
  refine ⟨ρ, u, Z, bs, rel, post.bind fun d u1 v H1 e1 n1 r1 post1 => ?_⟩
  have bs1 := bs.ext e1 n1
  refine ⟨ρ, u1, Z, bs1, rel.ext bs e1, post1.bind fun d2 u2 v2 H2 e2 n2 r2 post2 => ?_⟩
  have bs2 := bs1.ext e2 n2
  cases q : f d d2 with
  | none => rw [q] at post2; exact post2.elim
  | some z =>
    rw [q] at post2
    refine ⟨Z, u2, d, d2, z, bs2, e2.rep bs1 r1, r2, q, fun v3 H3 e3 n3 r3 => ?_⟩
    have bs3 := bs2.ext e3 n3
    cases z with
    | bl k =>
      refine ⟨k, rep_bl.mp r3, ?_⟩
      cases k with
      | true =>
        rw [if_pos rfl]
        have post3 := PostE.ext e3 post2
        refine ⟨ρ, u2, Z, bs3, ((rel.ext bs e1).ext bs1 e2).ext bs2 e3, PostE.bind post3 fun d4 u4 v4 H4 e4 n4 r4 post4 => ?_⟩
        have bs4 := bs3.ext e4 n4
        cases q2 : f' d2 d4 with
        | none => rw [q2] at post4; exact post4.elim
        | some z2 =>
          rw [q2] at post4
          exact ⟨Z, u4, d2, d4, z2, bs4, e4.rep bs3 (e3.rep bs2 r2), r4, q2, post4⟩
      | false =>
        rw [if_neg Bool.false_ne_true]
        exact post2 _ H3 e3 n3 (rep_bl.mpr rfl)
    | _ => exact post2.elim
theorem ed_not (ha : ED g X a ma) : ED g X (.UnaryOp .Not a pos) (mNot ma) := by
  refine ⟨PE.imp (pe_not ha.pe) fun σ H Q h => ?_⟩
  obtain ⟨ρ, u, Z, bs, rel, post⟩ := h
  refine ⟨ρ, u, Z, bs, rel, post.bind fun d u1 v H1 e1 n1 r1 post1 => ?_⟩
  cases d with
  | bl k => exact ⟨k, rep_bl.mp r1, post1 _ H1 .refl n1 (rep_bl.mpr rfl)⟩
  | _ => exact post1.elim
theorem ed_one {op} (h : ED g X a ma) : ED g X (.BoolOp op [a] pos) ma := ⟨pe_one h.pe⟩
theorem ed_and {rest : List Expr} (ha : ED g X a ma) (hb : ED g X (.BoolOp .And (b :: rest) pos) mb) : ED g X (.BoolOp .And (a :: b :: rest) pos) (mAnd ma mb) := by
  refine ⟨PE.imp (pe_and ha.pe hb.pe) fun σ H Q h => ?_⟩
  obtain ⟨ρ, u, Z, bs, rel, post⟩ := h
  refine ⟨ρ, u, Z, bs, rel, post.bind fun d u1 v H1 e1 n1 r1 post1 => ?_⟩
  cases d with
  | bl k =>
    refine ⟨k, rep_bl.mp r1, ?_⟩
    cases k with
    | true =>
      rw [if_pos rfl]
      exact ⟨ρ, u1, Z, bs.ext e1 n1, rel.ext bs e1, post1⟩
    | false =>
      rw [if_neg Bool.false_ne_true]
      exact post1 _ H1 .refl n1 (rep_bl.mpr rfl)
  | _ => exact post1.elim
theorem ed_or {rest : List Expr} (ha : ED g X a ma) (hb : ED g X (.BoolOp .Or (b :: rest) pos) mb) : ED g X (.BoolOp .Or (a :: b :: rest) pos) (mOr ma mb) := by
  refine ⟨PE.imp (pe_or ha.pe hb.pe) fun σ H Q h => ?_⟩
  obtain ⟨ρ, u, Z, bs, rel, post⟩ := h
  refine ⟨ρ, u, Z, bs, rel, post.bind fun d u1 v H1 e1 n1 r1 post1 => ?_⟩
  cases d with
  | bl k =>
    refine ⟨k, rep_bl.mp r1, ?_⟩
    cases k with
    | false =>
      rw [if_neg Bool.false_ne_true]
      exact ⟨ρ, u1, Z, bs.ext e1 n1, rel.ext bs e1, post1⟩
    | true =>
      rw [if_pos rfl]
      exact post1 _ H1 .refl n1 (rep_bl.mpr rfl)
  | _ => exact post1.elim
end

/-! ### tests -/
def tT (K : PySem.W.Frag) (g : G) (m : ME) : TT := fun σ H Q => ∃ ρ u Z, Bs Z g.U H u ∧ RelE K Z g.U σ H ρ ∧ PostE g (fun _ _ d v => d = v) Z H ((m ρ u).bind asB) Q
structure TD (g : G) (X : Cx) (e : Expr) (m : ME) : Prop where
  pt : PT X e (tT X.K g m)
section
variable {g : G} {X : Cx} {a b c e : Expr} {ma mb mc : ME} {pos : Pos}
theorem imp_tst {K : PySem.W.Frag} {m : ME} {σ : L2.St} {H : Hp} {Q : Bool → Hp → Prop} (h : tT K g m σ H Q) : tTest (tE K g m) σ H Q := by
  obtain ⟨ρ, u, Z, bs, rel, post⟩ := h
  refine ⟨ρ, u, Z, bs, rel, post.bind fun d u1 v H1 e1 n1 r1 post1 => ?_⟩
  cases d with
  | bl k => exact ⟨k, rep_bl.mp r1, post1 k H1 .refl n1 rfl⟩
  | _ => exact post1.elim
/-- an expression as a test -/
theorem td (h : ED g X a ma) (he : ∀ whole, isTrue a X.env whole = (do let v ← whole; standAt a.pos; holding [v] (truthy v)) := by intro _; rfl) : TD g X a ma :=
  ⟨PT.imp (pt_val h.pe he) fun _ _ _ h => imp_tst h⟩
theorem td_cmp {op : CmpOp} {f : D → D → Option D} (ho : OpR X (compareOp op) (rOp X.K g f)) (ha : ED g X a ma) (hb : ED g X b mb) (hm : behindInMarks op b = false := by rfl) : TD g X (.Compare a [op] [b] pos) (mBin f ma mb) := by
  refine ⟨PT.imp (pt_cmpR ho ha.pe hb.pe hm) fun σ H Q h => ?_⟩
  have := imp_tst h
  obtain ⟨ρ, u, Z, bs, rel, post⟩ := this
  exact imp_op (Q := fun x H' => ∃ k, x = .bl k ∧ Q k H') ⟨ρ, u, Z, bs, rel, post⟩
theorem td_not (ha : TD g X a ma) : TD g X (.UnaryOp .Not a pos) (mNot ma) := by
  refine ⟨PT.imp (pt_not ha.pt) fun σ H Q h => ?_⟩
  obtain ⟨ρ, u, Z, bs, rel, post⟩ := h
  refine ⟨ρ, u, Z, bs, rel, ?_⟩
  unfold mNot at post
  cases q : ma ρ u with
  | ok d u1 =>
    rw [q] at post
    cases d with
    | bl k =>
      intro v H1 e1 n1 r1
      subst r1
      exact post (!k) H1 e1 n1 rfl
    | _ => exact post.elim
  | er x u1 => rw [q] at post; exact post
  | bad => rw [q] at post; exact post
theorem pw_imp {X : Cx} {e : Expr} {t t' : TT} (h : PW X e t) (i : ∀ σ H Q, t' σ H Q → t σ H Q) : PW X e t' := ⟨fun wh pins s σ H Q I q => h.run wh pins s σ H Q I (i σ H Q q)⟩
structure WD (g : G) (X : Cx) (e : Expr) (m : ME) : Prop where
  pw : PW X e (tT X.K g m)
theorem WD.td (h : WD g X e ma) : TD g X e ma := ⟨h.pw.pt⟩
theorem wd_and1 (h : TD g X a ma) : WD g X (.BoolOp .And [a] pos) ma := ⟨pw_and1 h.pt⟩
theorem wd_or1 (h : TD g X a ma) : WD g X (.BoolOp .Or [a] pos) ma := ⟨pw_or1 h.pt⟩
theorem wd_and {rest : List Expr} (ha : TD g X a ma) (hb : WD g X (.BoolOp .And (b :: rest) pos) mb) : WD g X (.BoolOp .And (a :: b :: rest) pos) (mAnd ma mb) := by
  refine ⟨pw_imp (pw_and ha.pt hb.pw) fun σ H Q h => ?_⟩
  obtain ⟨ρ, u, Z, bs, rel, post⟩ := h
  refine ⟨ρ, u, Z, bs, rel, ?_⟩
  unfold mAnd at post
  cases q : ma ρ u with
  | ok d u1 =>
    rw [q] at post
    cases d with
    | bl k =>
      intro v H1 e1 n1 r1
      subst r1
      cases k with
      | true =>
        rw [if_pos rfl]
        exact ⟨ρ, u1, Z, bs.ext e1 n1, rel.ext bs e1, PostE.ext e1 post⟩
      | false =>
        rw [if_neg Bool.false_ne_true]
        exact post false H1 e1 n1 rfl
    | _ => exact post.elim
  | er x u1 => rw [q] at post; exact post
  | bad => rw [q] at post; exact post
theorem wd_or {rest : List Expr} (ha : TD g X a ma) (hb : WD g X (.BoolOp .Or (b :: rest) pos) mb) : WD g X (.BoolOp .Or (a :: b :: rest) pos) (mOr ma mb) := by
  refine ⟨pw_imp (pw_or ha.pt hb.pw) fun σ H Q h => ?_⟩
  obtain ⟨ρ, u, Z, bs, rel, post⟩ := h
  refine ⟨ρ, u, Z, bs, rel, ?_⟩
  unfold mOr at post
  cases q : ma ρ u with
  | ok d u1 =>
    rw [q] at post
    cases d with
    | bl k =>
      intro v H1 e1 n1 r1
      subst r1
      cases k with
      | false =>
        rw [if_neg Bool.false_ne_true]
        exact ⟨ρ, u1, Z, bs.ext e1 n1, rel.ext bs e1, PostE.ext e1 post⟩
      | true =>
        rw [if_pos rfl]
        exact post true H1 e1 n1 rfl
    | _ => exact post.elim
  | er x u1 => rw [q] at post; exact post
  | bad => rw [q] at post; exact post
/-- a if c else b -/
theorem ed_if (hc : TD g X c mc) (ha : ED g X a ma) (hb : ED g X b mb) : ED g X (.IfExp c a b pos) (mIf mc ma mb) := by
  refine ⟨PE.imp (pe_ifExp hc.pt ha.pe hb.pe) fun σ H Q h => ?_⟩
  obtain ⟨ρ, u, Z, bs, rel, post⟩ := h
  refine ⟨ρ, u, Z, bs, rel, post.bind fun d u1 v H1 e1 n1 r1 post1 => ?_⟩
  subst r1
  cases d with
  | true =>
    rw [if_pos rfl] at post1 ⊢
    exact ⟨ρ, u1, Z, bs.ext e1 n1, rel.ext bs e1, post1⟩
  | false =>
    rw [if_neg Bool.false_ne_true] at post1 ⊢
    exact ⟨ρ, u1, Z, bs.ext e1 n1, rel.ext bs e1, post1⟩
/-- is None, is not None -/
theorem rep_isN {K : PySem.W.Frag} {Z : AZ} {U : Option Addr} {H : Hp} {d : D} {v : V} (r : Rep K Z U H d v) : decide (v = .non) = isNon d := by
  cases d <;> rw [Rep] at r
  case non => subst r; rfl
  case bl => subst r; rfl
  case int => subst r; rfl
  case str => subst r; rfl
  case tup => obtain ⟨a, xs, rfl, _⟩ := r; rfl
  case lst => obtain ⟨a, xs, rfl, _⟩ := r; rfl
  case dct => exact r.elim
  case urn => obtain ⟨a, _, rfl⟩ := r; rfl
  case scr => obtain ⟨a, rfl, _⟩ := r; rfl
theorem ed_isN {j pos'} (ha : ED g X a ma) : ED g X (.Compare a [.Is] [.Constant .none j pos'] pos) (mIsN ma) := by
  refine ⟨PE.imp (pe_cmp (pc_isN ha.pe) rfl) fun σ H Q h => ?_⟩
  obtain ⟨ρ, u, Z, bs, rel, post⟩ := h
  refine ⟨ρ, u, Z, bs, rel, post.bind fun d u1 v H1 e1 n1 r1 post1 => ?_⟩
  rw [rep_isN r1]
  exact post1 _ H1 .refl n1 (rep_bl.mpr rfl)
theorem ed_notN {j pos'} (ha : ED g X a ma) : ED g X (.Compare a [.IsNot] [.Constant .none j pos'] pos) (mNotN ma) := by
  refine ⟨PE.imp (pe_cmp (pc_notN ha.pe) rfl) fun σ H Q h => ?_⟩
  obtain ⟨ρ, u, Z, bs, rel, post⟩ := h
  refine ⟨ρ, u, Z, bs, rel, post.bind fun d u1 v H1 e1 n1 r1 post1 => ?_⟩
  rw [rep_isN r1]
  exact post1 _ H1 .refl n1 (rep_bl.mpr rfl)

/-! ### argument lists, displays -/
structure AD (g : G) (X : Cx) (es : List Expr) (m : MEs) : Prop where
  pa : PA X es (tEs X.K g m)
  len : ∀ ρ u ds u1, m ρ u = .ok ds u1 → ds.length = es.length
theorem ad_nil : AD g X [] mNil := ⟨PA.imp pa_nil fun σ H Q h => by
  obtain ⟨ρ, u, Z, bs, rel, post⟩ := h
  exact post [] H .refl bs.urn .nil, fun ρ u ds u1 h => by cases h; rfl⟩
theorem ad_cons {es : List Expr} {m : MEs} (ha : ED g X a ma) (hr : AD g X es m) (hs : starEach (a :: es) X.env = (false, eval a X.env) :: starEach es X.env := by rfl) : AD g X (a :: es) (mCons ma m) := by
  refine ⟨PA.imp (pa_cons ha.pe hr.pa hs) fun σ H Q h => ?_, fun ρ u ds u1 h => ?_⟩
  case refine_2 =>
    unfold mCons at h
    cases q : ma ρ u with
    | ok d u2 =>
      rw [q] at h
      cases q2 : m ρ u2 with
      | ok d2 u3 =>
        have h' : ((m ρ u2).bind fun xs u => Out.ok (d :: xs) u) = .ok ds u1 := h
        rw [q2] at h'
        cases h'
        rw [List.length_cons, List.length_cons, hr.len _ _ _ _ q2]
      | er x u3 =>
        have h' : ((m ρ u2).bind fun xs u => Out.ok (d :: xs) u) = .ok ds u1 := h
        rw [q2] at h'; cases h'
      | bad =>
        have h' : ((m ρ u2).bind fun xs u => Out.ok (d :: xs) u) = .ok ds u1 := h
        rw [q2] at h'; cases h'
    | er x u2 => rw [q] at h; cases h
    | bad => rw [q] at h; cases h
  obtain ⟨ρ, u, Z, bs, rel, post⟩ := h
  refine ⟨ρ, u, Z, bs, rel, post.bind fun d u1 v H1 e1 n1 r1 post1 => ?_⟩
  have bs1 := bs.ext e1 n1
  refine ⟨ρ, u1, Z, bs1, rel.ext bs e1, post1.bind fun ds u2 vs H2 e2 n2 r2 post2 => ?_⟩
  exact post2 (v :: vs) H2 .refl n2 (.cons (e2.rep bs1 r1) r2)
end
section
variable {K : PySem.W.Frag} {g : G} {Z : AZ} {H : Hp} {u : Urn}
/-- a new tuple, a new list -/
theorem new_tup {p : Addr} {l : List D} {xs : List V} (bs : Bs Z g.U H u) (hp : H p = none) (r : Reps K Z g.U H l xs) : Rep K Z g.U (upd H p (.tup xs)) (.tup l) (.ref p) := by
  rw [Rep]
  refine ⟨p, xs, rfl, .inl ⟨fun z => ?_, .inl upd_same⟩, (Ext.new hp).reps bs r⟩
  obtain ⟨o, e⟩ := bs.za p z
  rw [hp] at e; cases e
theorem new_lst {p : Addr} {l : List D} {xs : List V} (bs : Bs Z g.U H u) (hp : H p = none) (r : Reps K Z g.U H l xs) : Rep K Z g.U (upd H p (.lst xs)) (.lst l) (.ref p) := by
  rw [Rep]
  refine ⟨p, xs, rfl, ⟨fun z => ?_, upd_same⟩, (Ext.new hp).reps bs r⟩
  obtain ⟨o, e⟩ := bs.za p z
  rw [hp] at e; cases e
end

section
variable {g : G} {X : Cx} {es : List Expr} {m : MEs} {pos : Pos}
theorem PostE.eqn {α β : Type} {R : AZ → Hp → α → β → Prop} {Z : AZ} {H : Hp} {o : Out α} {Q T : β → Hp → Prop} (h : PostE g R Z H o Q) (k : ∀ d u1 v H1, o = .ok d u1 → Ext g.U H H1 → UrnAt g.U H1 u1 → R Z H1 d v → Q v H1 → T v H1) : PostE g R Z H o T := by
  cases o with
  | ok d u => exact fun v H' e' u' r => k d u v H' rfl e' u' r (h v H' e' u' r)
  | er x u => exact h
  | bad => exact h
theorem PostE.bindq {α β γ δ : Type} {R : AZ → Hp → α → β → Prop} {S : AZ → Hp → γ → δ → Prop} {Z : AZ} {H : Hp} {o : Out α} {f : α → Urn → Out γ} {Q : δ → Hp → Prop} {T : β → Hp → Prop}
    (h : PostE g S Z H (o.bind f) Q) (k : ∀ d u1 v H1, o = .ok d u1 → Ext g.U H H1 → UrnAt g.U H1 u1 → R Z H1 d v → PostE g S Z H1 (f d u1) Q → T v H1) : PostE g R Z H o T := by
  cases o with
  | ok d u => exact fun v H' e' u' r => k d u v H' rfl e' u' r (PostE.ext e' h)
  | er x u => exact h
  | bad => exact h
theorem ed_tup {x1} (h : AD g X es m) (hl : es.length ≤ 1000 := by decide) : ED g X (.Tuple es x1 pos) (mTup m) := by
  refine ⟨PE.imp (pe_tup h.pa) fun σ H Q q => ?_⟩
  obtain ⟨ρ, u, Z, bs, rel, post⟩ := q
  refine ⟨ρ, u, Z, bs, rel, post.bindq fun ds u1 vs H1 eo e1 n1 r1 post1 => ?_⟩
  have bs1 := bs.ext e1 n1
  refine ⟨Nat.le_of_lt (small1000 (by rw [r1.len, h.len _ _ _ _ eo]; exact hl)), fun p hp => ?_⟩
  exact post1 (.ref p) _ (Ext.new hp) (bs1.urn.ext hp) (new_tup bs1 hp r1)
theorem ed_lst (h : AD g X es m) (hl : es.length ≤ 1000 := by decide) : ED g X (.List es pos) (mLst m) := by
  refine ⟨PE.imp (pe_lst h.pa) fun σ H Q q => ?_⟩
  obtain ⟨ρ, u, Z, bs, rel, post⟩ := q
  refine ⟨ρ, u, Z, bs, rel, post.bindq fun ds u1 vs H1 eo e1 n1 r1 post1 => ?_⟩
  have bs1 := bs.ext e1 n1
  refine ⟨Nat.le_of_lt (small1000 (by rw [r1.len, h.len _ _ _ _ eo]; exact hl)), fun p hp => ?_⟩
  exact post1 (.ref p) _ (Ext.new hp) (bs1.urn.ext hp) (new_lst bs1 hp r1)
end
end Dn
namespace Dn
open PySem PySem.Spec PyProof.Rows L2
section
variable {K : PySem.W.Frag} {Z : AZ} {U : Option Addr} {H : Hp}
theorem reps_ints : ∀ {l : List D} {xs : List V}, isInts l = true → Reps K Z U H l xs → xs = (toInts l).map V.int
  | [], xs, _, h => by rw [Reps] at h; rw [h]; rfl
  | .int i :: r, xs, e, h => by
    rw [Reps] at h
    obtain ⟨x, ys, e1, h1, h2⟩ := h
    rw [isInts] at e
    rw [e1, rep_int.mp h1, reps_ints e h2]; rfl
  | .non :: r, xs, e, h => by simp [isInts] at e
  | .bl _ :: r, xs, e, h => by simp [isInts] at e
  | .str _ :: r, xs, e, h => by simp [isInts] at e
  | .tup _ :: r, xs, e, h => by simp [isInts] at e
  | .lst _ :: r, xs, e, h => by simp [isInts] at e
  | .dct _ _ :: r, xs, e, h => by simp [isInts] at e
  | .urn :: r, xs, e, h => by simp [isInts] at e
  | .scr _ :: r, xs, e, h => by simp [isInts] at e
theorem reps_bls : ∀ {l : List D} {xs : List V}, isBls l = true → Reps K Z U H l xs → xs = (toBls l).map V.bl
  | [], xs, _, h => by rw [Reps] at h; rw [h]; rfl
  | .bl i :: r, xs, e, h => by
    rw [Reps] at h
    obtain ⟨x, ys, e1, h1, h2⟩ := h
    rw [isBls] at e
    rw [e1, rep_bl.mp h1, reps_bls e h2]; rfl
  | .non :: r, xs, e, h => by simp [isBls] at e
  | .int _ :: r, xs, e, h => by simp [isBls] at e
  | .str _ :: r, xs, e, h => by simp [isBls] at e
  | .tup _ :: r, xs, e, h => by simp [isBls] at e
  | .lst _ :: r, xs, e, h => by simp [isBls] at e
  | .dct _ _ :: r, xs, e, h => by simp [isBls] at e
  | .urn :: r, xs, e, h => by simp [isBls] at e
  | .scr _ :: r, xs, e, h => by simp [isBls] at e

theorem reps_of_ints : ∀ (l : List Int), Reps K Z U H (l.map D.int) (l.map V.int)
  | [] => .nil
  | i :: r => .cons (rep_int.mpr rfl) (reps_of_ints r)
/-! ### == by data -/
mutual
def toPy : D → PyData
  | .non => .none
  | .bl b => .bool b
  | .int i => .int i
  | .str s => .str (strOf s)
  | .tup l => .tuple (toPys l)
  | .lst l => .list (toPys l)
  | .dct _ _ => .none
  | .urn => .none
  | .scr _ => .none
def toPys : List D → List PyData
  | [] => []
  | d :: r => toPy d :: toPys r
end
theorem strOf_inj {a b : List Nat} : strOf a = strOf b ↔ a = b := by
  unfold strOf
  constructor
  · intro h
    have := congrArg Str.cps h
    simpa using this
  · intro h; rw [h]
mutual
theorem dp_of : ∀ (n : Nat) (d : D) (v : V), okEq n d = true → Rep K Z U H d v → Dp K H v (toPy d)
  | n, .non, v, _, h => by rw [rep_non.mp h, toPy]; exact .non
  | n, .bl b, v, _, h => by rw [rep_bl.mp h, toPy]; exact .bl b
  | n, .int b, v, _, h => by rw [rep_int.mp h, toPy]; exact .int b
  | n, .str b, v, _, h => by rw [rep_str.mp h, toPy]; exact .str _
  | 0, .tup l, v, e, h => by simp [okEq] at e
  | n + 1, .tup l, v, e, h => by
    rw [okEq] at e
    obtain ⟨a, xs, rfl, q, r⟩ := rep_tup.mp h
    rw [toPy]
    exact .tup (sqT_of q) (dps_of n l xs e r)
  | 0, .lst l, v, e, h => by simp [okEq] at e
  | n + 1, .lst l, v, e, h => by
    rw [okEq] at e
    obtain ⟨a, xs, rfl, q, r⟩ := rep_lst.mp h
    rw [toPy]
    exact .lst (sqL_of q) (dps_of n l xs e r)
  | n, .dct _ _, v, e, h => by simp [okEq] at e
  | n, .urn, v, e, h => by simp [okEq] at e
  | n, .scr _, v, e, h => by simp [okEq] at e
theorem dps_of : ∀ (n : Nat) (l : List D) (xs : List V), okEqs n l = true → Reps K Z U H l xs → DpAll K H xs (toPys l)
  | n, [], xs, _, h => by rw [Reps] at h; rw [h, toPys]; exact .nil
  | n, d :: r, xs, e, h => by
    rw [okEqs, Bool.and_eq_true] at e
    rw [Reps] at h
    obtain ⟨x, ys, e1, h1, h2⟩ := h
    rw [e1, toPys]
    exact .cons (dp_of n d x e.1 h1) (dps_of n r ys e.2 h2)
end
mutual
theorem depth_of : ∀ (n : Nat) (d : D), okEq n d = true → (toPy d).depth ≤ n ∧ (toPy d).canLay0 = true
  | n, .non, _ => by rw [toPy]; exact ⟨Nat.zero_le _, rfl⟩
  | n, .bl b, _ => by rw [toPy]; exact ⟨Nat.zero_le _, rfl⟩
  | n, .int b, _ => by rw [toPy]; exact ⟨Nat.zero_le _, rfl⟩
  | n, .str s, e => by
    rw [toPy]
    refine ⟨Nat.zero_le _, ?_⟩
    cases n <;> (
      simp only [okEq, Bool.and_eq_true, List.all_eq_true, decide_eq_true_eq] at e
      simp only [PyData.canLay0, PyData.strOk, strOf]
      rw [List.all_toArray, List.all_eq_true]
      intro c hc
      have := e.2 c hc
      simp only [decide_eq_true_eq]
      omega)
  | 0, .tup l, e => by simp [okEq] at e
  | n + 1, .tup l, e => by
    rw [okEq] at e
    have h := depths_of n l e
    rw [toPy]
    exact ⟨by rw [PyData.depth]; omega, by rw [PyData.canLay0]; exact h.2⟩
  | 0, .lst l, e => by simp [okEq] at e
  | n + 1, .lst l, e => by
    rw [okEq] at e
    have h := depths_of n l e
    rw [toPy]
    exact ⟨by rw [PyData.depth]; omega, by rw [PyData.canLay0]; exact h.2⟩
  | n, .dct _ _, e => by simp [okEq] at e
  | n, .urn, e => by simp [okEq] at e
  | n, .scr _, e => by simp [okEq] at e
theorem depths_of : ∀ (n : Nat) (l : List D), okEqs n l = true → PyData.depthAll (toPys l) ≤ n ∧ PyData.canLayAll0 (toPys l) = true
  | n, [], _ => by rw [toPys]; exact ⟨Nat.zero_le _, rfl⟩
  | n, d :: r, e => by
    rw [okEqs, Bool.and_eq_true] at e
    have h1 := depth_of n d e.1
    have h2 := depths_of n r e.2
    rw [toPys]
    exact ⟨by rw [PyData.depthAll]; omega, by rw [PyData.canLayAll0, h1.2, h2.2]; rfl⟩
end
theorem shaped_of {d : D} (h : okEq 64 d = true) : SeqAt.shaped (toPy d) = true := by
  obtain ⟨h1, h2⟩ := depth_of 64 d h
  unfold SeqAt.shaped
  rw [h2, decide_eq_true h1]; rfl
mutual
theorem eqv_of : ∀ (n m : Nat) (d e : D), okEq n d = true → okEq m e = true → PyData.eqv (toPy d) (toPy e) = eqD d e
  | n, m, .non, e, h, h' => by cases e <;> simp [toPy, PyData.eqv, eqD, okEq] at h' ⊢
  | n, m, .bl b, e, h, h' => by cases e <;> simp [toPy, PyData.eqv, eqD, okEq] at h' ⊢
  | n, m, .int b, e, h, h' => by cases e <;> simp [toPy, PyData.eqv, eqD, okEq] at h' ⊢
  | n, m, .str b, e, h, h' => by
    cases e with
    | str c =>
      simp only [toPy, PyData.eqv, eqD]
      rw [Bool.eq_iff_iff]
      simp [strOf_inj]
    | _ => simp [toPy, PyData.eqv, eqD, okEq] at h' ⊢
  | 0, m, .tup l, e, h, h' => by simp [okEq] at h
  | n + 1, m, .tup l, e, h, h' => by
    rw [okEq] at h
    cases e with
    | tup k =>
      cases m with
      | zero => simp [okEq] at h'
      | succ m =>
        rw [okEq] at h'
        rw [toPy, toPy, PyData.eqv, eqD]
        exact eqvs_of n m l k h h'
    | _ => simp [toPy, PyData.eqv, eqD, okEq] at h' ⊢
  | 0, m, .lst l, e, h, h' => by simp [okEq] at h
  | n + 1, m, .lst l, e, h, h' => by
    rw [okEq] at h
    cases e with
    | lst k =>
      cases m with
      | zero => simp [okEq] at h'
      | succ m =>
        rw [okEq] at h'
        rw [toPy, toPy, PyData.eqv, eqD]
        exact eqvs_of n m l k h h'
    | _ => simp [toPy, PyData.eqv, eqD, okEq] at h' ⊢
  | n, m, .dct _ _, e, h, h' => by simp [okEq] at h
  | n, m, .urn, e, h, h' => by simp [okEq] at h
  | n, m, .scr _, e, h, h' => by simp [okEq] at h
theorem eqvs_of : ∀ (n m : Nat) (l k : List D), okEqs n l = true → okEqs m k = true → PyData.eqvAll (toPys l) (toPys k) = eqDs l k
  | n, m, [], [], _, _ => by rw [toPys, PyData.eqvAll, eqDs]
  | n, m, [], _ :: _, _, _ => by rw [toPys, toPys, PyData.eqvAll, eqDs] <;> intros <;> simp_all
  | n, m, _ :: _, [], _, _ => by rw [toPys, toPys, PyData.eqvAll, eqDs] <;> intros <;> simp_all
  | n, m, x :: l, y :: k, h, h' => by
    rw [okEqs, Bool.and_eq_true] at h h'
    rw [toPys, toPys, PyData.eqvAll, eqDs, eqv_of n m x y h.1 h'.1, eqvs_of n m l k h.2 h'.2]
end
end

/-! ### operators -/
section
variable {g : G} {X : Cx}
theorem od_add : OpR X (binaryOp .Add) (rOp X.K g opAdd) := by
  intro pins s σ H x y v u Q I rx ry h
  obtain ⟨Z, un, dx, dy, d, bs, hx, hy, e, q⟩ := h
  cases dx with
  | int i =>
    cases dy with
    | int j =>
      cases e
      exact op_add pins s σ H x y v u Q I rx ry ⟨i, j, rep_int.mp hx, rep_int.mp hy, q _ H .refl bs.urn (rep_int.mpr rfl)⟩
    | _ => cases e
  | tup l =>
    cases dy with
    | tup m =>
      rw [opAdd] at e
      split at e
      · rename_i hl
        cases e
        obtain ⟨a, xs, rfl, qa, ra⟩ := rep_tup.mp hx
        obtain ⟨b, ys, rfl, qb, rb⟩ := rep_tup.mp hy
        refine op_catA pins s σ H _ _ v u Q I rx ry ⟨a, b, xs, ys, rfl, rfl, sqT_of qa, sqT_of qb, by rw [ra.len, rb.len]; exact hl, fun z => ?_, fun _ z => ?_, fun _ _ p hp => ?_⟩
        · subst z
          have hl0 : l = [] := List.eq_nil_of_length_eq_zero (by rw [← ra.len]; rfl)
          subst hl0
          exact q _ H .refl bs.urn hy
        · subst z
          have hl0 : m = [] := List.eq_nil_of_length_eq_zero (by rw [← rb.len]; rfl)
          subst hl0
          rw [List.append_nil] at q
          exact q _ H .refl bs.urn hx
        · exact q _ _ (Ext.new hp) (bs.urn.ext hp) (new_tup bs hp (ra.app rb))
      · cases e
    | _ => cases e
  | lst l =>
    cases dy with
    | lst m =>
      rw [opAdd] at e
      split at e
      · rename_i hl
        cases e
        obtain ⟨a, xs, rfl, ⟨_, qa⟩, ra⟩ := rep_lst.mp hx
        obtain ⟨b, ys, rfl, ⟨_, qb⟩, rb⟩ := rep_lst.mp hy
        cases rx
        cases ry
        obtain ⟨z1, its1, n1, r1, o1⟩ := I.hok _ _ qa
        obtain ⟨z2, its2, n2, r2, o2⟩ := I.hok _ _ qb
        have l1 := r1.length
        have l2 := r2.length
        have l3 := ra.len
        have l4 := rb.len
        have hz : xs.length + ys.length ≤ sizeLine := by rw [l3, l4]; exact hl
        refine PySem.P.add_list o1 o2 ?_ (by rw [List.size_toArray, List.size_toArray]; omega)
        have ea : its1.toArray ++ its2.toArray = (its1 ++ its2).toArray := by simp
        rw [ea]
        have hp : H s.heap.objs.size = none := I.hok.fresh (Nat.le_refl _)
        refine ⟨.ref s.heap.objs.size, upd H s.heap.objs.size (.lst (xs ++ ys)), I.laid (t' := s.toks) (fun b u e => Heap.get?_push_of_some _ e) (Nat.le_refl _) ?_, rfl, q _ _ (Ext.new hp) (bs.urn.ext hp) (new_lst bs hp (ra.app rb))⟩
        exact ⟨by rw [List.length_append]; exact hz, _, 0, r1.append r2, Heap.get?_push_size _ rfl⟩
      · cases e
    | _ => cases e
  | _ => cases dy <;> cases e
theorem od_int {f : Value → Value → Sem Value} {F : D → D → Option D} {C : Int → Int → Prop} {gf : Int → Int → D} {gv : Int → Int → V} (ho : OpR X f (rI C gv))
    (hF : ∀ dx dy d, F dx dy = some d → ∃ i j, dx = .int i ∧ dy = .int j ∧ C i j ∧ d = gf i j) (hl : ∀ i j, Lit (gf i j) (gv i j)) : OpR X f (rOp X.K g F) := by
  intro pins s σ H x y v u Q I rx ry h
  obtain ⟨Z, un, dx, dy, d, bs, hx, hy, e, q⟩ := h
  obtain ⟨i, j, rfl, rfl, c, rfl⟩ := hF dx dy d e
  exact ho pins s σ H x y v u Q I rx ry ⟨i, j, rep_int.mp hx, rep_int.mp hy, c, q _ H .refl bs.urn (hl i j).rep⟩
theorem od_int0 {f : Value → Value → Sem Value} {F : D → D → Option D} {gf : Int → Int → D} {gv : Int → Int → V} (ho : OpR X f (rI0 gv))
    (hF : ∀ dx dy d, F dx dy = some d → ∃ i j, dx = .int i ∧ dy = .int j ∧ d = gf i j) (hl : ∀ i j, Lit (gf i j) (gv i j)) : OpR X f (rOp X.K g F) := by
  intro pins s σ H x y v u Q I rx ry h
  obtain ⟨Z, un, dx, dy, d, bs, hx, hy, e, q⟩ := h
  obtain ⟨i, j, rfl, rfl, rfl⟩ := hF dx dy d e
  exact ho pins s σ H x y v u Q I rx ry ⟨i, j, rep_int.mp hx, rep_int.mp hy, q _ H .refl bs.urn (hl i j).rep⟩
theorem od_sub : OpR X (binaryOp .Sub) (rOp X.K g opSub) := od_int0 (gf := fun i j => .int (i - j)) op_sub (fun dx dy d e => by cases dx <;> cases dy <;> cases e; exact ⟨_, _, rfl, rfl, rfl⟩) fun _ _ => .int _
theorem od_mod : OpR X (binaryOp .Mod) (rOp X.K g opMod) := od_int (gf := fun i j => .int (i % j)) op_mod (fun dx dy d e => by
  cases dx <;> cases dy <;> try cases e
  rename_i i j
  rw [opMod] at e
  split at e
  · cases e; exact ⟨_, _, rfl, rfl, by assumption, rfl⟩
  · cases e) fun _ _ => .int _
theorem od_fdiv : OpR X (binaryOp .FloorDiv) (rOp X.K g opFdiv) := od_int (gf := fun i j => .int (i / j)) op_fdivW (fun dx dy d e => by
  cases dx <;> cases dy <;> try cases e
  rename_i i j
  rw [opFdiv] at e
  split at e
  · cases e; exact ⟨_, _, rfl, rfl, by assumption, rfl⟩
  · cases e) fun _ _ => .int _
theorem od_pow : OpR X (binaryOp .Pow) (rOp X.K g opPow) := od_int (gf := fun i j => .int (i ^ j.toNat)) op_pow (fun dx dy d e => by
  cases dx <;> cases dy <;> try cases e
  rename_i i j
  rw [opPow] at e
  split at e
  · cases e; exact ⟨_, _, rfl, rfl, by assumption, rfl⟩
  · cases e) fun _ _ => .int _
theorem od_mul : OpR X (binaryOp .Mult) (rOp X.K g opMul) := by
  intro pins s σ H x y v u Q I rx ry h
  obtain ⟨Z, un, dx, dy, d, bs, hx, hy, e, q⟩ := h
  cases dx with
  | int i =>
    cases dy with
    | int j =>
      rw [opMul] at e
      split at e
      · rename_i hm
        cases e
        have fin := q _ H .refl bs.urn (rep_int.mpr rfl)
        unfold mulOk at hm
        rw [Bool.or_eq_true, Bool.or_eq_true] at hm
        rcases hm with (hm | hm) | hm
        · exact op_mul pins s σ H x y v u Q I rx ry ⟨i, j, rep_int.mp hx, rep_int.mp hy, .inl (by have := of_decide_eq_true hm; omega), fin⟩
        · exact op_mul pins s σ H x y v u Q I rx ry ⟨i, j, rep_int.mp hx, rep_int.mp hy, .inr (by have := of_decide_eq_true hm; omega), fin⟩
        · rw [Bool.and_eq_true] at hm
          have h1 := of_decide_eq_true hm.1
          have h2 := of_decide_eq_true hm.2
          unfold big at h1 h2
          exact op_mulW pins s σ H x y v u Q I rx ry ⟨i, j, rep_int.mp hx, rep_int.mp hy, by unfold CMulW; omega, fin⟩
      · cases e
    | _ => cases e
  | tup l =>
    cases dy with
    | int k =>
      rw [opMul] at e
      split at e
      · rename_i hl
        cases e
        obtain ⟨a, xs, rfl, qa, ra⟩ := rep_tup.mp hx
        refine op_repT pins s σ H _ _ v u Q I rx ry ⟨a, k, xs, rfl, rep_int.mp hy, sqT_of qa, fun z => ?_, hl.2.1, hl.2.2.1, by rw [ra.len]; exact hl.2.2.2, fun p hp => ?_⟩
        · subst z
          exact hl.1 (List.eq_nil_of_length_eq_zero (by rw [← ra.len]; rfl))
        · exact q _ _ (Ext.new hp) (bs.urn.ext hp) (new_tup bs hp (ra.rep _))
      · cases e
    | _ => cases e
  | lst l =>
    cases dy with
    | int k =>
      rw [opMul] at e
      split at e
      · rename_i hl
        cases e
        obtain ⟨a, xs, rfl, ⟨_, qa⟩, ra⟩ := rep_lst.mp hx
        · exact op_rep pins s σ H _ _ v u Q I rx ry ⟨a, k, xs, rfl, rep_int.mp hy, qa, hl.1, hl.2.1, by rw [ra.len]; exact hl.2.2, fun p hp => q _ _ (Ext.new hp) (bs.urn.ext hp) (new_lst bs hp (ra.rep _))⟩
      · cases e
    | _ => cases e
  | _ => cases dy <;> cases e
theorem lexLt_eq : ∀ (x y : List Int), HT.lexLt x y = Dn.lexLt x y
  | [], [] => rfl
  | [], _ :: _ => rfl
  | _ :: _, [] => rfl
  | a :: x, b :: y => by
    rw [HT.lexLt_cons, Dn.lexLt]
    split
    · exact lexLt_eq x y
    · rfl
theorem od_lt (hu : X.A.units < cLine) : OpR X (compareOp .Lt) (rOp X.K g opLt) := by
  intro pins s σ H x y v u Q I rx ry h
  obtain ⟨Z, un, dx, dy, d, bs, hx, hy, e, q⟩ := h
  cases dx with
  | int i =>
    cases dy with
    | int j =>
      cases e
      exact op_lt pins s σ H x y v u Q I rx ry ⟨i, j, rep_int.mp hx, rep_int.mp hy, q _ H .refl bs.urn (rep_bl.mpr rfl)⟩
    | _ => cases e
  | tup l =>
    cases dy with
    | tup m =>
      rw [opLt] at e
      split at e
      · rename_i hl
        rw [Bool.and_eq_true] at hl
        cases e
        obtain ⟨a, xs, rfl, qa, ra⟩ := rep_tup.mp hx
        obtain ⟨b, ys, rfl, qb, rb⟩ := rep_tup.mp hy
        rw [reps_ints hl.1 ra] at qa
        rw [reps_ints hl.2 rb] at qb
        refine op_ltT hu pins s σ H _ _ v u Q I rx ry ⟨a, b, toInts l, toInts m, rfl, rfl, sqT_of qa, sqT_of qb, ?_⟩
        rw [lexLt_eq]
        exact q _ H .refl bs.urn (rep_bl.mpr rfl)
      · cases e
    | _ => cases e
  | _ => cases dy <;> cases e
theorem od_le : OpR X (compareOp .LtE) (rOp X.K g opLe) := od_int0 (gf := fun i j => .bl (decide (i ≤ j))) op_le (fun dx dy d e => by cases dx <;> cases dy <;> cases e; exact ⟨_, _, rfl, rfl, rfl⟩) fun _ _ => .bl _
theorem od_gt : OpR X (compareOp .Gt) (rOp X.K g opGt) := od_int0 (gf := fun i j => .bl (decide (j < i))) op_gt (fun dx dy d e => by cases dx <;> cases dy <;> cases e; exact ⟨_, _, rfl, rfl, rfl⟩) fun _ _ => .bl _
theorem od_ge : OpR X (compareOp .GtE) (rOp X.K g opGe) := od_int0 (gf := fun i j => .bl (decide (j ≤ i))) op_ge (fun dx dy d e => by cases dx <;> cases dy <;> cases e; exact ⟨_, _, rfl, rfl, rfl⟩) fun _ _ => .bl _
theorem od_eq (hu : X.A.units + 64 < cLine) : OpR X (compareOp .Eq) (rOp X.K g opEq) := by
  intro pins s σ H x y v u Q I rx ry h
  obtain ⟨Z, un, dx, dy, d, bs, hx, hy, e, q⟩ := h
  unfold opEq at e
  split at e
  · rename_i hk
    rw [Bool.and_eq_true] at hk
    cases e
    refine op_eqD hu pins s σ H x y v u Q I rx ry ⟨toPy dx, toPy dy, dp_of 64 dx x hk.1 hx, dp_of 64 dy y hk.2 hy, shaped_of hk.1, shaped_of hk.2, ?_⟩
    rw [eqv_of 64 64 dx dy hk.1 hk.2]
    exact q _ H .refl bs.urn (rep_bl.mpr rfl)
  · cases e
theorem od_ne (hu : X.A.units + 64 < cLine) : OpR X (compareOp .NotEq) (rOp X.K g opNe) := by
  intro pins s σ H x y v u Q I rx ry h
  obtain ⟨Z, un, dx, dy, d, bs, hx, hy, e, q⟩ := h
  unfold opNe at e
  split at e
  · rename_i hk
    rw [Bool.and_eq_true] at hk
    cases e
    refine op_neD hu pins s σ H x y v u Q I rx ry ⟨toPy dx, toPy dy, dp_of 64 dx x hk.1 hx, dp_of 64 dy y hk.2 hy, shaped_of hk.1, shaped_of hk.2, ?_⟩
    rw [eqv_of 64 64 dx dy hk.1 hk.2]
    exact q _ H .refl bs.urn (rep_bl.mpr rfl)
  · cases e
theorem od_isB : OpR X (compareOp .Is) (rOp X.K g opIsB) := by
  intro pins s σ H x y v u Q I rx ry h
  obtain ⟨Z, un, dx, dy, d, bs, hx, hy, e, q⟩ := h
  cases dx <;> cases dy <;> cases e
  rename_i a b
  refine op_is_bl pins s σ H x y v u Q I rx ry ⟨a, b, rep_bl.mp hx, rep_bl.mp hy, ?_⟩
  rw [← Bool.beq_eq_decide_eq]
  exact q _ H .refl bs.urn (rep_bl.mpr rfl)
theorem od_isNB : OpR X (compareOp .IsNot) (rOp X.K g opIsNB) := by
  intro pins s σ H x y v u Q I rx ry h
  obtain ⟨Z, un, dx, dy, d, bs, hx, hy, e, q⟩ := h
  cases dx <;> cases dy <;> cases e
  rename_i a b
  refine op_isnot_bl pins s σ H x y v u Q I rx ry ⟨a, b, rep_bl.mp hx, rep_bl.mp hy, ?_⟩
  rw [← Bool.beq_eq_decide_eq]
  exact q _ H .refl bs.urn (rep_bl.mpr rfl)
/-- flat data and their values -/
theorem flat_of {K : PySem.W.Frag} {Z : AZ} {U : Option Addr} {H : Hp} {d : D} {v : V} (f : flat d = true) (r : Rep K Z U H d v) : flatV v = true ∧ Lit d v := by
  cases d with
  | non => rw [rep_non.mp r]; exact ⟨rfl, .non⟩
  | bl b => rw [rep_bl.mp r]; exact ⟨rfl, .bl b⟩
  | int b => rw [rep_int.mp r]; exact ⟨rfl, .int b⟩
  | str b => rw [rep_str.mp r]; exact ⟨rfl, .str b⟩
  | _ => cases f
theorem eqF_of {d e : D} {v w : V} (a : Lit d v) (b : Lit e w) : eqV v w = eqF d e := by
  cases a <;> cases b <;> try rfl
  rename_i s t
  show (strOf s == strOf t) = (s == t)
  rw [Bool.eq_iff_iff]
  simp [strOf_inj]
theorem any_of {K : PySem.W.Frag} {Z : AZ} {U : Option Addr} {H : Hp} {d : D} {v : V} (a : Lit d v) : ∀ {l : List D} {xs : List V}, l.all flat = true → Reps K Z U H l xs → xs.all flatV = true ∧ inV v xs = l.any fun z => eqF z d
  | [], xs, _, r => by
    rw [Reps] at r
    rw [r]; exact ⟨rfl, rfl⟩
  | e :: l, xs, f, r => by
    rw [List.all_cons, Bool.and_eq_true] at f
    rw [Reps] at r
    obtain ⟨x, ys, e1, h1, h2⟩ := r
    obtain ⟨i1, i2⟩ := any_of a f.2 h2
    obtain ⟨f1, l1⟩ := flat_of f.1 h1
    rw [e1]
    refine ⟨by rw [List.all_cons, f1, i1]; rfl, ?_⟩
    unfold inV at i2 ⊢
    rw [List.any_cons, List.any_cons, i2, eqF_of l1 a]
theorem items_rep {K : PySem.W.Frag} {Z : AZ} {U : Option Addr} {H : Hp} {d : D} {v : V} {l : List D} (e : items d = some l) (r : Rep K Z U H d v) : ∃ a xs, v = .ref a ∧ (SqL K H a xs ∨ SqT K H a xs) ∧ Reps K Z U H l xs := by
  cases d with
  | tup m =>
    cases e
    obtain ⟨a, xs, rfl, q, ra⟩ := rep_tup.mp r
    exact ⟨a, xs, rfl, .inr (sqT_of q), ra⟩
  | lst m =>
    cases e
    obtain ⟨a, xs, rfl, q, ra⟩ := rep_lst.mp r
    exact ⟨a, xs, rfl, .inl (sqL_of q), ra⟩
  | scr m =>
    cases e
    obtain ⟨a, rfl, q⟩ := rep_scr.mp r
    exact ⟨a, _, rfl, .inl (sqS_of q), reps_of_ints m⟩
  | _ => cases e
theorem od_in : OpR X (compareOp .In) (rOp X.K g opIn) := by
  intro pins s σ H x y v u Q I rx ry h
  obtain ⟨Z, un, dx, dy, d, bs, hx, hy, e, q⟩ := h
  unfold opIn at e
  split at e
  · rename_i l hi
    split at e
    · rename_i hf
      rw [Bool.and_eq_true] at hf
      cases e
      obtain ⟨a, xs, rfl, qa, ra⟩ := items_rep hi hy
      obtain ⟨fx, lx⟩ := flat_of hf.1 hx
      obtain ⟨fa, ea⟩ := any_of lx hf.2 ra
      refine op_in_seq pins s σ H x _ v u Q I rx ry ⟨a, xs, rfl, qa, fx, fa, ?_⟩
      rw [if_neg (by decide), ea]
      exact q _ H .refl bs.urn (rep_bl.mpr rfl)
    · cases e
  · cases e
theorem od_notIn : OpR X (compareOp .NotIn) (rOp X.K g opNotIn) := by
  intro pins s σ H x y v u Q I rx ry h
  obtain ⟨Z, un, dx, dy, d, bs, hx, hy, e, q⟩ := h
  unfold opNotIn at e
  split at e
  · rename_i l hi
    split at e
    · rename_i hf
      rw [Bool.and_eq_true] at hf
      cases e
      obtain ⟨a, xs, rfl, qa, ra⟩ := items_rep hi hy
      obtain ⟨fx, lx⟩ := flat_of hf.1 hx
      obtain ⟨fa, ea⟩ := any_of lx hf.2 ra
      refine op_notIn_seq pins s σ H x _ v u Q I rx ry ⟨a, xs, rfl, qa, fx, fa, ?_⟩
      rw [if_pos rfl, ea]
      exact q _ H .refl bs.urn (rep_bl.mpr rfl)
    · cases e
  · cases e
theorem ud_neg : UnR X (unaryOp .USub) (rUn X.K g unNeg) := by
  intro pins s σ H x v Q I rx h
  obtain ⟨Z, un, dx, d, bs, hx, e, q⟩ := h
  cases dx <;> cases e
  exact un_neg pins s σ H x v Q I rx ⟨_, rep_int.mp hx, q _ H .refl bs.urn (rep_int.mpr rfl)⟩
end
end Dn
namespace Dn
open PySem PySem.Spec PyProof.Rows L2

/-! ### subscripts, slices -/
section
variable {K : PySem.W.Frag} {Z : AZ} {U : Option Addr} {H : Hp}
theorem ixN_eq (n : Nat) (i : Int) : L2.ixN n i = Dn.ixN n i := rfl
theorem atI_rep {l : List D} {xs : List V} {i : Int} {d : D} (r : Reps K Z U H l xs) (e : Dn.atI l i = some d) : ∃ x, L2.atI xs i = some x ∧ Rep K Z U H d x := by
  unfold Dn.atI at e
  unfold L2.atI
  rw [ixN_eq, r.len]
  cases q : Dn.ixN l.length i with
  | none => rw [q] at e; cases e
  | some j =>
    rw [q] at e
    exact r.get e
theorem atI_map {α β : Type} (f : α → β) (l : List α) (i : Int) : L2.atI (l.map f) i = (Dn.atI l i).map f := by
  unfold Dn.atI L2.atI
  rw [ixN_eq, List.length_map]
  cases q : Dn.ixN l.length i with
  | none => rfl
  | some j => exact List.getElem?_map
theorem sIx_eq (n d : Nat) (o : Option Int) : HT.sIx n d o = Dn.sIx n d o := by cases o <;> rfl
theorem cut_rep {l : List D} {xs : List V} (lo hi : Option Int) (r : Reps K Z U H l xs) : Reps K Z U H (cut l lo hi) (cutV xs lo hi) := by
  unfold cut cutV
  rw [sIx_eq, sIx_eq, r.len]
  exact (r.drop _).take _
theorem cut_whole {α : Type} {l : List α} {lo hi : Option Int} (h : Dn.sIx l.length 0 lo = 0 ∧ Dn.sIx l.length l.length hi = l.length) : cut l lo hi = l := by
  unfold cut
  rw [h.1, h.2, List.drop_zero, Nat.sub_zero, List.take_length]
theorem cut_map {α β : Type} (f : α → β) (l : List α) (lo hi : Option Int) : cut (l.map f) lo hi = (cut l lo hi).map f := by
  unfold cut
  rw [List.length_map, List.map_take, List.map_drop]
end
section
variable {g : G} {X : Cx} {a b e : Expr} {ma mb : ME} {pos p2 : Pos}
def rIxD (K : PySem.W.Frag) (g : G) : R2 := fun x y H Q => ∃ Z u dx dy, Bs Z g.U H u ∧ Rep K Z g.U H dx x ∧ Rep K Z g.U H dy y ∧ PostE g (RD K g) Z H (ixU dx dy u) Q
theorem xd_ix : IxR X (rIxD X.K g) := by
  intro value slice pins s σ H x y v u Q I rx ry h hs
  obtain ⟨Z, un, dx, dy, bs, hx, hy, post⟩ := h
  have key : ∀ (l : List D) (xs : List V) (a : Addr), x = .ref a → (SqL X.K H a xs ∨ SqT X.K H a xs) → Reps X.K Z g.U H l xs → PostE g (RD X.K g) Z H (lift (match dy with | .int k => Dn.atI l k | _ => none) un) Q →
      wpAny (model X.prog X.w) X.A (subscriptTail value slice v u) (EP X pins σ Q) X.xe s := by
    intro l xs a ex hq r post
    subst ex
    cases dy with
    | int k =>
      cases q : Dn.atI l k with
      | none =>
        have post : PostE g (RD X.K g) Z H (lift (Dn.atI l k) un) Q := post
        rw [q] at post; exact post.elim
      | some d =>
        have post : PostE g (RD X.K g) Z H (lift (Dn.atI l k) un) Q := post
        rw [q] at post
        obtain ⟨w', e1, r1⟩ := atI_rep r q
        have fin := post w' H .refl bs.urn r1
        rcases hq with hq | hq
        · exact ix_list value slice pins s σ H _ y v u Q I rx ry ⟨a, xs, k, w', rfl, rep_int.mp hy, hq, e1, fin⟩ hs
        · exact ix_tup value slice pins s σ H _ y v u Q I rx ry ⟨a, xs, k, w', rfl, rep_int.mp hy, hq, e1, fin⟩ hs
    | _ => exact post.elim
  cases dx with
  | tup l =>
    obtain ⟨a, xs, ex, q, r⟩ := rep_tup.mp hx
    exact key l xs a ex (.inr (sqT_of q)) r (by cases dy <;> exact post)
  | lst l =>
    obtain ⟨a, xs, ex, q, r⟩ := rep_lst.mp hx
    exact key l xs a ex (.inl (sqL_of q)) r (by cases dy <;> exact post)
  | scr l =>
    obtain ⟨a, ex, q⟩ := rep_scr.mp hx
    refine key (l.map D.int) (l.map V.int) a ex (.inl (sqS_of q)) (reps_of_ints l) ?_
    cases dy with
    | int k =>
      have post : PostE g (RD X.K g) Z H (lift ((Dn.atI l k).map D.int) un) Q := post
      show PostE g (RD X.K g) Z H (lift (Dn.atI (l.map D.int) k) un) Q
      have em : Dn.atI (l.map D.int) k = (Dn.atI l k).map D.int := atI_map D.int l k
      rw [em]
      exact post
    | _ => exact post
  | urn =>
    obtain ⟨a, eu, ex⟩ := rep_urn.mp hx
    have hH := bs.urn a eu
    refine key (un.map D.int) (un.map V.int) a ex (.inl (.of hH)) (reps_of_ints un) ?_
    cases dy with
    | int k =>
      have post : PostE g (RD X.K g) Z H (lift ((Dn.atI un k).map D.int) un) Q := post
      show PostE g (RD X.K g) Z H (lift (Dn.atI (un.map D.int) k) un) Q
      have em : Dn.atI (un.map D.int) k = (Dn.atI un k).map D.int := atI_map D.int un k
      rw [em]
      exact post
    | _ => exact post
  | _ => cases dy <;> exact post.elim
theorem ed_ix (ha : ED g X a ma) (hb : ED g X b mb) (hs : PlainIx b := by intro _ _; rfl) : ED g X (.Subscript a b pos) (mIx ma mb) := by
  refine ⟨PE.imp (pe_ix (xd_ix (g := g)) ha.pe hb.pe hs) fun σ H Q h => ?_⟩
  obtain ⟨ρ, u, Z, bs, rel, post⟩ := h
  refine ⟨ρ, u, Z, bs, rel, post.bind fun d u1 v H1 e1 n1 r1 post1 => ?_⟩
  have bs1 := bs.ext e1 n1
  refine ⟨ρ, u1, Z, bs1, rel.ext bs e1, post1.bind fun d2 u2 v2 H2 e2 n2 r2 post2 => ?_⟩
  exact ⟨Z, u2, d, d2, bs1.ext e2 n2, e2.rep bs1 r1, r2, post2⟩
def tO (K : PySem.W.Frag) (g : G) (m : MO) : TO := fun σ H Q => ∃ ρ u Z, Bs Z g.U H u ∧ RelE K Z g.U σ H ρ ∧ PostE g (fun _ _ (a b : Option Int) => a = b) Z H (m ρ u) Q
structure OD (g : G) (X : Cx) (e : Option Expr) (m : MO) : Prop where
  po : PO X e (tO X.K g m)
theorem PO.imp {X : Cx} {e : Option Expr} {t t' : TO} (h : PO X e t) (i : ∀ σ H Q, t' σ H Q → t σ H Q) : PO X e t' := ⟨fun pins s σ H Q I q => h.run pins s σ H Q I (i σ H Q q)⟩
theorem oo_no : OD g X none oNo := ⟨PO.imp po_none fun σ H Q h => by
  obtain ⟨ρ, u, Z, bs, rel, post⟩ := h
  exact post none H .refl bs.urn rfl⟩
theorem oo_yes (ha : ED g X a ma) : OD g X (some a) (oYes ma) := by
  refine ⟨PO.imp (po_some ha.pe) fun σ H Q h => ?_⟩
  obtain ⟨ρ, u, Z, bs, rel, post⟩ := h
  refine ⟨ρ, u, Z, bs, rel, post.bind fun d u1 v H1 e1 n1 r1 post1 => ?_⟩
  cases d with
  | int i => exact ⟨i, rep_int.mp r1, post1 (some i) H1 .refl n1 rfl⟩
  | _ => exact post1.elim
def rSlD (K : PySem.W.Frag) (g : G) : V → Option Int → Option Int → Hp → VK → Prop := fun x lo hi H Q => ∃ Z u dx, Bs Z g.U H u ∧ Rep K Z g.U H dx x ∧ PostE g (RD K g) Z H (lift (slD dx lo hi) u) Q
theorem sd_sl : SlR X (rSlD X.K g) := by
  intro pins s σ H x v vl vu lo hi sl Q I rx hs pl pu h
  obtain ⟨Z, un, dx, bs, hx, post⟩ := h
  cases dx with
  | tup l =>
    obtain ⟨a, xs, rfl, q, r⟩ := rep_tup.mp hx
    have post : PostE g (RD X.K g) Z H (Out.ok (D.tup (cut l lo hi)) un) Q := post
    refine sl_tupA pins s σ H _ v vl vu lo hi sl Q I rx hs pl pu ⟨a, xs, rfl, sqT_of q, fun hw => ?_, fun _ p hp => ?_⟩
    · rw [sIx_eq, sIx_eq, r.len] at hw
      rw [cut_whole hw] at post
      exact post _ H .refl bs.urn hx
    · exact post _ _ (Ext.new hp) (bs.urn.ext hp) (new_tup bs hp (cut_rep lo hi r))
  | lst l =>
    obtain ⟨a, xs, rfl, q, r⟩ := rep_lst.mp hx
    have post : PostE g (RD X.K g) Z H (Out.ok (D.lst (cut l lo hi)) un) Q := post
    exact sl_list pins s σ H _ v vl vu lo hi sl Q I rx hs pl pu ⟨a, xs, rfl, sqL_of q, fun p hp => post _ _ (Ext.new hp) (bs.urn.ext hp) (new_lst bs hp (cut_rep lo hi r))⟩
  | scr l =>
    obtain ⟨a, rfl, q⟩ := rep_scr.mp hx
    have post : PostE g (RD X.K g) Z H (Out.ok (D.lst ((cut l lo hi).map D.int)) un) Q := post
    refine sl_list pins s σ H _ v vl vu lo hi sl Q I rx hs pl pu ⟨a, _, rfl, sqS_of q, fun p hp => post _ _ (Ext.new hp) (bs.urn.ext hp) ?_⟩
    have := new_lst bs hp (cut_rep lo hi (reps_of_ints (K := X.K) (Z := Z) (U := g.U) (H := H) l))
    rw [cut_map] at this
    exact this
  | _ => exact post.elim
theorem ed_sl {lo hi : Option Expr} {mlo mhi : MO} (ha : ED g X a ma) (hl : OD g X lo mlo) (hh : OD g X hi mhi) : ED g X (.Subscript a (.Slice lo hi none p2) pos) (mSl ma mlo mhi) := by
  refine ⟨PE.imp (pe_slice (sd_sl (g := g)) ha.pe hl.po hh.po) fun σ H Q h => ?_⟩
  obtain ⟨ρ, u, Z, bs, rel, post⟩ := h
  refine ⟨ρ, u, Z, bs, rel, post.bind fun d u1 v H1 e1 n1 r1 post1 => ?_⟩
  have bs1 := bs.ext e1 n1
  refine ⟨ρ, u1, Z, bs1, rel.ext bs e1, PostE.bind (R := fun _ _ a b => a = b) post1 fun d2 u2 v2 H2 e2 n2 r2 post2 => ?_⟩
  subst r2
  have bs2 := bs1.ext e2 n2
  refine ⟨ρ, u2, Z, bs2, (rel.ext bs e1).ext bs1 e2, PostE.bind (R := fun _ _ a b => a = b) post2 fun d3 u3 v3 H3 e3 n3 r3 post3 => ?_⟩
  subst r3
  exact ⟨Z, u3, d, bs2.ext e3 n3, e3.rep bs2 (e2.rep bs1 r1), post3⟩

/-! ### built-ins -/
theorem imp_B {f : List D → Option D} {m : MEs} {σ : L2.St} {H : Hp} {Q : VK} (h : tE X.K g (mB f m) σ H Q) : tCB (rB X.K g f) (tEs X.K g m) σ H Q := by
  obtain ⟨ρ, u, Z, bs, rel, post⟩ := h
  refine ⟨ρ, u, Z, bs, rel, post.bind fun ds u1 vs H1 e1 n1 r1 post1 => ?_⟩
  cases q : f ds with
  | none => rw [q] at post1; exact post1.elim
  | some z =>
    rw [q] at post1
    exact ⟨Z, u1, ds, z, bs.ext e1 n1, r1, q, post1⟩
theorem ed_B {x : Str} {p : Pos} {id : String} {es : List Expr} {m : MEs} {f : List D → Option D} (hc : CallR X (.builtin id) (rB X.K g f)) (hg : Gl X x) (hm : X.mg x = none) (hv : bootBuiltins x = some (.builtin id)) (ha : AD g X (e :: es) m) (hn : x ≠ "__name__" := by decide +kernel) (hdb : (x == ("__debug__" : Str)) = false := by decide +kernel)
    (he : starEach (e :: es) X.env = (false, eval e X.env) :: starEach es X.env := by rfl) (hpl : (backTo pos (starEach es X.env)).any (·.1) = false := by rfl) : ED g X (.Call (.Name x p) (e :: es) [] pos) (mB f m) :=
  ⟨PE.imp (pe_callB hc hg hm hv ha.pa hn hdb he hpl) fun _ _ _ h => imp_B h⟩
theorem ed_Ty {x : Str} {p : Pos} {T : String} {es : List Expr} {m : MEs} {f : List D → Option D} (hc : CallR X (.type T) (rB X.K g f)) (hg : Gl X x) (hm : X.mg x = none) (hv : bootBuiltins x = some (.type T)) (ha : AD g X (e :: es) m) (hn : x ≠ "__name__" := by decide +kernel) (hdb : (x == ("__debug__" : Str)) = false := by decide +kernel)
    (he : starEach (e :: es) X.env = (false, eval e X.env) :: starEach es X.env := by rfl) (hpl : (backTo pos (starEach es X.env)).any (·.1) = false := by rfl) : ED g X (.Call (.Name x p) (e :: es) [] pos) (mB f m) :=
  ⟨PE.imp (pe_callTy hc hg hm hv ha.pa hn hdb he hpl) fun _ _ _ h => imp_B h⟩
theorem reps1 {K : PySem.W.Frag} {Z : AZ} {U : Option Addr} {H : Hp} {d : D} {xs : List V} (r : Reps K Z U H [d] xs) : ∃ x, xs = [x] ∧ Rep K Z U H d x := by
  rw [Reps] at r
  obtain ⟨x, ys, rfl, h1, h2⟩ := r
  rw [Reps] at h2
  subst h2
  exact ⟨x, rfl, h1⟩
theorem reps2 {K : PySem.W.Frag} {Z : AZ} {U : Option Addr} {H : Hp} {d e : D} {xs : List V} (r : Reps K Z U H [d, e] xs) : ∃ x y, xs = [x, y] ∧ Rep K Z U H d x ∧ Rep K Z U H e y := by
  rw [Reps] at r
  obtain ⟨x, ys, rfl, h1, h2⟩ := r
  obtain ⟨y, rfl, h3⟩ := reps1 h2
  exact ⟨x, y, rfl, h1, h3⟩
theorem cd_abs : CallR X (.builtin "abs") (rB X.K g fAbs) := by
  intro pins s σ H xs us Q I r h
  obtain ⟨Z, un, ds, d, bs, rs, e, q⟩ := h
  unfold fAbs at e
  split at e
  · cases e
    obtain ⟨x, rfl, h1⟩ := reps1 rs
    exact call_abs pins s σ H _ us Q I r ⟨_, by rw [rep_int.mp h1], q _ H .refl bs.urn (rep_int.mpr rfl)⟩
  · cases e
theorem cd_int : CallR X (.type "int") (rB X.K g fInt) := by
  intro pins s σ H xs us Q I r h
  obtain ⟨Z, un, ds, d, bs, rs, e, q⟩ := h
  unfold fInt at e
  split at e
  · cases e
    obtain ⟨x, rfl, h1⟩ := reps1 rs
    exact call_int1 pins s σ H _ us Q I r (.inl ⟨_, by rw [rep_int.mp h1], q _ H .refl bs.urn (rep_int.mpr rfl)⟩)
  · cases e
    obtain ⟨x, rfl, h1⟩ := reps1 rs
    exact call_int1 pins s σ H _ us Q I r (.inr ⟨_, by rw [rep_bl.mp h1], q _ H .refl bs.urn (rep_int.mpr rfl)⟩)
  · cases e
theorem cd_len : CallR X (.builtin "len") (rB X.K g fLen) := by
  intro pins s σ H xs us Q I r h
  obtain ⟨Z, un, ds, d, bs, rs, e, q⟩ := h
  unfold fLen at e
  split at e
  · cases e
    obtain ⟨x, rfl, h1⟩ := reps1 rs
    obtain ⟨a, ys, rfl, qa, ra⟩ := rep_tup.mp h1
    exact call_len_seq pins s σ H _ us Q I r ⟨a, ys, rfl, .inr (sqT_of qa), q _ H .refl bs.urn (rep_int.mpr (by rw [ra.len]))⟩
  · cases e
    obtain ⟨x, rfl, h1⟩ := reps1 rs
    obtain ⟨a, ys, rfl, qa, ra⟩ := rep_lst.mp h1
    exact call_len_seq pins s σ H _ us Q I r ⟨a, ys, rfl, .inl (sqL_of qa), q _ H .refl bs.urn (rep_int.mpr (by rw [ra.len]))⟩
  · cases e
    obtain ⟨x, rfl, h1⟩ := reps1 rs
    obtain ⟨a, rfl, qa⟩ := rep_scr.mp h1
    exact call_len_seq pins s σ H _ us Q I r ⟨a, _, rfl, .inl (sqS_of qa), q _ H .refl bs.urn (rep_int.mpr (by rw [List.length_map]))⟩
  · cases e
theorem cd_all (hc : X.calm = true) : CallR X (.builtin "all") (rB X.K g fAll) := by
  intro pins s σ H xs us Q I r h
  obtain ⟨Z, un, ds, d, bs, rs, e, q⟩ := h
  unfold fAll at e
  split at e
  · split at e
    · rename_i hb
      cases e
      obtain ⟨x, rfl, h1⟩ := reps1 rs
      obtain ⟨a, ys, rfl, qa, ra⟩ := rep_lst.mp h1
      rw [reps_bls hb ra] at qa
      exact cr_all hc pins s σ H _ us Q I r ⟨a, _, rfl, sqL_of qa, q _ H .refl bs.urn (rep_bl.mpr rfl)⟩
    · cases e
  · cases e
theorem cd_any (hc : X.calm = true) : CallR X (.builtin "any") (rB X.K g fAny) := by
  intro pins s σ H xs us Q I r h
  obtain ⟨Z, un, ds, d, bs, rs, e, q⟩ := h
  unfold fAny at e
  split at e
  · split at e
    · rename_i hb
      cases e
      obtain ⟨x, rfl, h1⟩ := reps1 rs
      obtain ⟨a, ys, rfl, qa, ra⟩ := rep_lst.mp h1
      rw [reps_bls hb ra] at qa
      exact cr_any hc pins s σ H _ us Q I r ⟨a, _, rfl, sqL_of qa, q _ H .refl bs.urn (rep_bl.mpr rfl)⟩
    · cases e
  · cases e
theorem cd_sum (hc : X.calm = true) : CallR X (.builtin "sum") (rB X.K g fSum) := by
  intro pins s σ H xs us Q I r h
  obtain ⟨Z, un, ds, d, bs, rs, e, q⟩ := h
  unfold fSum at e
  split at e
  · split at e
    · rename_i hb
      cases e
      obtain ⟨x, rfl, h1⟩ := reps1 rs
      obtain ⟨a, ys, rfl, qa, ra⟩ := rep_lst.mp h1
      rw [reps_ints hb ra] at qa
      exact cr_sum hc pins s σ H _ us Q I r ⟨a, _, rfl, sqL_of qa, q _ H .refl bs.urn (rep_int.mpr rfl)⟩
    · cases e
  · cases e
theorem cd_tuple : CallR X (.type "tuple") (rB X.K g fTuple) := by
  intro pins s σ H xs us Q I r h
  obtain ⟨Z, un, ds, d, bs, rs, e, q⟩ := h
  unfold fTuple at e
  split at e
  · cases e
    obtain ⟨x, rfl, h1⟩ := reps1 rs
    obtain ⟨a, ys, rfl, qa, ra⟩ := rep_tup.mp h1
    exact call_tuple_of pins s σ H _ us Q I r ⟨a, ys, rfl, .inr ⟨sqT_of qa, q _ H .refl bs.urn h1⟩⟩
  · cases e
    obtain ⟨x, rfl, h1⟩ := reps1 rs
    obtain ⟨a, ys, rfl, qa, ra⟩ := rep_lst.mp h1
    exact call_tuple_of pins s σ H _ us Q I r ⟨a, ys, rfl, .inl ⟨sqL_of qa, fun p hp => q _ _ (Ext.new hp) (bs.urn.ext hp) (new_tup bs hp ra)⟩⟩
  · cases e
theorem cd_list : CallR X (.type "list") (rB X.K g fList) := by
  intro pins s σ H xs us Q I r h
  obtain ⟨Z, un, ds, d, bs, rs, e, q⟩ := h
  unfold fList at e
  split at e
  · cases e
    obtain ⟨x, rfl, h1⟩ := reps1 rs
    obtain ⟨a, ys, rfl, qa, ra⟩ := rep_tup.mp h1
    exact call_list_of pins s σ H _ us Q I r ⟨a, ys, rfl, .inr (sqT_of qa), fun p hp => q _ _ (Ext.new hp) (bs.urn.ext hp) (new_lst bs hp ra)⟩
  · cases e
    obtain ⟨x, rfl, h1⟩ := reps1 rs
    obtain ⟨a, ys, rfl, qa, ra⟩ := rep_lst.mp h1
    exact call_list_of pins s σ H _ us Q I r ⟨a, ys, rfl, .inl (sqL_of qa), fun p hp => q _ _ (Ext.new hp) (bs.urn.ext hp) (new_lst bs hp ra)⟩
  · cases e
theorem cd_max2 (hc : X.calm = true) : CallR X (.builtin "max") (rB X.K g fMax2) := by
  intro pins s σ H xs us Q I r h
  obtain ⟨Z, un, ds, d, bs, rs, e, q⟩ := h
  unfold fMax2 at e
  split at e
  · cases e
    obtain ⟨x, y, rfl, h1, h2⟩ := reps2 rs
    exact call_max2 hc pins s σ H _ us Q I r ⟨_, _, by rw [rep_int.mp h1, rep_int.mp h2], q _ H .refl bs.urn (rep_int.mpr rfl)⟩
  · cases e
theorem cd_min2 (hc : X.calm = true) : CallR X (.builtin "min") (rB X.K g fMin2) := by
  intro pins s σ H xs us Q I r h
  obtain ⟨Z, un, ds, d, bs, rs, e, q⟩ := h
  unfold fMin2 at e
  split at e
  · cases e
    obtain ⟨x, y, rfl, h1, h2⟩ := reps2 rs
    exact call_min2 hc pins s σ H _ us Q I r ⟨_, _, by rw [rep_int.mp h1, rep_int.mp h2], q _ H .refl bs.urn (rep_int.mpr rfl)⟩
  · cases e
theorem cd_divmod : CallR X (.builtin "divmod") (rB X.K g fDivmod) := by
  intro pins s σ H xs us Q I r h
  obtain ⟨Z, un, ds, d, bs, rs, e, q⟩ := h
  unfold fDivmod at e
  split at e
  · rename_i i j
    split at e
    · rename_i hb
      cases e
      obtain ⟨x, y, rfl, h1, h2⟩ := reps2 rs
      refine call_divmodW pins s σ H _ us Q I r ⟨i, j, by rw [rep_int.mp h1, rep_int.mp h2], divp_ok hb.1 ?_, fun p hp => q _ _ (Ext.new hp) (bs.urn.ext hp) (new_tup bs hp (.cons (rep_int.mpr rfl) (.cons (rep_int.mpr rfl) .nil)))⟩
      have : Builtin.Int.intBits i ≤ 401 := by
        unfold Builtin.Int.intBits
        split
        · omega
        · have := PySem.Flt.log2_lt_of (show 0 < 400 by decide) hb.2
          omega
      omega
    · cases e
  · cases e

/-! ### isinstance -/
def tyName : Ty → String
  | .int => "int" | .bool => "bool" | .str => "str" | .tuple => "tuple" | .list => "list" | .dict => "dict"
inductive Kd where
  | non | bl | int | str | tup | lst | dct
def kName : Kd → String
  | .non => "NoneType" | .bl => "bool" | .int => "int" | .str => "str" | .tup => "tuple" | .lst => "list" | .dct => "dict"
def isK : Kd → Ty → Bool
  | .bl, .int => true | .bl, .bool => true | .int, .int => true | .str, .str => true | .tup, .tuple => true | .lst, .list => true | .dct, .dict => true
  | _, _ => false
def dKd : D → Kd
  | .non => .non | .bl _ => .bl | .int _ => .int | .str _ => .str | .tup _ => .tup | .lst _ => .lst | .dct _ _ => .dct | .urn => .lst | .scr _ => .lst
def dTy (d : D) : String := kName (dKd d)
theorem kit_K (k : Kd) (t : Ty) : kitB (kName k) (tyName t) = some (isK k t) := by
  cases k <;> cases t <;> decide +kernel
theorem kit_D (d : D) (t : Ty) : kitB (dTy d) (tyName t) = some (isTy d t) := by
  have e : isTy d t = isK (dKd d) t := by cases d <;> cases t <;> rfl
  rw [e]
  exact kit_K _ _
theorem tyX_of {K : PySem.W.Frag} {Z : AZ} {U : Option Addr} {H : Hp} {u : Urn} {d : D} {v : V} (bs : Bs Z U H u) (r : Rep K Z U H d v) : TyX K H v (.type (dTy d)) := by
  cases d with
  | non => rw [rep_non.mp r]; exact .base .non
  | bl b => rw [rep_bl.mp r]; exact .base (.bl b)
  | int b => rw [rep_int.mp r]; exact .base (.int b)
  | str b => rw [rep_str.mp r]; exact .base (.str _)
  | tup l =>
    obtain ⟨a, xs, rfl, q, _⟩ := rep_tup.mp r
    rcases q with ⟨_, q | ⟨o, q⟩⟩ | ⟨o, its, n, q, c, _⟩
    · exact .base (.tup q)
    · exact .fTuple q
    · exact .kTuple q c
  | lst l =>
    obtain ⟨a, xs, rfl, ⟨_, q⟩, _⟩ := rep_lst.mp r
    exact .base (.lst q)
  | dct _ _ => rw [Rep] at r; exact r.elim
  | urn =>
    obtain ⟨a, e, rfl⟩ := rep_urn.mp r
    exact .base (.lst (bs.urn a e))
  | scr l =>
    obtain ⟨a, rfl, q⟩ := rep_scr.mp r
    rcases q with ⟨_, o, q⟩ | ⟨o, its, n, q, c, _⟩
    · exact .base (.frz q)
    · exact .kList q c
theorem kitAny_D {K : PySem.W.Frag} (d : D) : ∀ ts : List Ty, PySem.W.kitAny K (.type (dTy d)) (ts.map fun t => Value.type (tyName t)) = some (ts.any fun t => isTy d t)
  | [] => rfl
  | t :: ts => by
    rw [List.map_cons, List.any_cons]
    refine kitAny_cons (kit_ty (kit_D d t)) (fun hb => ?_) fun hb => ?_
    · rw [hb, Bool.false_or]; exact kitAny_D d ts
    · rw [hb, Bool.true_or]
/-- isinstance(x, T) -/
theorem ed_isTy {p p3 : Pos} {nm : Str} {t : Ty} (hg : Gl X "isinstance") (hm : X.mg "isinstance" = none) (hg2 : Gl X nm) (hm2 : X.mg nm = none) (hv2 : bootBuiltins nm = some (.type (tyName t))) (ha : ED g X a ma)
    (hn2 : nm ≠ "__name__" := by decide +kernel) (hd2 : (nm == ("__debug__" : Str)) = false := by decide +kernel)
    (he1 : starEach [a, .Name nm p3] X.env = (false, eval a X.env) :: starEach [.Name nm p3] X.env := by rfl) : ED g X (.Call (.Name "isinstance" p) [a, .Name nm p3] [] pos) (mIsTy [t] ma) := by
  refine ⟨PE.imp (pe_callB call_isi hg hm (by decide +kernel) (pa_cons ha.pe (pa_cons (pe_bltn (v := .ty (tyName t)) hg2 hm2 hv2 rfl hn2 hd2) pa_nil) he1) (by decide +kernel) (by decide +kernel) he1) fun σ H Q h => ?_⟩
  obtain ⟨ρ, u, Z, bs, rel, post⟩ := h
  refine ⟨ρ, u, Z, bs, rel, post.bind fun d u1 v H1 e1 n1 r1 post1 => ?_⟩
  refine ⟨v, .ty (tyName t), _, _, isTy d t, rfl, .ty _, tyX_of (bs.ext e1 n1) r1, kit_ty (kit_D d t), ?_⟩
  have post1 : PostE g (RD X.K g) Z H1 (Out.ok (D.bl (isTy d t || false)) u1) Q := post1
  rw [Bool.or_false] at post1
  exact post1 _ H1 .refl n1 (rep_bl.mpr rfl)
/-- isinstance(x, (T1, T2)) -/
theorem ed_isTy2 {p p3 p4 p5 : Pos} {x1} {nm nm' : Str} {t t' : Ty} (hg : Gl X "isinstance") (hm : X.mg "isinstance" = none) (hg2 : Gl X nm) (hm2 : X.mg nm = none) (hv2 : bootBuiltins nm = some (.type (tyName t)))
    (hg3 : Gl X nm') (hm3 : X.mg nm' = none) (hv3 : bootBuiltins nm' = some (.type (tyName t'))) (ha : ED g X a ma)
    (hn2 : nm ≠ "__name__" := by decide +kernel) (hd2 : (nm == ("__debug__" : Str)) = false := by decide +kernel) (hn3 : nm' ≠ "__name__" := by decide +kernel) (hd3 : (nm' == ("__debug__" : Str)) = false := by decide +kernel)
    (he1 : starEach [a, .Tuple [.Name nm p3, .Name nm' p4] x1 p5] X.env = (false, eval a X.env) :: starEach [.Tuple [.Name nm p3, .Name nm' p4] x1 p5] X.env := by rfl) : ED g X (.Call (.Name "isinstance" p) [a, .Tuple [.Name nm p3, .Name nm' p4] x1 p5] [] pos) (mIsTy [t, t'] ma) := by
  refine ⟨PE.imp (pe_callB call_isiT hg hm (by decide +kernel) (pa_cons ha.pe (pa_cons (pe_tup (pa_cons (pe_bltn (v := .ty (tyName t)) hg2 hm2 hv2 rfl hn2 hd2) (pa_cons (pe_bltn (v := .ty (tyName t')) hg3 hm3 hv3 rfl hn3 hd3) pa_nil))) pa_nil) he1) (by decide +kernel) (by decide +kernel) he1) fun σ H Q h => ?_⟩
  obtain ⟨ρ, u, Z, bs, rel, post⟩ := h
  refine ⟨ρ, u, Z, bs, rel, post.bind fun d u1 v H1 e1 n1 r1 post1 => ?_⟩
  refine ⟨Nat.le_of_lt (small1000 (by show 2 ≤ 1000; decide)), fun tp htp => ?_⟩
  have bs1 := bs.ext e1 n1
  have e2 : Ext g.U H1 (upd H1 tp (.tup [V.ty (tyName t), V.ty (tyName t')])) := Ext.new htp
  refine ⟨v, tp, _, _, _, _, rfl, upd_same, .cons (.ty _) (.cons (.ty _) .nil), tyX_of (bs1.ext e2 (n1.ext htp)) (e2.rep bs1 r1), kitAny_D d [t, t'], ?_⟩
  exact post1 _ _ e2 (n1.ext htp) (rep_bl.mpr rfl)
end
end Dn
namespace Dn
open PySem PySem.Spec PyProof.Rows L2

/-! ### a list or a tuple, by a mark -/
def SqK (c : Bool) (K : PySem.W.Frag) (H : Hp) (a : Addr) (xs : List V) : Prop := match c with
  | true => SqT K H a xs
  | false => SqL K H a xs
def SIt (c : Bool) (h : Heap) (it a : Addr) (i : Nat) : Prop := match c with
  | true => h.IsTupleIter it a i
  | false => h.IsListIter it a i
def Stnd (c : Bool) (h : Heap) (a : Addr) (its : List Value) : Prop := match c with
  | true => h.IsTuple a its.toArray
  | false => h.IsList a its.toArray
section
variable {X : Cx} {pins : List (Addr × Obj)} {σ : L2.St} {H : Hp} {s : Shared} {a it : Addr} {xs ys : List V} {c : Bool}
theorem SqK.rd (I : L2.Inv X pins σ H s) (h : SqK c X.K H a xs) : ∃ its : List Value, Vals xs its ∧ Stnd c s.heap a its ∧ a < s.heap.objs.size ∧ xs.length ≤ sizeLine := by
  cases c with
  | true =>
    obtain ⟨its, r, p, z⟩ := I.tuple h
    exact ⟨its, r, p, by obtain ⟨o, e, _⟩ := p; exact Heap.lt_size e, z⟩
  | false =>
    obtain ⟨its, r, p, z⟩ := I.list h
    exact ⟨its, r, p.isList, p.lt, z⟩
theorem SqK.one (I : L2.Inv X pins σ H s) (h : SqK c X.K H a xs) (h' : SqK c X.K H a ys) : xs = ys := by
  cases c with
  | true => exact I.tuple_inj h h'
  | false => exact I.list_inj h h'
theorem SIt.keep {h h' : Heap} {i : Nat} (st : SIt c h it a i) (k : ∀ o, h.get? it = some o → h'.get? it = some o) : SIt c h' it a i := by
  cases c with
  | true => exact Heap.IsTupleIter.at st k
  | false => exact Heap.IsListIter.at st k
theorem SIt.rec {h : Heap} {i : Nat} (st : SIt c h it a i) : ∃ o, h.get? it = some o ∧ ∀ v, o.data ≠ .cell v := by
  cases c with
  | true => obtain ⟨o, e, _, d⟩ := st; exact ⟨o, e, fun v z => by rw [d] at z; cases z⟩
  | false => obtain ⟨o, e, _, d⟩ := st; exact ⟨o, e, fun v z => by rw [d] at z; cases z⟩
theorem Stnd.keep {h h' : Heap} {its : List Value} (st : Stnd c h a its) (k : ∀ o, h.get? a = some o → h'.get? a = some o) : Stnd c h' a its := by
  cases c with
  | true => exact Heap.IsTuple.at st k
  | false => exact Heap.IsList.at st k
theorem draws_K {P : Program} {w : World} {A : Around} (hh : A.handled = none) (hne : a ≠ it) (its : List Value) :
    Draws P w A it [it, a] its.length (fun i v => its[i]? = some v) (fun i h => SIt c h it a i ∧ Stnd c h a its) := by
  cases c with
  | true =>
    have D := Draws.tuple (prog := P) (w := w) (A := A) hh it a hne its.toArray
    simp only [List.size_toArray, List.getElem?_toArray] at D
    exact D
  | false =>
    have D := Draws.list (prog := P) (w := w) (A := A) hh it a hne its.toArray
    simp only [List.size_toArray, List.getElem?_toArray] at D
    exact D
def itOb (c : Bool) (a : Addr) : Obj := match c with
  | true => { cls := .type "tuple_iterator", data := .fields #[.ref a, .int 0 0] }
  | false => { cls := .type "list_iterator", data := .fields #[.ref a, .int 0 0] }
theorem begins_K (its : List Value) : Begins (.ref a) (itOb c a) (fun h => Stnd c h a its) := by
  cases c with
  | true => exact begins_tuple a its.toArray
  | false => exact begins_list a its.toArray
theorem itOb_st {h : Heap} (e : h.get? it = some (itOb c a)) : SIt c h it a 0 := by
  cases c with
  | true => exact ⟨_, e, rfl, rfl⟩
  | false => exact ⟨_, e, rfl, rfl⟩
end

/-! ### zip of two of them -/
def ItZ (K : PySem.W.Frag) (c d : Bool) (a b : Addr) : It :=
  ⟨fun i H => ∃ (xs ys : List V) (x y : V), SqK c K H a xs ∧ SqK d K H b ys ∧ xs[i]? = some x ∧ ys[i]? = some y,
    fun i H v H' => ∃ T x y, v = .ref T ∧ H T = none ∧ H' = upd H T (.tup [x, y]) ∧ (∀ xs, SqK c K H a xs → xs[i]? = some x) ∧ ∀ ys, SqK d K H b ys → ys[i]? = some y,
    fun i H => ∃ xs ys : List V, SqK c K H a xs ∧ SqK d K H b ys ∧ i = min xs.length ys.length⟩
theorem turn_Z {P : Program} {w : World} {K : PySem.W.Frag} {elts : List Expr} {kk : Nat} {tpos : Pos} {c d : Bool} {a b z TI TO i1 i2 : Addr} (S : ZipSep2 z TI TO i1 i2 [i1, a] [i2, b]) (na : a ≠ i1) (nb : b ≠ i2) :
    Turn P w K (.Tuple elts kk tpos) (ItZ K c d a b) [z, TI, TO, i1, i2] z (fun i h => IsZip h z TI TO .none ∧ IsTupOf2 h TI (.ref i1) (.ref i2) ∧ (∃ x y, IsTupOf2 h TO x y) ∧ SIt c h i1 a i ∧ SIt d h i2 b i) where
  mem := List.mem_cons_self
  obj := by
    rintro i h ⟨hz, hTI, ⟨x, y, hTO⟩, st1, st2⟩ q hq
    simp only [List.mem_cons, List.not_mem_nil, or_false] at hq
    rcases hq with e | e | e | e | e <;> subst e
    · exact ⟨_, hz, fun v z => nomatch z⟩
    · exact ⟨_, hTI, fun v z => nomatch z⟩
    · exact ⟨_, hTO, fun v z => nomatch z⟩
    · exact st1.rec
    · exact st2.rec
  keep := by
    rintro i h h' ⟨hz, hTI, ⟨x, y, hTO⟩, st1, st2⟩ k
    refine ⟨k z (by simp) _ hz, k TI (by simp) _ hTI, ⟨x, y, k TO (by simp) _ hTO⟩, st1.keep fun o q => ?_, st2.keep fun o q => ?_⟩
    · exact k i1 (by simp) o q
    · exact k i2 (by simp) o q
  item := by
    intro X hP hw hK hc i pins s σ H E I hf st hg
    subst hP hw hK
    obtain ⟨hz, hTI, ⟨x0, y0, hTO⟩, st1, st2⟩ := st
    obtain ⟨xs, ys, x, y, qx, qy, hx, hy⟩ := hg
    obtain ⟨is1, rv1, p1, la, _⟩ := qx.rd I
    obtain ⟨is2, rv2, p2, lb, _⟩ := qy.rd I
    have D1 := draws_K (P := X.prog) (w := X.w) (A := X.A.in1) (c := c) (I.ok.hd hc) na is1
    have D2 := draws_K (P := X.prog) (w := X.w) (A := X.A.in1) (c := d) (I.ok.hd hc) nb is2
    have h1 : i < is1.length := by rw [← rv1.length]; exact (List.getElem?_eq_some_iff.mp hx).1
    have h2 : i < is2.length := by rw [← rv2.length]; exact (List.getElem?_eq_some_iff.mp hy).1
    have zl : z < s.heap.objs.size := Heap.lt_size hz
    refine wpAny_pyNext_zipD2_item S D1 D2 hz hTI hTO ⟨st1, p1⟩ ⟨st2, p2⟩ h1 h2 fun u1 u2 h' tk e1 e2 z1 TO1 sa sb hT hsz hk => ?_
    refine ⟨_, rfl, wpAny_letOwnedTupleGo_zip (s := { s with heap := h', toks := tk }) z1 fun h'' z2 bt => ?_⟩
    obtain ⟨v1, g1, r1⟩ := rv1.get hx
    obtain ⟨v2, g2, r2⟩ := rv2.get hy
    rw [e1] at g1
    rw [e2] at g2
    cases g1
    cases g2
    have hT2 : h''.get? s.heap.objs.size = some { cls := .type "tuple", data := .seq #[u1, u2] } := (bt.2 _ (Nat.ne_of_gt zl)).trans hT
    have new : ObjOk X.prog X.w (upd H s.heap.objs.size (.tup [x, y])) h'' s.heap.objs.size (.tup [x, y]) := by
      refine ⟨Nat.le_of_lt (small1000 (by show 2 ≤ 1000; decide)), [u1, u2], .cons r1 (.cons r2 .nil), _, hT2, rfl, 0, rfl⟩
    have kk : ∀ q o, q ∉ [z, TI, TO, i1, i2] → s.heap.get? q = some o → h''.get? q = some o := by
      intro q o hq e
      simp only [List.mem_cons, List.not_mem_nil, or_false, not_or] at hq
      exact (bt.2 q hq.1).trans (hk q o hq.1 hq.2.2.1 hq.2.2.2.1 hq.2.2.2.2 e)
    have I1 := I.turnedNew (t' := tk) (ch := [z, TI, TO, i1, i2]) kk hf (Nat.le_refl _) new
    have up : ∀ q o, q ≠ z → h'.get? q = some o → h''.get? q = some o := fun q o nq e => (bt.2 q nq).trans e
    refine ⟨.ref s.heap.objs.size, _, I1, rfl, ⟨_, x, y, rfl, I.hok.fresh (Nat.le_refl _), rfl, fun l hl => by rw [hl.one I qx]; exact hx, fun l hl => by rw [hl.one I qy]; exact hy⟩, ⟨z2, ?_, ⟨u1, u2, up _ _ S.TOz TO1⟩, sa.1.keep fun o q => up _ o S.zi1.symm q, sb.1.keep fun o q => up _ o S.zi2.symm q⟩, fun q hq => ?_⟩
    · exact up _ _ S.TIz (hk _ _ S.TIz S.TITO S.TIi1 S.TIi2 hTI)
    · have lq : q < s.heap.objs.size := by
        simp only [List.mem_cons, List.not_mem_nil, or_false] at hq
        rcases hq with e | e | e | e | e <;> subst e
        · exact zl
        · exact Heap.lt_size hTI
        · exact Heap.lt_size hTO
        · obtain ⟨_, e, _⟩ := st1.rec; exact Heap.lt_size e
        · obtain ⟨_, e, _⟩ := st2.rec; exact Heap.lt_size e
      rw [upd_ne (Nat.ne_of_lt lq)]
      exact (hf q hq).1
  done := by
    intro X hP hw hK hc i pins s σ H E I hf st hg
    subst hP hw hK
    obtain ⟨hz, hTI, ⟨x0, y0, hTO⟩, st1, st2⟩ := st
    obtain ⟨xs, ys, qx, qy, hend⟩ := hg
    obtain ⟨is1, rv1, p1, la, _⟩ := qx.rd I
    obtain ⟨is2, rv2, p2, lb, _⟩ := qy.rd I
    have D1 := draws_K (P := X.prog) (w := X.w) (A := X.A.in1) (c := c) (I.ok.hd hc) na is1
    have D2 := draws_K (P := X.prog) (w := X.w) (A := X.A.in1) (c := d) (I.ok.hd hc) nb is2
    have e1 := rv1.length
    have e2 := rv2.length
    refine wpAny_pyNext_zipD2_end S D1 D2 hz hTI hTO ⟨st1, p1⟩ ⟨st2, p2⟩ (by omega) (by omega) (by omega) fun h' tk hk => ⟨rfl, I.turnedL (t' := tk) (ch := [z, TI, TO, i1, i2]) ?_ hf⟩
    intro q o hq e
    simp only [List.mem_cons, List.not_mem_nil, or_false, not_or] at hq
    exact hk q o hq.1 hq.2.2.1 hq.2.2.2.1 hq.2.2.2.2 e
  self := fun A i s Q E st h => wpAny_pyIter_zip st.1 h

/-! ### enumerate of one -/
def ItN (K : PySem.W.Frag) (c : Bool) (a : Addr) : It :=
  ⟨fun i H => ∃ (xs : List V) (x : V), SqK c K H a xs ∧ xs[i]? = some x,
    fun i H v H' => ∃ T x, v = .ref T ∧ H T = none ∧ H' = upd H T (.tup [.int (i : Nat), x]) ∧ ∀ xs, SqK c K H a xs → xs[i]? = some x,
    fun i H => ∃ xs : List V, SqK c K H a xs ∧ i = xs.length⟩
theorem turn_N {P : Program} {w : World} {K : PySem.W.Frag} {elts : List Expr} {kk : Nat} {tpos : Pos} {c : Bool} {a e it : Addr} (nei : e ≠ it) (nea : e ≠ a) (na : a ≠ it) :
    Turn P w K (.Tuple elts kk tpos) (ItN K c a) [e, it] e (fun i h => (∃ old, IsEnum h e it ((i : Nat) : Int) old) ∧ SIt c h it a i) where
  mem := List.mem_cons_self
  obj := by
    rintro i h ⟨⟨old, he⟩, st⟩ q hq
    simp only [List.mem_cons, List.not_mem_nil, or_false] at hq
    rcases hq with e1 | e1 <;> subst e1
    · exact ⟨_, he, fun v z => nomatch z⟩
    · exact st.rec
  keep := by
    rintro i h h' ⟨⟨old, he⟩, st⟩ k
    exact ⟨⟨old, k e (by simp) _ he⟩, st.keep fun o q => k it (by simp) o q⟩
  item := by
    intro X hP hw hK hc i pins s σ H E I hf st hg
    subst hP hw hK
    obtain ⟨⟨old, he⟩, st⟩ := st
    obtain ⟨xs, x, qx, hx⟩ := hg
    obtain ⟨is1, rv1, p1, la, _⟩ := qx.rd I
    have D1 := draws_K (P := X.prog) (w := X.w) (A := X.A.in1) (c := c) (I.ok.hd hc) na is1
    have h1 : i < is1.length := by rw [← rv1.length]; exact (List.getElem?_eq_some_iff.mp hx).1
    have el : e < s.heap.objs.size := Heap.lt_size he
    have hef : e ∉ [it, a] := by
      simp only [List.mem_cons, List.not_mem_nil, or_false, not_or]
      exact ⟨nei, nea⟩
    refine wpAny_pyNext_enum_itemD D1 he ⟨st, p1⟩ h1 nei hef fun u h' tk e1 ho sa hT hsz hk => ?_
    refine ⟨_, rfl, wpAny_letOwnedTupleGo_enum (s := { s with heap := h', toks := tk + 1 }) ho fun h'' ho2 bt => ?_⟩
    obtain ⟨v1, g1, r1⟩ := rv1.get hx
    rw [e1] at g1
    cases g1
    have hT2 : h''.get? s.heap.objs.size = some { cls := .type "tuple", data := .seq #[.int i tk, u] } := (bt.2 _ (Nat.ne_of_gt el)).trans hT
    have new : ObjOk X.prog X.w (upd H s.heap.objs.size (.tup [.int (i : Nat), x])) h'' s.heap.objs.size (.tup [.int (i : Nat), x]) := by
      refine ⟨Nat.le_of_lt (small1000 (by show 2 ≤ 1000; decide)), [.int i tk, u], .cons ⟨tk, rfl⟩ (.cons r1 .nil), _, hT2, rfl, 0, rfl⟩
    have kk : ∀ q o, q ∉ [e, it] → s.heap.get? q = some o → h''.get? q = some o := by
      intro q o hq e
      simp only [List.mem_cons, List.not_mem_nil, or_false, not_or] at hq
      exact (bt.2 q hq.1).trans (hk q o hq.1 hq.2 e)
    have I1 := I.turnedNew (t' := tk + 1) (ch := [e, it]) kk hf (Nat.le_refl _) new
    refine ⟨.ref s.heap.objs.size, _, I1, rfl, ⟨_, x, rfl, I.hok.fresh (Nat.le_refl _), rfl, fun l hl => by rw [hl.one I qx]; exact hx⟩, ⟨⟨u, ?_⟩, sa.1.keep fun o q => (bt.2 it (Ne.symm nei)).trans q⟩, fun q hq => ?_⟩
    · have e1 : ((i + 1 : Nat) : Int) = (i : Int) + 1 := by omega
      rw [e1]
      exact ho2
    · have lq : q < s.heap.objs.size := by
        simp only [List.mem_cons, List.not_mem_nil, or_false] at hq
        rcases hq with e | e <;> subst e
        · exact el
        · obtain ⟨_, e, _⟩ := st.rec; exact Heap.lt_size e
      rw [upd_ne (Nat.ne_of_lt lq)]
      exact (hf q hq).1
  done := by
    intro X hP hw hK hc i pins s σ H E I hf st hg
    subst hP hw hK
    obtain ⟨⟨old, he⟩, st⟩ := st
    obtain ⟨xs, qx, hend⟩ := hg
    obtain ⟨is1, rv1, p1, la, _⟩ := qx.rd I
    have D1 := draws_K (P := X.prog) (w := X.w) (A := X.A.in1) (c := c) (I.ok.hd hc) na is1
    have e1 : i = is1.length := by rw [hend, rv1.length]
    subst e1
    obtain ⟨f0, f1, f2, f3, f4, f5⟩ := hf it (by simp)
    exact wpAny_pyNext_enum_endD D1 he ⟨st, p1⟩ fun h' eb => ⟨rfl, I.turned (t' := s.toks) (fun b o hb q => eb b o hb q) f0 f1 f3 f4 f5⟩
  self := by
    rintro A i s Q E ⟨⟨old, he⟩, _⟩ h
    exact wpAny_pyIter_enum he h
/-- enumerate(v): its new cells -/
theorem meets_en {v : Value} {o : Obj} {Hs : Heap → Prop} (B : Begins v o Hs) :
    Meets (Builtin.«enumerate.__new__» ⟨[.type "enumerate", v], []⟩) (fun _ R s => Hs s.heap ∧
      R (.ok (.ret (.ref (s.heap.push o).objs.size))) { s with heap := (s.heap.push o).push { cls := .type "enumerate", data := .fields #[.none, .bool false, .ref s.heap.objs.size, rawInt 0, .none, .none] } }) :=
  .of_wp fun prog w A R s h => by
    obtain ⟨hp, gg, dd, tk, os⟩ := s
    obtain ⟨h1, h⟩ := h
    have sub0 := sub_enumerate
    have it1 : ∀ {A' : Around} {E : Value → Shared → Prop} {Q : Value → Shared → Prop}, Q (.ref hp.objs.size) ⟨(hp.push o), gg, dd, tk, os⟩ → wpAny (model prog w) A' (pyIter v) Q E ⟨hp, gg, dd, tk, os⟩ :=
      fun q => B.iter prog w _ _ ⟨hp, gg, dd, tk, os⟩ _ h1 q
    wp_walk using it1
    refine wpAny_stack_any fun stk => wpAny_pure ?_
    split
    · rename_i cl _ _ _ _ _
      cases (cl == Value.type "enumerate") <;>
        (wp_walk using it1
         exact ⟨_, rfl, h⟩)
    · wp_walk using it1
      exact ⟨_, rfl, h⟩
theorem call_en {P : Program} {w : World} {A : Around} {E : Value → Shared → Prop} {s : Shared} {v : Value} {o : Obj} {Hs : Heap → Prop} {Q : Value → Shared → Prop} (B : Begins v o Hs) (h1 : Hs s.heap)
    (h : ∀ h', IsEnum h' (s.heap.objs.size + 1) s.heap.objs.size 0 .none → h'.get? s.heap.objs.size = some o →
      (∀ b o, s.heap.get? b = some o → h'.get? b = some o) → Q (.ref (s.heap.objs.size + 1)) { s with heap := h' }) :
    wpAny (model P w) A (call (.type "enumerate") [v]) Q E s := by
  refine callType_new F.called_enumerate (by decide) (F.typeCall_enumerate_1 _) (F.newCall_enumerate_1 _) (fun ob => F.args_object_init_2 ob _) F.entry_enumerate_new (meets_en B) ⟨h1, ?_⟩
  have hz : (s.heap.push o).objs.size = s.heap.objs.size + 1 := Heap.size_push ..
  show _ ∧ _
  have he := Heap.get?_push_size (s.heap.push o) (o := { cls := .type "enumerate", data := .fields #[.none, .bool false, .ref s.heap.objs.size, rawInt 0, .none, .none] }) rfl
  rw [hz] at he ⊢
  exact ⟨⟨_, he, rfl⟩, h _ he (Heap.get?_push_of_some _ (Heap.get?_push_size _ B.free)) fun b ob x => Heap.get?_push_of_some _ (Heap.get?_push_of_some _ x)⟩
end Dn
namespace Dn
open PySem PySem.Spec PyProof.Rows L2

/-! ### what is walked -/
def Fz (Z : AZ) (H1 H : Hp) : Prop := ∀ b o, ¬ Z b → H1 b = some o → H b = some o
/-- J walks the data ds, which stand at H1 outside Z -/
structure Wk (K : PySem.W.Frag) (U : Option Addr) (Z : AZ) (H1 : Hp) (ds : List D) (J : It) : Prop where
  go : ∀ i H, Fz Z H1 H → i < ds.length → J.go i H
  stop : ∀ H, Fz Z H1 H → J.stop ds.length H
  yld : ∀ i H x H' d, Fz Z H1 H → ds[i]? = some d → J.yld i H x H' → (∀ b o, H b = some o → H' b = some o) ∧
    ∀ Z2 : AZ, (∀ b, Z2 b → (Z b ∨ H1 b = none) ∧ ∃ o, H b = some o) → Rep K Z2 U H' d x
def tI (K : PySem.W.Frag) (g : G) (m : MEs) : TI := fun σ H R => ∃ ρ u Z, Bs Z g.U H u ∧ RelE K Z g.U σ H ρ ∧
  PostE g (fun Z H' ds J => ds.length ≤ LN ∧ Wk K g.U Z H' ds J) Z H (m ρ u) R
structure ID (g : G) (X : Cx) (tg e : Expr) (m : MEs) : Prop where
  pi : PI X tg e (tI X.K g m)
section
variable {K : PySem.W.Frag} {Z : AZ} {U : Option Addr} {H1 : Hp}
theorem items_sq {d : D} {v : V} {l : List D} (e : items d = some l) (r : Rep K Z U H1 d v) :
    ∃ c a xs, v = .ref a ∧ (∀ H, Fz Z H1 H → SqK c K H a xs) ∧ Reps K Z U H1 l xs := by
  cases d with
  | tup m =>
    cases e
    obtain ⟨a, xs, rfl, q, ra⟩ := rep_tup.mp r
    refine ⟨true, a, xs, rfl, fun H f => ?_, ra⟩
    rcases q with ⟨n, q | ⟨o, q⟩⟩ | q
    · exact .inl (.inl (f _ _ n q))
    · exact .inl (.inr ⟨o, f _ _ n q⟩)
    · exact .inr q
  | lst m =>
    cases e
    obtain ⟨a, xs, rfl, ⟨n, q⟩, ra⟩ := rep_lst.mp r
    exact ⟨false, a, xs, rfl, fun H f => .inl (.inl (f _ _ n q)), ra⟩
  | scr m =>
    cases e
    obtain ⟨a, rfl, q⟩ := rep_scr.mp r
    refine ⟨false, a, _, rfl, fun H f => ?_, reps_of_ints m⟩
    rcases q with ⟨n, o, q⟩ | q
    · exact .inl (.inr ⟨o, f _ _ n q⟩)
    · exact .inr q
  | _ => cases e
theorem Fz.refl : Fz Z H1 H1 := fun _ _ _ h => h
/-- an item, at a later heap -/
theorem item_rep {l : List D} {xs : List V} {i : Nat} {d : D} {x : V} {H : Hp} (r : Reps K Z U H1 l xs) (f : Fz Z H1 H) (ed : l[i]? = some d) (ex : xs[i]? = some x) :
    ∀ Z2 : AZ, (∀ b, Z2 b → (Z b ∨ H1 b = none) ∧ ∃ o, H b = some o) → Rep K Z2 U H d x := by
  intro Z2 hz
  obtain ⟨y, e2, q⟩ := r.get ed
  rw [ex] at e2
  cases e2
  have q2 : Rep K (fun b => Z b ∨ H1 b = none) U H1 d x := q.grow fun b z => z
  have q3 : Rep K (fun b => Z b ∨ H1 b = none) U H d x := q2.mono fun b o n e => f b o (fun z => n (.inl z)) e
  exact q3.sub fun b z => (hz b z).1
theorem wk_seq {c : Bool} {a : Addr} {l : List D} {xs : List V} (h : ∀ H, Fz Z H1 H → SqK c K H a xs) (r : Reps K Z U H1 l xs) : Wk K U Z H1 l (match c with | true => Itt K a | false => Itl K a) := by
  have hl := r.len
  cases c with
  | true =>
    refine ⟨fun i H f hi => ?_, fun H f => ?_, fun i H x H' d f ed y => ?_⟩
    · have hi' : i < xs.length := by omega
      exact ⟨xs, xs[i], h H f, List.getElem?_eq_getElem hi'⟩
    · exact ⟨xs, h H f, by omega⟩
    · obtain ⟨rfl, y⟩ := y
      exact ⟨fun _ _ e => e, item_rep r f ed (y xs (h _ f))⟩
  | false =>
    refine ⟨fun i H f hi => ?_, fun H f => ?_, fun i H x H' d f ed y => ?_⟩
    · have hi' : i < xs.length := by omega
      exact ⟨xs, xs[i], h H f, List.getElem?_eq_getElem hi'⟩
    · exact ⟨xs, h H f, by omega⟩
    · obtain ⟨rfl, y⟩ := y
      exact ⟨fun _ _ e => e, item_rep r f ed (y xs (h _ f))⟩
theorem wk_rng {lo hi : Int} : Wk K U Z H1 (rng lo hi) (Itr lo (hi - lo).toNat) := by
  have hl : (rng lo hi).length = (hi - lo).toNat := by unfold rng; rw [List.length_map, List.length_range]
  refine ⟨fun i H f hi => ?_, fun H f => ?_, fun i H x H' d f ed y => ?_⟩
  · show i < _
    omega
  · show _ ≤ _
    omega
  · obtain ⟨rfl, rfl⟩ := y
    refine ⟨fun _ _ e => e, fun Z2 _ => ?_⟩
    unfold rng at ed
    rw [List.getElem?_map] at ed
    have hi : i < (hi - lo).toNat := by
      cases q : (List.range (hi - lo).toNat)[i]? with
      | none => rw [q] at ed; cases ed
      | some z => have := (List.getElem?_eq_some_iff.mp q).1; simpa using this
    rw [List.getElem?_range hi] at ed
    cases ed
    exact rep_int.mpr rfl
theorem zip2_get : ∀ (l m : List D) (i : Nat) (d : D), (zip2 l m)[i]? = some d → ∃ x y, l[i]? = some x ∧ m[i]? = some y ∧ d = .tup [x, y]
  | [], _, i, d, h => by simp [zip2] at h
  | _ :: _, [], i, d, h => by simp [zip2] at h
  | x :: l, y :: m, 0, d, h => by simp [zip2] at h; exact ⟨x, y, rfl, rfl, h.symm⟩
  | x :: l, y :: m, i + 1, d, h => by
    simp [zip2] at h
    obtain ⟨a, b, e1, e2, e3⟩ := zip2_get l m i d h
    exact ⟨a, b, by simpa using e1, by simpa using e2, e3⟩
theorem zip2_len : ∀ (l m : List D), (zip2 l m).length = min l.length m.length
  | [], _ => by simp [zip2]
  | _ :: _, [] => by simp [zip2]
  | x :: l, y :: m => by simp [zip2, zip2_len l m]
theorem pair_rep {H H' : Hp} {T : Addr} {d e : D} {x y : V} {Z2 : AZ} (hT : H T = none) (hz : ∀ b, Z2 b → ∃ o, H b = some o) (h1 : Rep K Z2 U H d x) (h2 : Rep K Z2 U H e y) : Rep K Z2 U (upd H T (.tup [x, y])) (.tup [d, e]) (.ref T) := by
  have up : ∀ b o, ¬ Z2 b → H b = some o → upd H T (.tup [x, y]) b = some o := fun b o _ q => by rw [upd_ne (ne_of_none q hT)]; exact q
  refine rep_tup.mpr ⟨T, [x, y], rfl, .inl ⟨fun z => ?_, .inl upd_same⟩, .cons (h1.mono up) (.cons (h2.mono up) .nil)⟩
  obtain ⟨o, e⟩ := hz T z
  rw [hT] at e; cases e
theorem wk_zip {c d : Bool} {a b : Addr} {l m : List D} {xs ys : List V} (h : ∀ H, Fz Z H1 H → SqK c K H a xs) (r : Reps K Z U H1 l xs) (h' : ∀ H, Fz Z H1 H → SqK d K H b ys) (r' : Reps K Z U H1 m ys) :
    Wk K U Z H1 (zip2 l m) (ItZ K c d a b) := by
  have hl := r.len
  have hm := r'.len
  have hz := zip2_len l m
  refine ⟨fun i H f hi => ?_, fun H f => ?_, fun i H x H' e f ed y => ?_⟩
  · have h1 : i < xs.length := by omega
    have h2 : i < ys.length := by omega
    exact ⟨xs, ys, xs[i], ys[i], h H f, h' H f, List.getElem?_eq_getElem h1, List.getElem?_eq_getElem h2⟩
  · exact ⟨xs, ys, h H f, h' H f, by omega⟩
  · obtain ⟨T, x1, y1, rfl, hT, rfl, k1, k2⟩ := y
    obtain ⟨d1, d2, e1, e2, rfl⟩ := zip2_get l m i e ed
    refine ⟨fun b o q => by rw [upd_ne (ne_of_none q hT)]; exact q, fun Z2 hz2 => ?_⟩
    exact pair_rep (H' := H) hT (fun b z => (hz2 b z).2) (item_rep r f e1 (k1 _ (h H f)) Z2 hz2) (item_rep r' f e2 (k2 _ (h' H f)) Z2 hz2)
theorem enumD_len : ∀ (l : List D) (k : Nat), (enumD k l).length = l.length
  | [], _ => rfl
  | x :: l, k => by simp [enumD, enumD_len l]
theorem enumD_get : ∀ (l : List D) (k i : Nat) (d : D), (enumD k l)[i]? = some d → ∃ x, l[i]? = some x ∧ d = .tup [.int ((k + i : Nat) : Int), x]
  | [], _, i, d, h => by simp [enumD] at h
  | x :: l, k, 0, d, h => by simp [enumD] at h; exact ⟨x, rfl, h.symm⟩
  | x :: l, k, i + 1, d, h => by
    simp [enumD] at h
    obtain ⟨a, e1, e3⟩ := enumD_get l (k + 1) i d h
    exact ⟨a, by simpa using e1, by rw [e3, show k + 1 + i = k + (i + 1) by omega]⟩
theorem wk_enum {c : Bool} {a : Addr} {l : List D} {xs : List V} (h : ∀ H, Fz Z H1 H → SqK c K H a xs) (r : Reps K Z U H1 l xs) : Wk K U Z H1 (enumD 0 l) (ItN K c a) := by
  have hl := r.len
  have he := enumD_len l 0
  refine ⟨fun i H f hi => ?_, fun H f => ?_, fun i H x H' e f ed y => ?_⟩
  · have h1 : i < xs.length := by omega
    exact ⟨xs, xs[i], h H f, List.getElem?_eq_getElem h1⟩
  · exact ⟨xs, h H f, by omega⟩
  · obtain ⟨T, x1, rfl, hT, rfl, k1⟩ := y
    obtain ⟨d1, e1, rfl⟩ := enumD_get l 0 i e ed
    refine ⟨fun b o q => by rw [upd_ne (ne_of_none q hT)]; exact q, fun Z2 hz2 => ?_⟩
    exact pair_rep (H' := H) hT (fun b z => (hz2 b z).2) (rep_int.mpr (by rw [Nat.zero_add])) (item_rep r f e1 (k1 _ (h H f)) Z2 hz2)
end
section
variable {g : G} {X : Cx} {tg e e2 : Expr} {m : ME} {ms : MEs} {p pos tpos : Pos}
theorem id_seq (he : ED g X e m) : ID g X tg e (iSeq m) := by
  refine ⟨⟨fun pins s σ H R I h => ?_⟩⟩
  obtain ⟨ρ, u, Z, bs, rel, post⟩ := h
  refine thn (he.pe.run pins s σ H (fun v H1 => ∃ d l, items d = some l ∧ Rep X.K Z g.U H1 d v ∧ ∀ J, l.length ≤ LN → Wk X.K g.U Z H1 l J → R J H1) I ⟨ρ, u, Z, bs, rel, post.bind fun d u1 v H1 e1 n1 r1 post1 => ?_⟩) fun v s1 ⟨x, H1, I1, r1, q1⟩ => ?_
  · cases q : items d with
    | none => rw [q] at post1; exact post1.elim
    | some l =>
      rw [q] at post1
      exact ⟨d, l, q, r1, fun J hl hw => post1 J H1 .refl n1 ⟨hl, hw⟩⟩
  · obtain ⟨d, l, hi, hr, q⟩ := q1
    obtain ⟨c, a, xs, rfl, hs, ra⟩ := items_sq hi hr
    cases r1
    have hw := wk_seq hs ra
    have fp : ∀ b ∈ [s1.heap.objs.size], FpOk X pins H1 b := fun b hb => by
      rw [List.mem_singleton] at hb
      subst hb
      exact I1.fpOk (Nat.le_refl _) (I1.hok.fresh (Nat.le_refl _))
    have kp : ∀ o : Obj, ∀ b u, s1.heap.get? b = some u → (s1.heap.push o).get? b = some u := fun o b u e => Heap.get?_push_of_some _ e
    cases c with
    | true =>
      obtain ⟨its, rv, pt, hz⟩ := I1.tuple (hs H1 Fz.refl)
      refine wpAny_pyIter_tuple (show s1.heap.IsTuple a its.toArray from pt) ?_
      exact ⟨_, _, _, _, H1, rfl, I1.kept (t' := s1.toks) (kp _), turn_tuple a _, ⟨_, Heap.get?_push_size _ rfl, rfl, rfl⟩, fp, q _ (by rw [← ra.len]; exact hz) hw⟩
    | false =>
      obtain ⟨its, rv, pt, hz⟩ := I1.list (hs H1 Fz.refl)
      refine wpAny_pyIter_list pt.isList ?_
      exact ⟨_, _, _, _, H1, rfl, I1.kept (t' := s1.toks) (kp _), turn_list a _, ⟨_, Heap.get?_push_size _ rfl, rfl, rfl⟩, fp, q _ (by rw [← ra.len]; exact hz) hw⟩
theorem rng_len (lo hi : Int) : (rng lo hi).length = (hi - lo).toNat := by unfold rng; rw [List.length_map, List.length_range]
theorem rOk_of {lo hi : Int} (h : rOk lo hi = true) : -1000000 ≤ lo ∧ lo ≤ 1000000 ∧ -1000000 ≤ hi ∧ hi ≤ 1000000 := by
  unfold rOk at h
  simp only [Bool.and_eq_true, decide_eq_true_eq] at h
  exact ⟨h.1.1.1, h.1.1.2, h.1.2, h.2⟩
theorem id_rng1 {a : Expr} (hg : Gl X "range") (hm : X.mg "range" = none) (ha : AD g X [a] ms) (hs : starEach [a] X.env = [(false, eval a X.env)] := by rfl) : ID g X tg (.Call (.Name "range" p) [a] [] pos) (iRng ms) := by
  refine ⟨⟨fun pins s σ H R I h => (pi_range1 hg hm ha.pa hs).run pins s σ H R I ?_⟩⟩
  obtain ⟨ρ, u, Z, bs, rel, post⟩ := h
  refine ⟨ρ, u, Z, bs, rel, post.bindq fun ds u1 vs H1 eo e1 n1 r1 post1 => ?_⟩
  have hl := ha.len _ _ _ _ eo
  match ds, hl with
  | [d], _ =>
    cases d with
    | int j =>
      obtain ⟨x, rfl, hx⟩ := reps1 r1
      have post1 : PostE g (fun Z H' ds J => ds.length ≤ LN ∧ Wk X.K g.U Z H' ds J) Z H1 (if rOk 0 j = true then Out.ok (rng 0 j) u1 else Out.bad) R := post1
      split at post1
      · rename_i hk
        have hb := rOk_of hk
        refine ⟨j, by rw [rep_int.mp hx], by omega, by omega, ?_⟩
        have w := wk_rng (K := X.K) (U := g.U) (Z := Z) (H1 := H1) (lo := 0) (hi := j)
        rw [Int.sub_zero] at w
        exact post1 _ H1 .refl n1 ⟨by rw [rng_len]; unfold LN; omega, w⟩
      · exact post1.elim
    | _ => exact post1.elim
theorem id_rng2 {a b : Expr} (hg : Gl X "range") (hm : X.mg "range" = none) (ha : AD g X [a, b] ms) (hs : starEach [a, b] X.env = [(false, eval a X.env), (false, eval b X.env)] := by rfl) (hs2 : starEach [b] X.env = [(false, eval b X.env)] := by rfl) :
    ID g X tg (.Call (.Name "range" p) [a, b] [] pos) (iRng ms) := by
  refine ⟨⟨fun pins s σ H R I h => (pi_range2 hg hm ha.pa hs hs2).run pins s σ H R I ?_⟩⟩
  obtain ⟨ρ, u, Z, bs, rel, post⟩ := h
  refine ⟨ρ, u, Z, bs, rel, post.bindq fun ds u1 vs H1 eo e1 n1 r1 post1 => ?_⟩
  have hl := ha.len _ _ _ _ eo
  match ds, hl with
  | [d, f], _ =>
    cases d with
    | int i =>
      cases f with
      | int j =>
        obtain ⟨x, y, rfl, hx, hy⟩ := reps2 r1
        have post1 : PostE g (fun Z H' ds J => ds.length ≤ LN ∧ Wk X.K g.U Z H' ds J) Z H1 (if rOk i j = true then Out.ok (rng i j) u1 else Out.bad) R := post1
        split at post1
        · rename_i hk
          have hb := rOk_of hk
          refine ⟨i, j, by rw [rep_int.mp hx, rep_int.mp hy], by omega, ?_⟩
          exact post1 _ H1 .refl n1 ⟨by rw [rng_len]; unfold LN; omega, wk_rng⟩
        · exact post1.elim
      | _ => exact post1.elim
    | _ => exact post1.elim
theorem id_zip {elts : List Expr} {kk : Nat} (hg : Gl X "zip") (hm : X.mg "zip" = none) (ha : AD g X [e, e2] ms)
    (hs : starEach [e, e2] X.env = (false, eval e X.env) :: starEach [e2] X.env := by rfl) (hpl : (backTo pos (starEach [e2] X.env)).any (·.1) = false := by rfl) :
    ID g X (.Tuple elts kk tpos) (.Call (.Name "zip" p) [e, e2] [] pos) (iZip ms) := by
  refine ⟨⟨fun pins s σ H R I h => ?_⟩⟩
  obtain ⟨ρ, u, Z, bs, rel, post⟩ := h
  refine Call_ (ld_blt I hg hm PyProof.Rows.boot_zip (PyProof.Rows.callWith_type1 (thn (ha.pa.run pos pins s σ H (fun vs H1 => ∃ x y d f l m, vs = [x, y] ∧ items d = some l ∧ items f = some m ∧ Rep X.K Z g.U H1 d x ∧ Rep X.K Z g.U H1 f y ∧ ∀ J, (zip2 l m).length ≤ LN → Wk X.K g.U Z H1 (zip2 l m) J → R J H1) I
    ⟨ρ, u, Z, bs, rel, post.bindq fun ds u1 vs H1 eo e1 n1 r1 post1 => ?_⟩) fun us s1 ⟨vs, H1, I1, r1, q1⟩ => ?_) hs hpl))
  · have hl := ha.len _ _ _ _ eo
    match ds, hl with
    | [d, f], _ =>
      obtain ⟨x, y, rfl, hx, hy⟩ := reps2 r1
      cases q : items d with
      | none =>
        have post1 : PostE g (fun Z H' ds J => ds.length ≤ LN ∧ Wk X.K g.U Z H' ds J) Z H1 (match items d with | some l => (match items f with | some m => Out.ok (zip2 l m) u1 | none => Out.bad) | none => Out.bad) R := post1
        rw [q] at post1
        exact post1.elim
      | some l =>
        have post1 : PostE g (fun Z H' ds J => ds.length ≤ LN ∧ Wk X.K g.U Z H' ds J) Z H1 (match items d with | some l => (match items f with | some m => Out.ok (zip2 l m) u1 | none => Out.bad) | none => Out.bad) R := post1
        rw [q] at post1
        cases q2 : items f with
        | none =>
          rw [q2] at post1
          exact post1.elim
        | some m =>
          rw [q2] at post1
          exact ⟨x, y, d, f, l, m, rfl, q, q2, hx, hy, fun J hl hw => post1 J H1 .refl n1 ⟨hl, hw⟩⟩
  · obtain ⟨x, y, d, f, l, m, rfl, i1, i2, hx, hy, q⟩ := q1
    obtain ⟨u1, u2, rfl, rx, ry⟩ := vals2 r1
    obtain ⟨c, a, xs, rfl, hs1, ra⟩ := items_sq i1 hx
    obtain ⟨c', b, ys, rfl, hs2, rb⟩ := items_sq i2 hy
    cases rx
    cases ry
    obtain ⟨is1, rv1, p1, la, z1⟩ := (hs1 H1 Fz.refl).rd I1
    obtain ⟨is2, rv2, p2, lb, z2⟩ := (hs2 H1 Fz.refl).rd I1
    refine zip_begins2 (begins_K is1) (begins_K is2) p1 p2 fun h' hz hTI hTO o1 o2 hsz hk => wpAny_pyIter_zip hz ?_
    have I2 : L2.Inv X pins σ H1 { s1 with heap := h' } := I1.kept (t' := s1.toks) hk
    have S := zip_sep2 (N := s1.heap.objs.size) (fp1 := [a]) (fp2 := [b]) (fun q hq => by rw [List.mem_singleton] at hq; subst hq; exact la) (fun q hq => by rw [List.mem_singleton] at hq; subst hq; exact lb)
    have na : a ≠ s1.heap.objs.size := Nat.ne_of_lt la
    have nb : b ≠ s1.heap.objs.size + 1 := Nat.ne_of_lt (Nat.lt_succ_of_lt lb)
    refine ⟨_, _, _, _, H1, rfl, I2, turn_Z S na nb, ⟨hz, hTI, ⟨_, _, hTO⟩, itOb_st o1, itOb_st o2⟩, fun q hq => ?_, q _ ?_ (wk_zip hs1 ra hs2 rb)⟩
    · have hle : s1.heap.objs.size ≤ q := by
        simp only [List.mem_cons, List.not_mem_nil, or_false] at hq
        rcases hq with e | e | e | e | e <;> (subst e; first | exact Nat.le_refl _ | exact Nat.le_add_right _ _)
      exact I1.fpOk hle (I1.hok.fresh hle)
    · have h1 := ra.len
      have h2 : (sizeLine : Nat) = LN := by rw [sizeLine_eq]; rfl
      rw [zip2_len]
      omega
theorem id_enum {elts : List Expr} {kk : Nat} (hg : Gl X "enumerate") (hm : X.mg "enumerate" = none) (ha : AD g X [e] ms)
    (hs : starEach [e] X.env = [(false, eval e X.env)] := by rfl) :
    ID g X (.Tuple elts kk tpos) (.Call (.Name "enumerate" p) [e] [] pos) (iEnum ms) := by
  refine ⟨⟨fun pins s σ H R I h => ?_⟩⟩
  obtain ⟨ρ, u, Z, bs, rel, post⟩ := h
  refine Call_ (ld_blt I hg hm boot_enumerate (PyProof.Rows.callWith_type1 (thn (ha.pa.run pos pins s σ H (fun vs H1 => ∃ x d l, vs = [x] ∧ items d = some l ∧ Rep X.K Z g.U H1 d x ∧ ∀ J, (enumD 0 l).length ≤ LN → Wk X.K g.U Z H1 (enumD 0 l) J → R J H1) I
    ⟨ρ, u, Z, bs, rel, post.bindq fun ds u1 vs H1 eo e1 n1 r1 post1 => ?_⟩) fun us s1 ⟨vs, H1, I1, r1, q1⟩ => ?_) hs rfl))
  · have hl := ha.len _ _ _ _ eo
    match ds, hl with
    | [d], _ =>
      obtain ⟨x, rfl, hx⟩ := reps1 r1
      cases q : items d with
      | none =>
        have post1 : PostE g (fun Z H' ds J => ds.length ≤ LN ∧ Wk X.K g.U Z H' ds J) Z H1 (match items d with | some l => Out.ok (enumD 0 l) u1 | none => Out.bad) R := post1
        rw [q] at post1
        exact post1.elim
      | some l =>
        have post1 : PostE g (fun Z H' ds J => ds.length ≤ LN ∧ Wk X.K g.U Z H' ds J) Z H1 (match items d with | some l => Out.ok (enumD 0 l) u1 | none => Out.bad) R := post1
        rw [q] at post1
        exact ⟨x, d, l, rfl, q, hx, fun J hl hw => post1 J H1 .refl n1 ⟨hl, hw⟩⟩
  · obtain ⟨x, d, l, rfl, i1, hx, q⟩ := q1
    obtain ⟨u1, rfl, rx⟩ := vals1 r1
    obtain ⟨c, a, xs, rfl, hs1, ra⟩ := items_sq i1 hx
    cases rx
    obtain ⟨is1, rv1, p1, la, z1⟩ := (hs1 H1 Fz.refl).rd I1
    refine call_en (begins_K is1) p1 fun h' he o1 hk => wpAny_pyIter_enum he ?_
    have I2 : L2.Inv X pins σ H1 { s1 with heap := h' } := I1.kept (t' := s1.toks) hk
    refine ⟨_, _, _, _, H1, rfl, I2, turn_N (a := a) (c := c) (Nat.succ_ne_self _) (Nat.ne_of_gt (Nat.lt_succ_of_lt la)) (Nat.ne_of_lt la), ⟨⟨.none, he⟩, itOb_st o1⟩, fun q hq => ?_, q _ ?_ (wk_enum hs1 ra)⟩
    · have hle : s1.heap.objs.size ≤ q := by
        simp only [List.mem_cons, List.not_mem_nil, or_false] at hq
        rcases hq with e | e <;> (subst e; first | exact Nat.le_refl _ | exact Nat.le_add_right _ _)
      exact I1.fpOk hle (I1.hok.fresh hle)
    · have h1 := ra.len
      have h2 : (sizeLine : Nat) = LN := by rw [sizeLine_eq]; rfl
      rw [enumD_len]
      omega
end
end Dn
namespace Dn
open PySem PySem.Spec PyProof.Rows L2

/-! ### new lists -/
def RFr (K : PySem.W.Frag) (g : G) (H0 : Hp) : AZ → Hp → D → V → Prop := fun Z H d v => ∃ l xs a, d = .lst l ∧ v = .ref a ∧ H0 a = none ∧ ¬ Z a ∧ H a = some (.lst xs) ∧ Reps K (fun b => Z b ∨ b = a) g.U H l xs
def tF (K : PySem.W.Frag) (g : G) (m : ME) : TE := fun σ H Q => ∃ ρ u Z, Bs Z g.U H u ∧ RelE K Z g.U σ H ρ ∧ PostE g (RFr K g H) Z H (m ρ u) Q
structure FD (g : G) (X : Cx) (e : Expr) (m : ME) : Prop where
  pe : PE X e (tF X.K g m)
def G.no (g : G) : G := { g with W := fun _ _ _ => False }
section
variable {g : G} {X : Cx} {e : Expr} {m : ME}
theorem PostE.rel {α β : Type} {R S : AZ → Hp → α → β → Prop} {Z : AZ} {H : Hp} {o : Out α} {Q : β → Hp → Prop} (h : PostE g R Z H o Q) (k : ∀ H' d v, S Z H' d v → R Z H' d v) : PostE g S Z H o Q := by
  cases o with
  | ok d u => exact fun v H' e' u' r => h v H' e' u' (k H' d v r)
  | er x u => exact h
  | bad => exact h
theorem FD.ed (h : FD g X e m) : ED g X e m := by
  refine ⟨PE.imp h.pe fun σ H Q h => ?_⟩
  obtain ⟨ρ, u, Z, bs, rel, post⟩ := h
  refine ⟨ρ, u, Z, bs, rel, post.rel fun H' d v r => ?_⟩
  obtain ⟨l, xs, a, rfl, rfl, h0, hz, ha, ra⟩ := r
  exact rep_lst.mpr ⟨a, xs, rfl, ⟨hz, ha⟩, ra.sub fun b z => .inl z⟩
theorem Ext.none {U : Option Addr} {H H1 : Hp} {p : Addr} {u u1 : Urn} (e : Ext U H H1) (n : UrnAt U H u) (n1 : UrnAt U H1 u1) (h : H1 p = none) : H p = none := by
  cases q : H p with
  | none => rfl
  | some o =>
    by_cases hu : U = some p
    · rw [n1 p hu] at h; cases h
    · rw [e p o hu q] at h; cases h
theorem fr_new {K : PySem.W.Frag} {Z : AZ} {H H1 : Hp} {p : Addr} {l : List D} {xs : List V} {u u1 : Urn} (bs : Bs Z g.U H u) (e : Ext g.U H H1) (bs1 : Bs Z g.U H1 u1) (hp : H1 p = none) (r : Reps K Z g.U H1 l xs) : RFr K g H Z (upd H1 p (.lst xs)) (.lst l) (.ref p) := by
  refine ⟨l, xs, p, rfl, rfl, e.none bs.urn bs1.urn hp, fun z => ?_, upd_same, (r.grow (Z' := fun b => Z b ∨ b = p) fun b z => z.imp id fun e => by rw [e]; exact hp).mono fun b o n q => by rw [upd_ne fun e => n (.inr e)]; exact q⟩
  obtain ⟨o, q⟩ := bs1.za p z
  rw [hp] at q; cases q
theorem fd_lst {es : List Expr} {m : MEs} {pos : Pos} (h : AD g X es m) (hl : es.length ≤ 1000 := by decide) : FD g X (.List es pos) (mLst m) := by
  refine ⟨PE.imp (pe_lst h.pa) fun σ H Q q => ?_⟩
  obtain ⟨ρ, u, Z, bs, rel, post⟩ := q
  refine ⟨ρ, u, Z, bs, rel, post.bindq fun ds u1 vs H1 eo e1 n1 r1 post1 => ?_⟩
  have bs1 := bs.ext e1 n1
  refine ⟨Nat.le_of_lt (small1000 (by rw [r1.len, h.len _ _ _ _ eo]; exact hl)), fun p hp => ?_⟩
  have post1 := post
  rw [show mLst m ρ u = (m ρ u).bind fun xs u => .ok (.lst xs) u from rfl, eo] at post1
  exact post1 (.ref p) _ (e1.trans (Ext.new hp)) (n1.ext hp) (fr_new bs e1 bs1 hp r1)
/-- a built-in that gives a new list -/
theorem fd_list {es : List Expr} {ms : MEs} {x : Str} {p pos : Pos} (hg : Gl X x) (hm : X.mg x = none) (hv : bootBuiltins x = some (.type "list")) (ha : AD g X (e :: es) ms) (hn : x ≠ "__name__" := by decide +kernel) (hdb : (x == ("__debug__" : Str)) = false := by decide +kernel)
    (he : starEach (e :: es) X.env = (false, eval e X.env) :: starEach es X.env := by rfl) (hpl : (backTo pos (starEach es X.env)).any (·.1) = false := by rfl) : FD g X (.Call (.Name x p) (e :: es) [] pos) (mB fList ms) := by
  refine ⟨PE.imp (pe_callTy call_list_of hg hm hv ha.pa hn hdb he hpl) fun σ H Q h => ?_⟩
  obtain ⟨ρ, u, Z, bs, rel, post⟩ := h
  refine ⟨ρ, u, Z, bs, rel, post.bindq fun ds u1 vs H1 eo e1 n1 r1 post1 => ?_⟩
  have bs1 := bs.ext e1 n1
  have post2 := post
  rw [show mB fList ms ρ u = (ms ρ u).bind fun xs u => lift (fList xs) u from rfl, eo] at post2
  have post2 : PostE g (RFr X.K g H) Z H (lift (fList ds) u1) Q := post2
  unfold fList at post2
  split at post2
  · rename_i l
    obtain ⟨y, rfl, h1⟩ := reps1 r1
    obtain ⟨a, ys, rfl, qa, ra⟩ := rep_tup.mp h1
    exact ⟨a, ys, rfl, .inr (sqT_of qa), fun q hq => post2 _ _ (e1.trans (Ext.new hq)) (n1.ext hq) (fr_new bs e1 bs1 hq ra)⟩
  · rename_i l
    obtain ⟨y, rfl, h1⟩ := reps1 r1
    obtain ⟨a, ys, rfl, qa, ra⟩ := rep_lst.mp h1
    exact ⟨a, ys, rfl, .inl (sqL_of qa), fun q hq => post2 _ _ (e1.trans (Ext.new hq)) (n1.ext hq) (fr_new bs e1 bs1 hq ra)⟩
  · exact post2.elim
/-- a list times a number -/
theorem fd_mul {a b : Expr} {ma mb : ME} {pos : Pos} (ha : ED g X a ma) (hb : ED g X b mb) : FD g X (.BinOp a .Mult b pos) (mBin opMulL ma mb) := by
  refine ⟨PE.imp (pe_op (r := rRep) op_rep ha.pe hb.pe) fun σ H Q h => ?_⟩
  obtain ⟨ρ, u, Z, bs, rel, post⟩ := h
  refine ⟨ρ, u, Z, bs, rel, post.bind fun d u1 v H1 e1 n1 r1 post1 => ?_⟩
  have bs1 := bs.ext e1 n1
  refine ⟨ρ, u1, Z, bs1, rel.ext bs e1, PostE.bind (R := RD X.K g) post1 fun d2 u2 v2 H2 e2 n2 r2 post2 => ?_⟩
  have bs2 := bs1.ext e2 n2
  cases d with
  | lst l =>
    cases d2 with
    | int k =>
      have post2 : PostE g (RFr X.K g H) Z H2 (lift (if -(2 ^ 63) ≤ k ∧ k < 2 ^ 63 ∧ l.length * k.toNat ≤ LN then some (D.lst (List.replicate k.toNat l).flatten) else none) u2) Q := post2
      split at post2
      · rename_i hk
        obtain ⟨p, xs, rfl, ⟨_, qa⟩, ra⟩ := rep_lst.mp (e2.rep bs1 r1)
        exact ⟨p, k, xs, rfl, rep_int.mp r2, qa, hk.1, hk.2.1, by rw [ra.len]; exact hk.2.2, fun q hq => post2 _ _ (Ext.new hq) (n2.ext hq) (fr_new bs (e1.trans e2) bs2 hq (ra.rep _))⟩
      · exact post2.elim
    | _ => exact post2.elim
  | _ => exact post2.elim

/-! ### a comprehension's target, its tests -/
/-- what a target does in a block whose own slots are vs -/
def tG (K : PySem.W.Frag) (g : G) (vs : List Nat) (m : TG) : L2.TG := fun v σ H Q => ∃ ρ u Z d ρ1, Bs Z g.U H u ∧ RelE K Z g.U σ H ρ ∧ Rep K Z g.U H d v ∧ m d ρ = some ρ1 ∧
  ∀ σ', RelE K Z g.U σ' H ρ1 → wipe σ' vs = wipe σ vs → Q σ' H
structure GD (g : G) (X : Cx) (vs : List Nat) (tg : Expr) (m : TG) : Prop where
  pg : PG X tg (tG X.K g vs m)
def tGs (K : PySem.W.Frag) (g : G) (vs : List Nat) (m : TGs) : L2.TGs := fun xs σ H Q => ∃ ρ u Z ds ρ1, Bs Z g.U H u ∧ RelE K Z g.U σ H ρ ∧ Reps K Z g.U H ds xs ∧ m ds ρ = some ρ1 ∧
  ∀ σ', RelE K Z g.U σ' H ρ1 → wipe σ' vs = wipe σ vs → Q σ' H
structure GsD (g : G) (X : Cx) (vs : List Nat) (ts : List Expr) (m : TGs) : Prop where
  pg : PGs X ts (tGs X.K g vs m)
  len : ∀ ds ρ ρ1, m ds ρ = some ρ1 → ds.length = ts.length
theorem wipe_get {σ : L2.St} {i : Nat} : ∀ {vs : List Nat}, (wipe σ vs)[i]? = if i ∈ vs ∧ i < σ.length then some none else σ[i]?
  | [] => by simp [wipe]
  | v :: vs => by
    unfold wipe
    have hl := wipe_length σ vs
    rw [List.getElem?_set, wipe_get, hl]
    by_cases h : v = i
    · subst h
      by_cases h2 : v < σ.length
      · simp [h2]
      · simp [h2]
    · have h' : i ≠ v := fun e => h e.symm
      simp [h, h']
theorem wipe_set {σ : L2.St} {i : Nat} {vs : List Nat} {x : Option V} (h : i ∈ vs) : wipe (σ.set i x) vs = wipe σ vs := by
  apply List.ext_getElem?
  intro j
  rw [wipe_get, wipe_get, List.length_set, List.getElem?_set]
  by_cases e : i = j
  · subst e
    by_cases hl : i < σ.length
    · simp [h, hl]
    · simp [hl]
  · simp [e]
theorem get_set {ρ : Env} {i j : Nat} {x : Option D} {d : D} (h : get (ρ.set i x) j = some d) : (j = i ∧ i < ρ.length ∧ x = some d) ∨ (j ≠ i ∧ get ρ j = some d) := by
  unfold get at h ⊢
  rw [List.getElem?_set] at h
  by_cases e : i = j
  · subst e
    left
    by_cases hl : i < ρ.length
    · simp [hl] at h
      refine ⟨rfl, hl, ?_⟩
      cases x with
      | none => cases h
      | some y => exact h
    · simp [hl] at h
  · right
    rw [if_neg e] at h
    exact ⟨fun q => e q.symm, h⟩
theorem RelE.set {K : PySem.W.Frag} {Z : AZ} {U : Option Addr} {σ : L2.St} {H : Hp} {ρ : Env} {i : Nat} {d : D} {v : V} (r : RelE K Z U σ H ρ) (h : Rep K Z U H d v) : RelE K Z U (σ.set i (some v)) H (ρ.set i (some d)) := by
  refine ⟨by rw [List.length_set, List.length_set]; exact r.1, fun j e q => ?_⟩
  rcases get_set q with ⟨rfl, hl, q⟩ | ⟨n, q⟩
  · cases q
    exact ⟨v, List.getElem?_set_self (by rw [← r.1]; exact hl), h⟩
  · obtain ⟨w, e1, r1⟩ := r.2 j e q
    exact ⟨w, by rw [List.getElem?_set_ne (Ne.symm n)]; exact e1, r1⟩
theorem PG.imp {X : Cx} {e : Expr} {t t' : L2.TG} (h : PG X e t) (i : ∀ v σ H Q, t' v σ H Q → t v σ H Q) : PG X e t' := ⟨fun pins s σ H v u Q I r q => h.run pins s σ H v u Q I r (i v σ H Q q)⟩
theorem PGs.imp {X : Cx} {e : List Expr} {t t' : L2.TGs} (h : PGs X e t) (i : ∀ v σ H Q, t' v σ H Q → t v σ H Q) : PGs X e t' := ⟨fun pins s σ H v u Q I r q => h.run pins s σ H v u Q I r (i v σ H Q q)⟩
theorem gd_name {vs : List Nat} {x : Str} {pos : Pos} (i : Nat) (hN : X.N.Nodup) (hi : X.N[i]? = some x) (hx : Loc X.env.scope x) (hv : i ∈ vs := by decide) (hf : X.fn x = true ∨ X.env.scope.names.lookup x = some .local := by first | exact .inl rfl | exact .inr rfl | assumption) : GD g X vs (.Name x pos) (Dn.gName i) := by
  refine ⟨PG.imp (pg_name hN hi hx hf) fun v σ H Q h => ?_⟩
  obtain ⟨ρ, u, Z, d, ρ1, bs, rel, r, e, q⟩ := h
  cases e
  exact q _ (rel.set r) (wipe_set hv)
theorem gsd_nil {vs : List Nat} : GsD g X vs [] gsNil := by
  refine ⟨PGs.imp pgs_nil fun v σ H Q h => ?_, fun ds ρ ρ1 h => by cases ds with | nil => rfl | cons _ _ => cases h⟩
  obtain ⟨ρ, u, Z, d, ρ1, bs, rel, r, e, q⟩ := h
  cases d with
  | nil =>
    cases e
    rw [Reps] at r
    exact ⟨r, q σ rel rfl⟩
  | cons _ _ => cases e
theorem gsd_cons {vs : List Nat} {e : Expr} {es : List Expr} {m : TG} {ms : TGs} (h1 : GD g X vs e m) (h2 : GsD g X vs es ms)
    (hs : (assignEach (e :: es) X.env).map (·.2) = assign e X.env :: (assignEach es X.env).map (·.2) := by rfl) : GsD g X vs (e :: es) (gsCons m ms) := by
  refine ⟨PGs.imp (pgs_cons h1.pg h2.pg hs) fun v σ H Q h => ?_, fun ds ρ ρ1 h => ?_⟩
  case refine_2 =>
    cases ds with
    | nil => cases h
    | cons d ds =>
      have h : (m d ρ).bind (fun ρ => ms ds ρ) = some ρ1 := h
      cases q : m d ρ with
      | none => rw [q] at h; cases h
      | some r1 =>
        rw [q] at h
        rw [List.length_cons, List.length_cons, h2.len _ _ _ h]
  obtain ⟨ρ, u, Z, ds, ρ1, bs, rel, r, e, q⟩ := h
  cases ds with
  | nil => cases e
  | cons d ds =>
    rw [Reps] at r
    obtain ⟨x, ys, rfl, ra, rb⟩ := r
    have e : (m d ρ).bind (fun ρ => ms ds ρ) = some ρ1 := e
    cases q1 : m d ρ with
    | none => rw [q1] at e; cases e
    | some ρ2 =>
      rw [q1] at e
      exact ⟨x, ys, rfl, ρ, u, Z, d, ρ2, bs, rel, ra, q1, fun σ' rel' hw => ⟨ρ2, u, Z, ds, ρ1, bs, rel', rb, e, fun σ2 rel2 hw2 => q σ2 rel2 (hw2.trans hw)⟩⟩
theorem gd_tup {vs : List Nat} {es : List Expr} {k : Nat} {ms : TGs} {n : Nat} {pos : Pos} (hc : X.calm = true) (h : GsD g X vs es ms) (hl : es.length = n := by rfl)
    (hn : (assignEach es X.env).length = n := by rfl) (hst : (assignEach es X.env).findIdx? (·.1) = none := by rfl) : GD g X vs (.Tuple es k pos) (Dn.gTup ms) := by
  refine ⟨PG.imp (pg_tup hc h.pg hn hst) fun v σ H Q h => ?_⟩
  obtain ⟨ρ, u, Z, d, ρ1, bs, rel, r, e, q⟩ := h
  cases d with
  | tup l =>
    obtain ⟨a, xs, rfl, qa, ra⟩ := rep_tup.mp r
    exact ⟨a, xs, rfl, sqT_of qa, by rw [ra.len, h.len _ _ _ e]; exact hl, ρ, u, Z, l, ρ1, bs, rel, ra, e, q⟩
  | _ => cases e
structure CD (g : G) (X : Cx) (ifs : List Expr) (m : ME) : Prop where
  pts : PTs X ifs (tT X.K g m)
theorem PTs.imp {X : Cx} {e : List Expr} {t t' : TT} (h : PTs X e t) (i : ∀ σ H Q, t' σ H Q → t σ H Q) : PTs X e t' := ⟨fun pins s σ H Q I q => h.run pins s σ H Q I (i σ H Q q)⟩
theorem cd_nil : CD g X [] mTrue := ⟨PTs.imp pts_nil fun σ H Q h => by
  obtain ⟨ρ, u, Z, bs, rel, post⟩ := h
  exact post true H .refl bs.urn rfl⟩
theorem cd_one {c : Expr} {mc : ME} (h : TD g X c mc) : CD g X [c] mc := ⟨pts_one h.pt⟩
theorem RelE.wipe {K : PySem.W.Frag} {Z : AZ} {U : Option Addr} {σ : L2.St} {H : Hp} {ρ : Env} (r : RelE K Z U σ H ρ) : ∀ vs : List Nat, RelE K Z U (wipe σ vs) H (wipeE ρ vs)
  | [] => r
  | v :: vs => by
    have ih := RelE.wipe r vs
    unfold L2.wipe wipeE
    refine ⟨by rw [List.length_set, List.length_set]; exact ih.1, fun j e q => ?_⟩
    rcases get_set q with ⟨_, _, q⟩ | ⟨n, q⟩
    · cases q
    · obtain ⟨w, e1, r1⟩ := ih.2 j e q
      exact ⟨w, by rw [List.getElem?_set_ne (Ne.symm n)]; exact e1, r1⟩
end
end Dn
namespace Dn
open PySem PySem.Spec PyProof.Rows L2

theorem wipe_idem {σ : L2.St} {vs : List Nat} : wipe (wipe σ vs) vs = wipe σ vs := by
  apply List.ext_getElem?
  intro j
  rw [wipe_get, wipe_get, wipe_length]
  by_cases h : j ∈ vs ∧ j < σ.length
  · rw [if_pos h, if_pos h]
  · rw [if_neg h, if_neg h]
theorem LN_line : (sizeLine : Nat) = LN := by rw [sizeLine_eq]; rfl
section
variable {g : G} {Z : AZ}
/-- within a block: no exception -/
theorem PostE.calmB {α β γ δ ε : Type} {R : AZ → Hp → α → β → Prop} {S : AZ → Hp → ε → δ → Prop} {Z Z' : AZ} {H H' : Hp} {o : Out α} {f : α → Urn → Out γ} {F : γ → Urn → Out ε} {Q : δ → Hp → Prop} {T : β → Hp → Prop}
    (h : PostE g S Z H (((o.bind f).calm).bind F) Q) (k : ∀ d u1 v H1, Ext g.U H' H1 → UrnAt g.U H1 u1 → R Z' H1 d v → PostE g S Z H (((f d u1).calm).bind F) Q → T v H1) : PostE g.no R Z' H' o T := by
  cases o with
  | ok d u => exact fun v H1 e n r => k d u v H1 e n r h
  | er x u => exact h.elim
  | bad => exact h.elim
theorem PostE.calm0 {α β δ ε : Type} {R : AZ → Hp → α → β → Prop} {S : AZ → Hp → ε → δ → Prop} {Z Z' : AZ} {H H' : Hp} {o : Out α} {F : α → Urn → Out ε} {Q : δ → Hp → Prop} {T : β → Hp → Prop}
    (h : PostE g S Z H ((o.calm).bind F) Q) (k : ∀ d u1 v H1, Ext g.U H' H1 → UrnAt g.U H1 u1 → R Z' H1 d v → PostE g S Z H (F d u1) Q → T v H1) : PostE g.no R Z' H' o T := by
  cases o with
  | ok d u => exact fun v H1 e n r => k d u v H1 e n r h
  | er x u => exact h.elim
  | bad => exact h.elim
end
section
variable {g : G} {X : Cx}
theorem RelE.grow {K : PySem.W.Frag} {Z Z' : AZ} {U : Option Addr} {σ : L2.St} {H : Hp} {ρ : Env} (h : ∀ b, Z' b → Z b ∨ H b = none) (r : RelE K Z U σ H ρ) : RelE K Z' U σ H ρ :=
  ⟨r.1, fun i d e => by obtain ⟨v, e1, r1⟩ := r.2 i d e; exact ⟨v, e1, r1.grow h⟩⟩
theorem lc_imp {mi : MEs} {gg : TG} {mc me : ME} {vs : List Nat} {σ : L2.St} {H : Hp} {Q : VK} (h : tF X.K g (mLc mi gg mc me vs) σ H Q) : tLc (tI X.K g mi) (tG X.K g.no vs gg) (tT X.K g.no mc) (tE X.K g.no me) vs σ H Q := by
  obtain ⟨ρ, u, Z, bs, rel, post⟩ := h
  refine ⟨ρ, u, Z, bs, rel, PostE.bind post fun ds u1 J H1 e1 n1 rw1 post1 => ?_⟩
  obtain ⟨hl, wk⟩ := rw1
  have bs1 := bs.ext e1 n1
  have rel1 := (rel.ext bs e1).wipe vs
  intro D hD
  have hDU : g.U ≠ some D := fun e => by rw [n1 D e] at hD; cases hD
  have hZD : ∀ b, (Z b ∨ b = D) → Z b ∨ H1 b = none := fun b z => z.imp id fun e => by rw [e]; exact hD
  have relD : RelE X.K (fun b => Z b ∨ b = D) g.U (wipe σ vs) H1 (wipeE ρ vs) := rel1.grow hZD
  let W : Nat → Nat → Hp → Prop := fun i m Hc => m = ds.length - i ∧ i ≤ ds.length ∧ ∃ acc l u, Hc D = some (.lst acc) ∧ Reps X.K (fun b => Z b ∨ b = D) g.U Hc l acc ∧ l.length ≤ i ∧ Ext g.U H1 Hc ∧ UrnAt g.U Hc u ∧
    PostE g (RFr X.K g H) Z H1 (((lcGo gg mc me (wipeE ρ vs) (ds.drop i) u).calm).bind fun xs u => .ok (.lst (l ++ xs)) u) Q
  refine ⟨W, ⟨ds.length, rfl, Nat.zero_le _, [], [], u1, upd_same, .nil, Nat.le_refl _, Ext.new hD, n1.ext hD, post1⟩, ?_⟩
  rintro i m Hc ⟨rfl, hi, acc, l, u2, hD2, rl, ll, ex, un, po⟩
  have fz : Fz Z H1 Hc := fun b o n q => ex b o (fun z => n (bs1.zu b z)) q
  by_cases hlt : i < ds.length
  · refine .inr ⟨wk.go i Hc fz hlt, W (i + 1) (ds.length - (i + 1)), fun H' w => ⟨_, by omega, w⟩, fun x H' y => ?_⟩
    obtain ⟨k1, k2⟩ := wk.yld i Hc x H' ds[i] fz (List.getElem?_eq_getElem hlt) y
    rw [List.drop_eq_getElem_cons hlt, lcGo] at po
    have bsc : Bs (fun b => Z b ∨ b = D) g.U Hc u2 := ⟨fun a e => .inl (bs1.zu a e), fun a z => by
      rcases z with z | z
      · exact (bs1.ext ex un).za a z
      · rw [z]; exact ⟨_, hD2⟩, un⟩
    have ex' : Ext g.U Hc H' := fun b o _ q => k1 b o q
    have un' : UrnAt g.U H' u2 := fun a e => k1 _ _ (un a e)
    have bs' := bsc.ext ex' un'
    have relc : RelE X.K (fun b => Z b ∨ b = D) g.U (wipe σ vs) H' (wipeE ρ vs) := by
      refine ⟨relD.1, fun j d q => ?_⟩
      obtain ⟨v, q1, q2⟩ := relD.2 j d q
      exact ⟨v, q1, q2.mono fun b o n q => k1 b o (ex b o (fun z => n (.inl (bs1.zu b z))) q)⟩
    have hD' : H' D = some (.lst acc) := k1 _ _ hD2
    have rl' : Reps X.K (fun b => Z b ∨ b = D) g.U H' l acc := rl.mono fun b o n q => k1 b o q
    cases q : gg ds[i] (wipeE ρ vs) with
    | none => rw [q] at po; exact po.elim
    | some ρ1 =>
      rw [q] at po
      refine ⟨wipeE ρ vs, u2, fun b => Z b ∨ b = D, ds[i], ρ1, bs', relc, k2 _ fun b z => ⟨hZD b z, bsc.za b z⟩, q, fun σ2 rel2 hw2 => ⟨hw2.trans wipe_idem, ?_⟩⟩
      refine ⟨ρ1, u2, fun b => Z b ∨ b = D, bs', rel2, PostE.calmB po fun b u3 vb H3 e3 n3 r3 po3 => ?_⟩
      subst r3
      have bs3 := Bs.ext (g := g) bs' e3 n3
      have rl3 : Reps X.K (fun b => Z b ∨ b = D) g.U H3 l acc := Ext.reps (g := g) bs' e3 rl'
      have hD3 : H3 D = some (.lst acc) := e3 D _ hDU hD'
      cases b with
      | false =>
        rw [if_neg Bool.false_ne_true] at po3 ⊢
        exact ⟨rfl, hlt, acc, l, u3, hD3, rl3, by omega, (ex.trans ex').trans e3, n3, po3⟩
      | true =>
        rw [if_pos rfl] at po3 ⊢
        refine ⟨ρ1, u3, fun b => Z b ∨ b = D, bs3, RelE.ext (g := g) bs' e3 rel2, PostE.calmB po3 fun z u4 y4 H4 e4 n4 r4 po4 => ?_⟩
        have hD4 : H4 D = some (.lst acc) := e4 D _ hDU hD3
        have rl4 : Reps X.K (fun b => Z b ∨ b = D) g.U H4 l acc := Ext.reps (g := g) bs3 e4 rl3
        have la := rl4.len
        have upk : ∀ b o, ¬ (Z b ∨ b = D) → H4 b = some o → upd H4 D (.lst (acc ++ [y4])) b = some o := fun b o n q => by rw [upd_ne (fun e => n (.inr e))]; exact q
        refine ⟨acc, hD4, by rw [la, LN_line]; omega, rfl, hlt, acc ++ [y4], l ++ [z], u4, upd_same, (rl4.mono upk).app (.cons (Rep.mono upk r4) .nil), by rw [List.length_append, List.length_singleton]; omega, ?_, ?_, ?_⟩
        · intro b o hb q
          rw [upd_ne (ne_of_none q hD)]
          exact e4 b o hb (e3 b o hb (k1 b o (ex b o hb q)))
        · intro a e
          rw [upd_ne (fun e2 => hDU (by rw [e, e2]))]
          exact n4 a e
        · cases q5 : lcGo gg mc me (wipeE ρ vs) (ds.drop (i + 1)) u4 with
          | ok xs u5 =>
            rw [q5] at po4
            show PostE g (RFr X.K g H) Z H1 (Out.ok (Dn.D.lst ((l ++ [z]) ++ xs)) u5) Q
            rw [List.append_assoc]
            exact po4
          | er x u5 => rw [q5] at po4; exact po4.elim
          | bad => rw [q5] at po4; exact po4.elim
  · have ei : i = ds.length := by omega
    subst ei
    refine .inl ⟨wk.stop Hc fz, ?_⟩
    rw [List.drop_length] at po
    have po : PostE g (RFr X.K g H) Z H1 (Out.ok (Dn.D.lst (l ++ [])) u2) Q := po
    rw [List.append_nil] at po
    have nz : ¬ Z D := fun z => by
      obtain ⟨o, q⟩ := bs1.za D z
      rw [hD] at q
      cases q
    exact po (.ref D) Hc ex un ⟨l, acc, D, rfl, rfl, e1.none bs.urn n1 hD, nz, hD2, rl⟩
theorem fd_lc {elt tg iter : Expr} {ifs : List Expr} {scope : Scope} {own : List (Str × Nat)} {pos : Pos} {mi : MEs} {gg : TG} {mc me : ME} (hc : X.calm = true) (hN : X.N.Nodup) (hi : ID g X tg iter mi) (ok : BlkOk X.N X.env.scope scope own)
    (hg : ∀ (s : Shared) (H : Hp) (C : Addr) (cl : List (Str × Addr)) (fp : List Addr), GD g.no (X.blk s H scope (compEnvC scope cl C X.env) fp) (own.map (·.2)) tg gg)
    (ht : ∀ (s : Shared) (H : Hp) (C : Addr) (cl : List (Str × Addr)) (fp : List Addr), CD g.no (X.blk s H scope (compEnvC scope cl C X.env) fp) ifs mc)
    (he : ∀ (s : Shared) (H : Hp) (C : Addr) (cl : List (Str × Addr)) (fp : List Addr), ED g.no (X.blk s H scope (compEnvC scope cl C X.env) fp) elt me) (hs : ∀ x, foldedSetIterable iter X.env x = pure x := by intro _; rfl) :
    FD g X (.ListComp elt [⟨tg, iter, ifs, 0⟩] scope pos) (mLc mi gg mc me (own.map (·.2))) := by
  exact ⟨PE.imp (pe_lc (g := tG X.K g.no (own.map (·.2)) gg) (tt := tT X.K g.no mc) (te := tE X.K g.no me) hc hN hi.pi ok (fun s H C cl fp => (hg s H C cl fp).pg) (fun s H C cl fp => (ht s H C cl fp).pts) (fun s H C cl fp => (he s H C cl fp).pe) hs) fun σ H Q h => lc_imp h⟩
end
end Dn
namespace Dn
open PySem PySem.Spec PyProof.Rows L2

/-! ### a def's promise -/
def spF (K : PySem.W.Frag) (EA : EAT) (n : Nat) (F : Fn) : Sp := fun vs H Q E => vs.length = n ∧ ∃ ds u Z U, Bs Z U H u ∧ Reps K Z U H ds vs ∧ PostE ⟨U, E, EA⟩ (RD K ⟨U, E, EA⟩) Z H (F ds u) Q
/-- how keyword arguments alone bind: p tells for each parameter which of the written values it is -/
def KB (fd : FuncData) (ps ks : List Str) (p : List Nat) : Prop := ∀ (s : Shared) (ws : List Value), ws.length = ks.length → BindsTo s fd ⟨[], ks.zip ws⟩ (ps.zip (p.filterMap fun i => ws[i]?))
/-- a def that may be called, at most k deep -/
structure Cal (P : Program) (w : World) (K : PySem.W.Frag) (mg : Str → Option Value) (base : Heap) (EA : EAT) (x : Str) (ps : List Str) (k : Nat) (F : Fn) : Prop where
  ex : ∃ f fd, FnOk P w K mg base (L2.CX P w) k f fd ps (spF K EA ps.length F) ∧ mg x = some (.ref f) ∧ PySem.W.keepIn K (.ref f) = true ∧ Binds K fd ps [] ∧ ∃ (qual : Str) (st : Stmt), Fun K x qual st f fd
theorem Cal.mono {P : Program} {w : World} {K : PySem.W.Frag} {mg : Str → Option Value} {base : Heap} {EA : EAT} {x : Str} {ps : List Str} {j k : Nat} {F : Fn} (c : Cal P w K mg base EA x ps j F) (h : j ≤ k) : Cal P w K mg base EA x ps k F := by
  obtain ⟨f, fd, a, b⟩ := c.ex
  exact ⟨f, fd, a.mono h, b⟩
section
variable {g : G} {X : Cx} {e : Expr} {es : List Expr} {ms : MEs} {x : Str} {p pos : Pos} {ps : List Str} {k : Nat} {F : Fn}
theorem ed_call (c : Cal X.prog X.w X.K X.mg X.base g.EA x ps k F) (hr : Room k X.A) (hx : Passes (L2.CX X.prog X.w) X g.W) (hg : Gl X x) (ha : AD g X (e :: es) ms) (hn : (e :: es).length = ps.length := by rfl)
    (hdb : (x == ("__debug__" : Str)) = false := by decide +kernel) (he : starEach (e :: es) X.env = (false, eval e X.env) :: starEach es X.env := by rfl) (hpl : (backTo pos (starEach es X.env)).any (·.1) = false := by rfl) :
    ED g X (.Call (.Name x p) (e :: es) [] pos) (mCall F ms) := by
  obtain ⟨f, fd, a, b, kp, bi, _⟩ := c.ex
  refine ⟨PE.imp (pe_call a hr hg b kp bi .nil hx ha.pa hdb he hpl) fun σ H Q h => ?_⟩
  obtain ⟨ρ, u, Z, bs, rel, post⟩ := h
  refine ⟨ρ, u, Z, bs, rel, post.bindq fun ds u1 vs H1 eo e1 n1 r1 post1 => ?_⟩
  rw [List.append_nil]
  exact ⟨by rw [r1.len, ha.len _ _ _ _ eo]; exact hn, ds, u1, Z, g.U, bs.ext e1 n1, r1, post1⟩
theorem Reps.pick {K : PySem.W.Frag} {Z : AZ} {U : Option Addr} {H : Hp} {l : List D} {xs : List V} (r : Reps K Z U H l xs) : ∀ p : List Nat, Reps K Z U H (Dn.pick p l) (p.filterMap fun i => xs[i]?)
  | [] => .nil
  | i :: p => by
    unfold Dn.pick
    rw [List.filterMap_cons, List.filterMap_cons]
    cases q : l[i]? with
    | none =>
      have : xs[i]? = none := by
        have hl := r.len
        rw [List.getElem?_eq_none_iff] at q ⊢
        omega
      rw [this]
      exact r.pick p
    | some d =>
      obtain ⟨v, e1, r1⟩ := r.get q
      rw [e1]
      exact .cons r1 (r.pick p)
theorem vals_pick {vs : List V} {us : List Value} (r : Vals vs us) : ∀ p : List Nat, Vals (p.filterMap fun i => vs[i]?) (p.filterMap fun i => us[i]?)
  | [] => .nil
  | i :: p => by
    rw [List.filterMap_cons, List.filterMap_cons]
    cases q : vs[i]? with
    | none =>
      rw [Vals.none_of r q]
      exact vals_pick r p
    | some v =>
      obtain ⟨u, e1, r1⟩ := r.get q
      rw [e1]
      exact .cons r1 (vals_pick r p)
/-- keywords' values -/
structure KD (g : G) (X : Cx) (ks : List Keyword) (m : MEs) : Prop where
  pk : PK X ks (tEs X.K g m)
  len : ∀ ρ u ds u1, m ρ u = .ok ds u1 → ds.length = ks.length
theorem PK.imp {X : Cx} {e : List Keyword} {t t' : TA} (h : PK X e t) (i : ∀ σ H Q, t' σ H Q → t σ H Q) : PK X e t' := ⟨fun pos pins s σ H Q I q => h.run pos pins s σ H Q I (i σ H Q q)⟩
theorem kd_nil : KD g X [] mNil := ⟨PK.imp pk_nil fun σ H Q h => by
  obtain ⟨ρ, u, Z, bs, rel, post⟩ := h
  exact post [] H .refl bs.urn .nil, fun ρ u ds u1 h => by cases h; rfl⟩
theorem mCons_len {m : ME} {ms : MEs} {ρ : Env} {u u1 : Urn} {ds : List D} {n : Nat} (h : mCons m ms ρ u = .ok ds u1) (k : ∀ ρ u ds u1, ms ρ u = .ok ds u1 → ds.length = n) : ds.length = n + 1 := by
  unfold mCons at h
  cases q : m ρ u with
  | ok d u2 =>
    rw [q] at h
    have h' : ((ms ρ u2).bind fun xs u => Out.ok (d :: xs) u) = .ok ds u1 := h
    cases q2 : ms ρ u2 with
    | ok d2 u3 =>
      rw [q2] at h'
      cases h'
      rw [List.length_cons, k _ _ _ _ q2]
    | er x u3 => rw [q2] at h'; cases h'
    | bad => rw [q2] at h'; cases h'
  | er x u2 => rw [q] at h; cases h
  | bad => rw [q] at h; cases h
theorem kd_cons {nm : Option Str} {kp : Pos} {kws : List Keyword} {m : ME} (ha : ED g X e m) (hr : KD g X kws ms) : KD g X (⟨nm, e, kp⟩ :: kws) (mCons m ms) := by
  refine ⟨PK.imp (pk_cons ha.pe hr.pk) fun σ H Q h => ?_, fun ρ u ds u1 h => mCons_len h hr.len⟩
  obtain ⟨ρ, u, Z, bs, rel, post⟩ := h
  refine ⟨ρ, u, Z, bs, rel, post.bind fun d u1 v H1 e1 n1 r1 post1 => ?_⟩
  have bs1 := bs.ext e1 n1
  refine ⟨ρ, u1, Z, bs1, rel.ext bs e1, post1.bind fun ds u2 vs H2 e2 n2 r2 post2 => ?_⟩
  exact post2 (v :: vs) H2 .refl n2 (.cons (e2.rep bs1 r1) r2)
/-- f(k = v, ..) -/
theorem ed_callK {kws : List Keyword} {ks : List Str} {q : List Nat} (c : Cal X.prog X.w X.K X.mg X.base g.EA x ps k F) (hb : ∀ (qual : Str) (st : Stmt) (f : Addr) (fd : FuncData), Fun X.K x qual st f fd → X.mg x = some (.ref f) → KB fd ps ks q) (hr : Room k X.A) (hx : Passes (L2.CX X.prog X.w) X g.W) (hg : Gl X x) (ha : KD g X kws ms)
    (hql : ∀ (ds : List D), ds.length = kws.length → (pick q ds).length = ps.length) (hkl : ks.length = kws.length := by rfl)
    (hall : (backToKw pos (keywordEach kws X.env)).all (·.1.isSome) = true := by rfl) (hks : (backToKw pos (keywordEach kws X.env)).filterMap (·.1) = ks := by rfl) (hdb : (x == ("__debug__" : Str)) = false := by decide +kernel)
    (hpl : ((backTo pos (starEach [] X.env)).any (·.1) || (backToKw pos (keywordEach kws X.env)).any (·.1.isNone)) = false := by rfl) : ED g X (.Call (.Name x p) [] kws pos) (mCallK F q ms) := by
  obtain ⟨f, fd, a, b, kp, _, qual, st, fn⟩ := c.ex
  have kb := hb qual st f fd fn b
  refine ⟨⟨fun pins s σ H Q I h => ?_⟩⟩
  obtain ⟨ρ, u, Z, bs, rel, post⟩ := h
  refine wpAny_Call_Name_kw (ld_glob I hg b ?_ hdb)
  refine PySem.W.callWith_KW0 (h₀ := X.base) I.ok.mod.kin kp hall (thn (ha.pk.run pos pins s σ H (fun vs H1 => vs.length = kws.length ∧ spF X.K g.EA ps.length F (q.filterMap fun i => vs[i]?) H1 Q g.W) I ⟨ρ, u, Z, bs, rel, post.bindq fun ds u1 vs H1 eo e1 n1 r1 post1 => ?_⟩) fun ws s2 ⟨zs, H2, I2, rz, lz, q2⟩ => ⟨I2.kIn, ?_⟩) hpl
  · have hl := ha.len _ _ _ _ eo
    refine ⟨by rw [r1.len]; exact hl, by rw [(r1.pick q).len]; exact hql ds hl, pick q ds, u1, Z, g.U, bs.ext e1 n1, r1.pick q, post1⟩
  · rw [hks]
    have rp := vals_pick rz q
    have hw : ws.length = ks.length := by rw [← rz.length, lz, hkl]
    refine wpAny_call (codeAny_mono (a.run X.A X.stack s2 H2 ⟨[], ks.zip ws⟩ (q.filterMap fun i => ws[i]?) (q.filterMap fun i => zs[i]?) Q g.W hr I2.env0 (kb s2 ws hw) rp q2) fun r s' hq => ?_)
    cases r with
    | error ee => exact hx pins σ H2 s2 ee s' I2 hq
    | ok fl =>
      cases fl with
      | ret uu => exact I2.after hq
      | _ => exact False.elim hq
end
end Dn
namespace Dn
open PySem PySem.Spec PyProof.Rows L2

/-! ### a def's run: what is fixed -/
structure Act where
  g : G
  Zc : AZ
  ea : ∀ (Z Z' : AZ) (x : Er) (C : Value) (dx : Option Addr) (H : Hp), (∀ b, Z' b → Z b) → g.EA Z g.U x C dx H → g.EA Z' g.U x C dx H
abbrev Own := Addr → Option Nat
def Zo (A : Act) (o : Own) : AZ := fun b => A.Zc b ∨ ∃ i, o b = some i
def SlotOk (K : PySem.W.Frag) (A : Act) (o : Own) (H : Hp) (i : Nat) (x : Option V) : Slot → Prop
  | .no => True
  | .val d => ∃ v, x = some v ∧ Rep K (Zo A o) A.g.U H d v
  | .own l => ∃ (a : Addr) (xs : List V), x = some (.ref a) ∧ o a = some i ∧ H a = some (.lst xs) ∧ Reps K (Zo A o) A.g.U H l xs
  | .own2 ll => ∃ (a : Addr) (as : List Addr), x = some (.ref a) ∧ o a = some i ∧ H a = some (.lst (as.map V.ref)) ∧ as.length = ll.length ∧ as.Nodup ∧ a ∉ as ∧
      ∀ (j : Nat) (b : Addr) (l : List D), as[j]? = some b → ll[j]? = some l → o b = some i ∧ ∃ xs, H b = some (.lst xs) ∧ Reps K (Zo A o) A.g.U H l xs
structure RelS (K : PySem.W.Frag) (A : Act) (H0 : Hp) (o : Own) (σ : L2.St) (H : Hp) (Γ : SEnv) : Prop where
  zu : ∀ a, A.g.U = some a → A.Zc a
  hz : ∀ a, A.Zc a → ∃ u, H0 a = some u
  len : Γ.length = σ.length
  oz : ∀ a i, o a = some i → ¬ A.Zc a ∧ H0 a = none ∧ ∃ xs, H a = some (.lst xs)
  ext : Ext A.g.U H0 H
  uz : ∀ a, A.g.U = some a → ∃ u, H a = some u
  slots : ∀ (i : Nat) (s : Slot), Γ[i]? = some s → ∃ x, σ[i]? = some x ∧ SlotOk K A o H i x s
section
variable {K : PySem.W.Frag} {A : Act} {H0 H H1 : Hp} {o o' : Own} {σ : L2.St} {Γ : SEnv} {u u1 : Urn}
theorem RelS.noU (r : RelS K A H0 o σ H Γ) {a : Addr} {i : Nat} (h : o a = some i) : A.g.U ≠ some a := fun e => (r.oz a i h).1 (r.zu a e)
theorem RelS.bsc (r : RelS K A H0 o σ H Γ) (n : UrnAt A.g.U H u) : Bs A.Zc A.g.U H u := ⟨r.zu, fun a z => by
  by_cases e : A.g.U = some a
  · exact r.uz a e
  · obtain ⟨v, hv⟩ := r.hz a z
    exact ⟨v, r.ext a v e hv⟩, n⟩
theorem RelS.bso (r : RelS K A H0 o σ H Γ) (n : UrnAt A.g.U H u) : Bs (Zo A o) A.g.U H u := ⟨fun a e => .inl (r.zu a e), fun a z => by
  rcases z with z | ⟨i, z⟩
  · exact (r.bsc n).za a z
  · obtain ⟨_, _, xs, e⟩ := r.oz a i z
    exact ⟨_, e⟩, n⟩
theorem SlotOk.ext (e : Ext A.g.U H H1) (hu : ∀ a i, o a = some i → A.g.U ≠ some a) (zu : ∀ a, A.g.U = some a → A.Zc a) {i : Nat} {x : Option V} {s : Slot} (h : SlotOk K A o H i x s) : SlotOk K A o H1 i x s := by
  have mv : ∀ b u, ¬ Zo A o b → H b = some u → H1 b = some u := fun b u n q => e b u (fun z => n (.inl (zu b z))) q
  cases s with
  | no => exact True.intro
  | val d =>
    obtain ⟨v, e1, r⟩ := h
    exact ⟨v, e1, r.mono mv⟩
  | own l =>
    obtain ⟨a, xs, e1, e2, e3, r⟩ := h
    exact ⟨a, xs, e1, e2, e a _ (hu a i e2) e3, r.mono mv⟩
  | own2 ll =>
    obtain ⟨a, as, e1, e2, e3, e4, e5, e6, r⟩ := h
    refine ⟨a, as, e1, e2, e a _ (hu a i e2) e3, e4, e5, e6, fun j b l q1 q2 => ?_⟩
    obtain ⟨e7, xs, e8, r⟩ := r j b l q1 q2
    exact ⟨e7, xs, e b _ (hu b i e7) e8, r.mono mv⟩
theorem RelS.to (r : RelS K A H0 o σ H Γ) (e : Ext A.g.U H H1) (n1 : UrnAt A.g.U H1 u1) : RelS K A H0 o σ H1 Γ :=
  ⟨r.zu, r.hz, r.len, fun a i h => by
    obtain ⟨h1, h2, xs, h3⟩ := r.oz a i h
    exact ⟨h1, h2, xs, e a _ (r.noU h) h3⟩, r.ext.trans e, fun a q => ⟨_, n1 a q⟩, fun i s h => by
    obtain ⟨x, e1, q⟩ := r.slots i s h
    exact ⟨x, e1, q.ext e (fun a i h => r.noU h) r.zu⟩⟩
theorem get_map {f : Slot → Option D} {Γ : SEnv} {i : Nat} {d : D} (h : get (Γ.map f) i = some d) : ∃ s, Γ[i]? = some s ∧ f s = some d := by
  unfold get at h
  rw [List.getElem?_map] at h
  cases q : Γ[i]? with
  | none => rw [q] at h; cases h
  | some s =>
    rw [q] at h
    refine ⟨s, rfl, ?_⟩
    cases q2 : f s with
    | none => rw [Option.map_some, q2] at h; cases h
    | some e => rw [Option.map_some, q2] at h; exact h
theorem RelS.hide (r : RelS K A H0 o σ H Γ) : RelE K (Zo A o) A.g.U σ H (hideE Γ) := by
  refine ⟨by unfold hideE; rw [List.length_map]; exact r.len, fun i d h => ?_⟩
  obtain ⟨s, e1, e2⟩ := get_map h
  obtain ⟨x, e3, q⟩ := r.slots i s e1
  cases s with
  | val d' =>
    cases e2
    obtain ⟨v, rfl, q⟩ := q
    exact ⟨v, e3, q⟩
  | _ => cases e2
theorem RelS.snap (r : RelS K A H0 o σ H Γ) : RelE K A.Zc A.g.U σ H (snapE Γ) := by
  refine ⟨by unfold snapE; rw [List.length_map]; exact r.len, fun i d h => ?_⟩
  obtain ⟨s, e1, e2⟩ := get_map h
  obtain ⟨x, e3, q⟩ := r.slots i s e1
  have sb : ∀ b, A.Zc b → Zo A o b := fun b z => .inl z
  cases s with
  | no => cases e2
  | val d' =>
    cases e2
    obtain ⟨v, rfl, q⟩ := q
    exact ⟨v, e3, q.sub sb⟩
  | own l =>
    cases e2
    obtain ⟨a, xs, rfl, q1, q2, q3⟩ := q
    exact ⟨.ref a, e3, rep_lst.mpr ⟨a, xs, rfl, ⟨(r.oz a i q1).1, q2⟩, q3.sub sb⟩⟩
  | own2 ll =>
    cases e2
    obtain ⟨a, as, rfl, q1, q2, q3, q4, q6, q5⟩ := q
    refine ⟨.ref a, e3, rep_lst.mpr ⟨a, as.map V.ref, rfl, ⟨(r.oz a i q1).1, q2⟩, .of_at ?_ fun j d x h1 h2 => ?_⟩⟩
    · rw [List.length_map, List.length_map, q3]
    · rw [List.getElem?_map] at h1 h2
      cases z1 : ll[j]? with
      | none => rw [z1] at h1; cases h1
      | some l =>
        cases z2 : as[j]? with
        | none => rw [z2] at h2; cases h2
        | some b =>
          rw [z1] at h1
          rw [z2] at h2
          cases h1
          cases h2
          obtain ⟨h3, xs, h4, h5⟩ := q5 j b l z2 z1
          exact rep_lst.mpr ⟨b, xs, rfl, ⟨(r.oz b i h3).1, h4⟩, h5.sub sb⟩
/-- a slot is written -/
theorem RelS.make2 (r : RelS K A H0 o σ H Γ) (i : Nat) (s : Slot) (x : Option V) (hext : Ext A.g.U H0 H1) (hu : ∀ a, A.g.U = some a → ∃ u, H1 a = some u)
    (tr : ∀ d v, Rep K (Zo A o) A.g.U H d v → Rep K (Zo A o') A.g.U H1 d v) (trs : ∀ d v, Reps K (Zo A o) A.g.U H d v → Reps K (Zo A o') A.g.U H1 d v)
    (keep : ∀ a j xs, j ≠ i → o a = some j → H a = some (.lst xs) → H1 a = some (.lst xs)) (hoj : ∀ a j, j ≠ i → o' a = some j → o a = some j) (hok : ∀ a j, j ≠ i → j < Γ.length → o a = some j → o' a = some j)
    (hoi : ∀ a, o' a = some i → ¬ A.Zc a ∧ H0 a = none ∧ ∃ xs, H1 a = some (.lst xs)) (hs : SlotOk K A o' H1 i x s) : RelS K A H0 o' (σ.set i x) H1 (Γ.set i s) := by
  refine ⟨r.zu, r.hz, by rw [List.length_set, List.length_set]; exact r.len, fun a j h => ?_, hext, hu, fun j t h => ?_⟩
  · by_cases e : j = i
    · subst e; exact hoi a h
    · have h' := hoj a j e h
      obtain ⟨h1, h2, xs, h3⟩ := r.oz a j h'
      exact ⟨h1, h2, xs, keep a j xs e h' h3⟩
  · rw [List.getElem?_set] at h
    by_cases e : i = j
    · subst e
      rw [if_pos rfl] at h
      by_cases hl : i < Γ.length
      · rw [if_pos hl] at h
        cases h
        exact ⟨x, List.getElem?_set_self (by rw [← r.len]; exact hl), hs⟩
      · rw [if_neg hl] at h; cases h
    · rw [if_neg e] at h
      have jl := (List.getElem?_eq_some_iff.mp h).1
      obtain ⟨y, e1, q⟩ := r.slots j t h
      refine ⟨y, by rw [List.getElem?_set_ne e]; exact e1, ?_⟩
      have ne : j ≠ i := fun z => e z.symm
      cases t with
      | no => exact True.intro
      | val d =>
        obtain ⟨v, q1, q2⟩ := q
        exact ⟨v, q1, tr d v q2⟩
      | own l =>
        obtain ⟨a, xs, q1, q2, q3, q4⟩ := q
        exact ⟨a, xs, q1, hok a j ne jl q2, keep a j xs ne q2 q3, trs _ _ q4⟩
      | own2 ll =>
        obtain ⟨a, as, q1, q2, q3, q4, q5, q7, q6⟩ := q
        refine ⟨a, as, q1, hok a j ne jl q2, keep a j _ ne q2 q3, q4, q5, q7, fun k b l z1 z2 => ?_⟩
        obtain ⟨z3, xs, z4, z5⟩ := q6 k b l z1 z2
        exact ⟨hok b j ne jl z3, xs, keep b j xs ne z3 z4, trs _ _ z5⟩
theorem RelS.make (r : RelS K A H0 o σ H Γ) (i : Nat) (s : Slot) (x : Option V) (hext : Ext A.g.U H0 H1) (hu : ∀ a, A.g.U = some a → ∃ u, H1 a = some u)
    (tr : ∀ d v, Rep K (Zo A o) A.g.U H d v → Rep K (Zo A o') A.g.U H1 d v) (trs : ∀ d v, Reps K (Zo A o) A.g.U H d v → Reps K (Zo A o') A.g.U H1 d v)
    (keep : ∀ a j xs, j ≠ i → o a = some j → H a = some (.lst xs) → H1 a = some (.lst xs)) (hoj : ∀ a j, j ≠ i → (o' a = some j ↔ o a = some j))
    (hoi : ∀ a, o' a = some i → ¬ A.Zc a ∧ H0 a = none ∧ ∃ xs, H1 a = some (.lst xs)) (hs : SlotOk K A o' H1 i x s) : RelS K A H0 o' (σ.set i x) H1 (Γ.set i s) :=
  r.make2 i s x hext hu tr trs keep (fun a j h => (hoj a j h).mp) (fun a j h _ => (hoj a j h).mpr) hoi hs
def Own.drop (o : Own) (i : Nat) : Own := fun a => if o a = some i then none else o a
theorem drop_ne {i j : Nat} {a : Addr} (h : j ≠ i) : o.drop i a = some j ↔ o a = some j := by
  unfold Own.drop
  split
  · rename_i e
    rw [e]
    constructor
    · intro z; cases z
    · intro z; cases z; exact absurd rfl h
  · exact Iff.rfl
theorem drop_at {i : Nat} {a : Addr} (h : o.drop i a = some i) : False := by
  unfold Own.drop at h
  split at h
  · cases h
  · rename_i e; exact e h
theorem drop_sub {i : Nat} {b : Addr} (h : Zo A (o.drop i) b) : Zo A o b := by
  rcases h with h | ⟨j, h⟩
  · exact .inl h
  · by_cases e : j = i
    · subst e; exact (drop_at h).elim
    · exact .inr ⟨j, (drop_ne e).mp h⟩
/-- a slot gets standing data -/
theorem RelS.val (r : RelS K A H0 o σ H Γ) (i : Nat) {d : D} {v : V} (h : Rep K (Zo A o) A.g.U H d v) : RelS K A H0 (o.drop i) (σ.set i (some v)) H (Γ.set i (.val d)) :=
  r.make i (.val d) (some v) r.ext r.uz (fun d v q => q.sub fun b => drop_sub) (fun d v q => q.sub fun b => drop_sub) (fun a j xs _ _ q => q) (fun a j h => drop_ne h) (fun a h => (drop_at h).elim)
    ⟨v, rfl, h.sub fun b => drop_sub⟩
theorem set_self {σ : L2.St} {i : Nat} {x : Option V} (h : σ[i]? = some x) : σ.set i x = σ := by
  apply List.ext_getElem?
  intro j
  rw [List.getElem?_set]
  by_cases e : i = j
  · subst e
    have hl := (List.getElem?_eq_some_iff.mp h).1
    rw [if_pos rfl, if_pos hl, h]
  · rw [if_neg e]
/-- a list of one's own is no longer changed -/
theorem RelS.frz (r : RelS K A H0 o σ H Γ) (i : Nat) {s : Slot} (h : Γ[i]? = some s) : RelS K A H0 (match s with | .val _ => o | .no => o | _ => o.drop i) σ H (Γ.set i s.frz) := by
  obtain ⟨x, e, q⟩ := r.slots i s h
  cases s with
  | no =>
    have e2 : Γ.set i Slot.no = Γ := by
      apply List.ext_getElem?
      intro j
      rw [List.getElem?_set]
      by_cases z : i = j
      · subst z
        have hl := (List.getElem?_eq_some_iff.mp h).1
        rw [if_pos rfl, if_pos hl, h]
      · rw [if_neg z]
    show RelS K A H0 o σ H (Γ.set i Slot.no)
    rw [e2]
    exact r
  | val d =>
    have e2 : Γ.set i (Slot.val d) = Γ := by
      apply List.ext_getElem?
      intro j
      rw [List.getElem?_set]
      by_cases z : i = j
      · subst z
        have hl := (List.getElem?_eq_some_iff.mp h).1
        rw [if_pos rfl, if_pos hl, h]
      · rw [if_neg z]
    show RelS K A H0 o σ H (Γ.set i (Slot.val d))
    rw [e2]
    exact r
  | own l =>
    obtain ⟨a, xs, rfl, q1, q2, q3⟩ := q
    have := r.make (o' := o.drop i) (H1 := H) i (.val (.lst l)) (some (.ref a)) r.ext r.uz (fun d v q => q.sub fun b => drop_sub) (fun d v q => q.sub fun b => drop_sub) (fun a j xs _ _ q => q) (fun a j h => drop_ne h) (fun a h => (drop_at h).elim)
      ⟨.ref a, rfl, rep_lst.mpr ⟨a, xs, rfl, ⟨fun z => ?_, q2⟩, q3.sub fun b => drop_sub⟩⟩
    · rw [set_self e] at this
      exact this
    · rcases z with z | ⟨j, z⟩
      · exact (r.oz a i q1).1 z
      · unfold Own.drop at z
        rw [if_pos q1] at z
        cases z
  | own2 ll =>
    obtain ⟨a, as, rfl, q1, q2, q3, q4, q6, q5⟩ := q
    have no : ∀ b, o b = some i → ¬ Zo A (o.drop i) b := fun b hb z => by
      rcases z with z | ⟨j, z⟩
      · exact (r.oz b i hb).1 z
      · unfold Own.drop at z
        rw [if_pos hb] at z
        cases z
    have := r.make (o' := o.drop i) (H1 := H) i (.val (.lst (ll.map D.lst))) (some (.ref a)) r.ext r.uz (fun d v q => q.sub fun b => drop_sub) (fun d v q => q.sub fun b => drop_sub) (fun a j xs _ _ q => q) (fun a j h => drop_ne h) (fun a h => (drop_at h).elim)
      ⟨.ref a, rfl, rep_lst.mpr ⟨a, as.map V.ref, rfl, ⟨no a q1, q2⟩, .of_at (by rw [List.length_map, List.length_map, q3]) fun j d x h1 h2 => ?_⟩⟩
    · rw [set_self e] at this
      exact this
    · rw [List.getElem?_map] at h1 h2
      cases z1 : ll[j]? with
      | none => rw [z1] at h1; cases h1
      | some l =>
        cases z2 : as[j]? with
        | none => rw [z2] at h2; cases h2
        | some b =>
          rw [z1] at h1
          rw [z2] at h2
          cases h1
          cases h2
          obtain ⟨h3, xs, h4, h5⟩ := q5 j b l z2 z1
          exact rep_lst.mpr ⟨b, xs, rfl, ⟨no b h3, h4⟩, h5.sub fun b => drop_sub⟩
/-- a longer memory -/
theorem RelS.wk {H0' : Hp} (r : RelS K A H0' o σ H Γ) (e : Ext A.g.U H0 H0') (hz : ∀ a, A.Zc a → ∃ u, H0 a = some u) : RelS K A H0 o σ H Γ :=
  ⟨r.zu, hz, r.len, fun a i h => by
    obtain ⟨h1, h2, h3⟩ := r.oz a i h
    refine ⟨h1, ?_, h3⟩
    cases q : H0 a with
    | none => rfl
    | some u => exact absurd (e a u (r.noU h) q) (by rw [h2]; exact nofun), e.trans r.ext, r.uz, r.slots⟩
/-- all that is not one's own, remembered -/
def memo (o : Own) (H : Hp) : Hp := fun b => match o b with
  | some _ => none
  | none => H b
theorem RelS.memo (r : RelS K A H0 o σ H Γ) : RelS K A (memo o H) o σ H Γ ∧ Ext A.g.U H0 (Dn.memo o H) := by
  refine ⟨⟨r.zu, fun a z => ?_, r.len, fun a i h => ?_, fun b u _ q => ?_, r.uz, r.slots⟩, fun b u n q => ?_⟩
  · have : o a = none := by
      cases q : o a with
      | none => rfl
      | some i => exact absurd z (r.oz a i q).1
    unfold Dn.memo
    rw [this]
    by_cases e : A.g.U = some a
    · exact r.uz a e
    · obtain ⟨v, hv⟩ := r.hz a z
      exact ⟨v, r.ext a v e hv⟩
  · obtain ⟨h1, h2, h3⟩ := r.oz a i h
    refine ⟨h1, ?_, h3⟩
    unfold Dn.memo
    rw [h]
  · unfold Dn.memo at q
    split at q
    · cases q
    · exact q
  · have : o b = none := by
      cases z : o b with
      | none => rfl
      | some i => rw [(r.oz b i z).2.1] at q; cases q
    unfold Dn.memo
    rw [this]
    exact r.ext b u n q
theorem RelS.noL (r : RelS K A H0 o σ H Γ) {d : D} {v : V} (hd : Dn.noL d = true) (h : Rep K A.Zc A.g.U H d v) : Rep K (Zo A o) A.g.U H d v :=
  Rep.noL (fun b z n => by
    rcases z with z | ⟨i, z⟩
    · exact absurd z n
    · exact (r.oz b i z).2.2) d v hd h
theorem RelS.noLs (r : RelS K A H0 o σ H Γ) {d : List D} {v : List V} (hd : Dn.noLs d = true) (h : Reps K A.Zc A.g.U H d v) : Reps K (Zo A o) A.g.U H d v :=
  Reps.noL (fun b z n => by
    rcases z with z | ⟨i, z⟩
    · exact absurd z n
    · exact (r.oz b i z).2.2) d v hd h
def Own.add (o : Own) (a : Addr) (i : Nat) : Own := fun b => if b = a then some i else o.drop i b
theorem add_at {a : Addr} {i : Nat} : o.add a i a = some i := if_pos rfl
theorem add_ne {a b : Addr} {i j : Nat} (na : o a = none) (h : j ≠ i) : o.add a i b = some j ↔ o b = some j := by
  unfold Own.add
  split
  · rename_i e
    subst e
    rw [na]
    exact ⟨fun z => absurd (Option.some.inj z).symm h, nofun⟩
  · exact drop_ne h
theorem add_i {a b : Addr} {i : Nat} (h : o.add a i b = some i) : b = a := by
  unfold Own.add at h
  split at h
  · assumption
  · exact (drop_at h).elim
theorem add_sub {a b : Addr} {i : Nat} (h : Zo A (o.add a i) b) : Zo A o b ∨ b = a := by
  rcases h with h | ⟨j, h⟩
  · exact .inl (.inl h)
  · unfold Own.add at h
    split at h
    · exact .inr (by assumption)
    · exact .inl (drop_sub (.inr ⟨j, h⟩))
/-- a slot gets a new list of one's own -/
theorem RelS.fresh (r : RelS K A H0 o σ H Γ) (n : UrnAt A.g.U H u) (e : Ext A.g.U H H1) (n1 : UrnAt A.g.U H1 u1) (i : Nat) {a : Addr} {xs : List V} {l : List D} (ha : H a = none) (ha1 : H1 a = some (.lst xs))
    (hx : Reps K (fun b => Zo A o b ∨ b = a) A.g.U H1 l xs) : RelS K A H0 (o.add a i) (σ.set i (some (.ref a))) H1 (Γ.set i (.own l)) := by
  have hU : A.g.U ≠ some a := fun z => by rw [n a z] at ha; cases ha
  have oa : o a = none := by
    cases q : o a with
    | none => rfl
    | some j =>
      obtain ⟨_, _, xs, h3⟩ := r.oz a j q
      rw [ha] at h3; cases h3
  have mv : ∀ b v, ¬ (Zo A o b ∨ b = a) → H b = some v → H1 b = some v := fun b v nn q => e b v (fun z => nn (.inl (.inl (r.zu b z)))) q
  have gr : ∀ b, (Zo A o b ∨ b = a) → Zo A o b ∨ H b = none := fun b z => z.imp id fun z => by rw [z]; exact ha
  have a0 : H0 a = none := by
    cases q : H0 a with
    | none => rfl
    | some v => exact absurd (r.ext a v hU q) (by rw [ha]; exact nofun)
  have az : ¬ A.Zc a := fun z => by
    obtain ⟨v, hv⟩ := (r.bsc n).za a z
    rw [ha] at hv; cases hv
  refine r.make i (.own l) (some (.ref a)) (r.ext.trans e) (fun b z => ⟨_, n1 b z⟩) (fun d v q => ?_) (fun d v q => ?_) (fun b j ys hj h1 h2 => e b _ (r.noU h1) h2) (fun b j hj => add_ne oa hj) (fun b hb => ?_) ⟨a, xs, rfl, add_at, ha1, hx.sub fun b => add_sub⟩
  · exact ((q.grow gr).mono mv).sub fun b => add_sub
  · exact ((q.grow gr).mono mv).sub fun b => add_sub
  · rw [add_i hb]
    exact ⟨az, a0, xs, ha1⟩
/-- a list of one's own is changed -/
theorem RelS.chg (r : RelS K A H0 o σ H Γ) (n : UrnAt A.g.U H u) {i : Nat} {a : Addr} {xs : List V} {l' : List D} {xs' : List V} (hx : σ[i]? = some (some (.ref a))) (ho : o a = some i) (ha : H a = some (.lst xs)) (hr : Reps K (Zo A o) A.g.U H l' xs') :
    RelS K A H0 o σ (upd H a (.lst xs')) (Γ.set i (.own l')) ∧ UrnAt A.g.U (upd H a (.lst xs')) u := by
  have hU := r.noU ho
  have mv : ∀ b v, ¬ Zo A o b → H b = some v → upd H a (.lst xs') b = some v := fun b v nn q => by rw [upd_ne fun z => nn (by rw [z]; exact .inr ⟨i, ho⟩)]; exact q
  have z := r.oz a i ho
  have nu : UrnAt A.g.U (upd H a (.lst xs')) u := fun b e => by rw [upd_ne fun q => hU (by rw [e, q])]; exact n b e
  have := r.make (o' := o) (H1 := upd H a (.lst xs')) i (.own l') (some (.ref a)) (fun b v nn q => by rw [upd_ne fun e => by rw [e, z.2.1] at q; cases q]; exact r.ext b v nn q) (fun b e => ⟨_, nu b e⟩)
    (fun d v q => q.mono mv) (fun d v q => q.mono mv) (fun b j ys hj h1 h2 => by rw [upd_ne fun e => by rw [e, ho] at h1; exact hj (Option.some.inj h1).symm]; exact h2) (fun b j hj => Iff.rfl)
    (fun b hb => ⟨(r.oz b i hb).1, (r.oz b i hb).2.1, by
      by_cases e : b = a
      · rw [e, upd_same]; exact ⟨_, rfl⟩
      · rw [upd_ne e]; exact (r.oz b i hb).2.2⟩) ⟨a, xs', rfl, ho, upd_same, hr.mono mv⟩
  rw [set_self hx] at this
  exact ⟨this, nu⟩
end

/-! ### statements -/
def PostS (K : PySem.W.Frag) (A : Act) (H0 : Hp) (m : SOut) (D : Ends) : Prop := match m with
  | .nx Γ u => ∀ σ H o, RelS K A H0 o σ H Γ → UrnAt A.g.U H u → D.nx σ H
  | .rt d u => ∀ v H, Ext A.g.U H0 H → UrnAt A.g.U H u → Rep K A.Zc A.g.U H d v → D.rt v H
  | .bk Γ u => ∀ σ H o, RelS K A H0 o σ H Γ → UrnAt A.g.U H u → D.bk σ H
  | .ct Γ u => ∀ σ H o, RelS K A H0 o σ H Γ → UrnAt A.g.U H u → D.ct σ H
  | .er x u => ∀ C dx H, Ext A.g.U H0 H → UrnAt A.g.U H u → A.g.EA A.Zc A.g.U x C dx H → A.g.W C dx H
  | .bad => False
def tS (K : PySem.W.Frag) (A : Act) (m : MS) : TS := fun D σ H => ∃ H0 Γ u o, RelS K A H0 o σ H Γ ∧ UrnAt A.g.U H u ∧ PostS K A H0 (m Γ u) D
structure SD (A : Act) (X : Cx) (st : Stmt) (m : MS) : Prop where
  ps : PS X st (tS X.K A m)
structure SsD (A : Act) (X : Cx) (st : List Stmt) (m : MS) : Prop where
  ps : PSs X st (tS X.K A m)
theorem PS.imp {X : Cx} {e : Stmt} {t t' : TS} (h : PS X e t) (i : ∀ D σ H, t' D σ H → t D σ H) : PS X e t' := ⟨fun pins s σ H D I q => h.run pins s σ H D I (i D σ H q)⟩
theorem PSs.imp {X : Cx} {e : List Stmt} {t t' : TS} (h : PSs X e t) (i : ∀ D σ H, t' D σ H → t D σ H) : PSs X e t' := ⟨fun pins s σ H D I q => h.run pins s σ H D I (i D σ H q)⟩
section
variable {K : PySem.W.Frag} {A : Act} {H0 H0' H H1 : Hp} {o : Own} {σ : L2.St} {Γ : SEnv} {u : Urn} {m : SOut} {D : Ends}
theorem PostS.wk (e : Ext A.g.U H0 H0') (hz : ∀ a, A.Zc a → ∃ u, H0 a = some u) (h : PostS K A H0 m D) : PostS K A H0' m D := by
  cases m with
  | nx Γ u => exact fun σ H o r n => h σ H o (r.wk e hz) n
  | rt d u => exact fun v H e' n r => h v H (e.trans e') n r
  | bk Γ u => exact fun σ H o r n => h σ H o (r.wk e hz) n
  | ct Γ u => exact fun σ H o r n => h σ H o (r.wk e hz) n
  | er x u => exact fun C dx H e' n r => h C dx H (e.trans e') n r
  | bad => exact h
theorem PostS.andThen {f : MS} (h : PostS K A H0 (m.andThen f) D) : PostS K A H0 m { D with nx := tS K A f D } := by
  cases m with
  | nx Γ u => exact fun σ H o r n => ⟨H0, Γ, u, o, r, n, h⟩
  | rt d u => exact h
  | bk Γ u => exact h
  | ct Γ u => exact h
  | er x u => exact h
  | bad => exact h
/-- an expression in a statement, the lists of one's own hidden -/
theorem PostS.hid {α β : Type} {R : AZ → Hp → α → β → Prop} {ex : Out α} {f : α → Urn → SOut} {Q : β → Hp → Prop} (h : PostS K A H0 (thenS ex f) D) (r : RelS K A H0 o σ H Γ)
    (k : ∀ d u1 v H1, Ext A.g.U H H1 → UrnAt A.g.U H1 u1 → RelS K A H0 o σ H1 Γ → R (Zo A o) H1 d v → PostS K A H0 (f d u1) D → Q v H1) : PostE A.g R (Zo A o) H ex Q := by
  cases ex with
  | ok d u => exact fun v H1 e n q => k d u v H1 e n (r.to e n) q h
  | er x u => exact fun C dx H1 e n q => h C dx H1 (r.ext.trans e) n (A.ea _ _ x C dx H1 (fun b z => .inl z) q)
  | bad => exact h
/-- .. seen -/
theorem PostS.see {α β : Type} {R : AZ → Hp → α → β → Prop} {ex : Out α} {f : α → Urn → SOut} {Q : β → Hp → Prop} (h : PostS K A H0 (thenS ex f) D) (r : RelS K A H0 o σ H Γ)
    (k : ∀ d u1 v H1, Ext A.g.U H H1 → UrnAt A.g.U H1 u1 → RelS K A H0 o σ H1 Γ → R A.Zc H1 d v → PostS K A H0 (f d u1) D → Q v H1) : PostE A.g R A.Zc H ex Q := by
  cases ex with
  | ok d u => exact fun v H1 e n q => k d u v H1 e n (r.to e n) q h
  | er x u => exact fun C dx H1 e n q => h C dx H1 (r.ext.trans e) n q
  | bad => exact h
end
section
variable {A : Act} {X : Cx} {st : Stmt} {rest : List Stmt} {e c : Expr} {m m1 m2 : MS} {me mc : ME} {pos : Pos}
theorem ssd_nil : SsD A X [] sNop := ⟨PSs.imp pss_nil fun D σ H h => by
  obtain ⟨H0, Γ, u, o, r, n, post⟩ := h
  exact post σ H o r n⟩
theorem ssd_cons (h1 : SD A X st m1) (h2 : SsD A X rest m2) : SsD A X (st :: rest) (sSeq m1 m2) := ⟨PSs.imp (pss_cons h1.ps h2.ps) fun D σ H h => by
  obtain ⟨H0, Γ, u, o, r, n, post⟩ := h
  exact ⟨H0, Γ, u, o, r, n, PostS.andThen post⟩⟩
theorem ssd_one (h1 : SD A X st m1) : SsD A X [st] m1 := ⟨pss_one h1.ps⟩
theorem sd_pass : SD A X (.Pass pos) sNop := ⟨PS.imp ps_pass fun D σ H h => by
  obtain ⟨H0, Γ, u, o, r, n, post⟩ := h
  exact post σ H o r n⟩
theorem sd_break : SD A X (.Break pos) sBreak := ⟨PS.imp ps_break fun D σ H h => by
  obtain ⟨H0, Γ, u, o, r, n, post⟩ := h
  exact post σ H o r n⟩
theorem sd_cont : SD A X (.Continue pos) sCont := ⟨PS.imp ps_continue fun D σ H h => by
  obtain ⟨H0, Γ, u, o, r, n, post⟩ := h
  exact post σ H o r n⟩
/-- never reached -/
theorem sd_never : SD A X st (fun _ _ => .bad) := ⟨PS.imp ps_never fun D σ H h => by
  obtain ⟨H0, Γ, u, o, r, n, post⟩ := h
  exact post⟩
theorem sd_frz (i : Nat) (h : SD A X st m) : SD A X st (sFrz i m) := ⟨PS.imp h.ps fun D σ H h => by
  obtain ⟨H0, Γ, u, o, r, n, post⟩ := h
  unfold sFrz at post
  cases q : Γ[i]? with
  | none => rw [q] at post; exact post.elim
  | some s =>
    rw [q] at post
    exact ⟨H0, _, u, _, r.frz i q, n, post⟩⟩
theorem sd_expr (he : ED A.g X e me) (hs : swapsWith e none pos.line X.env = pure false := by rfl) : SD A X (.Expr e pos) (sExp me) := ⟨PS.imp (ps_expr he.pe hs) fun D σ H h => by
  obtain ⟨H0, Γ, u, o, r, n, post⟩ := h
  exact ⟨snapE Γ, u, A.Zc, r.bsc n, r.snap, PostS.see post r fun d u1 v H1 e1 n1 r1 _ post1 => post1 σ H1 o r1 n1⟩⟩
theorem sd_doc {x j pos'} : SD A X (.Expr (.Constant (.str x) j pos) pos') sNop := ⟨PS.imp ps_doc fun D σ H h => by
  obtain ⟨H0, Γ, u, o, r, n, post⟩ := h
  exact post σ H o r n⟩
theorem sd_ret (he : ED A.g X e me) : SD A X (.Return (some e) pos) (sRet me) := ⟨PS.imp (ps_ret he.pe) fun D σ H h => by
  obtain ⟨H0, Γ, u, o, r, n, post⟩ := h
  exact ⟨snapE Γ, u, A.Zc, r.bsc n, r.snap, PostS.see post r fun d u1 v H1 e1 n1 r1 q post1 => post1 v H1 r1.ext n1 q⟩⟩
theorem sd_retN : SD A X (.Return none pos) sRetN := ⟨PS.imp ps_retN fun D σ H h => by
  obtain ⟨H0, Γ, u, o, r, n, post⟩ := h
  exact post .non H r.ext n (rep_non.mpr rfl)⟩
theorem sd_if {a b : List Stmt} (hc : TD A.g X c mc) (ha : SsD A X a m1) (hb : SsD A X b m2) : SD A X (.If c a b pos) (sIf mc m1 m2) := ⟨PS.imp (ps_if hc.pt ha.ps hb.ps) fun D σ H h => by
  obtain ⟨H0, Γ, u, o, r, n, post⟩ := h
  refine ⟨snapE Γ, u, A.Zc, r.bsc n, r.snap, PostS.see post r fun d u1 v H1 e1 n1 r1 q post1 => ?_⟩
  subst q
  cases d with
  | true =>
    rw [if_pos rfl] at post1 ⊢
    exact ⟨H0, Γ, u1, o, r1, n1, post1⟩
  | false =>
    rw [if_neg Bool.false_ne_true] at post1 ⊢
    exact ⟨H0, Γ, u1, o, r1, n1, post1⟩⟩

/-! ### stores -/
/-- what a target does -/
def tH (K : PySem.W.Frag) (A : Act) (m : TGS) : L2.TG := fun v σ H Q => ∃ H0 Γ u o d Γ1, RelS K A H0 o σ H Γ ∧ UrnAt A.g.U H u ∧ Rep K (Zo A o) A.g.U H d v ∧ m d Γ = some Γ1 ∧
  ∀ σ' o', RelS K A H0 o' σ' H Γ1 → (∀ b, Zo A o' b → Zo A o b) → Q σ' H
def tHs (K : PySem.W.Frag) (A : Act) (m : TGSs) : L2.TGs := fun xs σ H Q => ∃ H0 Γ u o ds Γ1, RelS K A H0 o σ H Γ ∧ UrnAt A.g.U H u ∧ Reps K (Zo A o) A.g.U H ds xs ∧ m ds Γ = some Γ1 ∧
  ∀ σ' o', RelS K A H0 o' σ' H Γ1 → (∀ b, Zo A o' b → Zo A o b) → Q σ' H
structure HD (A : Act) (X : Cx) (tg : Expr) (m : TGS) : Prop where
  pg : PG X tg (tH X.K A m)
structure HsD (A : Act) (X : Cx) (ts : List Expr) (m : TGSs) : Prop where
  pg : PGs X ts (tHs X.K A m)
  len : ∀ ds Γ Γ1, m ds Γ = some Γ1 → ds.length = ts.length
theorem hd_name {x : Str} (i : Nat) (hN : X.N.Nodup) (hi : X.N[i]? = some x) (hx : Loc X.env.scope x) (hf : X.fn x = true ∨ X.env.scope.names.lookup x = some .local := by first | exact .inl rfl | exact .inr rfl | assumption) : HD A X (.Name x pos) (hName i) := by
  refine ⟨PG.imp (pg_name hN hi hx hf) fun v σ H Q h => ?_⟩
  obtain ⟨H0, Γ, u, o, d, Γ1, r, n, q, e, k⟩ := h
  cases e
  exact k _ _ (r.val i q) fun b => drop_sub
theorem hsd_nil : HsD A X [] hsNil := by
  refine ⟨PGs.imp pgs_nil fun v σ H Q h => ?_, fun ds Γ Γ1 h => by cases ds with | nil => rfl | cons _ _ => cases h⟩
  obtain ⟨H0, Γ, u, o, ds, Γ1, r, n, q, e, k⟩ := h
  cases ds with
  | nil =>
    cases e
    rw [Reps] at q
    exact ⟨q, k σ o r fun b z => z⟩
  | cons _ _ => cases e
theorem hsd_cons {es : List Expr} {m : TGS} {ms : TGSs} (h1 : HD A X e m) (h2 : HsD A X es ms)
    (hs : (assignEach (e :: es) X.env).map (·.2) = assign e X.env :: (assignEach es X.env).map (·.2) := by rfl) : HsD A X (e :: es) (hsCons m ms) := by
  refine ⟨PGs.imp (pgs_cons h1.pg h2.pg hs) fun v σ H Q h => ?_, fun ds Γ Γ1 h => ?_⟩
  case refine_2 =>
    cases ds with
    | nil => cases h
    | cons d ds =>
      have h : (m d Γ).bind (fun Γ => ms ds Γ) = some Γ1 := h
      cases q : m d Γ with
      | none => rw [q] at h; cases h
      | some Γ2 =>
        rw [q] at h
        rw [List.length_cons, List.length_cons, h2.len _ _ _ h]
  obtain ⟨H0, Γ, u, o, ds, Γ1, r, n, q, e, k⟩ := h
  cases ds with
  | nil => cases e
  | cons d ds =>
    rw [Reps] at q
    obtain ⟨x, ys, rfl, ra, rb⟩ := q
    have e : (m d Γ).bind (fun Γ => ms ds Γ) = some Γ1 := e
    cases q1 : m d Γ with
    | none => rw [q1] at e; cases e
    | some Γ2 =>
      rw [q1] at e
      exact ⟨x, ys, rfl, H0, Γ, u, o, d, Γ2, r, n, ra, q1, fun σ' o' r' sb => ⟨H0, Γ2, u, o', ds, Γ1, r', n, rb.sub sb, e, fun σ2 o2 r2 sb2 => k σ2 o2 r2 fun b z => sb b (sb2 b z)⟩⟩
theorem hd_tup {es : List Expr} {k : Nat} {ms : TGSs} {n : Nat} (hc : X.calm = true) (h : HsD A X es ms) (hl : es.length = n := by rfl)
    (hn : (assignEach es X.env).length = n := by rfl) (hst : (assignEach es X.env).findIdx? (·.1) = none := by rfl) : HD A X (.Tuple es k pos) (hTup ms) := by
  refine ⟨PG.imp (pg_tup hc h.pg hn hst) fun v σ H Q h' => ?_⟩
  obtain ⟨H0, Γ, u, o, d, Γ1, r, un, q, e, kk⟩ := h'
  cases d with
  | tup l =>
    obtain ⟨a, xs, rfl, qa, ra⟩ := rep_tup.mp q
    exact ⟨a, xs, rfl, sqT_of qa, by rw [ra.len, h.len _ _ _ e]; exact hl, H0, Γ, u, o, l, Γ1, r, un, ra, e, kk⟩
  | _ => cases e
/-- x = e -/
theorem sd_set {x : Str} {pos' : Pos} (i : Nat) (hN : X.N.Nodup) (hi : X.N[i]? = some x) (hx : Loc X.env.scope x) (he : ED A.g X e me) (hs : swapsWith e (some (.Name x pos')) pos.line X.env = pure false := by rfl) (hf : X.fn x = true ∨ X.env.scope.names.lookup x = some .local := by first | exact .inl rfl | exact .inr rfl | assumption) :
    SD A X (.Assign [.Name x pos'] e pos) (sSet i me) := ⟨PS.imp (ps_set hN hi hx he.pe hs hf) fun D σ H h => by
  obtain ⟨H0, Γ, u, o, r, n, post⟩ := h
  exact ⟨hideE Γ, u, _, r.bso n, r.hide, PostS.hid post r fun d u1 v H1 e1 n1 r1 q post1 => post1 _ _ _ (r1.val i q) n1⟩⟩
theorem sd_setN {x : Str} {pos' : Pos} (i : Nat) (hN : X.N.Nodup) (hi : X.N[i]? = some x) (hx : Loc X.env.scope x) (he : ED A.g X e me) (hs : swapsWith e (some (.Name x pos')) pos.line X.env = pure false := by rfl) (hf : X.fn x = true ∨ X.env.scope.names.lookup x = some .local := by first | exact .inl rfl | exact .inr rfl | assumption) :
    SD A X (.Assign [.Name x pos'] e pos) (sSetN i me) := ⟨PS.imp (ps_set hN hi hx he.pe hs hf) fun D σ H h => by
  obtain ⟨H0, Γ, u, o, r, n, post⟩ := h
  refine ⟨snapE Γ, u, _, r.bsc n, r.snap, PostS.see post r fun d u1 v H1 e1 n1 r1 q post1 => ?_⟩
  split at post1
  · exact post1 _ _ _ (r1.val i (r1.noL (by assumption) q)) n1
  · exact post1.elim⟩
/-- x = a new list -/
theorem sd_setF {x : Str} {pos' : Pos} (i : Nat) (hN : X.N.Nodup) (hi : X.N[i]? = some x) (hx : Loc X.env.scope x) (he : FD A.g X e me) (hs : swapsWith e (some (.Name x pos')) pos.line X.env = pure false := by rfl) (hf : X.fn x = true ∨ X.env.scope.names.lookup x = some .local := by first | exact .inl rfl | exact .inr rfl | assumption) :
    SD A X (.Assign [.Name x pos'] e pos) (sSetF i me) := ⟨PS.imp (ps_set hN hi hx he.pe hs hf) fun D σ H h => by
  obtain ⟨H0, Γ, u, o, r, n, post⟩ := h
  refine ⟨hideE Γ, u, _, r.bso n, r.hide, PostS.hid post r fun d u1 v H1 e1 n1 r1 q post1 => ?_⟩
  obtain ⟨l, xs, a, rfl, rfl, h0, hz, ha, ra⟩ := q
  exact post1 _ _ _ (r.fresh n e1 n1 i h0 ha ra) n1⟩
end
end Dn
namespace Dn
open PySem PySem.Spec PyProof.Rows L2
section
variable {K : PySem.W.Frag} {A : Act} {H0 H H1 : Hp} {o : Own} {σ : L2.St} {Γ : SEnv} {u u1 : Urn}
theorem RelS.own_at (r : RelS K A H0 o σ H Γ) {i : Nat} {l : List D} (h : Γ[i]? = some (.own l)) : ∃ a xs, σ[i]? = some (some (.ref a)) ∧ o a = some i ∧ H a = some (.lst xs) ∧ Reps K (Zo A o) A.g.U H l xs := by
  obtain ⟨x, e, a, xs, rfl, q⟩ := r.slots i _ h
  exact ⟨a, xs, e, q⟩
theorem RelS.urn_at (r : RelS K A H0 o σ H Γ) {i : Nat} (h : Γ[i]? = some (.val .urn)) : ∃ a, σ[i]? = some (some (.ref a)) ∧ A.g.U = some a := by
  obtain ⟨x, e, v, rfl, q⟩ := r.slots i _ h
  obtain ⟨a, e2, rfl⟩ := rep_urn.mp q
  exact ⟨a, e, e2⟩
/-- the urn is changed -/
theorem RelS.urn (r : RelS K A H0 o σ H Γ) {a : Addr} (e : A.g.U = some a) (u1 : Urn) : RelS K A H0 o σ (upd H a (.lst (u1.map V.int))) Γ ∧ UrnAt A.g.U (upd H a (.lst (u1.map V.int))) u1 := by
  have n1 : UrnAt A.g.U (upd H a (.lst (u1.map V.int))) u1 := fun b q => by
    rw [e] at q
    cases q
    exact upd_same
  exact ⟨r.to (fun b o nb q => by rw [upd_ne fun z => nb (by rw [e, z])]; exact q) n1, n1⟩
end
section
variable {A : Act} {X : Cx} {e k : Expr} {me mk : ME} {x : Str} {pos px apos cpos tpos : Pos}
/-- x.append(e) -/
theorem sd_app (i : Nat) (hN : X.N[i]? = some x) (hv : Vis X.env.scope x) (he : ED A.g X e me)
    (hd : (x == ("__debug__" : Str)) = false := by decide +kernel) (hcd : (x == ("__classdict__" : Str)) = false := by decide +kernel)
    (hbase : attributeBase (.Name x px) "append" X.env (eval (.Name x px) X.env) = eval (.Name x px) X.env := by rfl)
    (hfew : ((backTo cpos (starEach [e] X.env)).all (fun x => !x.1) && (backToKw cpos (keywordEach [] X.env)).all (fun x => x.1.isSome)
      && decide ([e].length + ([] : List Keyword).length + (if ([] : List Keyword).isEmpty then 0 else 1) < 30)) = true := by rfl)
    (hline : (apos.endLine == cpos.line) = true := by rfl) (hs : starEach [e] X.env = (false, eval e X.env) :: starEach [] X.env := by rfl) (hplain : (backTo cpos (starEach [] X.env)).any (·.1) = false := by rfl)
    (hsw : swapsWith (.Call (.Attribute (.Name x px) "append" apos) [e] [] cpos) none pos.line X.env = pure false := by rfl) :
    SD A X (.Expr (.Call (.Attribute (.Name x px) "append" apos) [e] [] cpos) pos) (sApp i me) := by
  refine ⟨PS.imp (ps_expr (pe_bm PySem.F.plainAttrs_list PySem.F.slot_list_append PySem.F.type_list_append mt_append (pe_var (i := i) hN hv hd hcd) (pa_cons he.pe pa_nil hs) hbase hfew hline hs hplain) hsw) fun D σ H h => ?_⟩
  obtain ⟨H0, Γ, u, o, r, n, post⟩ := h
  unfold sApp at post
  split at post
  · rename_i l hl
    obtain ⟨a, xs, ex, eo, ha, hr⟩ := r.own_at hl
    refine ⟨.ref a, ex, .inl ⟨rfl, xs, .of ha⟩, hideE Γ, u, _, r.bso n, r.hide, PostS.hid post r fun d u1 v H1 e1 n1 r1 q post1 => ?_⟩
    split at post1
    · rename_i hz
      have ha1 : H1 a = some (.lst xs) := e1 a _ (r.noU eo) ha
      have hr1 : Reps X.K (Zo A o) A.g.U H1 l xs := Ext.reps (g := A.g) (r.bso n) e1 hr
      obtain ⟨r2, n2⟩ := r1.chg n1 (l' := l ++ [d]) (xs' := xs ++ [v]) ex eo ha1 (hr1.app (.cons q .nil))
      exact ⟨a, xs, v, rfl, rfl, ha1, by rw [hr1.len, LN_line]; exact hz, post1 _ _ _ r2 n2⟩
    · exact post1.elim
  · exact post.elim
theorem sd_appN (i : Nat) (hN : X.N[i]? = some x) (hv : Vis X.env.scope x) (he : ED A.g X e me)
    (hd : (x == ("__debug__" : Str)) = false := by decide +kernel) (hcd : (x == ("__classdict__" : Str)) = false := by decide +kernel)
    (hbase : attributeBase (.Name x px) "append" X.env (eval (.Name x px) X.env) = eval (.Name x px) X.env := by rfl)
    (hfew : ((backTo cpos (starEach [e] X.env)).all (fun x => !x.1) && (backToKw cpos (keywordEach [] X.env)).all (fun x => x.1.isSome)
      && decide ([e].length + ([] : List Keyword).length + (if ([] : List Keyword).isEmpty then 0 else 1) < 30)) = true := by rfl)
    (hline : (apos.endLine == cpos.line) = true := by rfl) (hs : starEach [e] X.env = (false, eval e X.env) :: starEach [] X.env := by rfl) (hplain : (backTo cpos (starEach [] X.env)).any (·.1) = false := by rfl)
    (hsw : swapsWith (.Call (.Attribute (.Name x px) "append" apos) [e] [] cpos) none pos.line X.env = pure false := by rfl) :
    SD A X (.Expr (.Call (.Attribute (.Name x px) "append" apos) [e] [] cpos) pos) (sAppN i me) := by
  refine ⟨PS.imp (ps_expr (pe_bm PySem.F.plainAttrs_list PySem.F.slot_list_append PySem.F.type_list_append mt_append (pe_var (i := i) hN hv hd hcd) (pa_cons he.pe pa_nil hs) hbase hfew hline hs hplain) hsw) fun D σ H h => ?_⟩
  obtain ⟨H0, Γ, u, o, r, n, post⟩ := h
  unfold sAppN at post
  split at post
  · rename_i l hl
    obtain ⟨a, xs, ex, eo, ha, hr⟩ := r.own_at hl
    refine ⟨.ref a, ex, .inl ⟨rfl, xs, .of ha⟩, snapE Γ, u, _, r.bsc n, r.snap, PostS.see post r fun d u1 v H1 e1 n1 r1 q post1 => ?_⟩
    split at post1
    · rename_i hz
      have ha1 : H1 a = some (.lst xs) := e1 a _ (r.noU eo) ha
      have hr1 : Reps X.K (Zo A o) A.g.U H1 l xs := Ext.reps (g := A.g) (r.bso n) e1 hr
      obtain ⟨r2, n2⟩ := r1.chg n1 (l' := l ++ [d]) (xs' := xs ++ [v]) ex eo ha1 (hr1.app (.cons (r1.noL hz.2 q) .nil))
      exact ⟨a, xs, v, rfl, rfl, ha1, by rw [hr1.len, LN_line]; exact hz.1, post1 _ _ _ r2 n2⟩
    · exact post1.elim
  · exact post.elim
/-- x[k] = e -/
theorem sd_put (i : Nat) (hN : X.N[i]? = some x) (hv : Vis X.env.scope x) (hk : ED A.g X k mk) (he : ED A.g X e me)
    (hd : (x == ("__debug__" : Str)) = false := by decide +kernel) (hcd : (x == ("__classdict__" : Str)) = false := by decide +kernel)
    (ha : ∀ v, assign (.Subscript (.Name x px) k tpos) X.env v = (do
      let ov ← holding [v] (eval (.Name x px) X.env)
      let iv ← holding [v, ov] (eval k X.env)
      standAt tpos
      holding [v, ov, iv] (setItem ov iv v)
      release [v, ov, iv] []) := by intro _; rfl)
    (hs : swapsWithSole [.Subscript (.Name x px) k tpos] e pos.line X.env = pure false := by rfl) (hw : swappedStores [.Subscript (.Name x px) k tpos] e X.env = pure none := by rfl)
    (h1 : (assignEach [.Subscript (.Name x px) k tpos] X.env).map (·.2) = [assign (.Subscript (.Name x px) k tpos) X.env] := by rfl) :
    SD A X (.Assign [.Subscript (.Name x px) k tpos] e pos) (sPut i mk me) := by
  refine ⟨PS.imp (ps_asg he.pe (pg_sub (pe_var (i := i) hN hv hd hcd) hk.pe set_list ha) hs hw h1) fun D σ H h => ?_⟩
  obtain ⟨H0, Γ, u, o, r, n, post⟩ := h
  unfold sPut at post
  split at post
  · rename_i l hl
    obtain ⟨a, xs, ex, eo, ha, hr⟩ := r.own_at hl
    refine ⟨snapE Γ, u, _, r.bsc n, r.snap, PostS.see post r fun d u1 v H1 e1 n1 r1 q post1 => ?_⟩
    refine ⟨.ref a, ex, snapE Γ, u1, _, r1.bsc n1, r1.snap, PostS.see post1 r1 fun kd u2 kv H2 e2 n2 r2 q2 post2 => ?_⟩
    have ha2 : H2 a = some (.lst xs) := e2 a _ (r.noU eo) (e1 a _ (r.noU eo) ha)
    have hr2 : Reps X.K (Zo A o) A.g.U H2 l xs := Ext.reps (g := A.g) (r1.bso n1) e2 (Ext.reps (g := A.g) (r.bso n) e1 hr)
    have q' : Rep X.K A.Zc A.g.U H2 d v := Ext.rep (g := A.g) (r1.bsc n1) e2 q
    unfold putD at post2
    cases kd with
    | int j =>
      by_cases hn : noL d = true
      · cases z : Dn.ixN l.length j with
        | none =>
          simp only [hn, z, if_true, Option.map_none] at post2
          exact post2.elim
        | some p =>
          simp only [hn, z, if_true, Option.map_some] at post2
          obtain ⟨r3, n3⟩ := r2.chg n2 (l' := l.set p d) (xs' := xs.set p v) ex eo ha2 (hr2.set p (r2.noL hn q'))
          exact ⟨a, xs, j, p, rfl, rep_int.mp q2, ha2, by rw [hr2.len]; exact z, post2 _ _ _ r3 n3⟩
      · simp only [hn] at post2
        exact post2.elim
    | _ => exact post2.elim
  · exact post.elim
theorem map_set_int (u : Urn) (p : Nat) (z : Int) : (u.set p z).map V.int = (u.map V.int).set p (.int z) := by
  rw [List.map_set]
/-- urn[k] = e -/
theorem sd_putU (i : Nat) (hN : X.N[i]? = some x) (hv : Vis X.env.scope x) (hk : ED A.g X k mk) (he : ED A.g X e me)
    (hd : (x == ("__debug__" : Str)) = false := by decide +kernel) (hcd : (x == ("__classdict__" : Str)) = false := by decide +kernel)
    (ha : ∀ v, assign (.Subscript (.Name x px) k tpos) X.env v = (do
      let ov ← holding [v] (eval (.Name x px) X.env)
      let iv ← holding [v, ov] (eval k X.env)
      standAt tpos
      holding [v, ov, iv] (setItem ov iv v)
      release [v, ov, iv] []) := by intro _; rfl)
    (hs : swapsWithSole [.Subscript (.Name x px) k tpos] e pos.line X.env = pure false := by rfl) (hw : swappedStores [.Subscript (.Name x px) k tpos] e X.env = pure none := by rfl)
    (h1 : (assignEach [.Subscript (.Name x px) k tpos] X.env).map (·.2) = [assign (.Subscript (.Name x px) k tpos) X.env] := by rfl) :
    SD A X (.Assign [.Subscript (.Name x px) k tpos] e pos) (sPutU i mk me) := by
  refine ⟨PS.imp (ps_asg he.pe (pg_sub (pe_var (i := i) hN hv hd hcd) hk.pe set_list ha) hs hw h1) fun D σ H h => ?_⟩
  obtain ⟨H0, Γ, u, o, r, n, post⟩ := h
  unfold sPutU at post
  split at post
  · rename_i hl
    obtain ⟨a, ex, eu⟩ := r.urn_at hl
    refine ⟨snapE Γ, u, _, r.bsc n, r.snap, PostS.see post r fun d u1 v H1 e1 n1 r1 q post1 => ?_⟩
    refine ⟨.ref a, ex, snapE Γ, u1, _, r1.bsc n1, r1.snap, PostS.see post1 r1 fun kd u2 kv H2 e2 n2 r2 q2 post2 => ?_⟩
    unfold putU at post2
    cases kd with
    | int j =>
      cases d with
      | int z =>
        cases w : Dn.ixN u2.length j with
        | none =>
          simp only [w, Option.map_none] at post2
          exact post2.elim
        | some p =>
          simp only [w, Option.map_some] at post2
          obtain ⟨r3, n3⟩ := r2.urn eu (u2.set p z)
          rw [map_set_int, ← rep_int.mp q] at r3 n3
          exact ⟨a, _, j, p, rfl, rep_int.mp q2, n2 a eu, by rw [List.length_map]; exact w, post2 _ _ _ r3 n3⟩
      | _ => exact post2.elim
    | _ => exact post2.elim
  · exact post.elim
/-- a, b = e -/
theorem sd_unp {tg : Expr} {m : TGS} (hg : HD A X tg m) (he : ED A.g X e me) (hs : swapsWithSole [tg] e pos.line X.env = pure false := by rfl) (hw : swappedStores [tg] e X.env = pure none := by rfl)
    (h1 : (assignEach [tg] X.env).map (·.2) = [assign tg X.env] := by rfl) : SD A X (.Assign [tg] e pos) (sUnp m me) := by
  refine ⟨PS.imp (ps_asg he.pe hg.pg hs hw h1) fun D σ H h => ?_⟩
  obtain ⟨H0, Γ, u, o, r, n, post⟩ := h
  refine ⟨hideE Γ, u, _, r.bso n, r.hide, PostS.hid post r fun d u1 v H1 e1 n1 r1 q post1 => ?_⟩
  cases z : m d Γ with
  | none => rw [z] at post1; exact post1.elim
  | some Γ1 =>
    rw [z] at post1
    exact ⟨H0, Γ, u1, o, d, Γ1, r1, n1, q, z, fun σ' o' r' _ => post1 _ _ _ r' n1⟩
/-- urn[k], y = e -/
theorem sd_unpU {y : Str} {py tp kp : Pos} {kk : Nat} {x1 : Nat} {z : Int} (hc : X.calm = true) (i j : Nat) (hN : X.N[i]? = some x) (hv : Vis X.env.scope x) (hNd : X.N.Nodup) (hj : X.N[j]? = some y) (hy : Loc X.env.scope y) (he : ED A.g X e me)
    (hd : (x == ("__debug__" : Str)) = false := by decide +kernel) (hcd : (x == ("__classdict__" : Str)) = false := by decide +kernel)
    (hf : X.fn y = true ∨ X.env.scope.names.lookup y = some .local := by first | exact .inl rfl | exact .inr rfl | assumption)
    (ha : ∀ v, assign (.Subscript (.Name x px) (.Constant (.int z) kk kp) tpos) X.env v = (do
      let ov ← holding [v] (eval (.Name x px) X.env)
      let iv ← holding [v, ov] (eval (.Constant (.int z) kk kp) X.env)
      standAt tpos
      holding [v, ov, iv] (setItem ov iv v)
      release [v, ov, iv] []) := by intro _; rfl)
    (hs1 : (assignEach [.Subscript (.Name x px) (.Constant (.int z) kk kp) tpos, .Name y py] X.env).map (·.2) = assign (.Subscript (.Name x px) (.Constant (.int z) kk kp) tpos) X.env :: (assignEach [.Name y py] X.env).map (·.2) := by rfl)
    (hn : (assignEach [.Subscript (.Name x px) (.Constant (.int z) kk kp) tpos, .Name y py] X.env).length = 2 := by rfl) (hst : (assignEach [.Subscript (.Name x px) (.Constant (.int z) kk kp) tpos, .Name y py] X.env).findIdx? (·.1) = none := by rfl)
    (hs : swapsWithSole [.Tuple [.Subscript (.Name x px) (.Constant (.int z) kk kp) tpos, .Name y py] x1 tp] e pos.line X.env = pure false := by rfl) (hw : swappedStores [.Tuple [.Subscript (.Name x px) (.Constant (.int z) kk kp) tpos, .Name y py] x1 tp] e X.env = pure none := by rfl)
    (h1 : (assignEach [.Tuple [.Subscript (.Name x px) (.Constant (.int z) kk kp) tpos, .Name y py] x1 tp] X.env).map (·.2) = [assign (.Tuple [.Subscript (.Name x px) (.Constant (.int z) kk kp) tpos, .Name y py] x1 tp) X.env] := by rfl) :
    SD A X (.Assign [.Tuple [.Subscript (.Name x px) (.Constant (.int z) kk kp) tpos, .Name y py] x1 tp] e pos) (sUnpU i j z me) := by
  refine ⟨PS.imp (ps_asg he.pe (pg_tup hc (pgs_cons (pg_sub (pe_var (i := i) hN hv hd hcd) pe_int set_list ha) (pgs_cons (pg_name hNd hj hy hf) pgs_nil) hs1) hn hst) hs hw h1) fun D σ H h => ?_⟩
  obtain ⟨H0, Γ, u, o, r, n, post⟩ := h
  unfold sUnpU at post
  split at post
  · rename_i hl
    obtain ⟨a, ex, eu⟩ := r.urn_at hl
    refine ⟨hideE Γ, u, _, r.bso n, r.hide, PostS.hid post r fun d u1 v H1 e1 n1 r1 q post1 => ?_⟩
    split at post1
    · rename_i d1 d2
      obtain ⟨t, vs, rfl, qt, qr⟩ := rep_tup.mp q
      obtain ⟨w1, w2, rfl, q1, q2⟩ := reps2 qr
      refine ⟨t, _, rfl, sqT_of qt, rfl, w1, _, rfl, .ref a, ex, ?_⟩
      unfold putU at post1
      cases d1 with
      | int y1 =>
        cases w : Dn.ixN u1.length z with
        | none =>
          simp only [w, Option.map_none] at post1
          exact post1.elim
        | some p =>
          simp only [w, Option.map_some] at post1
          obtain ⟨r3, n3⟩ := r1.urn eu (u1.set p y1)
          have q3 : Rep X.K (Zo A o) A.g.U (upd H1 a (.lst ((u1.set p y1).map V.int))) d2 w2 := q2.mono fun b o nb q => by rw [upd_ne fun z => nb (.inl (by rw [z]; exact r.zu a eu))]; exact q
          rw [map_set_int, ← rep_int.mp q1] at r3 n3 q3
          exact ⟨a, _, z, p, rfl, rfl, n1 a eu, by rw [List.length_map]; exact w, w2, [], rfl, rfl, post1 _ _ _ (r3.val j q3) n3⟩
      | _ => exact post1.elim
    · exact post1.elim
  · exact post.elim

/-! ### loops -/
theorem sd_for {tg iter : Expr} {body : List Stmt} {mi : MEs} {hg : TGS} {mb : MS} (hp : PassesOwn (model X.prog X.w) X.A X.env X.xe) (hc : X.calm = true) (hi : ID A.g X tg iter mi) (ht : HD A X tg hg) (hb : SsD A X body mb)
    (hs : ∀ x, foldedSetIterable iter X.env x = pure x := by intro _; rfl) : SD A X (.For tg iter body [] pos) (sFor mi hg mb) := by
  refine ⟨PS.imp (ps_for hp hc hi.pi ht.pg hb.ps hs) fun D σ H h => ?_⟩
  obtain ⟨H0, Γ, u, o, r, n, post⟩ := h
  refine ⟨hideE Γ, u, _, r.bso n, r.hide, PostS.hid post r fun ds u1 J H1 e1 n1 r1 q post1 => ?_⟩
  obtain ⟨hl, wk⟩ := q
  obtain ⟨rm, em⟩ := r1.memo
  refine ⟨fun i m σ H => m = ds.length - i ∧ i ≤ ds.length ∧ ∃ Γ u o', RelS X.K A (memo o H1) o' σ H Γ ∧ UrnAt A.g.U H u ∧ PostS X.K A H0 (forGo hg mb (ds.drop i) Γ u) D,
    ⟨ds.length, rfl, Nat.zero_le _, Γ, u1, o, rm, n1, post1⟩, ?_⟩
  rintro i m σ2 H2 ⟨rfl, hi, Γ2, u2, o2, r2, n2, po⟩
  have fz : Fz (Zo A o) H1 H2 := fun b v nb q => r2.ext b v (fun z => nb (.inl (r.zu b z))) (by
    unfold memo
    cases w : o b with
    | none => exact q
    | some j => exact absurd (Or.inr ⟨j, w⟩) nb)
  by_cases hlt : i < ds.length
  · refine .inr ⟨wk.go i H2 fz hlt, fun σ' H' => i + 1 ≤ ds.length ∧ ∃ Γ u o', RelS X.K A (memo o H1) o' σ' H' Γ ∧ UrnAt A.g.U H' u ∧ PostS X.K A H0 (forGo hg mb (ds.drop (i + 1)) Γ u) D, fun σ' H' w => ⟨ds.length - (i + 1), by omega, rfl, w.1, w.2⟩, fun x H' y => ?_⟩
    obtain ⟨k1, k2⟩ := wk.yld i H2 x H' ds[i] fz (List.getElem?_eq_getElem hlt) y
    rw [List.drop_eq_getElem_cons hlt, forGo] at po
    have e' : Ext A.g.U H2 H' := fun b v _ q => k1 b v q
    have n' : UrnAt A.g.U H' u2 := fun a e => k1 _ _ (n2 a e)
    have r' := r2.to e' n'
    have rx : Rep X.K (Zo A o2) A.g.U H' ds[i] x := k2 _ fun b z => by
      refine ⟨?_, (r2.bso n2).za b z⟩
      rcases z with z | ⟨j, z⟩
      · exact .inl (.inl z)
      · have h0 := (r2.oz b j z).2.1
        unfold memo at h0
        split at h0
        · rename_i j' hj
          exact .inl (.inr ⟨j', hj⟩)
        · exact .inr h0
    cases q : hg ds[i] Γ2 with
    | none => rw [q] at po; exact po.elim
    | some Γ3 =>
      rw [q] at po
      refine ⟨memo o H1, Γ2, u2, o2, ds[i], Γ3, r', n', rx, q, fun σ3 o3 r3 _ => ⟨memo o H1, Γ3, u2, o3, r3, n', ?_⟩⟩
      show PostS X.K A (memo o H1) (mb Γ3 u2) _
      have po : PostS X.K A H0 (match mb Γ3 u2 with
        | .nx Γ u => forGo hg mb (ds.drop (i + 1)) Γ u
        | .ct Γ u => forGo hg mb (ds.drop (i + 1)) Γ u
        | .bk Γ u => .nx Γ u
        | .rt d u => .rt d u
        | .er x u => .er x u
        | .bad => .bad) D := po
      cases z : mb Γ3 u2 with
      | nx Γ4 u4 => rw [z] at po; exact fun σ4 H4 o4 r4 n4 => ⟨hlt, Γ4, u4, o4, r4, n4, po⟩
      | ct Γ4 u4 => rw [z] at po; exact fun σ4 H4 o4 r4 n4 => ⟨hlt, Γ4, u4, o4, r4, n4, po⟩
      | bk Γ4 u4 => rw [z] at po; exact fun σ4 H4 o4 r4 n4 => po σ4 H4 o4 (r4.wk em r.hz) n4
      | rt d u4 => rw [z] at po; exact fun v H4 e4 n4 q4 => po v H4 (em.trans e4) n4 q4
      | er x u4 => rw [z] at po; exact fun C dx H4 e4 n4 q4 => po C dx H4 (em.trans e4) n4 q4
      | bad => rw [z] at po; exact po
  · have ei : i = ds.length := by omega
    subst ei
    refine .inl ⟨wk.stop H2 fz, ?_⟩
    rw [List.drop_length] at po
    exact po σ2 H2 o2 (r2.wk em r.hz) n2
theorem sd_while {body : List Stmt} {mb : MS} {c : Expr} {mc : ME} (N : Nat) (hp : PassesOwn (model X.prog X.w) X.A X.env X.xe) (hc : TD A.g X c mc) (hb : SsD A X body mb) : SD A X (.While c body [] pos) (sWhile N mc mb) := by
  refine ⟨PS.imp (ps_while hp hc.pt hb.ps) fun D σ H h => ?_⟩
  obtain ⟨H0, Γ, u, o, r, n, post⟩ := h
  refine ⟨fun m σ H => ∃ Γ u o, RelS X.K A H0 o σ H Γ ∧ UrnAt A.g.U H u ∧ PostS X.K A H0 (whileGo mc mb m Γ u) D, ⟨N, Γ, u, o, r, n, post⟩, ?_⟩
  rintro m σ2 H2 ⟨Γ2, u2, o2, r2, n2, po⟩
  cases m with
  | zero => exact po.elim
  | succ m =>
    rw [whileGo] at po
    refine ⟨snapE Γ2, u2, A.Zc, r2.bsc n2, r2.snap, PostS.see po r2 fun d u1 v H1 e1 n1 r1 q post1 => ?_⟩
    subst q
    cases d with
    | false =>
      rw [if_neg Bool.false_ne_true] at post1 ⊢
      exact post1 _ _ _ r1 n1
    | true =>
      rw [if_pos rfl] at post1 ⊢
      refine ⟨fun σ' H' => ∃ Γ u o, RelS X.K A H0 o σ' H' Γ ∧ UrnAt A.g.U H' u ∧ PostS X.K A H0 (whileGo mc mb m Γ u) D, fun σ' H' w => ⟨m, Nat.lt_succ_self m, w⟩, H0, Γ2, u1, o2, r1, n1, ?_⟩
      cases z : mb Γ2 u1 with
      | nx Γ4 u4 => rw [z] at post1; exact fun σ4 H4 o4 r4 n4 => ⟨Γ4, u4, o4, r4, n4, post1⟩
      | ct Γ4 u4 => rw [z] at post1; exact fun σ4 H4 o4 r4 n4 => ⟨Γ4, u4, o4, r4, n4, post1⟩
      | bk Γ4 u4 => rw [z] at post1; exact post1
      | rt d u4 => rw [z] at post1; exact post1
      | er x u4 => rw [z] at post1; exact post1
      | bad => rw [z] at post1; exact post1
end
end Dn
namespace Dn
open PySem PySem.Spec PyProof.Rows L2

theorem startE_rel {K : PySem.W.Frag} {A : Act} {H : Hp} {N : List Str} {n : Nat} {ds : List D} {vs : List V} {u : Urn} (hn : N.length = n) (hl : ds.length ≤ n) (bs : Bs A.Zc A.g.U H u) (r : Reps K A.Zc A.g.U H ds vs) : RelS K A H (fun _ => none) (L2.start N vs) H (startE n ds) := by
  have hz : ∀ b, Zo A (fun _ => none) b → A.Zc b := fun b z => z.elim id fun ⟨i, e⟩ => by cases e
  refine ⟨bs.zu, bs.za, ?_, fun a i e => (by cases e), .refl, fun a e => ⟨_, bs.urn a e⟩, fun i s h => ?_⟩
  · unfold startE L2.start
    rw [List.length_append, List.length_append, List.length_map, List.length_map, List.length_replicate, List.length_replicate, r.len, hn]
  · unfold startE at h
    unfold L2.start
    by_cases hi : i < ds.length
    · rw [List.getElem?_append_left (by rw [List.length_map]; exact hi), List.getElem?_map] at h
      rw [List.getElem?_append_left (by rw [List.length_map, r.len]; exact hi), List.getElem?_map]
      cases q : ds[i]? with
      | none => rw [q] at h; cases h
      | some d =>
        rw [q] at h
        cases h
        obtain ⟨v, e1, r1⟩ := r.get q
        rw [e1]
        exact ⟨some v, rfl, v, rfl, r1.sub hz⟩
    · have hi' : ds.length ≤ i := by omega
      rw [List.getElem?_append_right (by rw [List.length_map]; exact hi'), List.length_map, List.getElem?_replicate] at h
      rw [List.getElem?_append_right (by rw [List.length_map, r.len]; exact hi'), List.length_map, List.getElem?_replicate, r.len, hn]
      split at h
      · rename_i hh
        rw [if_pos hh]
        cases h
        exact ⟨none, rfl, True.intro⟩
      · cases h
/-- the exceptions' data, less to avoid -/
def EaOk (EA : EAT) : Prop := ∀ (U : Option Addr) (Z Z' : AZ) (x : Er) (C : Value) (dx : Option Addr) (H : Hp), (∀ b, Z' b → Z b) → EA Z U x C dx H → EA Z' U x C dx H
section
variable {P : Program} {w : World} {K : PySem.W.Frag} {mg : Str → Option Value} {base : Heap} {EA : EAT}
/-- THE RULE for a def -/
theorem def_ok {x qual : Str} {st : Stmt} {f : Addr} {fd : FuncData} {N ps : List Str} {k n : Nat} {mb : MS} (F : Fun K x qual st f fd) (S : FnScope N ps (defScope st)) (hea : EaOk EA) (hn : N.length = n) (hpn : ps.length ≤ n)
    (body : ∀ (cdv : Value) (Ar : Around) (outer : List PySem.Env) (s : Shared) (H : Hp) (E : XK) (A : Act), A.g.W = E → A.g.EA = EA → Room k (Ar.deeper (envOfC qual (defScope st) s.heap.objs.size f cdv)) →
      SsD A (cxOf (L2.CX P w) P w K mg base N qual (defScope st) f cdv Ar outer s H E) (defBody st) mb) :
    FnOk P w K mg base (L2.CX P w) (k + 1) f fd ps (spF K EA ps.length (fn n ps.length mb)) := by
  refine F.okX S (fun vs H Q E h => h.1) fun cdv Ar outer s H vs Q E hr h => ?_
  obtain ⟨hl, ds, u, Z, U, bs, r, post⟩ := h
  let A : Act := ⟨⟨U, E, EA⟩, Z, fun Z Z' x C dx H => hea U Z Z' x C dx H⟩
  refine ⟨_, (body cdv Ar outer s H E A rfl rfl hr).ps, ?_⟩
  have hd : ds.length = ps.length := by rw [← r.len]; exact hl
  refine ⟨H, startE n ds, u, fun _ => none, startE_rel (A := A) hn (by omega) bs r, bs.urn, ?_⟩
  have post : PostE A.g (RD K A.g) Z H (if ds.length = ps.length then ret (mb (startE n ds) u) else .bad) Q := post
  rw [if_pos hd] at post
  cases q : mb (startE n ds) u with
  | nx Γ u1 => rw [q] at post; exact fun σ H1 o r1 n1 => post .non H1 r1.ext n1 (rep_non.mpr rfl)
  | rt d u1 => rw [q] at post; exact fun v H1 e1 n1 r1 => post v H1 e1 n1 r1
  | bk Γ u1 => rw [q] at post; exact post.elim
  | ct Γ u1 => rw [q] at post; exact post.elim
  | er x u1 => rw [q] at post; exact post
  | bad => rw [q] at post; exact post.elim
theorem cal_of {x qual : Str} {st : Stmt} {f : Addr} {fd : FuncData} {ps : List Str} {k : Nat} {F : Fn} (Fn : Fun K x qual st f fd) (g : mg x = some (.ref f)) (b : Binds K fd ps []) (h : FnOk P w K mg base (L2.CX P w) k f fd ps (spF K EA ps.length F)) : Cal P w K mg base EA x ps k F :=
  ⟨f, fd, h, g, Fn.kp, b, qual, st, Fn⟩
end
section
variable {X : Cx} {A : Act}
/-- tests of names by the kernel -/
def visB (sc : Scope) (x : Str) : Bool := match sc.names.lookup x with
  | some .local => true | some .cell => true | some .free => true | _ => false
theorem vis_of {sc : Scope} {x : Str} (h : visB sc x = true) : Vis sc x := by
  unfold visB at h
  split at h
  · exact .inl (by assumption)
  · exact .inr (.inl (by assumption))
  · exact .inr (.inr (by assumption))
  · cases h
end
end Dn
namespace Dn
open PySem PySem.Spec PyProof.Rows L2
section
variable {g : G} {X : Cx}
theorem lim_app {l xs : List D} {z : D} {u : Urn} : lim l (z :: xs) u = lim (l ++ [z]) xs u := by
  unfold lim
  have e : l.length + (z :: xs).length = (l ++ [z]).length + xs.length := by
    rw [List.length_append, List.length_singleton, List.length_cons]
    omega
  rw [e, List.append_assoc]
  rfl
theorem lim_conv {l : List D} {z : D} (o : Out (List D)) (K2 : Urn → Out (List D)) : ((((o.bind fun xs u => .ok (z :: xs) u).bind fun xs u => (K2 u).bind fun ys u => .ok (xs ++ ys) u).calm).bind fun xs u => lim l xs u) =
    (((o.bind fun xs u => (K2 u).bind fun ys u => .ok (xs ++ ys) u).calm).bind fun xs u => lim (l ++ [z]) xs u) := by
  cases o with
  | ok xs u =>
    cases q : K2 u with
    | ok ys u1 =>
      simp only [Out.bind_ok, q, Out.calm_ok]
      exact lim_app
    | er x u1 => simp only [Out.bind_ok, q]; rfl
    | bad => simp only [Out.bind_ok, q]; rfl
  | er x u => rfl
  | bad => rfl
theorem lim_bound {R : AZ → Hp → D → V → Prop} {Z : AZ} {H : Hp} {Q : VK} {l : List D} {o : Out (List D)} (h : PostE g R Z H ((o.calm).bind fun xs u => lim l xs u) Q) : l.length ≤ LN := by
  cases o with
  | ok xs u =>
    have h : PostE g R Z H (lim l xs u) Q := h
    unfold lim at h
    split at h
    · omega
    · exact h.elim
  | er x u => exact h.elim
  | bad => exact h.elim
theorem lc2_imp {mi mi1 : MEs} {gg gg1 : TG} {mc1 me : ME} {vs vs1 : List Nat} {σ : L2.St} {H : Hp} {Q : VK} (h : tF X.K g (mLc2 mi gg mi1 gg1 mc1 me vs vs1) σ H Q) : tLc2 (tI X.K g mi) (tG X.K g.no vs gg) tYes (tI X.K g.no mi1) (tG X.K g.no vs1 gg1) (tT X.K g.no mc1) (tE X.K g.no me) vs vs1 σ H Q := by
  obtain ⟨ρ, u, Z, bs, rel, post⟩ := h
  refine ⟨ρ, u, Z, bs, rel, PostE.bind post fun ds u1 J H1 e1 n1 rw1 post1 => ?_⟩
  obtain ⟨hl, wk⟩ := rw1
  have bs1 := bs.ext e1 n1
  have rel1 := (rel.ext bs e1).wipe vs
  intro D hD
  have hDU : g.U ≠ some D := fun e => by rw [n1 D e] at hD; cases hD
  have hZD : ∀ b, (Z b ∨ b = D) → Z b ∨ H1 b = none := fun b z => z.imp id fun e => by rw [e]; exact hD
  have relD : RelE X.K (fun b => Z b ∨ b = D) g.U (wipe σ vs) H1 (wipeE ρ vs) := rel1.grow hZD
  let W : Nat → Nat → Hp → Prop := fun i m Hc => m = ds.length - i ∧ i ≤ ds.length ∧ ∃ acc l u, Hc D = some (.lst acc) ∧ Reps X.K (fun b => Z b ∨ b = D) g.U Hc l acc ∧ Ext g.U H1 Hc ∧ UrnAt g.U Hc u ∧
    PostE g (RFr X.K g H) Z H1 (((lcGo2 gg mi1 gg1 mc1 me vs1 (wipeE ρ vs) (ds.drop i) u).calm).bind fun xs u => lim l xs u) Q
  refine ⟨W, ⟨ds.length, rfl, Nat.zero_le _, [], [], u1, upd_same, .nil, Ext.new hD, n1.ext hD, post1⟩, ?_⟩
  rintro i m Hc ⟨rfl, hi, acc, l, u2, hD2, rl, ex, un, po⟩
  have fz : Fz Z H1 Hc := fun b o n q => ex b o (fun z => n (bs1.zu b z)) q
  by_cases hlt : i < ds.length
  · refine .inr ⟨wk.go i Hc fz hlt, W (i + 1) (ds.length - (i + 1)), fun H' w => ⟨_, by omega, w⟩, fun x H' y => ?_⟩
    obtain ⟨k1, k2⟩ := wk.yld i Hc x H' ds[i] fz (List.getElem?_eq_getElem hlt) y
    rw [List.drop_eq_getElem_cons hlt, lcGo2] at po
    have bsc : Bs (fun b => Z b ∨ b = D) g.U Hc u2 := ⟨fun a e => .inl (bs1.zu a e), fun a z => by
      rcases z with z | z
      · exact (bs1.ext ex un).za a z
      · rw [z]; exact ⟨_, hD2⟩, un⟩
    have ex' : Ext g.U Hc H' := fun b o _ q => k1 b o q
    have un' : UrnAt g.U H' u2 := fun a e => k1 _ _ (un a e)
    have bs' := bsc.ext ex' un'
    have relc : RelE X.K (fun b => Z b ∨ b = D) g.U (wipe σ vs) H' (wipeE ρ vs) := by
      refine ⟨relD.1, fun j d q => ?_⟩
      obtain ⟨v, q1, q2⟩ := relD.2 j d q
      exact ⟨v, q1, q2.mono fun b o n q => k1 b o (ex b o (fun z => n (.inl (bs1.zu b z))) q)⟩
    have hD' : H' D = some (.lst acc) := k1 _ _ hD2
    have rl' : Reps X.K (fun b => Z b ∨ b = D) g.U H' l acc := rl.mono fun b o n q => k1 b o q
    cases q : gg ds[i] (wipeE ρ vs) with
    | none => rw [q] at po; exact po.elim
    | some ρ1 =>
      rw [q] at po
      refine ⟨wipeE ρ vs, u2, fun b => Z b ∨ b = D, ds[i], ρ1, bs', relc, k2 _ fun b z => ⟨hZD b z, bsc.za b z⟩, q, fun σ2 rel2 hw2 => ⟨hw2.trans wipe_idem, ?_⟩⟩
      dsimp only [tYes]
      rw [if_pos rfl]
      refine ⟨ρ1, u2, fun b => Z b ∨ b = D, bs', rel2, PostE.calmB po fun es u3 J1 H3 e3 n3 r3 po3 => ?_⟩
      obtain ⟨hl1, wk1⟩ := r3
      have bs3 := Bs.ext (g := g) bs' e3 n3
      have rel3 : RelE X.K (fun b => Z b ∨ b = D) g.U (wipe σ2 vs1) H3 (wipeE ρ1 vs1) := (RelE.ext (g := g) bs' e3 rel2).wipe vs1
      let W1 : Nat → Nat → Hp → Prop := fun j k Hd => k = es.length - j ∧ j ≤ es.length ∧ ∃ acc l u, Hd D = some (.lst acc) ∧ Reps X.K (fun b => Z b ∨ b = D) g.U Hd l acc ∧ (∀ b o, g.U ≠ some b → b ≠ D → H3 b = some o → Hd b = some o) ∧ UrnAt g.U Hd u ∧
        PostE g (RFr X.K g H) Z H1 ((((lcGo gg1 mc1 me (wipeE ρ1 vs1) (es.drop j) u).bind fun xs u => (lcGo2 gg mi1 gg1 mc1 me vs1 (wipeE ρ vs) (ds.drop (i + 1)) u).bind fun ys u => .ok (xs ++ ys) u).calm).bind fun xs u => lim l xs u) Q
      refine ⟨W1, ⟨es.length, rfl, Nat.zero_le _, acc, l, u3, e3 D _ hDU hD', Ext.reps (g := g) bs' e3 rl', fun b o _ _ q => q, n3, po3⟩, ?_⟩
      rintro j k Hd ⟨rfl, hj, acc2, l2, u4, hD4, rl4, ex4, un4, po4⟩
      have exd : Ext g.U H1 Hd := fun b o nb q => ex4 b o nb (ne_of_none q hD) (e3 b o nb (k1 b o (ex b o nb q)))
      have fz4 : Fz (fun b => Z b ∨ b = D) H3 Hd := fun b o n q => ex4 b o (fun z => n (.inl (bs1.zu b z))) (fun z => n (.inr z)) q
      have bs4 : Bs (fun b => Z b ∨ b = D) g.U Hd u4 := ⟨fun a e => .inl (bs1.zu a e), fun a z => by
        rcases z with z | z
        · exact (bs1.ext exd un4).za a z
        · rw [z]; exact ⟨_, hD4⟩, un4⟩
      by_cases hjt : j < es.length
      · refine .inr ⟨wk1.go j Hd fz4 hjt, W1 (j + 1) (es.length - (j + 1)), fun H' w => ⟨_, by omega, w⟩, fun x4 H5 y4 => ?_⟩
        obtain ⟨k3, k4⟩ := wk1.yld j Hd x4 H5 es[j] fz4 (List.getElem?_eq_getElem hjt) y4
        rw [List.drop_eq_getElem_cons hjt, lcGo] at po4
        have e5 : Ext g.U Hd H5 := fun b o _ q => k3 b o q
        have n5 : UrnAt g.U H5 u4 := fun a e => k3 _ _ (un4 a e)
        have bs5 := Bs.ext (g := g) bs4 e5 n5
        have rel5 : RelE X.K (fun b => Z b ∨ b = D) g.U (wipe σ2 vs1) H5 (wipeE ρ1 vs1) := by
          refine ⟨rel3.1, fun j d q => ?_⟩
          obtain ⟨v, q1, q2⟩ := rel3.2 j d q
          exact ⟨v, q1, q2.mono fun b o n q => k3 b o (fz4 b o n q)⟩
        have hD5 : H5 D = some (.lst acc2) := k3 _ _ hD4
        have rl5 : Reps X.K (fun b => Z b ∨ b = D) g.U H5 l2 acc2 := rl4.mono fun b o n q => k3 b o q
        cases q5 : gg1 es[j] (wipeE ρ1 vs1) with
        | none => rw [q5] at po4; exact po4.elim
        | some ρ3 =>
          rw [q5] at po4
          refine ⟨wipeE ρ1 vs1, u4, fun b => Z b ∨ b = D, es[j], ρ3, bs5, rel5, k4 _ fun b z => ⟨.inl z, bs4.za b z⟩, q5, fun σ5 rel6 hw6 => ⟨hw6.trans wipe_idem, ?_⟩⟩
          simp only [] at po4
          rw [Out.bind_assoc ((mc1 ρ3 u4).bind asB)] at po4
          refine ⟨ρ3, u4, fun b => Z b ∨ b = D, bs5, rel6, PostE.calmB po4 fun b u6 vb H6 e6 n6 r6 po6 => ?_⟩
          subst r6
          have bs6 := Bs.ext (g := g) bs5 e6 n6
          have rl6 : Reps X.K (fun b => Z b ∨ b = D) g.U H6 l2 acc2 := Ext.reps (g := g) bs5 e6 rl5
          have hD6 : H6 D = some (.lst acc2) := e6 D _ hDU hD5
          cases b with
          | false =>
            rw [if_neg Bool.false_ne_true] at po6
            rw [if_neg Bool.false_ne_true]
            exact ⟨rfl, hjt, acc2, l2, u6, hD6, rl6, fun b o nb nd q => e6 b o nb (k3 b o (ex4 b o nb nd q)), n6, po6⟩
          | true =>
            rw [if_pos rfl, Out.bind_assoc (me ρ3 u6)] at po6
            rw [if_pos rfl]
            refine ⟨ρ3, u6, fun b => Z b ∨ b = D, bs6, RelE.ext (g := g) bs5 e6 rel6, PostE.calmB po6 fun z u7 y7 H7 e7 n7 r7 po7 => ?_⟩
            rw [lim_conv] at po7
            have lb := lim_bound po7
            rw [List.length_append, List.length_singleton] at lb
            have hD7 : H7 D = some (.lst acc2) := e7 D _ hDU hD6
            have rl7 : Reps X.K (fun b => Z b ∨ b = D) g.U H7 l2 acc2 := Ext.reps (g := g) bs6 e7 rl6
            have upk : ∀ b o, ¬ (Z b ∨ b = D) → H7 b = some o → upd H7 D (.lst (acc2 ++ [y7])) b = some o := fun b o n q => by rw [upd_ne (fun e => n (.inr e))]; exact q
            refine ⟨acc2, hD7, by rw [rl7.len, LN_line]; omega, rfl, hjt, acc2 ++ [y7], l2 ++ [z], u7, upd_same, (rl7.mono upk).app (.cons (Rep.mono upk r7) .nil), fun b o nb nd q => ?_, fun a e => ?_, po7⟩
            · rw [upd_ne nd]
              exact e7 b o nb (e6 b o nb (k3 b o (ex4 b o nb nd q)))
            · rw [upd_ne (fun e2 => hDU (by rw [e, e2]))]
              exact n7 a e
      · have ej : j = es.length := by omega
        subst ej
        refine .inl ⟨wk1.stop Hd fz4, rfl, hlt, acc2, l2, u4, hD4, rl4, exd, un4, ?_⟩
        rw [List.drop_length] at po4
        have po4 : PostE g (RFr X.K g H) Z H1 ((((lcGo2 gg mi1 gg1 mc1 me vs1 (wipeE ρ vs) (ds.drop (i + 1)) u4).bind fun ys u => .ok ys u).calm).bind fun xs u => lim l2 xs u) Q := po4
        rw [Out.bind_ret] at po4
        exact po4
  · have ei : i = ds.length := by omega
    subst ei
    refine .inl ⟨wk.stop Hc fz, ?_⟩
    rw [List.drop_length] at po
    have po : PostE g (RFr X.K g H) Z H1 (lim l [] u2) Q := po
    unfold lim at po
    split at po
    · rw [List.append_nil] at po
      have nz : ¬ Z D := fun z => by
        obtain ⟨o, q⟩ := bs1.za D z
        rw [hD] at q
        cases q
      exact po (.ref D) Hc ex un ⟨l, acc, D, rfl, rfl, e1.none bs.urn n1 hD, nz, hD2, rl⟩
    · exact po.elim
theorem fd_lc2 {elt tg iter tg1 iter1 : Expr} {ifs1 : List Expr} {scope : Scope} {own : List (Str × Nat)} {vs1 : List Nat} {pos : Pos} {mi mi1 : MEs} {gg gg1 : TG} {mc1 me : ME} (hc : X.calm = true) (hN : X.N.Nodup) (hi : ID g X tg iter mi) (ok : BlkOk X.N X.env.scope scope own) (hv : ∀ i ∈ vs1, i ∈ own.map (·.2))
    (hg : ∀ (s : Shared) (H : Hp) (C : Addr) (cl : List (Str × Addr)) (fp : List Addr), GD g.no (X.blk s H scope (compEnvC scope cl C X.env) fp) (own.map (·.2)) tg gg)
    (hi1 : ∀ (s : Shared) (H : Hp) (C : Addr) (cl : List (Str × Addr)) (fp : List Addr), ID g.no (X.blk s H scope (compEnvC scope cl C X.env) fp) tg1 iter1 mi1)
    (hg1 : ∀ (s : Shared) (H : Hp) (C : Addr) (cl : List (Str × Addr)) (fp : List Addr), GD g.no (X.blk s H scope (compEnvC scope cl C X.env) fp) vs1 tg1 gg1)
    (ht1 : ∀ (s : Shared) (H : Hp) (C : Addr) (cl : List (Str × Addr)) (fp : List Addr), CD g.no (X.blk s H scope (compEnvC scope cl C X.env) fp) ifs1 mc1)
    (he : ∀ (s : Shared) (H : Hp) (C : Addr) (cl : List (Str × Addr)) (fp : List Addr), ED g.no (X.blk s H scope (compEnvC scope cl C X.env) fp) elt me) (hs : ∀ x, foldedSetIterable iter X.env x = pure x := by intro _; rfl) (hs1 : ∀ env x, foldedSetIterable iter1 env x = pure x := by intro _ _; rfl) :
    FD g X (.ListComp elt [⟨tg, iter, [], 0⟩, ⟨tg1, iter1, ifs1, 0⟩] scope pos) (mLc2 mi gg mi1 gg1 mc1 me (own.map (·.2)) vs1) := by
  exact ⟨PE.imp (pe_lc2 (g := tG X.K g.no (own.map (·.2)) gg) (tt := tYes) (wi1 := tI X.K g.no mi1) (g1 := tG X.K g.no vs1 gg1) (tt1 := tT X.K g.no mc1) (te := tE X.K g.no me) hc hN hi.pi ok hv (fun s H C cl fp => (hg s H C cl fp).pg) (fun s H C cl fp => pts_nil)
    (fun s H C cl fp => (hi1 s H C cl fp).pi) (fun s H C cl fp => (hg1 s H C cl fp).pg) (fun s H C cl fp => (ht1 s H C cl fp).pts) (fun s H C cl fp => (he s H C cl fp).pe) hs hs1) fun σ H Q h => lc2_imp h⟩
end
end Dn
namespace Dn
open PySem PySem.Spec PyProof.Rows L2
/-! ### sum of a list of lists -/
section
variable {prog : Program} {w : World} {A : Around}
theorem args_sum2 (a b : Value) : argsOk "sum" ⟨[a, b], []⟩ := by unfold argsOk; kernel_rfl
/-- every item is a list that stands, in all the concatenation of cs -/
def Parts (h : Heap) : List Value → List (List Value) → Prop
  | [], cs => cs = []
  | v :: vs, cs => ∃ b c r n, cs = c :: r ∧ v = .ref b ∧ IsL h b c.toArray n ∧ Parts h vs r
theorem Parts.at {h : Heap} : ∀ {vs : List Value} {cs : List (List Value)} {i : Nat} {v : Value}, Parts h vs cs → vs[i]? = some v → ∃ b c n, v = .ref b ∧ cs[i]? = some c ∧ IsL h b c.toArray n
  | [], cs, i, v, p, e => by simp at e
  | x :: vs, cs, 0, v, p, e => by
    rw [Parts] at p
    obtain ⟨b, c, r, n, rfl, rfl, h1, h2⟩ := p
    simp at e
    exact ⟨b, c, n, e.symm, rfl, h1⟩
  | x :: vs, cs, i + 1, v, p, e => by
    rw [Parts] at p
    obtain ⟨b, c, r, n, rfl, rfl, h1, h2⟩ := p
    obtain ⟨b', c', n', e1, e2, e3⟩ := Parts.at (i := i) h2 (by simpa using e)
    exact ⟨b', c', n', e1, by simpa using e2, e3⟩
theorem Parts.len {h : Heap} : ∀ {vs : List Value} {cs : List (List Value)}, Parts h vs cs → cs.length = vs.length
  | [], cs, p => by rw [Parts] at p; rw [p]; rfl
  | x :: vs, cs, p => by
    rw [Parts] at p
    obtain ⟨b, c, r, n, rfl, rfl, h1, h2⟩ := p
    rw [List.length_cons, List.length_cons, h2.len]
theorem code_sumL {R : Result → Shared → Prop} {I l S : Addr} {vs : List Value} {cs : List (List Value)} {s0 : Shared} (W : Walks prog w A.in1 I [I, l] [I] vs.length (fun i v => vs[i]? = some v) (fun i h => h.IsListIter I l i ∧ h.IsList l vs.toArray))
    (P : Parts s0.heap vs cs) (hI : s0.heap.objs.size ≤ I) (hS : s0.heap.objs.size ≤ S) (hl : l < s0.heap.objs.size) (hIS : I ≠ S) (hsz : cs.flatten.length ≤ sizeLine) :
    ∀ (k i : Nat) (s : Shared) (a : Addr) (m c : Nat), vs.length - i = k → i ≤ vs.length → (s.heap.IsListIter I l i ∧ s.heap.IsList l vs.toArray) → s.heap.get? S = some { cls := .type "list", dict := none, data := .seq #[.ref a] c, slots := #[] } →
    (∀ b o, s0.heap.get? b = some o → s.heap.get? b = some o) → a ≠ I → a ≠ S → IsL s.heap a ((cs.take i).flatten).toArray m → (0 < i → s0.heap.objs.size ≤ a) →
    (∀ h' tk a' m', (∀ b o, s0.heap.get? b = some o → h'.get? b = some o) → IsL h' a' cs.flatten.toArray m' → (vs ≠ [] → s0.heap.objs.size ≤ a') → (vs = [] → a' = a) → R (.ok (.ret (.ref a'))) { s with heap := h', toks := tk }) →
    codeAny (model prog w) A (.builtin "sum.loop" ⟨[.ref I, .ref S, rawInt 2, rawInt 0], []⟩) R s := by
  intro k
  induction k with
  | zero =>
    intro i s a m c hk hi hst hSc hold haI haS hal han hR
    have hin : i = vs.length := by omega
    subst hin
    refine codeAny_builtin F.entry_sum_loop ?_
    rw [Around.under_plainId F.plain_sum_loop _]
    show wpAny _ A.in1 (seqItems? (.ref S) >>= _) _ _ s
    refine wpAny_bind (wpAny_seqItems hSc rfl ?_)
    show wpAny _ A.in1 (tryCatch (pyNext (.ref I)) _ >>= _) _ _ s
    refine wpAny_bind (wpAny_tryCatch (W.done s _ _ hst fun h' tk hk' => ?_))
    have ef : cs.take vs.length = cs := by rw [← P.len, List.take_length]
    rw [ef] at hal
    refine wpAny_pure (hR h' tk a m (fun b o e => hk' b o (by
      intro hb
      rw [List.mem_singleton] at hb
      exact absurd hI (Nat.not_le_of_lt (by rw [← hb]; exact Heap.lt_size e))) (hold b o e)) (hk' a _ (by rw [List.mem_singleton]; exact haI) hal) (fun hne => han (List.length_pos_iff.mpr hne)) fun _ => rfl)
  | succ k ih =>
    intro i s a m c hk hi hst hSc hold haI haS hal han hR
    have hlt : i < vs.length := by omega
    refine codeAny_builtin F.entry_sum_loop ?_
    rw [Around.under_plainId F.plain_sum_loop _]
    show wpAny _ A.in1 (seqItems? (.ref S) >>= _) _ _ s
    refine wpAny_bind (wpAny_seqItems hSc rfl ?_)
    show wpAny _ A.in1 (tryCatch (pyNext (.ref I)) _ >>= _) _ _ s
    refine wpAny_bind (wpAny_tryCatch (W.item i s _ _ hlt hst fun v h' tk hP hst' hk' => ?_))
    obtain ⟨b, cb, nb, rfl, ec, hb⟩ := P.at hP
    have hS' := hk' S _ (by rw [List.mem_singleton]; exact Ne.symm hIS) hSc
    have ha' := hk' a _ (by rw [List.mem_singleton]; exact haI) hal
    have hold' : ∀ b o, s0.heap.get? b = some o → h'.get? b = some o := fun b o e => hk' b o (by
      intro hb
      rw [List.mem_singleton] at hb
      exact absurd hI (Nat.not_le_of_lt (by rw [← hb]; exact Heap.lt_size e))) (hold b o e)
    have hb' := hold' b _ hb
    have ef : ((cs.take i).flatten).toArray ++ cb.toArray = ((cs.take (i + 1)).flatten).toArray := by
      rw [List.take_add_one, ec, Option.toList, List.flatten_append]
      simp
    have hlen : ((cs.take (i + 1)).flatten).length ≤ cs.flatten.length := by
      conv => rhs; rw [← List.take_append_drop (i + 1) cs, List.flatten_append, List.length_append]
      omega
    show wpAny _ A.in1 ((holding [Value.ref b] (binaryOp .Add (.ref a) (.ref b))).attempt >>= _) _ _ _
    refine wpAny_bind (wpAny_attempt (wpAny_holding (PySem.P.add_list ha' hb' ?_ ?_)))
    · rw [ef]
      show wpAny _ A.in1 (updateSeq S (fun _ => #[.ref h'.objs.size]) >>= _) _ _ _
      have hS1 : (h'.push { cls := .type "list", data := .seq ((cs.take (i + 1)).flatten).toArray }).get? S = _ := Heap.get?_push_of_some _ hS'
      refine wpAny_bind ?_
      refine wpAny_updateSeq hS1 rfl ?_
      have hS2 := Heap.get?_update_self (Obj.mapSeq fun _ => #[Value.ref h'.objs.size]) hS1 rfl
      refine wpAny_bind (wpAny_letGo ?_)
      refine wpAny_bind ?_
      have hSh : S < h'.objs.size := Heap.lt_size hS'
      have hIh : I < h'.objs.size := by obtain ⟨o, e, _⟩ := hst'.1; exact Heap.lt_size e
      have hsz' : s0.heap.objs.size ≤ h'.objs.size := Nat.le_of_lt (Nat.lt_of_le_of_lt hS hSh)
      have ku : ∀ b o, b ≠ S → h'.get? b = some o → (((h'.push { cls := .type "list", data := .seq ((cs.take (i + 1)).flatten).toArray }).update S (Obj.mapSeq fun _ => #[Value.ref h'.objs.size])).update S (Obj.mapSeq fun _ => #[Value.ref h'.objs.size])).get? b = some o := fun b o nb e =>
        (Heap.get?_update_other _ _ (Ne.symm nb)).trans ((Heap.get?_update_other _ _ (Ne.symm nb)).trans (Heap.get?_push_of_some _ e))
      refine wpAny_updateSeq hS2 rfl (wpAny_pure ⟨plainId_quiet F.plain_sum_loop _, ih (i + 1) _ h'.objs.size 0 _ (by omega) hlt (W.frame _ _ _ hst' fun b hb o e => ku b o (by
          rcases List.mem_cons.mp hb with q | hb
          · rw [q]; exact hIS
          · rw [List.mem_singleton] at hb
            rw [hb]
            exact Nat.ne_of_lt (Nat.lt_of_lt_of_le hl hS)) e) (Heap.get?_update_self _ hS2 rfl) (fun b o e => ku b o (Nat.ne_of_lt (Nat.lt_of_lt_of_le (Heap.lt_size e) hS)) (hold' b o e)) (Ne.symm (Nat.ne_of_lt hIh)) (Ne.symm (Nat.ne_of_lt hSh)) ?_ (fun _ => hsz') fun h'' tk'' a'' m'' k1 k2 k3 k4 => ?_⟩)
      · have hpn : (h'.push { cls := .type "list", data := .seq ((cs.take (i + 1)).flatten).toArray }).get? h'.objs.size = _ := Heap.get?_push_size _ rfl
        exact (Heap.get?_update_other _ _ (Nat.ne_of_lt hSh)).trans ((Heap.get?_update_other _ _ (Nat.ne_of_lt hSh)).trans hpn)
      · refine hR h'' tk'' a'' m'' k1 k2 k3 fun e => ?_
        rw [e] at hlt
        exact absurd hlt (Nat.not_lt_zero _)
    · have := congrArg Array.size ef
      rw [Array.size_append] at this
      rw [this, List.size_toArray]
      omega
theorem sumL_raw {E : Value → Shared → Prop} {s : Shared} {l a : Addr} {vs : List Value} {cs : List (List Value)} {n m : Nat} {Q : Value → Shared → Prop} (hh : A.handled = none) (hl : s.heap.IsList l vs.toArray) (P : Parts s.heap vs cs) (ha : IsL s.heap a #[] m) (hsz : cs.flatten.length ≤ sizeLine)
    (h : ∀ h' tk a' m', (∀ b o, s.heap.get? b = some o → h'.get? b = some o) → IsL h' a' cs.flatten.toArray m' → (vs ≠ [] → s.heap.objs.size ≤ a') → (vs = [] → a' = a) → Q (.ref a') { s with heap := h', toks := tk }) :
    wpAny (model prog w) A (call (.builtin "sum") [.ref l, .ref a]) Q E s := by
  refine call_function_tree F.kind_sum F.plain_sum F.entry_sum (args_sum2 _ _) ?_
  unfold Builtin.«sum»
  simp only [List.length_cons, List.length_nil]
  rw [if_neg (by decide)]
  refine wpAny_bind (wpAny_of_eq (show Builtin.Builtins.bindParams "sum" ["start"] 0 ⟨[.ref a], []⟩ = pure [some (.ref a)] from rfl) ?_)
  refine wpAny_bind ((begins_list l vs.toArray).iter prog w _ _ s _ hl ?_)
  have lls : l < s.heap.objs.size := by obtain ⟨o, e, _⟩ := hl; exact Heap.lt_size e
  have las : a < s.heap.objs.size := Heap.lt_size ha
  have hty : Shared.TypeIs { s with heap := s.heap.push { cls := .type "list_iterator", data := .fields #[.ref l, .int 0 0] } } (.ref a) "list" := ⟨_, Heap.get?_push_of_some _ ha, rfl⟩
  refine wpAny_bind (wpAny_pure ?_)
  simp only [List.forIn_cons, List.forIn_nil]
  refine wpAny_bind (wpAny_bind (wpAny_bind (wpAny_isInstance (T := "list") (b := false) hty F.sub_list_str ?_)))
  simp only [Bool.false_eq_true, if_false]
  refine wpAny_pure (wpAny_bind (wpAny_bind (wpAny_isInstance (T := "list") (b := false) hty F.sub_list_bytes ?_)))
  simp only [Bool.false_eq_true, if_false]
  refine wpAny_pure (wpAny_bind (wpAny_bind (wpAny_isInstance (T := "list") (b := false) hty F.sub_list_bytearray ?_)))
  simp only [Bool.false_eq_true, if_false]
  refine wpAny_pure (wpAny_pure ?_)
  refine wpAny_bind (wpAny_newObj_type ?_)
  have hp : (s.heap.push { cls := .type "list_iterator", data := .fields #[.ref l, .int 0 0] }).objs.size = s.heap.objs.size + 1 := Heap.size_push ..
  have kp : ∀ b o, s.heap.get? b = some o → ((s.heap.push { cls := .type "list_iterator", data := .fields #[.ref l, .int 0 0] }).push { cls := .type "list", data := .seq #[Value.ref a] }).get? b = some o := fun b o e => Heap.get?_push_of_some _ (Heap.get?_push_of_some _ e)
  have W := Walks.list (prog := prog) (w := w) (A := A.in1) hh s.heap.objs.size l (Nat.ne_of_lt lls) vs.toArray
  simp only [List.size_toArray, List.getElem?_toArray] at W
  refine wpAny_pure ⟨plainId_quiet F.plain_sum_loop _, code_sumL (s0 := s) (cs := cs) W P (Nat.le_refl _) (by rw [hp]; exact Nat.le_succ _) lls (by rw [hp]; exact Nat.ne_of_lt (Nat.lt_succ_self _)) hsz vs.length 0 _ a m _ rfl (Nat.zero_le _)
    ⟨⟨_, Heap.get?_push_of_some _ (Heap.get?_push_size _ rfl), rfl, rfl⟩, hl.at fun o e => kp l o e⟩ (Heap.get?_push_size _ rfl) kp (Nat.ne_of_lt las) (by rw [hp]; exact Nat.ne_of_lt (Nat.lt_succ_of_lt las)) (kp a _ ha) (fun z => absurd z (Nat.lt_irrefl _)) fun h' tk a' m' k1 k2 k3 k4 => ?_⟩
  exact h h' tk a' m' k1 k2 k3 k4
end
section
variable {g : G} {X : Cx}
theorem reps_cat {pins : List (Addr × Obj)} {σ : L2.St} {H : Hp} {s : Shared} {Z : AZ} (I : L2.Inv X pins σ H s) : ∀ {l : List D} {m : List D} {xs : List V} {us : List Value}, cat2 l = some m → Reps X.K Z g.U H l xs → Vals xs us → ∃ (ys : List V) (cs : List (List Value)), Reps X.K Z g.U H m ys ∧ Parts s.heap us cs ∧ Vals ys cs.flatten
  | [], m, xs, us, e, r, v => by
    rw [cat2] at e
    cases e
    rw [Reps] at r
    subst r
    cases v
    exact ⟨[], [], .nil, by rw [Parts], .nil⟩
  | .lst a :: l, m, xs, us, e, r, v => by
    rw [cat2] at e
    cases q : cat2 l with
    | none => rw [q] at e; cases e
    | some m1 =>
      rw [q] at e
      cases e
      rw [Reps] at r
      obtain ⟨x, ys, rfl, r1, r2⟩ := r
      cases v with
      | cons v1 v2 =>
        obtain ⟨zs, cs, k1, k2, k3⟩ := reps_cat I q r2 v2
        obtain ⟨p, ws, rfl, ⟨_, hp⟩, rw1⟩ := rep_lst.mp r1
        obtain ⟨_, its, n, rv, ep⟩ := I.hok _ _ hp
        cases v1
        refine ⟨ws ++ zs, its :: cs, rw1.app k1, ?_, ?_⟩
        · rw [Parts]
          exact ⟨p, its, cs, n, rfl, rfl, ep, k2⟩
        · rw [List.flatten_cons]
          exact rv.append k3
  | .non :: l, m, xs, us, e, r, v => by rw [cat2] at e; cases e; intro _ h; cases h
  | .bl _ :: l, m, xs, us, e, r, v => by rw [cat2] at e; cases e; intro _ h; cases h
  | .int _ :: l, m, xs, us, e, r, v => by rw [cat2] at e; cases e; intro _ h; cases h
  | .str _ :: l, m, xs, us, e, r, v => by rw [cat2] at e; cases e; intro _ h; cases h
  | .tup _ :: l, m, xs, us, e, r, v => by rw [cat2] at e; cases e; intro _ h; cases h
  | .dct _ _ :: l, m, xs, us, e, r, v => by rw [cat2] at e; cases e; intro _ h; cases h
  | .urn :: l, m, xs, us, e, r, v => by rw [cat2] at e; cases e; intro _ h; cases h
  | .scr _ :: l, m, xs, us, e, r, v => by rw [cat2] at e; cases e; intro _ h; cases h
theorem cd_sumL (hc : X.calm = true) : CallR X (.builtin "sum") (rB X.K g fSumL) := by
  intro pins s σ H xs us Q I r h
  obtain ⟨Z, un, ds, d, bs, rs, e, q⟩ := h
  unfold fSumL at e
  split at e
  · rename_i l
    split at e
    · rename_i m hm
      split at e
      · rename_i hz
        cases e
        obtain ⟨x, y, rfl, h1, h2⟩ := reps2 rs
        obtain ⟨a, ys, rfl, ⟨na, qa⟩, ra⟩ := rep_lst.mp h1
        obtain ⟨b, zs, rfl, ⟨nb, qb⟩, rb⟩ := rep_lst.mp h2
        rw [Reps] at rb
        subst rb
        cases r with
        | cons r1 r2 =>
          cases r2 with
          | cons r2 r3 =>
            cases r3
            cases r1
            cases r2
            obtain ⟨_, its, n, rv, ep⟩ := I.hok _ _ qa
            obtain ⟨_, its2, n2, rv2, ep2⟩ := I.hok _ _ qb
            cases rv2
            obtain ⟨ws, cs, k1, k2, k3⟩ := reps_cat (g := g) I hm ra rv
            have hl := k1.len
            have hl2 := k3.length
            have hsz : cs.flatten.length ≤ sizeLine := by rw [← hl2, hl, LN_line]; exact hz
            refine sumL_raw (n := 0) (I.ok.hd hc) ⟨_, ep, rfl, n, rfl⟩ k2 ep2 hsz fun h' tk a' m' hk ha' p1 p2 => ?_
            by_cases he : its = []
            · have ea := p2 he
              subst ea
              subst he
              cases rv
              have hl0 : l = [] := by
                cases l with
                | nil => rfl
                | cons _ _ => rw [Reps] at ra; obtain ⟨_, _, z, _⟩ := ra; cases z
              subst hl0
              rw [cat2] at hm
              cases hm
              exact ⟨.ref _, H, I.kept (t' := tk) hk, rfl, q _ H .refl bs.urn h2⟩
            · have hge := p1 he
              have hp : H a' = none := I.hok.fresh hge
              refine ⟨.ref a', upd H a' (.lst ws), I.laid (t' := tk) hk hge (show ObjOk X.prog X.w _ _ _ (.lst ws) from ⟨by rw [hl2]; exact hsz, cs.flatten, m', k3, ha'⟩), rfl, q _ _ (Ext.new hp) (bs.urn.ext hp) (new_lst bs hp k1)⟩
      · cases e
    · cases e
  · cases e
end
end Dn
namespace Dn
open PySem PySem.Spec PyProof.Rows L2
section
variable {g : G} {X : Cx} {a b c e : Expr} {ma mb mc : ME} {pos : Pos}
theorem ed_chain2 {op op' : CmpOp} {f f' : D → D → Option D} (ho : OpR X (compareOp op) (rOp X.K g f)) (ho' : OpR X (compareOp op') (rOp X.K g f')) (ha : ED g X a ma) (hb : ED g X b mb) (hc : ED g X c mc)
    (hm : lastMarks [op, op'] [b, c] = false := by with_unfolding_all rfl) : ED g X (.Compare a [op, op'] [b, c] pos) (mChain f f' ma mb mc) :=
  ed_chain ho ho' ha hb hc (pe_chain ho ho' ha.pe hb.pe hc.pe hm)
theorem imp_chain {f f' : D → D → Option D} {σ : L2.St} {H : Hp} {Q : VK} (h : tE X.K g (mChain f f' ma mb mc) σ H Q) : tChain (rOp X.K g f) (rOp X.K g f') (tE X.K g ma) (tE X.K g mb) (tE X.K g mc) σ H Q := by
  obtain ⟨ρ, u, Z, bs, rel, post⟩ := h
  refine ⟨ρ, u, Z, bs, rel, post.bind fun d u1 v H1 e1 n1 r1 post1 => ?_⟩
  have bs1 := bs.ext e1 n1
  refine ⟨ρ, u1, Z, bs1, rel.ext bs e1, post1.bind fun d2 u2 v2 H2 e2 n2 r2 post2 => ?_⟩
  have bs2 := bs1.ext e2 n2
  cases q : f d d2 with
  | none => rw [q] at post2; exact post2.elim
  | some z =>
    rw [q] at post2
    refine ⟨Z, u2, d, d2, z, bs2, e2.rep bs1 r1, r2, q, fun v3 H3 e3 n3 r3 => ?_⟩
    have bs3 := bs2.ext e3 n3
    cases z with
    | bl k =>
      refine ⟨k, rep_bl.mp r3, ?_⟩
      cases k with
      | true =>
        rw [if_pos rfl]
        have post3 := PostE.ext e3 post2
        refine ⟨ρ, u2, Z, bs3, ((rel.ext bs e1).ext bs1 e2).ext bs2 e3, PostE.bind post3 fun d4 u4 v4 H4 e4 n4 r4 post4 => ?_⟩
        have bs4 := bs3.ext e4 n4
        cases q2 : f' d2 d4 with
        | none => rw [q2] at post4; exact post4.elim
        | some z2 =>
          rw [q2] at post4
          exact ⟨Z, u4, d2, d4, z2, bs4, e4.rep bs3 (e3.rep bs2 r2), r4, q2, post4⟩
      | false =>
        rw [if_neg Bool.false_ne_true]
        exact post2 _ H3 e3 n3 (rep_bl.mpr rfl)
    | _ => exact post2.elim
theorem td_chain {op op' : CmpOp} {f f' : D → D → Option D} (ho : OpR X (compareOp op) (rOp X.K g f)) (ho' : OpR X (compareOp op') (rOp X.K g f')) (ha : ED g X a ma) (hb : ED g X b mb) (hc : ED g X c mc)
    (hm : lastMarks [op, op'] [b, c] = false := by with_unfolding_all rfl) : TD g X (.Compare a [op, op'] [b, c] pos) (mChain f f' ma mb mc) := by
  refine ⟨PT.imp (pt_chain ho ho' ha.pe hb.pe hc.pe hm) fun σ H Q h => ?_⟩
  have := imp_tst h
  obtain ⟨ρ, u, Z, bs, rel, post⟩ := this
  exact imp_chain (Q := fun x H' => ∃ k, x = .bl k ∧ Q k H') ⟨ρ, u, Z, bs, rel, post⟩
theorem td_isN {j pos'} (ha : ED g X a ma) : TD g X (.Compare a [.Is] [.Constant .none j pos'] pos) (mIsN ma) := by
  refine ⟨PT.imp (pt_cmp (pc_isN ha.pe) rfl) fun σ H Q h => ?_⟩
  have := imp_tst h
  obtain ⟨ρ, u, Z, bs, rel, post⟩ := this
  refine ⟨ρ, u, Z, bs, rel, post.bind fun d u1 v H1 e1 n1 r1 post1 => ?_⟩
  rw [rep_isN r1]
  exact post1 _ H1 .refl n1 (rep_bl.mpr rfl)
theorem td_notN {j pos'} (ha : ED g X a ma) : TD g X (.Compare a [.IsNot] [.Constant .none j pos'] pos) (mNotN ma) := by
  refine ⟨PT.imp (pt_cmp (pc_notN ha.pe) rfl) fun σ H Q h => ?_⟩
  have := imp_tst h
  obtain ⟨ρ, u, Z, bs, rel, post⟩ := this
  refine ⟨ρ, u, Z, bs, rel, post.bind fun d u1 v H1 e1 n1 r1 post1 => ?_⟩
  rw [rep_isN r1]
  exact post1 _ H1 .refl n1 (rep_bl.mpr rfl)

/-! ### list(range(..)), tuple(range(..)) -/
theorem rng_reps {K : PySem.W.Frag} {Z : AZ} {U : Option Addr} {H : Hp} (lo hi : Int) : Reps K Z U H (rng lo hi) (rgV lo hi) := by
  refine .of_at ?_ fun i d x h1 h2 => ?_
  · unfold rng rgV; rw [List.length_map, List.length_map]
  · unfold rng at h1
    unfold rgV at h2
    rw [List.getElem?_map] at h1 h2
    cases q : (List.range (hi - lo).toNat)[i]? with
    | none => rw [q] at h1; cases h1
    | some k =>
      rw [q] at h1 h2
      cases h1
      cases h2
      exact rep_int.mpr rfl
theorem rOk_rg {lo hi : Int} (h : rOk lo hi = true) : RgOk lo hi := by
  unfold rOk at h
  rw [Bool.and_eq_true, Bool.and_eq_true, Bool.and_eq_true] at h
  have h1 := of_decide_eq_true h.1.1.1
  have h2 := of_decide_eq_true h.1.1.2
  have h3 := of_decide_eq_true h.1.2
  have h4 := of_decide_eq_true h.2
  exact ⟨by omega, by omega, by omega, by omega, by omega⟩
theorem fd_listR1 {p p2 p3 : Pos} (hc : X.calm = true) (hg : Gl X "list") (hm : X.mg "list" = none) (hgr : Gl X "range") (hmr : X.mg "range" = none) (ha : ED g X a ma) (na : starEach [Expr.Call (.Name "range" p2) [a] [] p3] X.env = (false, eval (Expr.Call (.Name "range" p2) [a] [] p3) X.env) :: starEach [] X.env := by rfl)
    (na2 : starEach [a] X.env = (false, eval a X.env) :: starEach [] X.env := by rfl) : FD g X (.Call (.Name "list" p) [.Call (.Name "range" p2) [a] [] p3] [] pos) (mLstI (iRng (mCons ma mNil))) := by
  refine ⟨PE.imp (pe_listRg hc hg hm (prg_1 hgr hmr ha.pe na2) na) fun σ H Q h => ?_⟩
  obtain ⟨ρ, u, Z, bs, rel, post⟩ := h
  have post : PostE g (RFr X.K g H) Z H ((ma ρ u).bind fun x u => (match [x] with
    | [.int hi] => if rOk 0 hi then Out.ok (rng 0 hi) u else .bad
    | [.int lo, .int hi] => if rOk lo hi then .ok (rng lo hi) u else .bad
    | _ => .bad : Out (List D)).bind fun xs u => .ok (D.lst xs) u) Q := by
    unfold mLstI iRng mCons mNil at post
    simp only [Out.bind_assoc, Out.bind_ok] at post
    exact post
  refine ⟨ρ, u, Z, bs, rel, PostE.bind post fun d u1 v H1 e1 n1 r1 post1 => ?_⟩
  have bs1 := bs.ext e1 n1
  cases d with
  | int hi =>
    have post1 : PostE g (RFr X.K g H) Z H1 ((if rOk 0 hi then Out.ok (rng 0 hi) u1 else .bad : Out (List D)).bind fun xs u => .ok (D.lst xs) u) Q := post1
    split at post1
    · rename_i hk
      refine ⟨hi, rep_int.mp r1, rOk_rg hk, fun q hq => ?_⟩
      exact post1 _ _ (Ext.new hq) (n1.ext hq) (fr_new bs e1 bs1 hq (rng_reps 0 hi))
    · exact post1.elim
  | _ => exact post1.elim
theorem fd_listR2 {p p2 p3 : Pos} (hc : X.calm = true) (hg : Gl X "list") (hm : X.mg "list" = none) (hgr : Gl X "range") (hmr : X.mg "range" = none) (ha : ED g X a ma) (hb : ED g X b mb) (na : starEach [Expr.Call (.Name "range" p2) [a, b] [] p3] X.env = (false, eval (Expr.Call (.Name "range" p2) [a, b] [] p3) X.env) :: starEach [] X.env := by rfl)
    (na2 : starEach [a, b] X.env = (false, eval a X.env) :: starEach [b] X.env := by rfl) (nb2 : starEach [b] X.env = (false, eval b X.env) :: starEach [] X.env := by rfl) (hp : (backTo p3 (starEach [b] X.env)).any (·.1) = false := by rfl) : FD g X (.Call (.Name "list" p) [.Call (.Name "range" p2) [a, b] [] p3] [] pos) (mLstI (iRng (mCons ma (mCons mb mNil)))) := by
  refine ⟨PE.imp (pe_listRg hc hg hm (prg_2 hgr hmr ha.pe hb.pe na2 nb2 hp) na) fun σ H Q h => ?_⟩
  obtain ⟨ρ, u, Z, bs, rel, post⟩ := h
  have post : PostE g (RFr X.K g H) Z H ((ma ρ u).bind fun x u => (mb ρ u).bind fun y u => (match [x, y] with
    | [.int hi] => if rOk 0 hi then Out.ok (rng 0 hi) u else .bad
    | [.int lo, .int hi] => if rOk lo hi then .ok (rng lo hi) u else .bad
    | _ => .bad : Out (List D)).bind fun xs u => .ok (D.lst xs) u) Q := by
    unfold mLstI iRng mCons at post
    unfold mNil at post
    simp only [Out.bind_assoc, Out.bind_ok] at post
    exact post
  refine ⟨ρ, u, Z, bs, rel, PostE.bind post fun d u1 v H1 e1 n1 r1 post1 => ?_⟩
  have bs1 := bs.ext e1 n1
  refine ⟨ρ, u1, Z, bs1, rel.ext bs e1, PostE.bind post1 fun d2 u2 v2 H2 e2 n2 r2 post2 => ?_⟩
  have bs2 := bs1.ext e2 n2
  cases d with
  | int lo =>
    cases d2 with
    | int hi =>
      have post2 : PostE g (RFr X.K g H) Z H2 ((if rOk lo hi then Out.ok (rng lo hi) u2 else .bad : Out (List D)).bind fun xs u => .ok (D.lst xs) u) Q := post2
      split at post2
      · rename_i hk
        refine ⟨lo, hi, rep_int.mp r1, rep_int.mp r2, rOk_rg hk, fun q hq => ?_⟩
        exact post2 _ _ (Ext.new hq) (n2.ext hq) (fr_new bs (e1.trans e2) bs2 hq (rng_reps lo hi))
      · exact post2.elim
    | _ => exact post2.elim
  | _ => cases d2 <;> exact post2.elim
theorem ed_tupR1 {p p2 p3 : Pos} (hc : X.calm = true) (hg : Gl X "tuple") (hm : X.mg "tuple" = none) (hgr : Gl X "range") (hmr : X.mg "range" = none) (ha : ED g X a ma) (na : starEach [Expr.Call (.Name "range" p2) [a] [] p3] X.env = (false, eval (Expr.Call (.Name "range" p2) [a] [] p3) X.env) :: starEach [] X.env := by rfl)
    (na2 : starEach [a] X.env = (false, eval a X.env) :: starEach [] X.env := by rfl) : ED g X (.Call (.Name "tuple" p) [.Call (.Name "range" p2) [a] [] p3] [] pos) (mTupI (iRng (mCons ma mNil))) := by
  refine ⟨PE.imp (pe_tupRg hc hg hm (prg_1 hgr hmr ha.pe na2) na) fun σ H Q h => ?_⟩
  obtain ⟨ρ, u, Z, bs, rel, post⟩ := h
  have post : PostE g (RD X.K g) Z H ((ma ρ u).bind fun x u => (match [x] with
    | [.int hi] => if rOk 0 hi then Out.ok (rng 0 hi) u else .bad
    | [.int lo, .int hi] => if rOk lo hi then .ok (rng lo hi) u else .bad
    | _ => .bad : Out (List D)).bind fun xs u => .ok (D.tup xs) u) Q := by
    unfold mTupI iRng mCons mNil at post
    simp only [Out.bind_assoc, Out.bind_ok] at post
    exact post
  refine ⟨ρ, u, Z, bs, rel, PostE.bind post fun d u1 v H1 e1 n1 r1 post1 => ?_⟩
  have bs1 := bs.ext e1 n1
  cases d with
  | int hi =>
    have post1 : PostE g (RD X.K g) Z H1 ((if rOk 0 hi then Out.ok (rng 0 hi) u1 else .bad : Out (List D)).bind fun xs u => .ok (D.tup xs) u) Q := post1
    split at post1
    · rename_i hk
      refine ⟨hi, rep_int.mp r1, rOk_rg hk, fun q hq => ?_⟩
      exact post1 _ _ (Ext.new hq) (n1.ext hq) (new_tup bs1 hq (rng_reps 0 hi))
    · exact post1.elim
  | _ => exact post1.elim
theorem ed_tupR2 {p p2 p3 : Pos} (hc : X.calm = true) (hg : Gl X "tuple") (hm : X.mg "tuple" = none) (hgr : Gl X "range") (hmr : X.mg "range" = none) (ha : ED g X a ma) (hb : ED g X b mb) (na : starEach [Expr.Call (.Name "range" p2) [a, b] [] p3] X.env = (false, eval (Expr.Call (.Name "range" p2) [a, b] [] p3) X.env) :: starEach [] X.env := by rfl)
    (na2 : starEach [a, b] X.env = (false, eval a X.env) :: starEach [b] X.env := by rfl) (nb2 : starEach [b] X.env = (false, eval b X.env) :: starEach [] X.env := by rfl) (hp : (backTo p3 (starEach [b] X.env)).any (·.1) = false := by rfl) : ED g X (.Call (.Name "tuple" p) [.Call (.Name "range" p2) [a, b] [] p3] [] pos) (mTupI (iRng (mCons ma (mCons mb mNil)))) := by
  refine ⟨PE.imp (pe_tupRg hc hg hm (prg_2 hgr hmr ha.pe hb.pe na2 nb2 hp) na) fun σ H Q h => ?_⟩
  obtain ⟨ρ, u, Z, bs, rel, post⟩ := h
  have post : PostE g (RD X.K g) Z H ((ma ρ u).bind fun x u => (mb ρ u).bind fun y u => (match [x, y] with
    | [.int hi] => if rOk 0 hi then Out.ok (rng 0 hi) u else .bad
    | [.int lo, .int hi] => if rOk lo hi then .ok (rng lo hi) u else .bad
    | _ => .bad : Out (List D)).bind fun xs u => .ok (D.tup xs) u) Q := by
    unfold mTupI iRng mCons at post
    unfold mNil at post
    simp only [Out.bind_assoc, Out.bind_ok] at post
    exact post
  refine ⟨ρ, u, Z, bs, rel, PostE.bind post fun d u1 v H1 e1 n1 r1 post1 => ?_⟩
  have bs1 := bs.ext e1 n1
  refine ⟨ρ, u1, Z, bs1, rel.ext bs e1, PostE.bind post1 fun d2 u2 v2 H2 e2 n2 r2 post2 => ?_⟩
  have bs2 := bs1.ext e2 n2
  cases d with
  | int lo =>
    cases d2 with
    | int hi =>
      have post2 : PostE g (RD X.K g) Z H2 ((if rOk lo hi then Out.ok (rng lo hi) u2 else .bad : Out (List D)).bind fun xs u => .ok (D.tup xs) u) Q := post2
      split at post2
      · rename_i hk
        refine ⟨lo, hi, rep_int.mp r1, rep_int.mp r2, rOk_rg hk, fun q hq => ?_⟩
        exact post2 _ _ (Ext.new hq) (n2.ext hq) (new_tup bs2 hq (rng_reps lo hi))
      · exact post2.elim
    | _ => exact post2.elim
  | _ => cases d2 <;> exact post2.elim
end

/-! ### x = [.. for .. in ..], in one line -/
section
variable {A : Act} {X : Cx} {pos spos py : Pos} {y : Str}
theorem sd_setFLc {elt tg iter : Expr} {ifs : List Expr} {scope : Scope} {own : List (Str × Nat)} {mi : MEs} {gg : TG} {mc me : ME} (i : Nat) (hN : X.N.Nodup) (hy : X.N[i]? = some y) (hyl : X.env.scope.names.lookup y = some .local)
    (hsw : swapsWith (.ListComp elt [⟨tg, iter, ifs, 0⟩] scope pos) (some (.Name y py)) spos.line X.env = pure true) (hc : X.calm = true) (hi : ID A.g X tg iter mi) (ok : BlkOk X.N X.env.scope scope own)
    (hg : ∀ (s : Shared) (H : Hp) (C : Addr) (cl : List (Str × Addr)) (fp : List Addr), GD A.g.no (X.blk s H scope (compEnvC scope cl C X.env) fp) (own.map (·.2)) tg gg)
    (ht : ∀ (s : Shared) (H : Hp) (C : Addr) (cl : List (Str × Addr)) (fp : List Addr), CD A.g.no (X.blk s H scope (compEnvC scope cl C X.env) fp) ifs mc)
    (he : ∀ (s : Shared) (H : Hp) (C : Addr) (cl : List (Str × Addr)) (fp : List Addr), ED A.g.no (X.blk s H scope (compEnvC scope cl C X.env) fp) elt me) (hs : ∀ x, foldedSetIterable iter X.env x = pure x := by intro _; rfl) :
    SD A X (.Assign [.Name y py] (.ListComp elt [⟨tg, iter, ifs, 0⟩] scope pos) spos) (sSetF i (mLc mi gg mc me (own.map (·.2)))) := by
  refine ⟨PS.imp (ps_setLc (g := tG X.K A.g.no (own.map fun x : Str × Nat => x.2) gg) (tt := tT X.K A.g.no mc) (te := tE X.K A.g.no me) hc hN hy hyl hsw hi.pi ok (fun s H C cl fp => (hg s H C cl fp).pg) (fun s H C cl fp => (ht s H C cl fp).pts) (fun s H C cl fp => (he s H C cl fp).pe) hs) fun D σ H h => ?_⟩
  refine lc_imp (Q := fun x H1 => L2.gName i x σ H1 D.nx) ?_
  obtain ⟨H0, Γ, u, o, r, n, post⟩ := h
  refine ⟨hideE Γ, u, _, r.bso n, r.hide, PostS.hid post r fun d u1 v H1 e1 n1 r1 q post1 => ?_⟩
  obtain ⟨l, xs, a, rfl, rfl, h0, hz, ha, ra⟩ := q
  exact post1 _ _ _ (r.fresh n e1 n1 i h0 ha ra) n1
theorem sd_setLc {elt tg iter : Expr} {ifs : List Expr} {scope : Scope} {own : List (Str × Nat)} {mi : MEs} {gg : TG} {mc me : ME} (i : Nat) (hN : X.N.Nodup) (hy : X.N[i]? = some y) (hyl : X.env.scope.names.lookup y = some .local)
    (hsw : swapsWith (.ListComp elt [⟨tg, iter, ifs, 0⟩] scope pos) (some (.Name y py)) spos.line X.env = pure true) (hc : X.calm = true) (hi : ID A.g X tg iter mi) (ok : BlkOk X.N X.env.scope scope own)
    (hg : ∀ (s : Shared) (H : Hp) (C : Addr) (cl : List (Str × Addr)) (fp : List Addr), GD A.g.no (X.blk s H scope (compEnvC scope cl C X.env) fp) (own.map (·.2)) tg gg)
    (ht : ∀ (s : Shared) (H : Hp) (C : Addr) (cl : List (Str × Addr)) (fp : List Addr), CD A.g.no (X.blk s H scope (compEnvC scope cl C X.env) fp) ifs mc)
    (he : ∀ (s : Shared) (H : Hp) (C : Addr) (cl : List (Str × Addr)) (fp : List Addr), ED A.g.no (X.blk s H scope (compEnvC scope cl C X.env) fp) elt me) (hs : ∀ x, foldedSetIterable iter X.env x = pure x := by intro _; rfl) :
    SD A X (.Assign [.Name y py] (.ListComp elt [⟨tg, iter, ifs, 0⟩] scope pos) spos) (sSet i (mLc mi gg mc me (own.map (·.2)))) := by
  refine ⟨PS.imp (ps_setLc (g := tG X.K A.g.no (own.map fun x : Str × Nat => x.2) gg) (tt := tT X.K A.g.no mc) (te := tE X.K A.g.no me) hc hN hy hyl hsw hi.pi ok (fun s H C cl fp => (hg s H C cl fp).pg) (fun s H C cl fp => (ht s H C cl fp).pts) (fun s H C cl fp => (he s H C cl fp).pe) hs) fun D σ H h => ?_⟩
  refine lc_imp (Q := fun x H1 => L2.gName i x σ H1 D.nx) ?_
  obtain ⟨H0, Γ, u, o, r, n, post⟩ := h
  refine ⟨hideE Γ, u, _, r.bso n, r.hide, PostS.hid post r fun d u1 v H1 e1 n1 r1 q post1 => ?_⟩
  obtain ⟨l, xs, a, rfl, rfl, h0, hz, ha, ra⟩ := q
  exact post1 _ _ _ (r1.val i (rep_lst.mpr ⟨a, xs, rfl, ⟨hz, ha⟩, ra.sub fun b z => .inl z⟩)) n1
theorem sd_setFLc2 {elt tg iter tg1 iter1 : Expr} {ifs1 : List Expr} {scope : Scope} {own : List (Str × Nat)} {vs1 : List Nat} {mi mi1 : MEs} {gg gg1 : TG} {mc1 me : ME} (i : Nat) (hN : X.N.Nodup) (hy : X.N[i]? = some y) (hyl : X.env.scope.names.lookup y = some .local)
    (hsw : swapsWith (.ListComp elt [⟨tg, iter, [], 0⟩, ⟨tg1, iter1, ifs1, 0⟩] scope pos) (some (.Name y py)) spos.line X.env = pure true) (hc : X.calm = true) (hi : ID A.g X tg iter mi) (ok : BlkOk X.N X.env.scope scope own) (hv : ∀ i ∈ vs1, i ∈ own.map (·.2))
    (hg : ∀ (s : Shared) (H : Hp) (C : Addr) (cl : List (Str × Addr)) (fp : List Addr), GD A.g.no (X.blk s H scope (compEnvC scope cl C X.env) fp) (own.map (·.2)) tg gg)
    (hi1 : ∀ (s : Shared) (H : Hp) (C : Addr) (cl : List (Str × Addr)) (fp : List Addr), ID A.g.no (X.blk s H scope (compEnvC scope cl C X.env) fp) tg1 iter1 mi1)
    (hg1 : ∀ (s : Shared) (H : Hp) (C : Addr) (cl : List (Str × Addr)) (fp : List Addr), GD A.g.no (X.blk s H scope (compEnvC scope cl C X.env) fp) vs1 tg1 gg1)
    (ht1 : ∀ (s : Shared) (H : Hp) (C : Addr) (cl : List (Str × Addr)) (fp : List Addr), CD A.g.no (X.blk s H scope (compEnvC scope cl C X.env) fp) ifs1 mc1)
    (he : ∀ (s : Shared) (H : Hp) (C : Addr) (cl : List (Str × Addr)) (fp : List Addr), ED A.g.no (X.blk s H scope (compEnvC scope cl C X.env) fp) elt me) (hs : ∀ x, foldedSetIterable iter X.env x = pure x := by intro _; rfl) (hs1 : ∀ env x, foldedSetIterable iter1 env x = pure x := by intro _ _; rfl) :
    SD A X (.Assign [.Name y py] (.ListComp elt [⟨tg, iter, [], 0⟩, ⟨tg1, iter1, ifs1, 0⟩] scope pos) spos) (sSetF i (mLc2 mi gg mi1 gg1 mc1 me (own.map (·.2)) vs1)) := by
  refine ⟨PS.imp (ps_setLc2 (g := tG X.K A.g.no (own.map fun x : Str × Nat => x.2) gg) (tt := tYes) (wi1 := tI X.K A.g.no mi1) (g1 := tG X.K A.g.no vs1 gg1) (tt1 := tT X.K A.g.no mc1) (te := tE X.K A.g.no me) hc hN hy hyl hsw hi.pi ok hv (fun s H C cl fp => (hg s H C cl fp).pg) (fun s H C cl fp => pts_nil)
    (fun s H C cl fp => (hi1 s H C cl fp).pi) (fun s H C cl fp => (hg1 s H C cl fp).pg) (fun s H C cl fp => (ht1 s H C cl fp).pts) (fun s H C cl fp => (he s H C cl fp).pe) hs hs1) fun D σ H h => ?_⟩
  refine lc2_imp (Q := fun x H1 => L2.gName i x σ H1 D.nx) ?_
  obtain ⟨H0, Γ, u, o, r, n, post⟩ := h
  refine ⟨hideE Γ, u, _, r.bso n, r.hide, PostS.hid post r fun d u1 v H1 e1 n1 r1 q post1 => ?_⟩
  obtain ⟨l, xs, a, rfl, rfl, h0, hz, ha, ra⟩ := q
  exact post1 _ _ _ (r.fresh n e1 n1 i h0 ha ra) n1
theorem sd_setLc2 {elt tg iter tg1 iter1 : Expr} {ifs1 : List Expr} {scope : Scope} {own : List (Str × Nat)} {vs1 : List Nat} {mi mi1 : MEs} {gg gg1 : TG} {mc1 me : ME} (i : Nat) (hN : X.N.Nodup) (hy : X.N[i]? = some y) (hyl : X.env.scope.names.lookup y = some .local)
    (hsw : swapsWith (.ListComp elt [⟨tg, iter, [], 0⟩, ⟨tg1, iter1, ifs1, 0⟩] scope pos) (some (.Name y py)) spos.line X.env = pure true) (hc : X.calm = true) (hi : ID A.g X tg iter mi) (ok : BlkOk X.N X.env.scope scope own) (hv : ∀ i ∈ vs1, i ∈ own.map (·.2))
    (hg : ∀ (s : Shared) (H : Hp) (C : Addr) (cl : List (Str × Addr)) (fp : List Addr), GD A.g.no (X.blk s H scope (compEnvC scope cl C X.env) fp) (own.map (·.2)) tg gg)
    (hi1 : ∀ (s : Shared) (H : Hp) (C : Addr) (cl : List (Str × Addr)) (fp : List Addr), ID A.g.no (X.blk s H scope (compEnvC scope cl C X.env) fp) tg1 iter1 mi1)
    (hg1 : ∀ (s : Shared) (H : Hp) (C : Addr) (cl : List (Str × Addr)) (fp : List Addr), GD A.g.no (X.blk s H scope (compEnvC scope cl C X.env) fp) vs1 tg1 gg1)
    (ht1 : ∀ (s : Shared) (H : Hp) (C : Addr) (cl : List (Str × Addr)) (fp : List Addr), CD A.g.no (X.blk s H scope (compEnvC scope cl C X.env) fp) ifs1 mc1)
    (he : ∀ (s : Shared) (H : Hp) (C : Addr) (cl : List (Str × Addr)) (fp : List Addr), ED A.g.no (X.blk s H scope (compEnvC scope cl C X.env) fp) elt me) (hs : ∀ x, foldedSetIterable iter X.env x = pure x := by intro _; rfl) (hs1 : ∀ env x, foldedSetIterable iter1 env x = pure x := by intro _ _; rfl) :
    SD A X (.Assign [.Name y py] (.ListComp elt [⟨tg, iter, [], 0⟩, ⟨tg1, iter1, ifs1, 0⟩] scope pos) spos) (sSet i (mLc2 mi gg mi1 gg1 mc1 me (own.map (·.2)) vs1)) := by
  refine ⟨PS.imp (ps_setLc2 (g := tG X.K A.g.no (own.map fun x : Str × Nat => x.2) gg) (tt := tYes) (wi1 := tI X.K A.g.no mi1) (g1 := tG X.K A.g.no vs1 gg1) (tt1 := tT X.K A.g.no mc1) (te := tE X.K A.g.no me) hc hN hy hyl hsw hi.pi ok hv (fun s H C cl fp => (hg s H C cl fp).pg) (fun s H C cl fp => pts_nil)
    (fun s H C cl fp => (hi1 s H C cl fp).pi) (fun s H C cl fp => (hg1 s H C cl fp).pg) (fun s H C cl fp => (ht1 s H C cl fp).pts) (fun s H C cl fp => (he s H C cl fp).pe) hs hs1) fun D σ H h => ?_⟩
  refine lc2_imp (Q := fun x H1 => L2.gName i x σ H1 D.nx) ?_
  obtain ⟨H0, Γ, u, o, r, n, post⟩ := h
  refine ⟨hideE Γ, u, _, r.bso n, r.hide, PostS.hid post r fun d u1 v H1 e1 n1 r1 q post1 => ?_⟩
  obtain ⟨l, xs, a, rfl, rfl, h0, hz, ha, ra⟩ := q
  exact post1 _ _ _ (r1.val i (rep_lst.mpr ⟨a, xs, rfl, ⟨hz, ha⟩, ra.sub fun b z => .inl z⟩)) n1
end

/-! ### a call that makes its urn -/
section
variable {g : G} {X : Cx} {e : Expr} {m : ME} {x : Str} {p pos : Pos} {ps : List Str} {k : Nat} {F : Fn}
theorem ints_reps {K : PySem.W.Frag} {Z : AZ} {U : Option Addr} {H : Hp} : ∀ {l : List D} {xs : List V}, isInts l = true → Reps K Z U H l xs → xs = (toInts l).map V.int
  | l, xs, h, r => reps_ints h r
theorem ed_callU (c : Cal X.prog X.w X.K X.mg X.base g.EA x ps k F) (hr : Room k X.A) (hx : Passes (L2.CX X.prog X.w) X g.W) (hg : Gl X x) (ha : FD g X e m) (hn : 1 = ps.length := by rfl)
    (hdb : (x == ("__debug__" : Str)) = false := by decide +kernel) (he : starEach [e] X.env = (false, eval e X.env) :: starEach [] X.env := by rfl) (hpl : (backTo pos (starEach [] X.env)).any (·.1) = false := by rfl) :
    ED g X (.Call (.Name x p) [e] [] pos) (mCallU F m) := by
  obtain ⟨f, fd, a, b, kp, bi, _⟩ := c.ex
  refine ⟨PE.imp (pe_call a hr hg b kp bi .nil hx (pa_cons ha.pe pa_nil he) hdb he hpl) fun σ H Q h => ?_⟩
  obtain ⟨ρ, u, Z, bs, rel, post⟩ := h
  refine ⟨ρ, u, Z, bs, rel, PostE.bindq post fun d u1 v H1 eo e1 n1 r1 _ => ?_⟩
  obtain ⟨l, xs, q, rfl, rfl, h0, hz, hq, rq⟩ := r1
  have bs1 := bs.ext e1 n1
  have post1 := post
  unfold mCallU at post1
  rw [eo] at post1
  have post1 : PostE g (RD X.K g) Z H (if isInts l then (match F [.urn] (toInts l) with
    | .ok (.bl b) _ => .ok (.bl b) u1
    | _ => .bad) else .bad) Q := post1
  split at post1
  · rename_i hi
    have ex := reps_ints hi rq
    subst ex
    have hU : g.U ≠ some q := fun z => hz (bs.zu q z)
    refine ⟨hn, [.urn], toInts l, fun b => Z b ∨ b = q, some q, ⟨fun a z => .inr (Option.some.inj z).symm, fun a z => ?_, fun a z => by cases z; exact hq⟩, .cons (rep_urn.mpr ⟨q, rfl, rfl⟩) .nil, ?_⟩
    · rcases z with z | z
      · exact bs1.za a z
      · rw [z]; exact ⟨_, hq⟩
    · cases w : F [.urn] (toInts l) with
      | ok d u2 =>
        rw [w] at post1
        cases d with
        | bl bb =>
          intro v H2 e2 n2 r2
          rw [rep_bl.mp r2]
          have nu : UrnAt g.U H2 u1 := fun a z => e2 a _ (fun z2 => hU (by rw [z, ← Option.some.inj z2])) (n1 a z)
          have post1 : PostE g (RD X.K g) Z H (Out.ok (D.bl bb) u1) Q := post1
          exact post1 _ H2 (fun b o nb z => by
            have bq : b ≠ q := fun z2 => by rw [z2, h0] at z; cases z
            exact e2 b o (fun z2 => bq (Option.some.inj z2).symm) (e1 b o nb z)) nu (rep_bl.mpr rfl)
        | _ => exact post1.elim
      | er xx u2 => rw [w] at post1; exact post1.elim
      | bad => rw [w] at post1; exact post1.elim
  · exact post1.elim
end
end Dn
namespace Dn
open PySem PySem.Spec PyProof.Rows L2
/-! ### a, b, .. = e1, e2, .. -/
def RQs (K : PySem.W.Frag) (Z : AZ) (U : Option Addr) (H : Hp) : List Addr → List (Bool × D) → List V → Prop
  | F, [], vs => F = [] ∧ vs = []
  | F, (false, d) :: qs, vs => ∃ v ws, vs = v :: ws ∧ Rep K Z U H d v ∧ RQs K Z U H F qs ws
  | F, (true, d) :: qs, vs => ∃ a G ws l xs, F = a :: G ∧ vs = .ref a :: ws ∧ d = .lst l ∧ H a = some (.lst xs) ∧ Reps K Z U H l xs ∧ RQs K Z U H G qs ws
theorem RQs.len {K : PySem.W.Frag} {Z : AZ} {U : Option Addr} {H : Hp} : ∀ {qs : List (Bool × D)} {F : List Addr} {vs : List V}, RQs K Z U H F qs vs → vs.length = qs.length
  | [], F, vs, h => by rw [RQs] at h; rw [h.2]; rfl
  | (false, d) :: qs, F, vs, h => by
    rw [RQs] at h
    obtain ⟨v, ws, rfl, _, h⟩ := h
    rw [List.length_cons, List.length_cons, h.len]
  | (true, d) :: qs, F, vs, h => by
    rw [RQs] at h
    obtain ⟨a, G, ws, l, xs, rfl, rfl, _, _, _, h⟩ := h
    rw [List.length_cons, List.length_cons, h.len]
def RQ (K : PySem.W.Frag) (g : G) (H0 : Hp) : AZ → Hp → List (Bool × D) → List V → Prop := fun Z H qs vs => ∃ F : List Addr, F.Nodup ∧ (∀ a ∈ F, H0 a = none ∧ ¬ Z a) ∧ RQs K (fun b => Z b ∨ b ∈ F) g.U H F qs vs
def tQ (K : PySem.W.Frag) (g : G) (m : MQ) : TA := fun σ H Q => ∃ ρ u Z, Bs Z g.U H u ∧ RelE K Z g.U σ H ρ ∧ PostE g (RQ K g H) Z H (m ρ u) Q
structure QD (g : G) (X : Cx) (es : List Expr) (m : MQ) : Prop where
  pa : PA X es (tQ X.K g m)
section
variable {g : G} {X : Cx} {e : Expr} {es : List Expr} {m : ME} {ms : MQ} {pos : Pos}
theorem qd_nil : QD g X [] qNil := ⟨PA.imp pa_nil fun σ H Q h => by
  obtain ⟨ρ, u, Z, bs, rel, post⟩ := h
  exact post [] H .refl bs.urn ⟨[], .nil, (fun a h => nomatch h), by rw [RQs]; exact ⟨rfl, rfl⟩⟩⟩
theorem qd_cons (ha : ED g X e m) (hr : QD g X es ms) (hs : starEach (e :: es) X.env = (false, eval e X.env) :: starEach es X.env := by rfl) : QD g X (e :: es) (qCons m ms) := by
  refine ⟨PA.imp (pa_cons ha.pe hr.pa hs) fun σ H Q h => ?_⟩
  obtain ⟨ρ, u, Z, bs, rel, post⟩ := h
  refine ⟨ρ, u, Z, bs, rel, PostE.bindq post fun d u1 v H1 eo e1 n1 r1 _ => ?_⟩
  have bs1 := bs.ext e1 n1
  have post1 := post
  unfold qCons at post1
  rw [eo] at post1
  have post1 : PostE g (RQ X.K g H) Z H ((ms ρ u1).bind fun xs u => .ok ((false, d) :: xs) u) Q := post1
  refine ⟨ρ, u1, Z, bs1, rel.ext bs e1, PostE.bindq (PostE.ext e1 post1) fun qs u2 vs H2 eo2 e2 n2 r2 _ => ?_⟩
  rw [eo2] at post1
  obtain ⟨F, nd, hF, rq⟩ := r2
  refine post1 (v :: vs) H2 (e1.trans e2) n2 ⟨F, nd, fun a ha => ⟨e1.none bs.urn n1 (hF a ha).1, (hF a ha).2⟩, ?_⟩
  rw [RQs]
  refine ⟨v, vs, rfl, ?_, rq⟩
  have r1' : Rep X.K (fun b => Z b ∨ b ∈ F) g.U H1 d v := r1.grow fun b z => z.imp id fun z => (hF b z).1
  exact r1'.mono fun b o n q => e2 b o (fun z => n (.inl (bs.zu b z))) q
theorem qd_consF (hea : ∀ (Z Z' : AZ) (x : Er) (C : Value) (dx : Option Addr) (H : Hp), (∀ b, Z' b → Z b) → g.EA Z g.U x C dx H → g.EA Z' g.U x C dx H) (ha : FD g X e m) (hr : QD g X es ms) (hs : starEach (e :: es) X.env = (false, eval e X.env) :: starEach es X.env := by rfl) : QD g X (e :: es) (qConsF m ms) := by
  refine ⟨PA.imp (pa_cons ha.pe hr.pa hs) fun σ H Q h => ?_⟩
  obtain ⟨ρ, u, Z, bs, rel, post⟩ := h
  refine ⟨ρ, u, Z, bs, rel, PostE.bindq post fun d u1 v H1 eo e1 n1 r1 _ => ?_⟩
  have bs1 := bs.ext e1 n1
  have post1 := post
  unfold qConsF at post1
  rw [eo] at post1
  have post1 : PostE g (RQ X.K g H) Z H ((ms ρ u1).bind fun xs u => .ok ((true, d) :: xs) u) Q := post1
  obtain ⟨l, xs, a, rfl, rfl, h0, hz, hq, rq⟩ := r1
  have bsa : Bs (fun b => Z b ∨ b = a) g.U H1 u1 := ⟨fun b z => .inl (bs1.zu b z), fun b z => by
    rcases z with z | z
    · exact bs1.za b z
    · rw [z]; exact ⟨_, hq⟩, n1⟩
  have rela : RelE X.K (fun b => Z b ∨ b = a) g.U σ H1 ρ := by
    refine ⟨rel.1, fun j d q => ?_⟩
    obtain ⟨v, q1, q2⟩ := rel.2 j d q
    have q3 : Rep X.K (fun b => Z b ∨ b = a) g.U H d v := q2.grow fun b z => z.imp id fun z => by rw [z]; exact h0
    exact ⟨v, q1, q3.mono fun b o n q => e1 b o (fun z => n (.inl (bs.zu b z))) q⟩
  have hU : g.U ≠ some a := fun z => hz (bs.zu a z)
  refine ⟨ρ, u1, fun b => Z b ∨ b = a, bsa, rela, ?_⟩
  cases w : ms ρ u1 with
  | ok qs u2 =>
    intro vs H2 e2 n2 r2
    rw [w] at post1
    obtain ⟨F, nd, hF, rq2⟩ := r2
    have hz2 : ∀ b, ((Z b ∨ b = a) ∨ b ∈ F) ↔ (Z b ∨ b ∈ a :: F) := fun b => by rw [List.mem_cons, or_assoc]
    have hz3 : (fun b => (Z b ∨ b = a) ∨ b ∈ F) = fun b => Z b ∨ b ∈ a :: F := funext fun b => propext (hz2 b)
    rw [hz3] at rq2
    refine post1 (.ref a :: vs) H2 (e1.trans e2) n2 ⟨a :: F, List.nodup_cons.mpr ⟨fun z => (hF a z).2 (.inr rfl), nd⟩, fun b hb => ?_, ?_⟩
    · rcases List.mem_cons.mp hb with z | z
      · rw [z]; exact ⟨h0, hz⟩
      · exact ⟨e1.none bs.urn n1 (hF b z).1, fun y => (hF b z).2 (.inl y)⟩
    · rw [RQs]
      refine ⟨a, F, vs, l, xs, rfl, rfl, rfl, e2 a _ hU hq, ?_, rq2⟩
      rw [← hz3]
      have r1' : Reps X.K (fun b => (Z b ∨ b = a) ∨ b ∈ F) g.U H1 l xs := rq.grow fun b z => z.imp id fun z => (hF b z).1
      exact r1'.mono fun b o n q => e2 b o (fun z => n (.inl (.inl (bs.zu b z)))) q
  | er x u2 =>
    rw [w] at post1
    intro C dx H2 e2 n2 q
    exact post1 C dx H2 (e1.trans e2) n2 (hea _ _ x C dx H2 (fun b z => .inl z) q)
  | bad => rw [w] at post1; exact post1.elim
end

/-! ### the stores -/
section
variable {K : PySem.W.Frag} {A : Act} {H0 H H1 : Hp} {o o' : Own} {σ : L2.St} {Γ : SEnv} {u u1 : Urn}
def Own.res (o : Own) (F : List Addr) (k : Nat) : Own := fun b => if b ∈ F then some k else o b
theorem RelS.reserve (r : RelS K A H0 o σ H Γ) (n : UrnAt A.g.U H u) (e : Ext A.g.U H H1) (n1 : UrnAt A.g.U H1 u1) {F : List Addr} (hF : ∀ a ∈ F, H a = none ∧ ¬ A.Zc a) (hl : ∀ a ∈ F, ∃ xs, H1 a = some (.lst xs)) {k : Nat} (hk : Γ.length ≤ k) :
    RelS K A H0 (o.res F k) σ H1 Γ := by
  have ro : ∀ a ∈ F, o a = none := fun a ha => by
    cases q : o a with
    | none => rfl
    | some j =>
      obtain ⟨_, _, xs, h3⟩ := r.oz a j q
      rw [(hF a ha).1] at h3; cases h3
  have ores : ∀ b j, o b = some j → o.res F k b = some j := fun b j h => by
    unfold Own.res
    split
    · rename_i hb; rw [ro b hb] at h; cases h
    · exact h
  have zsub : ∀ b, Zo A (o.res F k) b → Zo A o b ∨ H b = none := fun b z => by
    rcases z with z | ⟨j, z⟩
    · exact .inl (.inl z)
    · unfold Own.res at z
      split at z
      · rename_i hb; exact .inr (hF b hb).1
      · exact .inl (.inr ⟨j, z⟩)
  have mv : ∀ b v, ¬ Zo A (o.res F k) b → H b = some v → H1 b = some v := fun b v nn q => e b v (fun z => nn (.inl (r.zu b z))) q
  refine ⟨r.zu, r.hz, r.len, fun a i h => ?_, r.ext.trans e, fun a q => ⟨_, n1 a q⟩, fun i s h => ?_⟩
  · unfold Own.res at h
    split at h
    · rename_i ha
      refine ⟨(hF a ha).2, ?_, hl a ha⟩
      cases q : H0 a with
      | none => rfl
      | some v =>
        by_cases hu : A.g.U = some a
        · exact absurd (r.zu a hu) (hF a ha).2
        · have := r.ext a v hu q
          rw [(hF a ha).1] at this; cases this
    · obtain ⟨h1, h2, xs, h3⟩ := r.oz a i h
      exact ⟨h1, h2, xs, e a _ (r.noU h) h3⟩
  · obtain ⟨x, e1, q⟩ := r.slots i s h
    refine ⟨x, e1, ?_⟩
    cases s with
    | no => exact True.intro
    | val d =>
      obtain ⟨v, q1, q2⟩ := q
      exact ⟨v, q1, (q2.grow zsub).mono mv⟩
    | own l =>
      obtain ⟨a, xs, q1, q2, q3, q4⟩ := q
      exact ⟨a, xs, q1, ores a _ q2, e a _ (r.noU q2) q3, (q4.grow zsub).mono mv⟩
    | own2 ll =>
      obtain ⟨a, as, q1, q2, q3, q4, q5, q6, q7⟩ := q
      refine ⟨a, as, q1, ores a _ q2, e a _ (r.noU q2) q3, q4, q5, q6, fun j b l z1 z2 => ?_⟩
      obtain ⟨z3, xs, z4, z5⟩ := q7 j b l z1 z2
      exact ⟨ores b _ z3, xs, e b _ (r.noU z3) z4, (z5.grow zsub).mono mv⟩
/-- a reserved list comes to a slot -/
def Own.adopt (o : Own) (a : Addr) (i : Nat) : Own := fun b => if b = a then some i else o.drop i b
theorem RelS.adopt (r : RelS K A H0 o σ H Γ) (i : Nat) {a : Addr} {xs : List V} {l : List D} {k : Nat} (hk : Γ.length ≤ k) (ho : o a = some k) (ha : H a = some (.lst xs)) (hx : Reps K (Zo A o) A.g.U H l xs) (hi : i < k) :
    RelS K A H0 (o.adopt a i) (σ.set i (some (.ref a))) H (Γ.set i (.own l)) := by
  have sub : ∀ b, Zo A (o.adopt a i) b → Zo A o b := fun b z => by
    rcases z with z | ⟨j, z⟩
    · exact .inl z
    · unfold Own.adopt at z
      split at z
      · rename_i hb; rw [hb]; exact .inr ⟨k, ho⟩
      · exact drop_sub (.inr ⟨j, z⟩)
  refine r.make2 i (.own l) (some (.ref a)) r.ext r.uz (fun d v q => q.sub sub) (fun d v q => q.sub sub) (fun b j ys _ _ q => q) (fun b j hj h => ?_) (fun b j hj hjl h => ?_) (fun b h => ?_) ⟨a, xs, rfl, if_pos rfl, ha, hx.sub sub⟩
  · unfold Own.adopt at h
    split at h
    · cases h; exact absurd rfl hj
    · exact (drop_ne hj).mp h
  · unfold Own.adopt
    split
    · rename_i hb
      rw [hb, ho] at h
      cases h
      omega
    · exact (drop_ne hj).mpr h
  · unfold Own.adopt at h
    split at h
    · rename_i hb; rw [hb]; exact r.oz a k ho
    · exact (drop_at h).elim
def setsV : List Nat → List V → L2.St → L2.St
  | i :: is, v :: vs, σ => setsV is vs (σ.set i (some v))
  | _, _, σ => σ
theorem RelS.sets : ∀ {is : List Nat} {qs : List (Bool × D)} {F : List Addr} {vs : List V} {o : Own} {σ : L2.St} {Γ Γ1 : SEnv} {k : Nat} {Z : AZ}, RelS K A H0 o σ H Γ → Γ.length ≤ k → (∀ i ∈ is, i < k) → (∀ b, Zo A o b → Z b) → (∀ a ∈ F, o a = some k) → F.Nodup → RQs K Z A.g.U H F qs vs → setsE is qs Γ = some Γ1 →
    ∃ o', RelS K A H0 o' (setsV is vs σ) H Γ1
  | [], [], F, vs, o, σ, Γ, Γ1, k, Z, r, _, _, _, _, _, q, e => by
    rw [setsE] at e
    cases e
    rw [RQs] at q
    rw [q.2]
    exact ⟨o, r⟩
  | i :: is, (false, d) :: qs, F, vs, o, σ, Γ, Γ1, k, Z, r, hk, hi, hz, hF, nd, q, e => by
    rw [setsE] at e
    rw [RQs] at q
    obtain ⟨v, ws, rfl, q1, q2⟩ := q
    rw [setsV]
    refine RelS.sets (r.val i (q1.sub hz)) (by rw [List.length_set]; exact hk) (fun j hj => hi j (List.mem_cons_of_mem _ hj)) (fun b z => hz b (drop_sub z)) (fun a ha => ?_) nd q2 e
    have hik := hi i List.mem_cons_self
    exact (drop_ne (by omega)).mpr (hF a ha)
  | i :: is, (true, d) :: qs, F, vs, o, σ, Γ, Γ1, k, Z, r, hk, hi, hz, hF, nd, q, e => by
    rw [RQs] at q
    obtain ⟨a, G, ws, l, xs, rfl, rfl, rfl, q1, q2, q3⟩ := q
    rw [setsE] at e
    rw [setsV]
    have hik := hi i List.mem_cons_self
    rw [List.nodup_cons] at nd
    refine RelS.sets (r.adopt i hk (hF a List.mem_cons_self) q1 (q2.sub hz) hik) (by rw [List.length_set]; exact hk) (fun j hj => hi j (List.mem_cons_of_mem _ hj)) (fun b z => hz b ?_) (fun b hb => ?_) nd.2 q3 e
    · rcases z with z | ⟨j, z⟩
      · exact .inl z
      · unfold Own.adopt at z
        split at z
        · rename_i hb; rw [hb]; exact .inr ⟨k, hF a List.mem_cons_self⟩
        · exact drop_sub (.inr ⟨j, z⟩)
    · unfold Own.adopt
      rw [if_neg (fun z => nd.1 (by rw [← z]; exact hb))]
      exact (drop_ne (by omega)).mpr (hF b (List.mem_cons_of_mem _ hb))
  | [], _ :: _, F, vs, o, σ, Γ, Γ1, k, Z, r, _, _, _, _, _, q, e => by rw [setsE] at e <;> first | cases e | (intros; simp_all)
  | _ :: _, [], F, vs, o, σ, Γ, Γ1, k, Z, r, _, _, _, _, _, q, e => by rw [setsE] at e <;> first | cases e | (intros; simp_all)
theorem RQs.lsts {Z : AZ} {U : Option Addr} : ∀ {qs : List (Bool × D)} {F : List Addr} {vs : List V}, RQs K Z U H F qs vs → ∀ a ∈ F, ∃ xs, H a = some (.lst xs)
  | [], F, vs, h, a, ha => by rw [RQs] at h; rw [h.1] at ha; cases ha
  | (false, d) :: qs, F, vs, h, a, ha => by
    rw [RQs] at h
    obtain ⟨v, ws, _, _, h⟩ := h
    exact h.lsts a ha
  | (true, d) :: qs, F, vs, h, a, ha => by
    rw [RQs] at h
    obtain ⟨b, G, ws, l, xs, rfl, _, _, h1, _, h⟩ := h
    rcases List.mem_cons.mp ha with z | z
    · rw [z]; exact ⟨xs, h1⟩
    · exact h.lsts a z
theorem setsE_len : ∀ {is : List Nat} {qs : List (Bool × D)} {Γ Γ1 : SEnv}, setsE is qs Γ = some Γ1 → qs.length = is.length
  | [], [], Γ, Γ1, e => rfl
  | i :: is, (false, d) :: qs, Γ, Γ1, e => by rw [setsE] at e; rw [List.length_cons, List.length_cons, setsE_len e]
  | i :: is, (true, .lst l) :: qs, Γ, Γ1, e => by rw [setsE] at e; rw [List.length_cons, List.length_cons, setsE_len e]
  | [], _ :: _, Γ, Γ1, e => by rw [setsE] at e <;> first | cases e | (intros; simp_all)
  | _ :: _, [], Γ, Γ1, e => by rw [setsE] at e <;> first | cases e | (intros; simp_all)
  | i :: is, (true, .non) :: qs, Γ, Γ1, e => by rw [setsE] at e <;> first | cases e | (intros; simp_all)
  | i :: is, (true, .bl _) :: qs, Γ, Γ1, e => by rw [setsE] at e <;> first | cases e | (intros; simp_all)
  | i :: is, (true, .int _) :: qs, Γ, Γ1, e => by rw [setsE] at e <;> first | cases e | (intros; simp_all)
  | i :: is, (true, .str _) :: qs, Γ, Γ1, e => by rw [setsE] at e <;> first | cases e | (intros; simp_all)
  | i :: is, (true, .tup _) :: qs, Γ, Γ1, e => by rw [setsE] at e <;> first | cases e | (intros; simp_all)
  | i :: is, (true, .dct _ _) :: qs, Γ, Γ1, e => by rw [setsE] at e <;> first | cases e | (intros; simp_all)
  | i :: is, (true, .urn) :: qs, Γ, Γ1, e => by rw [setsE] at e <;> first | cases e | (intros; simp_all)
  | i :: is, (true, .scr _) :: qs, Γ, Γ1, e => by rw [setsE] at e <;> first | cases e | (intros; simp_all)
/-- all of it -/
theorem imp_par {is : List Nat} {q : MQ} {D : Ends} (h : tS K A (sPar is q) D σ H) : tQ K A.g q σ H fun vs H1 => vs.length = is.length ∧ ∀ H2 : Hp, (∀ b o, H1 b = some o → H2 b = some o) → D.nx (setsV is vs σ) H2 := by
  obtain ⟨H0, Γ, u, o, r, n, post⟩ := h
  refine ⟨hideE Γ, u, _, r.bso n, r.hide, ?_⟩
  unfold sPar at post
  cases w : q (hideE Γ) u with
  | ok qs u1 =>
    rw [w] at post
    intro vs H1 e n1 rq
    have post : PostS K A H0 (match setsE is qs Γ with
      | some Γ => .nx Γ u1
      | none => .bad) D := post
    cases z : setsE is qs Γ with
    | none => rw [z] at post; exact post.elim
    | some Γ1 =>
      rw [z] at post
      obtain ⟨F, nd, hF, rq⟩ := rq
      have hl := RQs.lsts rq
      have r1 := r.reserve n e n1 (F := F) (k := Γ.length + is.sum + 1) (fun a ha => ⟨(hF a ha).1, fun z => (hF a ha).2 (.inl z)⟩) hl (by omega)
      have hsum : ∀ (is : List Nat) (i : Nat), i ∈ is → i ≤ is.sum := fun is => by
        induction is with
        | nil => intro i hi; cases hi
        | cons a is ih =>
          intro i hi
          rw [List.sum_cons]
          rcases List.mem_cons.mp hi with z | z
          · omega
          · have := ih i z; omega
      obtain ⟨o', r2⟩ := RelS.sets (Z := fun b => Zo A o b ∨ b ∈ F) r1 (by omega) (fun i hi => by have := hsum is i hi; omega) (fun b z => by
        rcases z with z | ⟨j, z⟩
        · exact .inl (.inl z)
        · unfold Own.res at z
          split at z
          · rename_i hb; exact .inr hb
          · exact .inl (.inr ⟨j, z⟩)) (fun a ha => if_pos ha) nd rq z
      exact ⟨by rw [rq.len]; exact setsE_len z, fun H2 hk => post _ _ o' (r2.to (fun b o _ q => hk b o q) fun a q => hk a _ (n1 a q)) fun a q => hk a _ (n1 a q)⟩
  | er x u1 =>
    rw [w] at post
    exact fun C dx H1 e n1 q => post C dx H1 (r.ext.trans e) n1 (A.ea _ _ x C dx H1 (fun b z => .inl z) q)
  | bad => rw [w] at post; exact post.elim
end
section
variable {A : Act} {X : Cx} {pos px py pz pt pt2 : Pos} {x y z : Str} {a b c : Expr} {q : MQ} {kt k2 : Nat}
theorem sd_par2 (hc : X.calm = true) (hN : X.N.Nodup) (i j : Nat) (hij : i ≠ j) (hq : QD A.g X [a, b] q) (hi : X.N[i]? = some x := by rfl) (hj : X.N[j]? = some y := by rfl)
    (hx : X.env.scope.names.lookup x = some .local := by rfl) (hy : X.env.scope.names.lookup y = some .local := by rfl)
    (hw : swappedStores [.Tuple [.Name x px, .Name y py] kt pt] (.Tuple [a, b] k2 pt2) X.env = pure (some [x, y]) := by rfl)
    (hs : swapsWithSole [.Tuple [.Name x px, .Name y py] kt pt] (.Tuple [a, b] k2 pt2) pos.line X.env = pure false := by rfl) :
    SD A X (.Assign [.Tuple [.Name x px, .Name y py] kt pt] (.Tuple [a, b] k2 pt2) pos) (sPar [i, j] q) := by
  refine ⟨PS.imp (ps_par hc hN hi hj hij hx hy hq.pa hw hs) fun D σ H h => ?_⟩
  obtain ⟨ρ, u, Z, b1, b2, b3⟩ := imp_par h
  refine ⟨ρ, u, Z, b1, b2, b3.eqn fun d u1 vs H1 _ _ _ _ h => ?_⟩
  match vs, h with
  | [v, w], h => exact ⟨v, w, rfl, h.2 H1 fun _ _ q => q⟩
theorem sd_par3 (hc : X.calm = true) (hN : X.N.Nodup) (i j l : Nat) (hij : i ≠ j) (hil : i ≠ l) (hjl : j ≠ l) (hq : QD A.g X [a, b, c] q) (hi : X.N[i]? = some x := by rfl) (hj : X.N[j]? = some y := by rfl) (hl : X.N[l]? = some z := by rfl)
    (hx : X.env.scope.names.lookup x = some .local := by rfl) (hy : X.env.scope.names.lookup y = some .local := by rfl) (hz : X.env.scope.names.lookup z = some .local := by rfl)
    (hw : swappedStores [.Tuple [.Name x px, .Name y py, .Name z pz] kt pt] (.Tuple [a, b, c] k2 pt2) X.env = pure (some [x, y, z]) := by rfl)
    (hs : swapsWithSole [.Tuple [.Name x px, .Name y py, .Name z pz] kt pt] (.Tuple [a, b, c] k2 pt2) pos.line X.env = pure false := by rfl) :
    SD A X (.Assign [.Tuple [.Name x px, .Name y py, .Name z pz] kt pt] (.Tuple [a, b, c] k2 pt2) pos) (sPar [i, j, l] q) := by
  refine ⟨PS.imp (ps_par3 hc hN hi hj hl hij hil hjl hx hy hz hq.pa hw hs) fun D σ H h => ?_⟩
  obtain ⟨ρ, u, Z, b1, b2, b3⟩ := imp_par h
  refine ⟨ρ, u, Z, b1, b2, b3.eqn fun d u1 vs H1 _ _ _ _ h => ?_⟩
  match vs, h with
  | [v, w, t], h => exact ⟨v, w, t, rfl, h.2 H1 fun _ _ q => q⟩
/-- names of a tuple -/
structure ND (X : Cx) (ts : List Expr) (is : List Nat) : Prop where
  pg : PGs X ts fun vs σ H Q => vs.length = is.length ∧ Q (setsV is vs σ) H
  len : ts.length = is.length
theorem nd_nil : ND X [] [] := ⟨PGs.imp pgs_nil fun vs σ H Q h => by
  match vs, h with
  | [], h => exact ⟨rfl, h.2⟩, rfl⟩
theorem nd_cons {e : List Expr} {is : List Nat} (i : Nat) (hN : X.N.Nodup) (hi : X.N[i]? = some x) (hx : Loc X.env.scope x) (h : ND X e is) (hf : X.fn x = true ∨ X.env.scope.names.lookup x = some .local := by first | exact .inl rfl | exact .inr rfl | assumption)
    (hs : (assignEach (.Name x px :: e) X.env).map (·.2) = assign (.Name x px) X.env :: (assignEach e X.env).map (·.2) := by rfl) : ND X (.Name x px :: e) (i :: is) := ⟨PGs.imp (pgs_cons (pg_name hN hi hx hf) h.pg hs) fun vs σ H Q h => by
  match vs, h with
  | v :: vs, h => exact ⟨v, vs, rfl, by have := h.1; simpa using this, h.2⟩, by rw [List.length_cons, List.length_cons, h.len]⟩
theorem sd_parT {ts es : List Expr} {is : List Nat} (hc : X.calm = true) (hn : ND X ts is) (hq : QD A.g X es q) (hle : is.length ≤ 1000 := by decide)
    (hn1 : (assignEach ts X.env).length = is.length := by rfl) (hst : (assignEach ts X.env).findIdx? (·.1) = none := by rfl)
    (hs : swapsWithSole [.Tuple ts kt pt] (.Tuple es k2 pt2) pos.line X.env = pure false := by rfl) (hw : swappedStores [.Tuple ts kt pt] (.Tuple es k2 pt2) X.env = pure none := by rfl)
    (h1 : (assignEach [.Tuple ts kt pt] X.env).map (·.2) = [assign (.Tuple ts kt pt) X.env] := by rfl) :
    SD A X (.Assign [.Tuple ts kt pt] (.Tuple es k2 pt2) pos) (sPar is q) := by
  refine ⟨PS.imp (ps_asg (pe_tup hq.pa) (pg_tup hc hn.pg hn1 hst) hs hw h1) fun D σ H h => ?_⟩
  obtain ⟨ρ, u, Z, b1, b2, b3⟩ := imp_par h
  refine ⟨ρ, u, Z, b1, b2, b3.eqn fun d u1 vs H1 _ _ _ _ h => ?_⟩
  refine ⟨Nat.le_of_lt (small1000 (by rw [h.1]; exact hle)), fun p hp => ⟨p, vs, rfl, .inl (.inl upd_same), h.1, h.1, h.2 _ fun b o q => ?_⟩⟩
  rw [upd_ne (ne_of_none q hp)]
  exact q
end
end Dn
namespace Dn
open PySem PySem.Spec PyProof.Rows L2
/-! ### new lists of new lists -/
def Inn (K : PySem.W.Frag) (Z : AZ) (U : Option Addr) (H : Hp) (as : List Addr) (ll : List (List D)) : Prop :=
  as.length = ll.length ∧ ∀ (j : Nat) (b : Addr) (l : List D), as[j]? = some b → ll[j]? = some l → ∃ xs, H b = some (.lst xs) ∧ Reps K Z U H l xs
def RFr2 (K : PySem.W.Frag) (g : G) (H0 : Hp) : AZ → Hp → D → V → Prop := fun Z H d v => ∃ (ll : List (List D)) (as : List Addr) (a : Addr), d = .lst (ll.map D.lst) ∧ v = .ref a ∧ as.Nodup ∧ a ∉ as ∧ (H0 a = none ∧ ¬ Z a) ∧ (∀ b ∈ as, H0 b = none ∧ ¬ Z b) ∧
  H a = some (.lst (as.map V.ref)) ∧ Inn K (fun c => Z c ∨ c = a ∨ c ∈ as) g.U H as ll
def tF2 (K : PySem.W.Frag) (g : G) (m : ME) : TE := fun σ H Q => ∃ ρ u Z, Bs Z g.U H u ∧ RelE K Z g.U σ H ρ ∧ PostE g (RFr2 K g H) Z H (m ρ u) Q
theorem lsts_map : ∀ {l : List D} {ll : List (List D)}, lsts l = some ll ↔ l = ll.map D.lst
  | [], ll => by
    rw [lsts]
    constructor
    · intro h; cases h; rfl
    · intro h
      cases ll with
      | nil => rfl
      | cons _ _ => cases h
  | .lst a :: l, ll => by
    rw [lsts]
    constructor
    · intro h
      cases q : lsts l with
      | none => rw [q] at h; cases h
      | some m =>
        rw [q] at h
        cases h
        rw [List.map_cons, ← lsts_map.mp q]
    · intro h
      cases ll with
      | nil => cases h
      | cons x m =>
        rw [List.map_cons] at h
        have h1 := (List.cons.inj h).1
        have h2 := (List.cons.inj h).2
        cases h1
        rw [lsts_map.mpr h2]
        rfl
  | .non :: l, ll => by rw [lsts] <;> first | (constructor <;> intro h <;> (try cases h) <;> (cases ll <;> cases h)) | (intros; simp_all)
  | .bl _ :: l, ll => by rw [lsts] <;> first | (constructor <;> intro h <;> (try cases h) <;> (cases ll <;> cases h)) | (intros; simp_all)
  | .int _ :: l, ll => by rw [lsts] <;> first | (constructor <;> intro h <;> (try cases h) <;> (cases ll <;> cases h)) | (intros; simp_all)
  | .str _ :: l, ll => by rw [lsts] <;> first | (constructor <;> intro h <;> (try cases h) <;> (cases ll <;> cases h)) | (intros; simp_all)
  | .tup _ :: l, ll => by rw [lsts] <;> first | (constructor <;> intro h <;> (try cases h) <;> (cases ll <;> cases h)) | (intros; simp_all)
  | .dct _ _ :: l, ll => by rw [lsts] <;> first | (constructor <;> intro h <;> (try cases h) <;> (cases ll <;> cases h)) | (intros; simp_all)
  | .urn :: l, ll => by rw [lsts] <;> first | (constructor <;> intro h <;> (try cases h) <;> (cases ll <;> cases h)) | (intros; simp_all)
  | .scr _ :: l, ll => by rw [lsts] <;> first | (constructor <;> intro h <;> (try cases h) <;> (cases ll <;> cases h)) | (intros; simp_all)
theorem Inn.mono {K : PySem.W.Frag} {Z Z' : AZ} {U : Option Addr} {H H' : Hp} {as : List Addr} {ll : List (List D)} (h : Inn K Z U H as ll) (hl : ∀ b xs, b ∈ as → H b = some (.lst xs) → H' b = some (.lst xs)) (hm : ∀ l xs, Reps K Z U H l xs → Reps K Z' U H' l xs) : Inn K Z' U H' as ll :=
  ⟨h.1, fun j b l h1 h2 => by
    obtain ⟨xs, h3, h4⟩ := h.2 j b l h1 h2
    exact ⟨xs, hl b xs (List.mem_of_getElem? h1) h3, hm l xs h4⟩⟩
theorem Inn.app {K : PySem.W.Frag} {Z : AZ} {U : Option Addr} {H : Hp} {as : List Addr} {ll : List (List D)} (h : Inn K Z U H as ll) {a : Addr} {l : List D} {xs : List V} (ha : H a = some (.lst xs)) (hr : Reps K Z U H l xs) : Inn K Z U H (as ++ [a]) (ll ++ [l]) := by
  refine ⟨by rw [List.length_append, List.length_append, h.1]; rfl, fun j b m h1 h2 => ?_⟩
  by_cases hj : j < as.length
  · rw [List.getElem?_append_left hj] at h1
    rw [List.getElem?_append_left (by rw [← h.1]; exact hj)] at h2
    exact h.2 j b m h1 h2
  · rw [List.getElem?_append_right (by omega)] at h1
    rw [List.getElem?_append_right (by rw [← h.1]; omega), ← h.1] at h2
    cases q : j - as.length with
    | zero =>
      rw [q] at h1 h2
      cases h1
      cases h2
      exact ⟨xs, ha, hr⟩
    | succ k => rw [q] at h1; cases h1
section
variable {g : G} {X : Cx}
theorem lc_imp2 {mi : MEs} {gg : TG} {mc me : ME} {vs : List Nat} {σ : L2.St} {H : Hp} {Q : VK} (h : tF2 X.K g (mLc mi gg mc me vs) σ H Q) : tLc (tI X.K g mi) (tG X.K g.no vs gg) (tT X.K g.no mc) (tF X.K g.no me) vs σ H Q := by
  obtain ⟨ρ, u, Z, bs, rel, post⟩ := h
  refine ⟨ρ, u, Z, bs, rel, PostE.bind post fun ds u1 J H1 e1 n1 rw1 post1 => ?_⟩
  obtain ⟨hl, wk⟩ := rw1
  have bs1 := bs.ext e1 n1
  have rel1 := (rel.ext bs e1).wipe vs
  intro D hD
  have hDU : g.U ≠ some D := fun e => by rw [n1 D e] at hD; cases hD
  let ZZ : List Addr → AZ := fun as b => Z b ∨ b = D ∨ b ∈ as
  let W : Nat → Nat → Hp → Prop := fun i m Hc => m = ds.length - i ∧ i ≤ ds.length ∧ ∃ (as : List Addr) (ll : List (List Dn.D)) (u : Urn), Hc D = some (.lst (as.map V.ref)) ∧ as.Nodup ∧ D ∉ as ∧ (∀ b ∈ as, H1 b = none) ∧ Inn X.K (ZZ as) g.U Hc as ll ∧ ll.length ≤ i ∧ Ext g.U H1 Hc ∧ UrnAt g.U Hc u ∧
    PostE g (RFr2 X.K g H) Z H1 (((lcGo gg mc me (wipeE ρ vs) (ds.drop i) u).calm).bind fun xs u => .ok (Dn.D.lst (ll.map Dn.D.lst ++ xs)) u) Q
  refine ⟨W, ⟨ds.length, rfl, Nat.zero_le _, [], [], u1, upd_same, .nil, by simp, (fun b h => nomatch h), ⟨rfl, fun j b l h1 _ => by simp at h1⟩, Nat.le_refl _, Ext.new hD, n1.ext hD, post1⟩, ?_⟩
  rintro i m Hc ⟨rfl, hi, as, ll, u2, hD2, nd, hDa, hfr, rl, lll, ex, un, po⟩
  have fz : Fz Z H1 Hc := fun b o n q => ex b o (fun z => n (bs1.zu b z)) q
  by_cases hlt : i < ds.length
  · refine .inr ⟨wk.go i Hc fz hlt, W (i + 1) (ds.length - (i + 1)), fun H' w => ⟨_, by omega, w⟩, fun x H' y => ?_⟩
    obtain ⟨k1, k2⟩ := wk.yld i Hc x H' ds[i] fz (List.getElem?_eq_getElem hlt) y
    rw [List.drop_eq_getElem_cons hlt, lcGo] at po
    have hZD : ∀ b, ZZ as b → Z b ∨ H1 b = none := fun b z => by
      rcases z with z | z | z
      · exact .inl z
      · rw [z]; exact .inr hD
      · exact .inr (hfr b z)
    have bsc : Bs (ZZ as) g.U Hc u2 := ⟨fun a e => .inl (bs1.zu a e), fun a z => by
      rcases z with z | z | z
      · exact (bs1.ext ex un).za a z
      · rw [z]; exact ⟨_, hD2⟩
      · obtain ⟨j, hj⟩ := List.getElem?_of_mem z
        have hjl : j < ll.length := by rw [← rl.1]; exact (List.getElem?_eq_some_iff.mp hj).1
        obtain ⟨xs, q, _⟩ := rl.2 j a _ hj (List.getElem?_eq_getElem hjl)
        exact ⟨_, q⟩, un⟩
    have ex' : Ext g.U Hc H' := fun b o _ q => k1 b o q
    have un' : UrnAt g.U H' u2 := fun a e => k1 _ _ (un a e)
    have bs' := bsc.ext ex' un'
    have relD : RelE X.K (ZZ as) g.U (wipe σ vs) H1 (wipeE ρ vs) := rel1.grow hZD
    have relc : RelE X.K (ZZ as) g.U (wipe σ vs) H' (wipeE ρ vs) := by
      refine ⟨relD.1, fun j d q => ?_⟩
      obtain ⟨v, q1, q2⟩ := relD.2 j d q
      exact ⟨v, q1, q2.mono fun b o n q => k1 b o (ex b o (fun z => n (.inl (bs1.zu b z))) q)⟩
    have hD' : H' D = some (.lst (as.map V.ref)) := k1 _ _ hD2
    have rl' : Inn X.K (ZZ as) g.U H' as ll := rl.mono (fun b xs _ q => k1 b _ q) fun l xs r => r.mono fun b o n q => k1 b o q
    cases q : gg ds[i] (wipeE ρ vs) with
    | none => rw [q] at po; exact po.elim
    | some ρ1 =>
      rw [q] at po
      refine ⟨wipeE ρ vs, u2, ZZ as, ds[i], ρ1, bs', relc, k2 _ fun b z => ⟨hZD b z, bsc.za b z⟩, q, fun σ2 rel2 hw2 => ⟨hw2.trans wipe_idem, ?_⟩⟩
      refine ⟨ρ1, u2, ZZ as, bs', rel2, PostE.calmB po fun b u3 vb H3 e3 n3 r3 po3 => ?_⟩
      subst r3
      have bs3 := Bs.ext (g := g) bs' e3 n3
      have nU : ∀ b ∈ as, g.U ≠ some b := fun b hb z => by
        have := hfr b hb
        rw [n1 b z] at this; cases this
      have rl3 : Inn X.K (ZZ as) g.U H3 as ll := rl'.mono (fun b xs hb q => e3 b _ (nU b hb) q) fun l xs r => Ext.reps (g := g) bs' e3 r
      have hD3 : H3 D = some (.lst (as.map V.ref)) := e3 D _ hDU hD'
      cases b with
      | false =>
        rw [if_neg Bool.false_ne_true] at po3 ⊢
        exact ⟨rfl, hlt, as, ll, u3, hD3, nd, hDa, hfr, rl3, by omega, (ex.trans ex').trans e3, n3, po3⟩
      | true =>
        rw [if_pos rfl] at po3 ⊢
        refine ⟨ρ1, u3, ZZ as, bs3, RelE.ext (g := g) bs' e3 rel2, PostE.calmB po3 fun z u4 y4 H4 e4 n4 r4 po4 => ?_⟩
        obtain ⟨l4, xs4, a4, rfl, rfl, h30, hz4, h4a, r4⟩ := r4
        have hD4 : H4 D = some (.lst (as.map V.ref)) := e4 D _ hDU hD3
        have rl4 : Inn X.K (ZZ as) g.U H4 as ll := rl3.mono (fun b xs hb q => e4 b _ (nU b hb) q) fun l xs r => Ext.reps (g := g) bs3 e4 r
        have la := rl4.1
        have naD : a4 ≠ D := fun z => hz4 (.inr (.inl z))
        have h10 : H1 a4 = none := by
          cases w : H1 a4 with
          | none => rfl
          | some o =>
            by_cases hu : g.U = some a4
            · exact absurd (Or.inl (bs1.zu a4 hu)) hz4
            · rw [e3 a4 _ hu (k1 a4 _ (ex a4 o hu w))] at h30; cases h30
        have hz5 : ∀ b, ZZ (as ++ [a4]) b ↔ (ZZ as b ∨ b = a4) := fun b => by
          show (Z b ∨ b = D ∨ b ∈ as ++ [a4]) ↔ ((Z b ∨ b = D ∨ b ∈ as) ∨ b = a4)
          rw [List.mem_append, List.mem_singleton, or_assoc, or_assoc]
        have e5 : ZZ (as ++ [a4]) = fun b => ZZ as b ∨ b = a4 := funext fun b => propext (hz5 b)
        -- the inner lists at H4, avoiding a4 as well
        have rl5 : Inn X.K (ZZ (as ++ [a4])) g.U H4 as ll := by
          rw [e5]
          refine rl3.mono (fun b xs hb q => e4 b _ (nU b hb) q) fun l xs r => ?_
          have r' : Reps X.K (fun b => ZZ as b ∨ b = a4) g.U H3 l xs := r.grow fun b z => z.imp id fun z => by rw [z]; exact h30
          exact r'.mono fun b o n q => e4 b o (fun z => n (.inl (bs3.zu b z))) q
        have r5 : Reps X.K (ZZ (as ++ [a4])) g.U H4 l4 xs4 := by rw [e5]; exact r4
        have hDD : ZZ (as ++ [a4]) D := .inr (.inl rfl)
        have rl6 := rl5.app h4a r5
        refine ⟨as.map V.ref, hD4, by rw [List.length_map, la, LN_line]; omega, rfl, hlt, as ++ [a4], ll ++ [l4], u4, ?_, ?_, ?_, ?_, ?_, ?_, ?_, ?_, ?_⟩
        · rw [upd_same, List.map_append]; rfl
        · rw [List.nodup_append]
          exact ⟨nd, by simp, fun x hx y hy => by
            rw [List.mem_singleton] at hy
            rw [hy]
            exact fun z => hz4 (.inr (.inr (by rw [← z]; exact hx)))⟩
        · rw [List.mem_append, List.mem_singleton]
          rintro (z | z)
          · exact hDa z
          · exact naD z.symm
        · intro b hb
          rw [List.mem_append, List.mem_singleton] at hb
          rcases hb with z | z
          · exact hfr b z
          · rw [z]; exact h10
        · refine rl6.mono (fun b xs hb q => ?_) fun l xs r => r.mono fun b o n q => ?_
          · rw [upd_ne]
            · exact q
            · intro z
              rw [z, List.mem_append, List.mem_singleton] at hb
              rcases hb with y | y
              · exact hDa y
              · exact naD y.symm
          · rw [upd_ne fun z => n (by rw [z]; exact hDD)]; exact q
        · rw [List.length_append, List.length_singleton]; omega
        · intro b o hb q
          rw [upd_ne (ne_of_none q hD)]
          exact e4 b o hb (e3 b o hb (k1 b o (ex b o hb q)))
        · intro a e
          rw [upd_ne (fun e2 => hDU (by rw [e, e2]))]
          exact n4 a e
        · cases q5 : lcGo gg mc me (wipeE ρ vs) (ds.drop (i + 1)) u4 with
          | ok xs u5 =>
            rw [q5] at po4
            show PostE g (RFr2 X.K g H) Z H1 (Out.ok (Dn.D.lst ((ll ++ [l4]).map Dn.D.lst ++ xs)) u5) Q
            rw [List.map_append, List.append_assoc]
            exact po4
          | er x u5 => rw [q5] at po4; exact po4.elim
          | bad => rw [q5] at po4; exact po4.elim
  · have ei : i = ds.length := by omega
    subst ei
    refine .inl ⟨wk.stop Hc fz, ?_⟩
    rw [List.drop_length] at po
    have po : PostE g (RFr2 X.K g H) Z H1 (Out.ok (Dn.D.lst (ll.map Dn.D.lst ++ [])) u2) Q := po
    rw [List.append_nil] at po
    have nz : ∀ a, H1 a = none → ¬ Z a := fun a ha z => by
      obtain ⟨o, q⟩ := bs1.za a z
      rw [ha] at q
      cases q
    exact po (.ref D) Hc ex un ⟨ll, as, D, rfl, rfl, nd, hDa, ⟨e1.none bs.urn n1 hD, nz D hD⟩, fun b hb => ⟨e1.none bs.urn n1 (hfr b hb), nz b (hfr b hb)⟩, hD2, rl⟩
end
section
variable {K : PySem.W.Frag} {A : Act} {H0 H H1 : Hp} {o o' : Own} {σ : L2.St} {Γ : SEnv} {u u1 : Urn}
def Own.add2 (o : Own) (as : List Addr) (i : Nat) : Own := fun b => if b ∈ as then some i else o.drop i b
theorem RelS.fresh2 (r : RelS K A H0 o σ H Γ) (n : UrnAt A.g.U H u) (e : Ext A.g.U H H1) (n1 : UrnAt A.g.U H1 u1) (i : Nat) {a : Addr} {as : List Addr} {ll : List (List D)} (nd : as.Nodup) (na : a ∉ as) (ha : H a = none) (has : ∀ b ∈ as, H b = none) (ha1 : H1 a = some (.lst (as.map V.ref)))
    (hx : Inn K (fun c => Zo A o c ∨ c = a ∨ c ∈ as) A.g.U H1 as ll) : RelS K A H0 (o.add2 (a :: as) i) (σ.set i (some (.ref a))) H1 (Γ.set i (.own2 ll)) := by
  have hall : ∀ b ∈ a :: as, H b = none := fun b hb => by
    rcases List.mem_cons.mp hb with z | z
    · rw [z]; exact ha
    · exact has b z
  have hU : ∀ b ∈ a :: as, A.g.U ≠ some b := fun b hb z => by have := hall b hb; rw [n b z] at this; cases this
  have oa : ∀ b ∈ a :: as, o b = none := fun b hb => by
    cases q : o b with
    | none => rfl
    | some j =>
      obtain ⟨_, _, xs, h3⟩ := r.oz b j q
      rw [hall b hb] at h3; cases h3
  have mv : ∀ b v, ¬ (Zo A o b ∨ b ∈ a :: as) → H b = some v → H1 b = some v := fun b v nn q => e b v (fun z => nn (.inl (.inl (r.zu b z)))) q
  have gr : ∀ b, (Zo A o b ∨ b ∈ a :: as) → Zo A o b ∨ H b = none := fun b z => z.imp id (hall b)
  have a0 : ∀ b ∈ a :: as, H0 b = none := fun b hb => by
    cases q : H0 b with
    | none => rfl
    | some v => exact absurd (r.ext b v (hU b hb) q) (by rw [hall b hb]; exact nofun)
  have az : ∀ b ∈ a :: as, ¬ A.Zc b := fun b hb z => by
    obtain ⟨v, hv⟩ := (r.bsc n).za b z
    rw [hall b hb] at hv; cases hv
  have sub : ∀ b, Zo A (o.add2 (a :: as) i) b → Zo A o b ∨ b ∈ a :: as := fun b z => by
    rcases z with z | ⟨j, z⟩
    · exact .inl (.inl z)
    · unfold Own.add2 at z
      split at z
      · exact .inr (by assumption)
      · exact .inl (drop_sub (.inr ⟨j, z⟩))
  have hlst : ∀ b ∈ a :: as, ∃ xs, H1 b = some (.lst xs) := fun b hb => by
    rcases List.mem_cons.mp hb with z | z
    · rw [z]; exact ⟨_, ha1⟩
    · obtain ⟨j, hj⟩ := List.getElem?_of_mem z
      have hjl : j < ll.length := by rw [← hx.1]; exact (List.getElem?_eq_some_iff.mp hj).1
      obtain ⟨xs, q, _⟩ := hx.2 j b _ hj (List.getElem?_eq_getElem hjl)
      exact ⟨xs, q⟩
  refine r.make i (.own2 ll) (some (.ref a)) (r.ext.trans e) (fun b z => ⟨_, n1 b z⟩) (fun d v q => ((q.grow gr).mono mv).sub sub) (fun d v q => ((q.grow gr).mono mv).sub sub) (fun b j ys hj h1 h2 => e b _ (r.noU h1) h2) (fun b j hj => ?_) (fun b hb => ?_)
    ⟨a, as, rfl, if_pos List.mem_cons_self, ha1, hx.1, nd, na, fun j b l h1 h2 => ⟨if_pos (List.mem_cons_of_mem _ (List.mem_of_getElem? h1)), ?_⟩⟩
  · unfold Own.add2
    split
    · rename_i hb
      rw [oa b hb]
      exact ⟨fun z => absurd (Option.some.inj z).symm hj, nofun⟩
    · exact drop_ne hj
  · unfold Own.add2 at hb
    split at hb
    · rename_i hm
      exact ⟨az b hm, a0 b hm, hlst b hm⟩
    · exact (drop_at hb).elim
  · obtain ⟨xs, h3, h4⟩ := hx.2 j b l h1 h2
    exact ⟨xs, h3, h4.sub fun b z => (sub b z).imp id fun z => List.mem_cons.mp z⟩
/-- one of the inner lists is changed -/
theorem RelS.chg2 (r : RelS K A H0 o σ H Γ) (n : UrnAt A.g.U H u) {i p : Nat} {a b : Addr} {as : List Addr} {ll : List (List D)} {xs' : List V} {l' : List D} (hx : σ[i]? = some (some (.ref a))) (ho : o a = some i) (ha : H a = some (.lst (as.map V.ref))) (hl : as.length = ll.length) (nd : as.Nodup) (na : a ∉ as)
    (hin : ∀ (j : Nat) (b : Addr) (l : List D), as[j]? = some b → ll[j]? = some l → o b = some i ∧ ∃ xs, H b = some (.lst xs) ∧ Reps K (Zo A o) A.g.U H l xs) (hp : as[p]? = some b) (hr : Reps K (Zo A o) A.g.U H l' xs') :
    RelS K A H0 o σ (upd H b (.lst xs')) (Γ.set i (.own2 (ll.set p l'))) ∧ UrnAt A.g.U (upd H b (.lst xs')) u := by
  have hpl : p < ll.length := by rw [← hl]; exact (List.getElem?_eq_some_iff.mp hp).1
  have hb := (hin p b _ hp (List.getElem?_eq_getElem hpl)).1
  have hU := r.noU hb
  have mv : ∀ c v, ¬ Zo A o c → H c = some v → upd H b (.lst xs') c = some v := fun c v nn q => by rw [upd_ne fun z => nn (by rw [z]; exact .inr ⟨i, hb⟩)]; exact q
  have z := r.oz b i hb
  have nu : UrnAt A.g.U (upd H b (.lst xs')) u := fun c e => by rw [upd_ne fun q => hU (by rw [e, q])]; exact n c e
  have := r.make (o' := o) (H1 := upd H b (.lst xs')) i (.own2 (ll.set p l')) (some (.ref a)) (fun c v nn q => by rw [upd_ne fun e => by rw [e, z.2.1] at q; cases q]; exact r.ext c v nn q) (fun c e => ⟨_, nu c e⟩)
    (fun d v q => q.mono mv) (fun d v q => q.mono mv) (fun c j ys hj h1 h2 => by rw [upd_ne fun e => by rw [e, hb] at h1; exact hj (Option.some.inj h1).symm]; exact h2) (fun c j hj => Iff.rfl)
    (fun c hc => ⟨(r.oz c i hc).1, (r.oz c i hc).2.1, by
      by_cases e : c = b
      · rw [e, upd_same]; exact ⟨_, rfl⟩
      · rw [upd_ne e]; exact (r.oz c i hc).2.2⟩)
    ⟨a, as, rfl, ho, by rw [upd_ne fun e => na (by rw [e]; exact List.mem_of_getElem? hp)]; exact ha, by rw [List.length_set]; exact hl, nd, na, fun j c l h1 h2 => ?_⟩
  · rw [set_self hx] at this
    exact ⟨this, nu⟩
  · rw [List.getElem?_set] at h2
    by_cases e : p = j
    · subst e
      rw [if_pos rfl, if_pos hpl] at h2
      cases h2
      rw [hp] at h1
      cases h1
      exact ⟨hb, xs', upd_same, hr.mono mv⟩
    · rw [if_neg e] at h2
      obtain ⟨q1, xs, q2, q3⟩ := hin j c l h1 h2
      have ncb : c ≠ b := fun z => e (by
        have h3 : as[p]? = as[j]? := by rw [hp, h1, z]
        have hjl : p < as.length := by rw [hl]; exact hpl
        exact (List.getElem?_inj hjl nd).mp h3)
      exact ⟨q1, xs, by rw [upd_ne ncb]; exact q2, q3.mono mv⟩
theorem RelS.own2_at (r : RelS K A H0 o σ H Γ) {i : Nat} {ll : List (List D)} (h : Γ[i]? = some (.own2 ll)) : ∃ (a : Addr) (as : List Addr), σ[i]? = some (some (.ref a)) ∧ o a = some i ∧ H a = some (.lst (as.map V.ref)) ∧ as.length = ll.length ∧ as.Nodup ∧ a ∉ as ∧
    ∀ (j : Nat) (b : Addr) (l : List D), as[j]? = some b → ll[j]? = some l → o b = some i ∧ ∃ xs, H b = some (.lst xs) ∧ Reps K (Zo A o) A.g.U H l xs := by
  obtain ⟨x, e, a, as, rfl, q⟩ := r.slots i _ h
  exact ⟨a, as, e, q⟩
end
section
variable {A : Act} {X : Cx} {pos spos py px apos cpos tpos ipos : Pos} {x y : Str} {e k j : Expr} {me mk mj : ME}
theorem sd_set2Lc {elt tg iter : Expr} {ifs : List Expr} {scope : Scope} {own : List (Str × Nat)} {mi : MEs} {gg : TG} {mc me : ME} (i : Nat) (hN : X.N.Nodup) (hy : X.N[i]? = some y) (hyl : X.env.scope.names.lookup y = some .local)
    (hsw : swapsWith (.ListComp elt [⟨tg, iter, ifs, 0⟩] scope pos) (some (.Name y py)) spos.line X.env = pure true) (hc : X.calm = true) (hi : ID A.g X tg iter mi) (ok : BlkOk X.N X.env.scope scope own)
    (hg : ∀ (s : Shared) (H : Hp) (C : Addr) (cl : List (Str × Addr)) (fp : List Addr), GD A.g.no (X.blk s H scope (compEnvC scope cl C X.env) fp) (own.map (·.2)) tg gg)
    (ht : ∀ (s : Shared) (H : Hp) (C : Addr) (cl : List (Str × Addr)) (fp : List Addr), CD A.g.no (X.blk s H scope (compEnvC scope cl C X.env) fp) ifs mc)
    (he : ∀ (s : Shared) (H : Hp) (C : Addr) (cl : List (Str × Addr)) (fp : List Addr), FD A.g.no (X.blk s H scope (compEnvC scope cl C X.env) fp) elt me) (hs : ∀ x, foldedSetIterable iter X.env x = pure x := by intro _; rfl) :
    SD A X (.Assign [.Name y py] (.ListComp elt [⟨tg, iter, ifs, 0⟩] scope pos) spos) (sSet2 i (mLc mi gg mc me (own.map (·.2)))) := by
  refine ⟨PS.imp (ps_setLc (g := tG X.K A.g.no (own.map fun x : Str × Nat => x.2) gg) (tt := tT X.K A.g.no mc) (te := tF X.K A.g.no me) hc hN hy hyl hsw hi.pi ok (fun s H C cl fp => (hg s H C cl fp).pg) (fun s H C cl fp => (ht s H C cl fp).pts) (fun s H C cl fp => (he s H C cl fp).pe) hs) fun D σ H h => ?_⟩
  refine lc_imp2 (Q := fun x H1 => L2.gName i x σ H1 D.nx) ?_
  obtain ⟨H0, Γ, u, o, r, n, post⟩ := h
  refine ⟨hideE Γ, u, _, r.bso n, r.hide, PostS.hid post r fun d u1 v H1 e1 n1 r1 q post1 => ?_⟩
  obtain ⟨ll, as, a, rfl, rfl, nd, na, h0, h1, ha, hin⟩ := q
  have post1 : PostS X.K A H0 (match lsts (ll.map Dn.D.lst) with
    | some ll => .nx (Γ.set i (.own2 ll)) u1
    | none => .bad) D := post1
  rw [lsts_map.mpr rfl] at post1
  exact post1 _ _ _ (r.fresh2 n e1 n1 i nd na h0.1 (fun b hb => (h1 b hb).1) ha hin) n1
theorem ix2_at {K : PySem.W.Frag} {Z : AZ} {U : Option Addr} {H : Hp} {as : List Addr} {ll : List (List Dn.D)} {kd : Dn.D} {kv : V} {p : Nat} (hl : as.length = ll.length) (w : ix2 ll kd = some p) (r : Rep K Z U H kd kv) :
    ∃ (z : Int) (b : Addr) (l : List Dn.D), kv = .int z ∧ as[p]? = some b ∧ ll[p]? = some l ∧ L2.atI (as.map V.ref) z = some (.ref b) := by
  cases kd with
  | int z =>
    have w : Dn.ixN ll.length z = some p := w
    have hp : p < ll.length := by
      unfold Dn.ixN at w
      split at w
      · split at w
        · cases w; omega
        · cases w
      · split at w
        · cases w; omega
        · cases w
    have hp' : p < as.length := by rw [hl]; exact hp
    refine ⟨z, as[p], ll[p], rep_int.mp r, List.getElem?_eq_getElem hp', List.getElem?_eq_getElem hp, ?_⟩
    unfold L2.atI
    rw [ixN_eq, List.length_map, hl, w]
    show (as.map V.ref)[p]? = _
    rw [List.getElem?_map, List.getElem?_eq_getElem hp']
    rfl
  | _ => cases w
/-- x[k].append(e) -/
theorem sd_app2 (i : Nat) (hN : X.N[i]? = some x) (hv : Vis X.env.scope x) (hk : ED A.g X k mk) (he : ED A.g X e me) (hpk : PlainIx k := by intro _ _; rfl)
    (hd : (x == ("__debug__" : Str)) = false := by decide +kernel) (hcd : (x == ("__classdict__" : Str)) = false := by decide +kernel)
    (hbase : attributeBase (.Subscript (.Name x px) k ipos) "append" X.env (eval (.Subscript (.Name x px) k ipos) X.env) = eval (.Subscript (.Name x px) k ipos) X.env := by rfl)
    (hfew : ((backTo cpos (starEach [e] X.env)).all (fun x => !x.1) && (backToKw cpos (keywordEach [] X.env)).all (fun x => x.1.isSome)
      && decide ([e].length + ([] : List Keyword).length + (if ([] : List Keyword).isEmpty then 0 else 1) < 30)) = true := by rfl)
    (hline : (apos.endLine == cpos.line) = true := by rfl) (hs : starEach [e] X.env = (false, eval e X.env) :: starEach [] X.env := by rfl) (hplain : (backTo cpos (starEach [] X.env)).any (·.1) = false := by rfl)
    (hsw : swapsWith (.Call (.Attribute (.Subscript (.Name x px) k ipos) "append" apos) [e] [] cpos) none pos.line X.env = pure false := by rfl) :
    SD A X (.Expr (.Call (.Attribute (.Subscript (.Name x px) k ipos) "append" apos) [e] [] cpos) pos) (sApp2 i mk me) := by
  refine ⟨PS.imp (ps_expr (pe_bm PySem.F.plainAttrs_list PySem.F.slot_list_append PySem.F.type_list_append mt_append (pe_ix (ix_list (X := X)) (pe_var (i := i) hN hv hd hcd) hk.pe hpk) (pa_cons he.pe pa_nil hs) hbase hfew hline hs hplain) hsw) fun D σ H h => ?_⟩
  obtain ⟨H0, Γ, u, o, r, n, post⟩ := h
  unfold sApp2 at post
  split at post
  · rename_i ll hl
    obtain ⟨a, as, ex, eo, ha, hlen, nd, na, hin⟩ := r.own2_at hl
    refine ⟨.ref a, ex, snapE Γ, u, _, r.bsc n, r.snap, PostS.see post r fun kd u1 kv H1 e1 n1 r1 q1 post1 => ?_⟩
    have ha1 : H1 a = some (.lst (as.map V.ref)) := e1 a _ (r.noU eo) ha
    have hin1 : ∀ (j : Nat) (b : Addr) (l : List Dn.D), as[j]? = some b → ll[j]? = some l → o b = some i ∧ ∃ xs, H1 b = some (.lst xs) ∧ Reps X.K (Zo A o) A.g.U H1 l xs := fun j b l z1 z2 => by
      obtain ⟨q1, xs, q2, q3⟩ := hin j b l z1 z2
      exact ⟨q1, xs, e1 b _ (r.noU q1) q2, Ext.reps (g := A.g) (r.bso n) e1 q3⟩
    cases w : ix2 ll kd with
    | none => rw [w] at post1; exact post1.elim
    | some p =>
      rw [w] at post1
      have post1 : PostS X.K A H0 (thenS (me (snapE Γ) u1) fun d u => match app2 ll p d with
        | some ll => .nx (Γ.set i (.own2 ll)) u
        | none => .bad) D := post1
      obtain ⟨z, b, l, rfl, hb, hll, hat⟩ := ix2_at hlen w q1
      obtain ⟨ob, xs, hxs, rxs⟩ := hin1 p b l hb hll
      refine ⟨a, _, z, .ref b, rfl, rfl, .of ha1, hat, .inl ⟨rfl, xs, .of hxs⟩, snapE Γ, u1, _, r1.bsc n1, r1.snap, PostS.see post1 r1 fun d u2 v H2 e2 n2 r2 q2 post2 => ?_⟩
      unfold app2 at post2
      rw [hll] at post2
      simp only [Option.bind_some] at post2
      by_cases hz : l.length < LN ∧ noL d = true
      · rw [if_pos hz] at post2
        have hx2 : H2 b = some (.lst xs) := e2 b _ (r.noU ob) hxs
        have rx2 : Reps X.K (Zo A o) A.g.U H2 l xs := Ext.reps (g := A.g) (r1.bso n1) e2 rxs
        have hin2 : ∀ (j : Nat) (b : Addr) (l : List Dn.D), as[j]? = some b → ll[j]? = some l → o b = some i ∧ ∃ xs, H2 b = some (.lst xs) ∧ Reps X.K (Zo A o) A.g.U H2 l xs := fun j b l z1 z2 => by
          obtain ⟨q1, xs, q2, q3⟩ := hin1 j b l z1 z2
          exact ⟨q1, xs, e2 b _ (r.noU q1) q2, Ext.reps (g := A.g) (r1.bso n1) e2 q3⟩
        obtain ⟨r3, n3⟩ := r2.chg2 n2 (l' := l ++ [d]) (xs' := xs ++ [v]) ex eo (e2 a _ (r.noU eo) ha1) hlen nd na hin2 hb (rx2.app (.cons (r2.noL hz.2 q2) .nil))
        exact ⟨b, xs, v, rfl, rfl, hx2, by rw [rx2.len, LN_line]; exact hz.1, post2 _ _ _ r3 n3⟩
      · rw [if_neg hz] at post2
        exact post2.elim
  · exact post.elim
/-- the store x[k][j] = v -/
theorem imp_put2 {i : Nat} {mk mj : ME} {K : PySem.W.Frag} {D : Ends} {σ : L2.St} {H H0 : Hp} {Γ : SEnv} {u : Urn} {o : Own} {d : Dn.D} {v : V} (r : RelS K A H0 o σ H Γ) (n : UrnAt A.g.U H u) (q : Rep K A.Zc A.g.U H d v) (post : PostS K A H0 (sPut2 i mk mj d Γ u) D) :
    gSub (tOp (rIxL K) (tVar i) (tE K A.g mk)) (tE K A.g mj) rSetL v σ H D.nx := by
  unfold sPut2 at post
  split at post
  · rename_i ll hl
    obtain ⟨a, as, ex, eo, ha, hlen, nd, na, hin⟩ := r.own2_at hl
    refine ⟨.ref a, ex, snapE Γ, u, _, r.bsc n, r.snap, PostS.see post r fun kd u1 kv H1 e1 n1 r1 q1 post1 => ?_⟩
    have ha1 : H1 a = some (.lst (as.map V.ref)) := e1 a _ (r.noU eo) ha
    have hin1 : ∀ (j : Nat) (b : Addr) (l : List Dn.D), as[j]? = some b → ll[j]? = some l → o b = some i ∧ ∃ xs, H1 b = some (.lst xs) ∧ Reps K (Zo A o) A.g.U H1 l xs := fun j b l z1 z2 => by
      obtain ⟨q1, xs, q2, q3⟩ := hin j b l z1 z2
      exact ⟨q1, xs, e1 b _ (r.noU q1) q2, Ext.reps (g := A.g) (r.bso n) e1 q3⟩
    cases w : ix2 ll kd with
    | none => rw [w] at post1; exact post1.elim
    | some p =>
      rw [w] at post1
      have post1 : PostS K A H0 (thenS (mj (snapE Γ) u1) fun jd u => match put2 ll p jd d with
        | some ll => .nx (Γ.set i (.own2 ll)) u
        | none => .bad) D := post1
      obtain ⟨z, b, l, rfl, hb, hll, hat⟩ := ix2_at hlen w q1
      obtain ⟨ob, xs, hxs, rxs⟩ := hin1 p b l hb hll
      refine ⟨a, _, z, .ref b, rfl, rfl, .of ha1, hat, snapE Γ, u1, _, r1.bsc n1, r1.snap, PostS.see post1 r1 fun jd u2 jv H2 e2 n2 r2 q2 post2 => ?_⟩
      unfold put2 at post2
      cases jd with
      | int y =>
        simp only [hll, Option.bind_some] at post2
        have hx2 : H2 b = some (.lst xs) := e2 b _ (r.noU ob) hxs
        have rx2 : Reps K (Zo A o) A.g.U H2 l xs := Ext.reps (g := A.g) (r1.bso n1) e2 rxs
        have q3 : Rep K A.Zc A.g.U H2 d v := Ext.rep (g := A.g) (r1.bsc n1) e2 (Ext.rep (g := A.g) (r.bsc n) e1 q)
        have hin2 : ∀ (j : Nat) (b : Addr) (l : List Dn.D), as[j]? = some b → ll[j]? = some l → o b = some i ∧ ∃ xs, H2 b = some (.lst xs) ∧ Reps K (Zo A o) A.g.U H2 l xs := fun j b l z1 z2 => by
          obtain ⟨q1, xs, q2, q3⟩ := hin1 j b l z1 z2
          exact ⟨q1, xs, e2 b _ (r.noU q1) q2, Ext.reps (g := A.g) (r1.bso n1) e2 q3⟩
        cases w2 : Dn.ixN l.length y with
        | none => rw [w2] at post2; exact post2.elim
        | some t =>
          simp only [w2, Option.bind_some] at post2
          by_cases hz : noL d = true
          · rw [if_pos hz] at post2
            obtain ⟨r3, n3⟩ := r2.chg2 n2 (l' := l.set t d) (xs' := xs.set t v) ex eo (e2 a _ (r.noU eo) ha1) hlen nd na hin2 hb (rx2.set t (r2.noL hz q3))
            exact ⟨b, xs, y, t, rfl, rep_int.mp q2, hx2, by rw [rx2.len]; exact w2, post2 _ _ _ r3 n3⟩
          · rw [if_neg hz] at post2
            exact post2.elim
      | _ => exact post2.elim
  · exact post.elim
/-- x[k][j], x[k'][j'] = e -/
theorem sd_put22 {k1 j1 k2 j2 : Expr} {mk1 mj1 mk2 mj2 : ME} {x1 : Nat} {px2 ip2 tp2 tp : Pos} (hc : X.calm = true) (i : Nat) (hN : X.N[i]? = some x) (hv : Vis X.env.scope x) (h1k : ED A.g X k1 mk1) (h1j : ED A.g X j1 mj1) (h2k : ED A.g X k2 mk2) (h2j : ED A.g X j2 mj2) (he : ED A.g X e me)
    (hpk : PlainIx k1 := by intro _ _; rfl) (hpk2 : PlainIx k2 := by intro _ _; rfl)
    (hd : (x == ("__debug__" : Str)) = false := by decide +kernel) (hcd : (x == ("__classdict__" : Str)) = false := by decide +kernel)
    (ha : ∀ v, assign (.Subscript (.Subscript (.Name x px) k1 ipos) j1 tpos) X.env v = (do
      let ov ← holding [v] (eval (.Subscript (.Name x px) k1 ipos) X.env)
      let iv ← holding [v, ov] (eval j1 X.env)
      standAt tpos
      holding [v, ov, iv] (setItem ov iv v)
      release [v, ov, iv] []) := by intro _; rfl)
    (ha2 : ∀ v, assign (.Subscript (.Subscript (.Name x px2) k2 ip2) j2 tp2) X.env v = (do
      let ov ← holding [v] (eval (.Subscript (.Name x px2) k2 ip2) X.env)
      let iv ← holding [v, ov] (eval j2 X.env)
      standAt tp2
      holding [v, ov, iv] (setItem ov iv v)
      release [v, ov, iv] []) := by intro _; rfl)
    (hs1 : (assignEach [.Subscript (.Subscript (.Name x px) k1 ipos) j1 tpos, .Subscript (.Subscript (.Name x px2) k2 ip2) j2 tp2] X.env).map (·.2) = assign (.Subscript (.Subscript (.Name x px) k1 ipos) j1 tpos) X.env :: (assignEach [.Subscript (.Subscript (.Name x px2) k2 ip2) j2 tp2] X.env).map (·.2) := by rfl)
    (hs2 : (assignEach [.Subscript (.Subscript (.Name x px2) k2 ip2) j2 tp2] X.env).map (·.2) = assign (.Subscript (.Subscript (.Name x px2) k2 ip2) j2 tp2) X.env :: (assignEach [] X.env).map (·.2) := by rfl)
    (hn : (assignEach [.Subscript (.Subscript (.Name x px) k1 ipos) j1 tpos, .Subscript (.Subscript (.Name x px2) k2 ip2) j2 tp2] X.env).length = 2 := by rfl) (hst : (assignEach [.Subscript (.Subscript (.Name x px) k1 ipos) j1 tpos, .Subscript (.Subscript (.Name x px2) k2 ip2) j2 tp2] X.env).findIdx? (·.1) = none := by rfl)
    (hs : swapsWithSole [.Tuple [.Subscript (.Subscript (.Name x px) k1 ipos) j1 tpos, .Subscript (.Subscript (.Name x px2) k2 ip2) j2 tp2] x1 tp] e pos.line X.env = pure false := by rfl) (hw : swappedStores [.Tuple [.Subscript (.Subscript (.Name x px) k1 ipos) j1 tpos, .Subscript (.Subscript (.Name x px2) k2 ip2) j2 tp2] x1 tp] e X.env = pure none := by rfl)
    (h1 : (assignEach [.Tuple [.Subscript (.Subscript (.Name x px) k1 ipos) j1 tpos, .Subscript (.Subscript (.Name x px2) k2 ip2) j2 tp2] x1 tp] X.env).map (·.2) = [assign (.Tuple [.Subscript (.Subscript (.Name x px) k1 ipos) j1 tpos, .Subscript (.Subscript (.Name x px2) k2 ip2) j2 tp2] x1 tp) X.env] := by rfl) :
    SD A X (.Assign [.Tuple [.Subscript (.Subscript (.Name x px) k1 ipos) j1 tpos, .Subscript (.Subscript (.Name x px2) k2 ip2) j2 tp2] x1 tp] e pos) (sPut22 i mk1 mj1 mk2 mj2 me) := by
  refine ⟨PS.imp (ps_asg he.pe (pg_tup hc (pgs_cons (pg_sub (pe_ix (ix_list (X := X)) (pe_var (i := i) hN hv hd hcd) h1k.pe hpk) h1j.pe set_list ha) (pgs_cons (pg_sub (pe_ix (ix_list (X := X)) (pe_var (i := i) hN hv hd hcd) h2k.pe hpk2) h2j.pe set_list ha2) pgs_nil hs2) hs1) hn hst) hs hw h1) fun D σ H h => ?_⟩
  obtain ⟨H0, Γ, u, o, r, n, post⟩ := h
  refine ⟨snapE Γ, u, _, r.bsc n, r.snap, PostS.see post r fun d u1 v H1 e1 n1 r1 q post1 => ?_⟩
  split at post1
  · rename_i d1 d2
    obtain ⟨t, vs, rfl, qt, qr⟩ := rep_tup.mp q
    obtain ⟨w1, w2, rfl, q1, q2⟩ := reps2 qr
    refine ⟨t, _, rfl, sqT_of qt, rfl, w1, _, rfl, ?_⟩
    split at post1
    · rename_i hn2
      obtain ⟨rm, em⟩ := r1.memo
      have q2o := r1.noL hn2 q2
      refine imp_put2 (mk := mk1) (mj := mj1) (d := d1) (D := { D with nx := fun σ' H' => gCons (gSub (tOp (rIxL X.K) (tVar i) (tE X.K A.g mk2)) (tE X.K A.g mj2) rSetL) gNil [w2] σ' H' D.nx }) rm n1 q1 ?_
      cases z : sPut2 i mk1 mj1 d1 Γ u1 with
      | nx Γ4 u4 =>
        rw [z] at post1
        intro σ4 H4 o4 r4 n4
        have q4 : Rep X.K A.Zc A.g.U H4 d2 w2 := (q2o.mono (H' := H4) fun b v nz hb => r4.ext b v (fun e => nz (.inl (r1.zu b e))) (by
          unfold memo
          cases w : o b with
          | none => exact hb
          | some j => exact absurd (Or.inr ⟨j, w⟩) nz)).sub fun b z => .inl z
        exact ⟨w2, [], rfl, imp_put2 (D := { D with nx := fun σ' H' => gNil [] σ' H' D.nx }) (r4.wk em r1.hz) n4 q4 (by
          have post1 : PostS X.K A H0 (sPut2 i mk2 mj2 d2 Γ4 u4) D := post1
          cases z2 : sPut2 i mk2 mj2 d2 Γ4 u4 with
          | nx Γ5 u5 => rw [z2] at post1; exact fun σ5 H5 o5 r5 n5 => ⟨rfl, post1 σ5 H5 o5 r5 n5⟩
          | rt d u5 => rw [z2] at post1; exact post1
          | bk Γ5 u5 => rw [z2] at post1; exact post1
          | ct Γ5 u5 => rw [z2] at post1; exact post1
          | er x u5 => rw [z2] at post1; exact post1
          | bad => rw [z2] at post1; exact post1)⟩
      | rt d u4 => rw [z] at post1; exact fun v H4 e4 n4 q4 => post1 v H4 (em.trans e4) n4 q4
      | bk Γ4 u4 => rw [z] at post1; exact fun σ4 H4 o4 r4 n4 => post1 σ4 H4 o4 (r4.wk em r1.hz) n4
      | ct Γ4 u4 => rw [z] at post1; exact fun σ4 H4 o4 r4 n4 => post1 σ4 H4 o4 (r4.wk em r1.hz) n4
      | er x u4 => rw [z] at post1; exact fun C dx H4 e4 n4 q4 => post1 C dx H4 (em.trans e4) n4 q4
      | bad => rw [z] at post1; exact post1
    · exact post1.elim
  · exact post1.elim
end
end Dn
namespace Dn
open PySem PySem.Spec PyProof.Rows L2
theorem passL {P : Program} {w : World} {X : Cx} : Passes (L2.CX P w) X (fun _ _ _ => False) := fun _ _ _ _ _ _ _ h => by
  obtain ⟨_, _, _, _, _, _, _, _, _, _, _, _, h⟩ := h
  exact h.elim
def EA0 : EAT := fun _ _ _ _ _ _ => False
theorem eaOk0 : EaOk EA0 := fun _ _ _ _ _ _ _ _ h => h.elim
section
variable {P : Program} {w : World} {K : PySem.W.Frag} {mg : Str → Option Value} {base : Heap} {EA : EAT}
/-- how a def binds -/
theorem kb_of {x qual : Str} {st : Stmt} {f : Addr} {fd : FuncData} {ps ks : List Str} {q : List Nat} (F : Fun K x qual st f fd) (g : mg x = some (.ref f)) (h : KB fd ps ks q) : ∀ (qual : Str) (st : Stmt) (f : Addr) (fd : FuncData), Fun K x qual st f fd → mg x = some (.ref f) → KB fd ps ks q := fun _ _ _ _ F' g' => by
  rw [g] at g'
  cases g'
  obtain ⟨_, _, _, _, _, _, _, _, _, _, l1, _⟩ := F.ex
  obtain ⟨_, _, _, _, _, _, _, _, _, _, l2, _⟩ := F'.ex
  rw [l1] at l2
  cases l2
  exact h
/-- a def of which nothing is promised -/
theorem cal_bad {x qual : Str} {st : Stmt} {f : Addr} {fd : FuncData} {ps : List Str} (F : Fun K x qual st f fd) (g : mg x = some (.ref f)) (b : Binds K fd ps []) : Cal P w K mg base EA x ps 0 (fun _ _ => .bad) :=
  ⟨f, fd, ⟨fun vs H Q E h => h.1, fun A outer s H args us vs Q E _ _ _ _ h => by
    obtain ⟨h1, ds, u, Z, U, _, _, h⟩ := h
    exact h.elim⟩, g, F.kp, b, qual, st, F⟩
end
/-! ### a def that gives a new list -/
def PostSF (K : PySem.W.Frag) (A : Act) (H0 : Hp) (m : SOut) (D : Ends) : Prop := match m with
  | .nx Γ u => ∀ σ H o, RelS K A H0 o σ H Γ → UrnAt A.g.U H u → D.nx σ H
  | .rt d u => ∀ v H, Ext A.g.U H0 H → UrnAt A.g.U H u → RFr K A.g H0 A.Zc H d v → D.rt v H
  | .bk Γ u => ∀ σ H o, RelS K A H0 o σ H Γ → UrnAt A.g.U H u → D.bk σ H
  | .ct Γ u => ∀ σ H o, RelS K A H0 o σ H Γ → UrnAt A.g.U H u → D.ct σ H
  | .er x u => ∀ C dx H, Ext A.g.U H0 H → UrnAt A.g.U H u → A.g.EA A.Zc A.g.U x C dx H → A.g.W C dx H
  | .bad => False
def tSF (K : PySem.W.Frag) (A : Act) (m : MS) : TS := fun D σ H => ∃ H0 Γ u o, RelS K A H0 o σ H Γ ∧ UrnAt A.g.U H u ∧ PostSF K A H0 (m Γ u) D
structure SFD (A : Act) (X : Cx) (st : List Stmt) (m : MS) : Prop where
  ps : PSs X st (tSF X.K A m)
section
variable {A : Act} {X : Cx} {st : Stmt} {rest : List Stmt} {e : Expr} {m1 m2 : MS} {me : ME} {pos : Pos}
theorem sfd_ret (he : FD A.g X e me) : SFD A X [.Return (some e) pos] (sRet me) := ⟨PSs.imp (pss_one (ps_ret he.pe)) fun D σ H h => by
  obtain ⟨H0, Γ, u, o, r, n, post⟩ := h
  refine ⟨snapE Γ, u, A.Zc, r.bsc n, r.snap, ?_⟩
  unfold sRet at post
  cases w : me (snapE Γ) u with
  | ok d u1 =>
    rw [w] at post
    intro v H1 e1 n1 q
    obtain ⟨l, xs, a, rfl, rfl, h0, hz, ha, hr⟩ := q
    have hn0 : H0 a = none := by
      cases z : H0 a with
      | none => rfl
      | some v =>
        by_cases hu : A.g.U = some a
        · exact absurd (r.zu a hu) hz
        · have := r.ext a v hu z
          rw [h0] at this
          cases this
    exact post (.ref a) H1 (r.ext.trans e1) n1 ⟨l, xs, a, rfl, rfl, hn0, hz, ha, hr⟩
  | er x u1 =>
    rw [w] at post
    exact fun C dx H1 e1 n1 q => post C dx H1 (r.ext.trans e1) n1 q
  | bad => rw [w] at post; exact post.elim⟩
theorem sfd_cons (h1 : SD A X st m1) (h2 : SFD A X rest m2) : SFD A X (st :: rest) (sSeqF m1 m2) := ⟨PSs.imp (pss_cons h1.ps h2.ps) fun D σ H h => by
  obtain ⟨H0, Γ, u, o, r, n, post⟩ := h
  refine ⟨H0, Γ, u, o, r, n, ?_⟩
  unfold sSeqF at post
  cases w : m1 Γ u with
  | nx Γ1 u1 => rw [w] at post; exact fun σ1 H1 o1 r1 n1 => ⟨H0, Γ1, u1, o1, r1, n1, post⟩
  | rt d u1 => rw [w] at post; exact post.elim
  | bk Γ1 u1 => rw [w] at post; exact post
  | ct Γ1 u1 => rw [w] at post; exact post
  | er x u1 => rw [w] at post; exact post
  | bad => rw [w] at post; exact post⟩
end
def spFF (K : PySem.W.Frag) (EA : EAT) (n : Nat) (F : Fn) : Sp := fun vs H Q E => vs.length = n ∧ ∃ ds u Z U, Bs Z U H u ∧ Reps K Z U H ds vs ∧ PostE ⟨U, E, EA⟩ (RFr K ⟨U, E, EA⟩ H) Z H (F ds u) Q
structure CalF (P : Program) (w : World) (K : PySem.W.Frag) (mg : Str → Option Value) (base : Heap) (EA : EAT) (x : Str) (ps : List Str) (k : Nat) (F : Fn) : Prop where
  ex : ∃ f fd, FnOk P w K mg base (L2.CX P w) k f fd ps (spFF K EA ps.length F) ∧ mg x = some (.ref f) ∧ PySem.W.keepIn K (.ref f) = true ∧ Binds K fd ps []
theorem CalF.mono {P : Program} {w : World} {K : PySem.W.Frag} {mg : Str → Option Value} {base : Heap} {EA : EAT} {x : Str} {ps : List Str} {j k : Nat} {F : Fn} (c : CalF P w K mg base EA x ps j F) (h : j ≤ k) : CalF P w K mg base EA x ps k F := by
  obtain ⟨f, fd, a, b⟩ := c.ex
  exact ⟨f, fd, a.mono h, b⟩
section
variable {P : Program} {w : World} {K : PySem.W.Frag} {mg : Str → Option Value} {base : Heap} {EA : EAT}
theorem def_okF {x qual : Str} {st : Stmt} {f : Addr} {fd : FuncData} {N ps : List Str} {k n : Nat} {mb : MS} (F : Fun K x qual st f fd) (S : FnScope N ps (defScope st)) (hea : EaOk EA) (hn : N.length = n) (hpn : ps.length ≤ n)
    (body : ∀ (cdv : Value) (Ar : Around) (outer : List PySem.Env) (s : Shared) (H : Hp) (E : XK) (A : Act), A.g.W = E → A.g.EA = EA → Room k (Ar.deeper (envOfC qual (defScope st) s.heap.objs.size f cdv)) →
      SFD A (cxOf (L2.CX P w) P w K mg base N qual (defScope st) f cdv Ar outer s H E) (defBody st) mb) :
    FnOk P w K mg base (L2.CX P w) (k + 1) f fd ps (spFF K EA ps.length (fnF n ps.length mb)) := by
  refine F.okX S (fun vs H Q E h => h.1) fun cdv Ar outer s H vs Q E hr h => ?_
  obtain ⟨hl, ds, u, Z, U, bs, r, post⟩ := h
  let A : Act := ⟨⟨U, E, EA⟩, Z, fun Z Z' x C dx H => hea U Z Z' x C dx H⟩
  refine ⟨_, (body cdv Ar outer s H E A rfl rfl hr).ps, ?_⟩
  have hd : ds.length = ps.length := by rw [← r.len]; exact hl
  refine ⟨H, startE n ds, u, fun _ => none, startE_rel (A := A) hn (by omega) bs r, bs.urn, ?_⟩
  have post : PostE A.g (RFr K A.g H) Z H (if ds.length = ps.length then retF (mb (startE n ds) u) else .bad) Q := post
  rw [if_pos hd] at post
  cases q : mb (startE n ds) u with
  | nx Γ u1 => rw [q] at post; exact post.elim
  | rt d u1 => rw [q] at post; exact fun v H1 e1 n1 r1 => post v H1 e1 n1 r1
  | bk Γ u1 => rw [q] at post; exact post.elim
  | ct Γ u1 => rw [q] at post; exact post.elim
  | er x u1 => rw [q] at post; exact post
  | bad => rw [q] at post; exact post.elim
end
section
variable {g : G} {X : Cx} {e : Expr} {es : List Expr} {ms : MEs} {x : Str} {p pos : Pos} {ps : List Str} {k : Nat} {F : Fn}
theorem fd_call (c : CalF X.prog X.w X.K X.mg X.base g.EA x ps k F) (hr : Room k X.A) (hx : Passes (L2.CX X.prog X.w) X g.W) (hg : Gl X x) (ha : AD g X (e :: es) ms) (hn : (e :: es).length = ps.length := by rfl)
    (hdb : (x == ("__debug__" : Str)) = false := by decide +kernel) (he : starEach (e :: es) X.env = (false, eval e X.env) :: starEach es X.env := by rfl) (hpl : (backTo pos (starEach es X.env)).any (·.1) = false := by rfl) :
    FD g X (.Call (.Name x p) (e :: es) [] pos) (mCall F ms) := by
  obtain ⟨f, fd, a, b, kp, bi⟩ := c.ex
  refine ⟨PE.imp (pe_call a hr hg b kp bi .nil hx ha.pa hdb he hpl) fun σ H Q h => ?_⟩
  obtain ⟨ρ, u, Z, bs, rel, post⟩ := h
  refine ⟨ρ, u, Z, bs, rel, post.bindq fun ds u1 vs H1 eo e1 n1 r1 post1 => ?_⟩
  rw [List.append_nil]
  refine ⟨by rw [r1.len, ha.len _ _ _ _ eo]; exact hn, ds, u1, Z, g.U, bs.ext e1 n1, r1, ?_⟩
  cases w : F ds u1 with
  | ok d u2 =>
    rw [w] at post1
    intro v H2 e2 n2 q
    obtain ⟨l, xs, a, rfl, rfl, h0, hz, ha, hr⟩ := q
    exact post1 (.ref a) H2 e2 n2 ⟨l, xs, a, rfl, rfl, e1.none bs.urn n1 h0, hz, ha, hr⟩
  | er xx u2 => rw [w] at post1; exact post1
  | bad => rw [w] at post1; exact post1.elim
end
end Dn
namespace Dn
open PySem PySem.Spec PyProof.Rows L2
/-! ### the end -/
def DefAt (K : PySem.W.Frag) (x : Str) (st : Stmt) : Prop := ∃ (f : Addr) (fd : FuncData), PySem.W.nsIn K mainGlobals x = some (some (.ref f)) ∧ Fun K x x st f fd
theorem defAt {K : PySem.W.Frag} {x : Str} {st : Stmt} {f : Addr} {od an : Option Addr} {sl : Array (Option Value)} {oc kV dc pm cd ct : Value} (a : PySem.W.nsIn K mainGlobals x = some (some (.ref f)))
    (l : K.lookup f = some ⟨oc, od, .func (PySem.W.fnOf x x (defArgs st) (defBody st) (defScope st) .none kV dc pm an cd ct), sl⟩) (c : PySem.W.codeIn K cd x = true) (k : PySem.W.keepIn K (.ref f) = true) : DefAt K x st := ⟨f, _, a, fun_mk l c k⟩
theorem law_cx {P : Program} {w : World} {outer : List PySem.Env} {H : Hp} {s s' : Shared} {e : Value} (h : L2.CX P w outer H s (fun _ _ _ => False) e s') : False := by
  obtain ⟨_, _, _, _, _, _, _, _, _, _, _, _, h⟩ := h
  exact h
theorem law_sp {K : PySem.W.Frag} {F : Fn} {H : Hp} {a : Addr} {ns : List Int} (h : ∀ ns : List Int, ns.length ≤ 63 → (∀ z ∈ ns, Builtin.Int.intBits z ≤ 1048576) → ∃ u, F [.scr ns] [] = .ok (.bl true) u) (hl : ns.length ≤ 63) (hb : ∀ z ∈ ns, Builtin.Int.intBits z ≤ 1048576) (hO : Only H)
    (hS : SqL K H a (ns.map V.int)) : spF K EA0 1 F [.ref a] H (fun v _ => v = .bl true) fun _ _ _ => False := by
  refine ⟨rfl, [.scr ns], [], fun _ => False, none, ⟨fun a e => (nomatch e), fun a e => e.elim, fun a e => (nomatch e)⟩, .cons (rep_scr.mpr ⟨a, rfl, ?_⟩) .nil, ?_⟩
  · rcases hS with (hS | ⟨o, hS⟩) | hS
    · rcases hO a with z | ⟨o, xs, z⟩
      · rw [z] at hS; cases hS
      · rw [z] at hS; cases hS
    · exact .inl ⟨id, o, hS⟩
    · exact .inr hS
  · obtain ⟨u, e⟩ := h ns hl hb
    rw [e]
    intro v H' _ _ r
    exact rep_bl.mp r
end Dn
namespace Dn
/-! ### reckoning with meanings -/
def brB : D → Urn → Out D → Out D → Out D
  | .bl b, _, x, y => if b then x else y
  | _, _, _, _ => .bad
@[simp] theorem brB_bl (b : Bool) (u : Urn) (x y : Out D) : brB (.bl b) u x y = if b then x else y := rfl
@[simp] theorem mAnd_eq (a b : ME) (ρ : Env) (u : Urn) : mAnd a b ρ u = (a ρ u).bind fun x u => brB x u (b ρ u) (.ok (.bl false) u) := by
  unfold mAnd
  congr 1
  funext x u
  cases x with
  | bl b => cases b <;> rfl
  | _ => rfl
@[simp] theorem mOr_eq (a b : ME) (ρ : Env) (u : Urn) : mOr a b ρ u = (a ρ u).bind fun x u => brB x u (.ok (.bl true) u) (b ρ u) := by
  unfold mOr
  congr 1
  funext x u
  cases x with
  | bl b => cases b <;> rfl
  | _ => rfl
@[simp] theorem mNot_eq (a : ME) (ρ : Env) (u : Urn) : mNot a ρ u = (a ρ u).bind fun x u => brB x u (.ok (.bl false) u) (.ok (.bl true) u) := by
  unfold mNot
  congr 1
  funext x u
  cases x with
  | bl b => cases b <;> rfl
  | _ => rfl
@[simp] theorem mChain_eq (f g : D → D → Option D) (a b c : ME) (ρ : Env) (u : Urn) : mChain f g a b c ρ u = (a ρ u).bind fun x u => (b ρ u).bind fun y u => (lift (f x y) u).bind fun r u => brB r u ((c ρ u).bind fun z u => lift (g y z) u) (.ok (.bl false) u) := by
  unfold mChain
  congr 1
  funext x u
  congr 1
  funext y u
  congr 1
  funext r u
  cases r with
  | bl b => cases b <;> rfl
  | _ => rfl
@[simp] theorem mLit_eq (d : D) (ρ0 : Env) (u : Urn) : mLit d ρ0 u = (.ok d u) := rfl
@[simp] theorem mVar_eq (i : Nat) (ρ : Env) (u : Urn) : mVar i ρ u = (lift (get ρ i) u) := rfl
@[simp] theorem mBin_eq (f : D → D → Option D) (a b : ME) (ρ : Env) (u : Urn) : mBin f a b ρ u = ((a ρ u).bind fun x u => (b ρ u).bind fun y u => lift (f x y) u) := rfl
@[simp] theorem mUn_eq (f : D → Option D) (a : ME) (ρ : Env) (u : Urn) : mUn f a ρ u = ((a ρ u).bind fun x u => lift (f x) u) := rfl
@[simp] theorem mIf_eq (c a b : ME) (ρ : Env) (u : Urn) : mIf c a b ρ u = (((c ρ u).bind asB).bind fun x u => if x then a ρ u else b ρ u) := rfl
@[simp] theorem mIsN_eq (a : ME) (ρ : Env) (u : Urn) : mIsN a ρ u = ((a ρ u).bind fun x u => .ok (.bl (isNon x)) u) := rfl
@[simp] theorem mNotN_eq (a : ME) (ρ : Env) (u : Urn) : mNotN a ρ u = ((a ρ u).bind fun x u => .ok (.bl (!isNon x)) u) := rfl
@[simp] theorem mNil_eq (ρ0 : Env) (u : Urn) : mNil  ρ0 u = (.ok [] u) := rfl
@[simp] theorem mCons_eq (a : ME) (r : MEs) (ρ : Env) (u : Urn) : mCons a r ρ u = ((a ρ u).bind fun x u => (r ρ u).bind fun xs u => .ok (x :: xs) u) := rfl
@[simp] theorem mTup_eq (a : MEs) (ρ : Env) (u : Urn) : mTup a ρ u = ((a ρ u).bind fun xs u => .ok (.tup xs) u) := rfl
@[simp] theorem mLst_eq (a : MEs) (ρ : Env) (u : Urn) : mLst a ρ u = ((a ρ u).bind fun xs u => .ok (.lst xs) u) := rfl
@[simp] theorem mIx_eq (a i : ME) (ρ : Env) (u : Urn) : mIx a i ρ u = ((a ρ u).bind fun x u => (i ρ u).bind fun k u => ixU x k u) := rfl
@[simp] theorem oNo_eq (ρ0 : Env) (u : Urn) : oNo  ρ0 u = (.ok none u) := rfl
@[simp] theorem oYes_eq (a : ME) (ρ : Env) (u : Urn) : oYes a ρ u = ((a ρ u).bind fun x u => match x with
  | .int i => .ok (some i) u
  | _ => .bad) := rfl
@[simp] theorem mSl_eq (a : ME) (lo hi : MO) (ρ : Env) (u : Urn) : mSl a lo hi ρ u = ((a ρ u).bind fun x u => (lo ρ u).bind fun l u => (hi ρ u).bind fun h u => lift (slD x l h) u) := rfl
@[simp] theorem mCall_eq (f : Fn) (a : MEs) (ρ : Env) (u : Urn) : mCall f a ρ u = ((a ρ u).bind fun xs u => f xs u) := by cases u <;> rfl
@[simp] theorem mCallK_eq (f : Fn) (p : List Nat) (a : MEs) (ρ : Env) (u : Urn) : mCallK f p a ρ u = ((a ρ u).bind fun xs u => f (pick p xs) u) := by cases u <;> rfl
@[simp] theorem mB_eq (f : List D → Option D) (a : MEs) (ρ : Env) (u : Urn) : mB f a ρ u = ((a ρ u).bind fun xs u => lift (f xs) u) := rfl
@[simp] theorem mIsTy_eq (ts : List Ty) (a : ME) (ρ : Env) (u : Urn) : mIsTy ts a ρ u = ((a ρ u).bind fun x u => .ok (.bl (ts.any fun t => isTy x t)) u) := rfl
@[simp] theorem iSeq_eq (a : ME) (ρ : Env) (u : Urn) : iSeq a ρ u = ((a ρ u).bind fun x u => lift (items x) u) := rfl
@[simp] theorem iRng_eq (a : MEs) (ρ : Env) (u : Urn) : iRng a ρ u = ((a ρ u).bind fun xs u => match xs with
  | [.int hi] => if rOk 0 hi then .ok (rng 0 hi) u else .bad
  | [.int lo, .int hi] => if rOk lo hi then .ok (rng lo hi) u else .bad
  | _ => .bad) := rfl
@[simp] theorem iZip_eq (a : MEs) (ρ : Env) (u : Urn) : iZip a ρ u = ((a ρ u).bind fun xs u => match xs with
  | [x, y] => (match items x with
    | some l => (match items y with
      | some m => .ok (zip2 l m) u
      | none => .bad)
    | none => .bad)
  | _ => .bad) := rfl
@[simp] theorem iEnum_eq (a : MEs) (ρ : Env) (u : Urn) : iEnum a ρ u = ((a ρ u).bind fun xs u => match xs with
  | [x] => (match items x with
    | some l => .ok (enumD 0 l) u
    | none => .bad)
  | _ => .bad) := rfl
@[simp] theorem mLstI_eq (a : MEs) (ρ : Env) (u : Urn) : mLstI a ρ u = ((a ρ u).bind fun xs u => .ok (.lst xs) u) := rfl
@[simp] theorem mTupI_eq (a : MEs) (ρ : Env) (u : Urn) : mTupI a ρ u = ((a ρ u).bind fun xs u => .ok (.tup xs) u) := rfl
@[simp] theorem mTrue_eq (ρ0 : Env) (u : Urn) : mTrue  ρ0 u = (.ok (.bl true) u) := rfl
@[simp] theorem sNop_eq (Γ : SEnv) (u : Urn) : sNop  Γ u = (.nx Γ u) := rfl
@[simp] theorem sSeq_eq (a b : MS) (Γ : SEnv) (u : Urn) : sSeq a b Γ u = ((a Γ u).andThen b) := rfl
@[simp] theorem sSeqF_eq (a b : MS) (Γ : SEnv) (u : Urn) : sSeqF a b Γ u = (match a Γ u with
  | .rt _ _ => .bad
  | o => o.andThen b) := rfl
@[simp] theorem sBreak_eq (Γ : SEnv) (u : Urn) : sBreak  Γ u = (.bk Γ u) := rfl
@[simp] theorem sCont_eq (Γ : SEnv) (u : Urn) : sCont  Γ u = (.ct Γ u) := rfl
@[simp] theorem sRet_eq (m : ME) (Γ : SEnv) (u : Urn) : sRet m Γ u = (thenS (m (snapE Γ) u) fun d u => .rt d u) := rfl
@[simp] theorem sRetN_eq (ρ0 : SEnv) (u : Urn) : sRetN  ρ0 u = (.rt .non u) := rfl
@[simp] theorem sExp_eq (m : ME) (Γ : SEnv) (u : Urn) : sExp m Γ u = (thenS (m (snapE Γ) u) fun _ u => .nx Γ u) := rfl
@[simp] theorem sIf_eq (c : ME) (a b : MS) (Γ : SEnv) (u : Urn) : sIf c a b Γ u = (thenS ((c (snapE Γ) u).bind asB) fun x u => if x then a Γ u else b Γ u) := rfl
@[simp] theorem sSet_eq (i : Nat) (m : ME) (Γ : SEnv) (u : Urn) : sSet i m Γ u = (thenS (m (hideE Γ) u) fun d u => .nx (Γ.set i (.val d)) u) := rfl
@[simp] theorem sSetN_eq (i : Nat) (m : ME) (Γ : SEnv) (u : Urn) : sSetN i m Γ u = (thenS (m (snapE Γ) u) fun d u => if noL d then .nx (Γ.set i (.val d)) u else .bad) := rfl
@[simp] theorem sSetF_eq (i : Nat) (m : ME) (Γ : SEnv) (u : Urn) : sSetF i m Γ u = (thenS (m (hideE Γ) u) fun d u => match d with
  | .lst l => .nx (Γ.set i (.own l)) u
  | _ => .bad) := rfl
@[simp] theorem sFrz_eq (i : Nat) (m : MS) (Γ : SEnv) (u : Urn) : sFrz i m Γ u = (match Γ[i]? with
  | some s => m (Γ.set i s.frz) u
  | none => .bad) := rfl
@[simp] theorem sApp_eq (i : Nat) (m : ME) (Γ : SEnv) (u : Urn) : sApp i m Γ u = (match Γ[i]? with
  | some (.own l) => thenS (m (hideE Γ) u) fun d u => if l.length < LN then .nx (Γ.set i (.own (l ++ [d]))) u else .bad
  | _ => .bad) := rfl
@[simp] theorem sAppN_eq (i : Nat) (m : ME) (Γ : SEnv) (u : Urn) : sAppN i m Γ u = (match Γ[i]? with
  | some (.own l) => thenS (m (snapE Γ) u) fun d u => if l.length < LN ∧ noL d = true then .nx (Γ.set i (.own (l ++ [d]))) u else .bad
  | _ => .bad) := rfl
@[simp] theorem sPut_eq (i : Nat) (k e : ME) (Γ : SEnv) (u : Urn) : sPut i k e Γ u = (match Γ[i]? with
  | some (.own l) => thenS (e (snapE Γ) u) fun d u => thenS (k (snapE Γ) u) fun kd u => match putD l kd d with
    | some l' => .nx (Γ.set i (.own l')) u
    | none => .bad
  | _ => .bad) := rfl
@[simp] theorem sPutU_eq (i : Nat) (k e : ME) (Γ : SEnv) (u : Urn) : sPutU i k e Γ u = (match Γ[i]? with
  | some (.val .urn) => thenS (e (snapE Γ) u) fun d u => thenS (k (snapE Γ) u) fun kd u => match putU u kd d with
    | some u => .nx Γ u
    | none => .bad
  | _ => .bad) := rfl
@[simp] theorem sUnpU_eq (i j : Nat) (k : Int) (e : ME) (Γ : SEnv) (u : Urn) : sUnpU i j k e Γ u = (match Γ[i]? with
  | some (.val .urn) => thenS (e (hideE Γ) u) fun d u => match d with
    | .tup [z, d] => (match putU u (.int k) z with
      | some u => .nx (Γ.set j (.val d)) u
      | none => .bad)
    | _ => .bad
  | _ => .bad) := rfl
@[simp] theorem sUnp_eq (g : TGS) (m : ME) (Γ : SEnv) (u : Urn) : sUnp g m Γ u = (thenS (m (hideE Γ) u) fun d u => match g d Γ with
  | some Γ => .nx Γ u
  | none => .bad) := rfl
@[simp] theorem sFor_eq (it : MEs) (g : TGS) (body : MS) (Γ : SEnv) (u : Urn) : sFor it g body Γ u = (thenS (it (hideE Γ) u) fun ds u => forGo g body ds Γ u) := rfl
@[simp] theorem sForN_eq (it : MEs) (g : TGS) (body : MS) (Γ : SEnv) (u : Urn) : sForN it g body Γ u = (thenS (it (snapE Γ) u) fun ds u => if noLs ds then forGo g body ds Γ u else .bad) := rfl
@[simp] theorem sPar_eq (is : List Nat) (q : MQ) (Γ : SEnv) (u : Urn) : sPar is q Γ u = (thenS (q (hideE Γ) u) fun qs u => match setsE is qs Γ with
  | some Γ => .nx Γ u
  | none => .bad) := rfl
@[simp] theorem qNil_eq (ρ0 : Env) (u : Urn) : qNil  ρ0 u = (.ok [] u) := rfl
@[simp] theorem qCons_eq (a : ME) (r : MQ) (ρ : Env) (u : Urn) : qCons a r ρ u = ((a ρ u).bind fun x u => (r ρ u).bind fun xs u => .ok ((false, x) :: xs) u) := rfl
@[simp] theorem qConsF_eq (a : ME) (r : MQ) (ρ : Env) (u : Urn) : qConsF a r ρ u = ((a ρ u).bind fun x u => (r ρ u).bind fun xs u => .ok ((true, x) :: xs) u) := rfl
@[simp] theorem mCallU_eq (f : Fn) (a : ME) (ρ : Env) (u : Urn) : mCallU f a ρ u = ((a ρ u).bind fun x u => match x with
  | .lst l => if isInts l then (match f [.urn] (toInts l) with
    | .ok (.bl b) _ => .ok (.bl b) u
    | _ => .bad) else .bad
  | _ => .bad) := rfl
@[simp] theorem mLc_eq (it : MEs) (g : TG) (c elt : ME) (vs : List Nat) (ρ : Env) (u : Urn) : mLc it g c elt vs ρ u = ((it ρ u).bind fun ds u => ((lcGo g c elt (wipeE ρ vs) ds u).calm).bind fun xs u => .ok (.lst xs) u) := rfl
@[simp] theorem mLc2_eq (it : MEs) (g : TG) (it2 : MEs) (g2 : TG) (c2 elt : ME) (vs vs1 : List Nat) (ρ : Env) (u : Urn) : mLc2 it g it2 g2 c2 elt vs vs1 ρ u = ((it ρ u).bind fun ds u => ((lcGo2 g it2 g2 c2 elt vs1 (wipeE ρ vs) ds u).calm).bind fun xs u => lim [] xs u) := rfl
@[simp] theorem sSet2_eq (i : Nat) (m : ME) (Γ : SEnv) (u : Urn) : sSet2 i m Γ u = (thenS (m (hideE Γ) u) fun d u => match d with
  | .lst l => (match lsts l with
    | some ll => .nx (Γ.set i (.own2 ll)) u
    | none => .bad)
  | _ => .bad) := rfl
@[simp] theorem sApp2_eq (i : Nat) (k m : ME) (Γ : SEnv) (u : Urn) : sApp2 i k m Γ u = (match Γ[i]? with
  | some (.own2 ll) => thenS (k (snapE Γ) u) fun kd u => match ix2 ll kd with
    | some p => thenS (m (snapE Γ) u) fun d u => (match app2 ll p d with
      | some ll => .nx (Γ.set i (.own2 ll)) u
      | none => .bad)
    | none => .bad
  | _ => .bad) := rfl
@[simp] theorem sPut2_eq (i : Nat) (k j : ME) (d : D) (Γ : SEnv) (u : Urn) : sPut2 i k j d Γ u = (match Γ[i]? with
  | some (.own2 ll) => thenS (k (snapE Γ) u) fun kd u => match ix2 ll kd with
    | some p => thenS (j (snapE Γ) u) fun jd u => (match put2 ll p jd d with
      | some ll => .nx (Γ.set i (.own2 ll)) u
      | none => .bad)
    | none => .bad
  | _ => .bad) := rfl
@[simp] theorem sPut22_eq (i : Nat) (k1 j1 k2 j2 e : ME) (Γ : SEnv) (u : Urn) : sPut22 i k1 j1 k2 j2 e Γ u = (thenS (e (snapE Γ) u) fun d u => match d with
  | .tup [d1, d2] => if noL d2 then (sPut2 i k1 j1 d1 Γ u).andThen (sPut2 i k2 j2 d2) else .bad
  | _ => .bad) := rfl
@[simp] theorem gName_eq (i : Nat) (d : D) (ρ : Env) : gName i d ρ = some (ρ.set i (some d)) := rfl
@[simp] theorem gsNil_eq (ρ : Env) : gsNil [] ρ = some ρ := rfl
@[simp] theorem gsCons_eq (g : TG) (r : TGs) (d : D) (ds : List D) (ρ : Env) : gsCons g r (d :: ds) ρ = (g d ρ).bind fun ρ => r ds ρ := rfl
@[simp] theorem gTup_eq (r : TGs) (l : List D) (ρ : Env) : gTup r (.tup l) ρ = r l ρ := rfl
@[simp] theorem hName_eq (i : Nat) (d : D) (ρ : SEnv) : hName i d ρ = some (ρ.set i (.val d)) := rfl
@[simp] theorem hsNil_eq (ρ : SEnv) : hsNil [] ρ = some ρ := rfl
@[simp] theorem hsCons_eq (g : TGS) (r : TGSs) (d : D) (ds : List D) (ρ : SEnv) : hsCons g r (d :: ds) ρ = (g d ρ).bind fun ρ => r ds ρ := rfl
@[simp] theorem hTup_eq (r : TGSs) (l : List D) (ρ : SEnv) : hTup r (.tup l) ρ = r l ρ := rfl
@[simp] theorem snap_val (d : D) : (Slot.val d).snap = some d := rfl
@[simp] theorem snap_no : Slot.no.snap = none := rfl
@[simp] theorem snap_own (l : List D) : (Slot.own l).snap = some (.lst l) := rfl
@[simp] theorem snap_own2 (l : List (List D)) : (Slot.own2 l).snap = some (.lst (l.map .lst)) := rfl
@[simp] theorem hide_val (d : D) : (Slot.val d).hide = some d := rfl
@[simp] theorem hide_no : Slot.no.hide = none := rfl
@[simp] theorem hide_own (l : List D) : (Slot.own l).hide = none := rfl
@[simp] theorem hide_own2 (l : List (List D)) : (Slot.own2 l).hide = none := rfl
@[simp] theorem fn_eq (n p : Nat) (b : MS) (ds : List D) (u : Urn) : fn n p b ds u = (if ds.length = p then ret (b (startE n ds) u) else .bad) := rfl
@[simp] theorem fnF_eq (n p : Nat) (b : MS) (ds : List D) (u : Urn) : fnF n p b ds u = (if ds.length = p then retF (b (startE n ds) u) else .bad) := rfl
@[simp] theorem thenS_bind {α β : Type} (o : Out α) (f : α → Urn → Out β) (k : β → Urn → SOut) : thenS (o.bind f) k = thenS o fun a u => thenS (f a u) k := by cases o <;> rfl
@[simp] theorem ret_rt (d : D) (u : Urn) : ret (.rt d u) = .ok d u := rfl
@[simp] theorem ret_nx (Γ : SEnv) (u : Urn) : ret (.nx Γ u) = .ok .non u := rfl
@[simp] theorem ret_er (x : Er) (u : Urn) : ret (.er x u) = .er x u := rfl
@[simp] theorem ret_bad : ret .bad = .bad := rfl
@[simp] theorem retF_rt (d : D) (u : Urn) : retF (.rt d u) = .ok d u := rfl
@[simp] theorem thenS_bad {α : Type} (f : α → Urn → SOut) : thenS .bad f = .bad := rfl
@[simp] theorem andThen_bad (f : MS) : SOut.bad.andThen f = .bad := rfl
@[simp] theorem bind_ite {α β : Type} (c : Prop) [Decidable c] (a b : Out α) (f : α → Urn → Out β) : (if c then a else b).bind f = if c then a.bind f else b.bind f := by split <;> rfl
@[simp] theorem thenS_ite {α : Type} (c : Prop) [Decidable c] (a b : Out α) (f : α → Urn → SOut) : thenS (if c then a else b) f = if c then thenS a f else thenS b f := by split <;> rfl
@[simp] theorem andThen_ite (c : Prop) [Decidable c] (a b : SOut) (f : MS) : (if c then a else b).andThen f = if c then a.andThen f else b.andThen f := by split <;> rfl
@[simp] theorem ret_ite (c : Prop) [Decidable c] (a b : SOut) : ret (if c then a else b) = if c then ret a else ret b := by split <;> rfl
@[simp] theorem ok_ite {α : Type} (c : Prop) [Decidable c] (a b : α) (u : Urn) : (if c then Out.ok a u else Out.ok b u) = Out.ok (if c then a else b) u := by split <;> rfl
@[simp] theorem bl_ite (c : Prop) [Decidable c] (a b : Bool) : (if c then D.bl a else D.bl b) = D.bl (if c then a else b) := by split <;> rfl
@[simp] theorem int_ite (c : Prop) [Decidable c] (a b : Int) : (if c then D.int a else D.int b) = D.int (if c then a else b) := by split <;> rfl
@[simp] theorem okEq_int (n : Nat) (i : Int) : okEq n (.int i) = true := by cases n <;> simp [okEq]
@[simp] theorem okEq_bl (n : Nat) (i : Bool) : okEq n (.bl i) = true := by cases n <;> simp [okEq]
@[simp] theorem okEq_non (n : Nat) : okEq n .non = true := by cases n <;> simp [okEq]
@[simp] theorem okEq_tup (n : Nat) (l : List D) : okEq (n + 1) (.tup l) = okEqs n l := by simp [okEq]
@[simp] theorem okEq_lst (n : Nat) (l : List D) : okEq (n + 1) (.lst l) = okEqs n l := by simp [okEq]
theorem okEqs_of {n : Nat} : ∀ {l : List D}, (∀ d ∈ l, okEq n d = true) → okEqs n l = true
  | [], _ => by rw [okEqs]
  | d :: r, h => by rw [okEqs, h d List.mem_cons_self, okEqs_of fun e he => h e (List.mem_cons_of_mem _ he)]; rfl
@[simp] theorem okEqs_ints (n : Nat) (l : List Int) : okEqs n (l.map D.int) = true := okEqs_of fun d hd => by
  obtain ⟨i, _, rfl⟩ := List.mem_map.mp hd
  exact okEq_int n i
@[simp] theorem okEqs_nil (n : Nat) : okEqs n [] = true := by rw [okEqs]
@[simp] theorem okEqs_cons (n : Nat) (d : D) (l : List D) : okEqs n (d :: l) = (okEq n d && okEqs n l) := by rw [okEqs]
@[simp] theorem eqD_int (i j : Int) : eqD (.int i) (.int j) = decide (i = j) := by rw [eqD]; rfl
@[simp] theorem eqD_bl (i j : Bool) : eqD (.bl i) (.bl j) = decide (i = j) := by rw [eqD]; cases i <;> cases j <;> rfl
@[simp] theorem eqD_tup (x y : List D) : eqD (.tup x) (.tup y) = eqDs x y := by rw [eqD]
@[simp] theorem eqD_lst (x y : List D) : eqD (.lst x) (.lst y) = eqDs x y := by rw [eqD]
/-! ### comprehensions -/
/-- every element, pure -/
theorem lcGo_map {g : TG} {c elt : ME} {ρ : Env} {u : Urn} {f : D → D} : ∀ {ds : List D}, (∀ d ∈ ds, ∃ ρ1, g d ρ = some ρ1 ∧ c ρ1 u = .ok (.bl true) u ∧ elt ρ1 u = .ok (f d) u) → lcGo g c elt ρ ds u = .ok (ds.map f) u
  | [], _ => rfl
  | d :: ds, h => by
    obtain ⟨ρ1, h1, h2, h3⟩ := h d List.mem_cons_self
    rw [lcGo, h1]
    simp only [h2, Out.bind_ok, asB_bl, if_true, h3, lcGo_map (ds := ds) fun e he => h e (List.mem_cons_of_mem _ he), List.map_cons]
theorem lcGo_mapT {α : Type} {enc : α → D} {g : TG} {c elt : ME} {ρ : Env} {u : Urn} (f : α → D) : ∀ {l : List α}, (∀ a ∈ l, ∃ ρ1, g (enc a) ρ = some ρ1 ∧ c ρ1 u = .ok (.bl true) u ∧ elt ρ1 u = .ok (f a) u) → lcGo g c elt ρ (l.map enc) u = .ok (l.map f) u
  | [], _ => rfl
  | d :: ds, h => by
    obtain ⟨ρ1, h1, h2, h3⟩ := h d List.mem_cons_self
    rw [List.map_cons, lcGo, h1]
    simp only [h2, Out.bind_ok, asB_bl, if_true, h3, lcGo_mapT f (l := ds) fun e he => h e (List.mem_cons_of_mem _ he), List.map_cons]
theorem lcGo_filterT {α : Type} {enc : α → D} {g : TG} {c elt : ME} {ρ : Env} {u : Urn} (p : α → Bool) (f : α → D) : ∀ {l : List α}, (∀ a ∈ l, ∃ ρ1, g (enc a) ρ = some ρ1 ∧ c ρ1 u = .ok (.bl (p a)) u ∧ (p a = true → elt ρ1 u = .ok (f a) u)) → lcGo g c elt ρ (l.map enc) u = .ok ((l.filter p).map f) u
  | [], _ => rfl
  | d :: ds, h => by
    obtain ⟨ρ1, h1, h2, h3⟩ := h d List.mem_cons_self
    have ih := lcGo_filterT p f (l := ds) fun e he => h e (List.mem_cons_of_mem _ he)
    rw [List.map_cons, lcGo, h1]
    cases q : p d with
    | true => simp [h2, h3 q, ih, q]
    | false => simp [h2, ih, q]
@[simp] theorem fAll_map {α : Type} (p : α → Bool) (l : List α) : fAll [.lst (l.map fun a => .bl (p a))] = some (.bl (l.all p)) := by
  have h1 : ∀ l : List α, isBls (l.map fun a => .bl (p a)) = true := fun l => by induction l with
    | nil => rfl
    | cons a l ih => exact ih
  have h2 : ∀ l : List α, (toBls (l.map fun a => .bl (p a))).all id = l.all p := fun l => by induction l with
    | nil => rfl
    | cons a l ih => rw [List.map_cons, toBls, List.all_cons, ih, List.all_cons]; rfl
  simp [fAll, h1, h2]
@[simp] theorem fSum_map {α : Type} (p : α → Int) (l : List α) : fSum [.lst (l.map fun a => .int (p a))] = some (.int (l.map p).sum) := by
  have h1 : ∀ l : List α, isInts (l.map fun a => .int (p a)) = true := fun l => by induction l with
    | nil => rfl
    | cons a l ih => exact ih
  have h2 : ∀ l : List α, toInts (l.map fun a => .int (p a)) = l.map p := fun l => by induction l with
    | nil => rfl
    | cons a l ih => rw [List.map_cons, toInts, ih, List.map_cons]
  simp [fSum, h1, h2]
@[simp] theorem isInts_ints (l : List Int) : isInts (l.map .int) = true := by
  induction l with
  | nil => rfl
  | cons a l ih => exact ih
@[simp] theorem toInts_ints (l : List Int) : toInts (l.map .int) = l := by
  induction l with
  | nil => rfl
  | cons a l ih => rw [List.map_cons, toInts, ih]
@[simp] theorem fTuple_lst (l : List D) : fTuple [.lst l] = some (.tup l) := rfl
@[simp] theorem fTuple_tup (l : List D) : fTuple [.tup l] = some (.tup l) := rfl
theorem ixD_tup (l : List D) (k : Int) : ixD (.tup l) (.int k) = atI l k := rfl
theorem ixD_lst (l : List D) (k : Int) : ixD (.lst l) (.int k) = atI l k := rfl
theorem at0 {α : Type} (a : α) (l : List α) : atI (a :: l) 0 = some a := by
  unfold atI ixN
  rw [if_pos (Int.le_refl 0), if_pos (by rw [List.length_cons]; omega)]
  rfl
theorem at1 {α : Type} (a b : α) (l : List α) : atI (a :: b :: l) 1 = some b := by
  unfold atI ixN
  rw [if_pos (by decide), if_pos (by rw [List.length_cons, List.length_cons]; omega)]
  rfl
theorem at2 {α : Type} (a b c : α) (l : List α) : atI (a :: b :: c :: l) 2 = some c := by
  unfold atI ixN
  rw [if_pos (by decide), if_pos (by rw [List.length_cons, List.length_cons, List.length_cons]; omega)]
  rfl
@[simp] theorem ixU_tup (l : List D) (k : D) (u : Urn) : ixU (.tup l) k u = lift (ixD (.tup l) k) u := rfl
@[simp] theorem ixU_lst (l : List D) (k : D) (u : Urn) : ixU (.lst l) k u = lift (ixD (.lst l) k) u := rfl
@[simp] theorem ixU_scr (l : List Int) (k : D) (u : Urn) : ixU (.scr l) k u = lift (ixD (.scr l) k) u := rfl
@[simp] theorem ixU_urn (k : Int) (u : Urn) : ixU .urn (.int k) u = lift ((atI u k).map D.int) u := rfl
/-- at a place -/
def nth {α : Type} [Inhabited α] (l : List α) (k : Int) : α := l.getD k.toNat default
theorem nth_some {α : Type} [Inhabited α] {l : List α} {k : Int} (h : 0 ≤ k) (h2 : k < l.length) : l[k.toNat]? = some (nth l k) := by
  unfold nth
  have : k.toNat < l.length := by omega
  rw [List.getD_eq_getElem?_getD, List.getElem?_eq_getElem this]
  rfl
theorem atI_nth {α : Type} [Inhabited α] {f : α → D} {l : List α} {k : Int} (h : 0 ≤ k) (h2 : k < l.length) : atI (l.map f) k = some (f (nth l k)) := by
  unfold atI ixN
  rw [if_pos h, List.length_map, if_pos h2]
  show (l.map f)[k.toNat]? = _
  rw [List.getElem?_map, nth_some h h2]
  rfl
theorem nth_mem {α : Type} [Inhabited α] {l : List α} {k : Int} (h : 0 ≤ k) (h2 : k < l.length) : nth l k ∈ l := List.mem_of_getElem? (nth_some h h2)
/-- 0 .. n - 1 -/
def rngI (n : Int) : List Int := (List.range n.toNat).map fun k : Nat => (k : Int)
theorem rng_I (n : Int) : rng 0 n = (rngI n).map .int := by
  unfold rng rngI
  rw [List.map_map, Int.sub_zero]
  apply List.map_congr_left
  intro k _
  simp
theorem mem_rngI {n k : Int} : k ∈ rngI n ↔ 0 ≤ k ∧ k < n := by
  unfold rngI
  rw [List.mem_map]
  constructor
  · rintro ⟨j, hj, rfl⟩
    rw [List.mem_range] at hj
    omega
  · rintro ⟨h1, h2⟩
    exact ⟨k.toNat, List.mem_range.mpr (by omega), by omega⟩
theorem rngI_len (n : Int) : (rngI n).length = n.toNat := by unfold rngI; rw [List.length_map, List.length_range]
theorem rOk_mk {lo hi : Int} (h1 : -1000000 ≤ lo) (h2 : lo ≤ 1000000) (h3 : -1000000 ≤ hi) (h4 : hi ≤ 1000000) : rOk lo hi = true := by
  unfold rOk
  simp [h1, h2, h3, h4]
theorem zip2_map {α β : Type} {f : α → D} {g : β → D} : ∀ (l : List α) (m : List β), zip2 (l.map f) (m.map g) = (l.zip m).map fun p => .tup [f p.1, g p.2]
  | [], m => by cases m <;> rfl
  | a :: l, [] => rfl
  | a :: l, b :: m => by rw [List.map_cons, List.map_cons, zip2, zip2_map l m, List.zip_cons_cons, List.map_cons]
theorem enumD_map {α : Type} {f : α → D} : ∀ (k : Nat) (l : List α), enumD k (l.map f) = (l.zipIdx k).map fun p => .tup [.int (p.2 : Nat), f p.1]
  | k, [] => rfl
  | k, a :: l => by rw [List.map_cons, enumD, enumD_map (k + 1) l, List.zipIdx_cons, List.map_cons]
/-- with a test -/
theorem lcGo_filter {g : TG} {c elt : ME} {ρ : Env} {u : Urn} {f : D → D} {p : D → Bool} : ∀ {ds : List D}, (∀ d ∈ ds, ∃ ρ1, g d ρ = some ρ1 ∧ c ρ1 u = .ok (.bl (p d)) u ∧ (p d = true → elt ρ1 u = .ok (f d) u)) → lcGo g c elt ρ ds u = .ok ((ds.filter p).map f) u
  | [], _ => rfl
  | d :: ds, h => by
    obtain ⟨ρ1, h1, h2, h3⟩ := h d List.mem_cons_self
    have ih := lcGo_filter (ds := ds) fun e he => h e (List.mem_cons_of_mem _ he)
    rw [lcGo, h1]
    cases q : p d with
    | true => simp [h2, h3 q, ih, q]
    | false => simp [h2, ih, q]
/-- side by side -/
inductive F2 {α β : Type} (R : α → β → Prop) : List α → List β → Prop
  | nil : F2 R [] []
  | cons {a : α} {b : β} {x : List α} {y : List β} : R a b → F2 R x y → F2 R (a :: x) (b :: y)
theorem F2.len {α β : Type} {R : α → β → Prop} {x : List α} {y : List β} (h : F2 R x y) : y.length = x.length := by
  induction h with
  | nil => rfl
  | cons _ _ ih => rw [List.length_cons, List.length_cons, ih]
theorem F2.right {α β : Type} {R : α → β → Prop} {Q : β → Prop} {x : List α} {y : List β} (h : F2 R x y) (k : ∀ a b, R a b → Q b) : ∀ b ∈ y, Q b := by
  induction h with
  | nil => intro b hb; cases hb
  | cons r _ ih =>
    intro b hb
    rcases List.mem_cons.mp hb with e | e
    · rw [e]; exact k _ _ r
    · exact ih b e
theorem F2.imp {α β : Type} {R S : α → β → Prop} {x : List α} {y : List β} (h : F2 R x y) (k : ∀ a b, R a b → S a b) : F2 S x y := by
  induction h with
  | nil => exact .nil
  | cons r _ ih => exact .cons (k _ _ r) ih
theorem F2.mapL {α α' β : Type} {R : α → β → Prop} {f : α' → α} {x : List α'} {y : List β} (h : F2 R (x.map f) y) : F2 (fun a b => R (f a) b) x y := by
  induction x generalizing y with
  | nil => cases h; exact .nil
  | cons a x ih =>
    cases h with
    | cons r t => exact .cons r (ih t)
/-- drawing: each element is an encoded thing -/
theorem lcGo_draw {α : Type} {g : TG} {c elt : ME} {ρ : Env} {G : Urn → Prop} {enc : α → D} {R : D → α → Prop} : ∀ {ds : List D} {u : Urn}, G u → (∀ d ∈ ds, ∀ u, G u → ∃ ρ1, g d ρ = some ρ1 ∧ c ρ1 u = .ok (.bl true) u ∧ ∃ x u', elt ρ1 u = .ok (enc x) u' ∧ G u' ∧ R d x) →
    ∃ xs u', lcGo g c elt ρ ds u = .ok (xs.map enc) u' ∧ G u' ∧ F2 R ds xs
  | [], u, hu, _ => ⟨[], u, rfl, hu, .nil⟩
  | d :: ds, u, hu, h => by
    obtain ⟨ρ1, h1, h2, x, u1, h3, h4, h5⟩ := h d List.mem_cons_self u hu
    obtain ⟨xs, u2, h6, h7, h8⟩ := lcGo_draw (ds := ds) h4 fun e he => h e (List.mem_cons_of_mem _ he)
    refine ⟨x :: xs, u2, ?_, h7, .cons h5 h8⟩
    rw [lcGo, h1]
    simp only [h2, Out.bind_ok, asB_bl, if_true, h3, h6, List.map_cons]
/-- drawing in the test -/
theorem lcGo_drawC {g : TG} {c elt : ME} {ρ : Env} {G : Urn → Prop} {f : D → D} : ∀ {ds : List D} {u : Urn}, G u → (∀ d ∈ ds, ∀ u, G u → ∃ ρ1, g d ρ = some ρ1 ∧ (∃ b u', c ρ1 u = .ok (.bl b) u' ∧ G u') ∧ ∀ u, elt ρ1 u = .ok (f d) u) →
    ∃ (xs : List D) (u' : Urn), lcGo g c elt ρ ds u = .ok (xs.map f) u' ∧ G u' ∧ List.Sublist xs ds
  | [], u, hu, _ => ⟨[], u, rfl, hu, .slnil⟩
  | d :: ds, u, hu, h => by
    obtain ⟨ρ1, h1, ⟨b, u1, h2, h4⟩, h3⟩ := h d List.mem_cons_self u hu
    obtain ⟨xs, u2, h6, h7, h8⟩ := lcGo_drawC (ds := ds) h4 fun e he => h e (List.mem_cons_of_mem _ he)
    cases b with
    | true => exact ⟨d :: xs, u2, by rw [lcGo, h1]; simp only [h2, Out.bind_ok, asB_bl, if_true, h3, h6, List.map_cons], h7, h8.cons_cons d⟩
    | false => exact ⟨xs, u2, by rw [lcGo, h1]; simp [h2, h6], h7, h8.cons d⟩
theorem lcGo2_map {g : TG} {it2 : MEs} {g2 : TG} {c2 elt : ME} {vs1 : List Nat} {ρ : Env} {u : Urn} {h : D → List D} : ∀ {ds : List D}, (∀ d ∈ ds, ∃ ρ1 es, g d ρ = some ρ1 ∧ it2 ρ1 u = .ok es u ∧ lcGo g2 c2 elt (wipeE ρ1 vs1) es u = .ok (h d) u) → lcGo2 g it2 g2 c2 elt vs1 ρ ds u = .ok (ds.flatMap h) u
  | [], _ => rfl
  | d :: ds, k => by
    obtain ⟨ρ1, es, h1, h2, h3⟩ := k d List.mem_cons_self
    rw [lcGo2, h1]
    simp only [h2, Out.bind_ok, h3, lcGo2_map (ds := ds) fun e he => k e (List.mem_cons_of_mem _ he), List.flatMap_cons]
/-! ### loops -/
theorem forGo_inv {g : TGS} {body : MS} (I : List D → SEnv → Urn → Prop) {P : SOut → Prop} : ∀ {ds : List D} {Γ : SEnv} {u : Urn}, I ds Γ u → (∀ Γ u, I [] Γ u → P (.nx Γ u)) →
    (∀ d ds Γ u, I (d :: ds) Γ u → ∃ Γ1, g d Γ = some Γ1 ∧ ((∃ Γ2 u2, (body Γ1 u = .nx Γ2 u2 ∨ body Γ1 u = .ct Γ2 u2) ∧ I ds Γ2 u2) ∨ (∃ Γ2 u2, body Γ1 u = .bk Γ2 u2 ∧ P (.nx Γ2 u2)) ∨ (∃ d u2, body Γ1 u = .rt d u2 ∧ P (.rt d u2)))) → P (forGo g body ds Γ u)
  | [], Γ, u, h, e, _ => e Γ u h
  | d :: ds, Γ, u, h, e, s => by
    obtain ⟨Γ1, h1, h2⟩ := s d ds Γ u h
    rw [forGo, h1]
    rcases h2 with ⟨Γ2, u2, h2 | h2, h3⟩ | ⟨Γ2, u2, h2, h3⟩ | ⟨d', u2, h2, h3⟩
    · simp only [h2]; exact forGo_inv I h3 e s
    · simp only [h2]; exact forGo_inv I h3 e s
    · simp only [h2]; exact h3
    · simp only [h2]; exact h3
theorem forGo_steps {g : TGS} {body : MS} (I : List D → SEnv → Urn → Prop) : ∀ {ds : List D} {Γ : SEnv} {u : Urn}, I ds Γ u → (∀ d ds Γ u, I (d :: ds) Γ u → ∃ Γ1, g d Γ = some Γ1 ∧ ∃ Γ2 u2, body Γ1 u = .nx Γ2 u2 ∧ I ds Γ2 u2) → ∃ Γ' u', forGo g body ds Γ u = .nx Γ' u' ∧ I [] Γ' u'
  | [], Γ, u, h, _ => ⟨Γ, u, rfl, h⟩
  | d :: ds, Γ, u, h, s => by
    obtain ⟨Γ1, h1, Γ2, u2, h2, h3⟩ := s d ds Γ u h
    obtain ⟨Γ', u', h4, h5⟩ := forGo_steps I h3 s
    refine ⟨Γ', u', ?_, h5⟩
    rw [forGo, h1]
    simp only [h2]
    exact h4
theorem forGo_nx {g : TGS} {body : MS} {d : D} {ds : List D} {Γ Γ1 Γ2 : SEnv} {u u2 : Urn} (h1 : g d Γ = some Γ1) (h2 : body Γ1 u = .nx Γ2 u2) : forGo g body (d :: ds) Γ u = forGo g body ds Γ2 u2 := by
  rw [forGo, h1]
  simp only [h2]
end Dn
namespace K51
open Dn
def d_is_whole : MS := (sRet (mAnd (mIsTy [.int] (mVar 0)) (mNot (mIsTy [.bool] (mVar 0)))))
def F_is_whole : Fn := fn 1 1 d_is_whole
def d_is_between : MS := (sRet (mAnd (mCall F_is_whole (mCons (mVar 0) mNil)) (mChain opLe opLe (mVar 1) (mVar 0) (mVar 2))))
def F_is_between : Fn := fn 3 3 d_is_between
def d_is_tuple_of : MS := (sRet (mAnd (mIsTy [.tuple] (mVar 0)) (mBin opEq (mB fLen (mCons (mVar 0) mNil)) (mVar 1))))
def F_is_tuple_of : Fn := fn 2 2 d_is_tuple_of
def d_are_rising : MS := (sRet (mB fAll (mCons (mLc (iRng (mCons (mLit (.int 1)) (mCons (mB fLen (mCons (mVar 0) mNil)) mNil))) (gName 1) mTrue (mBin opLt (mIx (mVar 0) (mBin opSub (mVar 1) (mLit (.int 1)))) (mIx (mVar 0) (mVar 1))) [1]) mNil)))
def F_are_rising : Fn := fn 2 1 d_are_rising
def d_count_of : MS := (sSeq (sSet 1 (mLit (.int 1))) (sSeq (sFor (iSeq (mVar 0)) (hName 2) (sSet 1 (mBin opMul (mVar 1) (mVar 2)))) (sRet (mVar 1))))
def F_count_of : Fn := fn 3 1 d_count_of
def d_are_sizes : MS := (sSeq (sIf (mOr (mNot (mIsTy [.tuple] (mVar 0))) (mNot (mChain opLe opLe (mLit (.int 1)) (mB fLen (mCons (mVar 0) mNil)) (mLit (.int 4))))) (sRet (mLit (.bl false))) sNop) (sRet (mAnd (mB fAll (mCons (mLc (iSeq (mVar 0)) (gName 1) mTrue (mCall F_is_between (mCons (mVar 1) (mCons (mLit (.int 1)) (mCons (mLit (.int 6)) mNil)))) [1]) mNil)) (mBin opLe (mCall F_count_of (mCons (mVar 0) mNil)) (mLit (.int 36))))))
def F_are_sizes : Fn := fn 2 1 d_are_sizes
def d_rows_of : MS := (sSeq (sSet 1 (mLst (mCons (mTup mNil) mNil))) (sSeq (sFor (iSeq (mVar 0)) (hName 2) (sSet 1 (mLc2 (iSeq (mVar 1)) (gName 3) (iRng (mCons (mVar 2) mNil)) (gName 4) mTrue (mBin opAdd (mVar 3) (mTup (mCons (mVar 4) mNil))) [3, 4] [4]))) (sRet (mVar 1))))
def F_rows_of : Fn := fn 5 1 d_rows_of
def d_place_in : MS := (sSeq (sSet 2 (mLit (.int 0))) (sSeq (sFor (iZip (mCons (mVar 0) (mCons (mVar 1) mNil))) (hTup (hsCons (hName 3) (hsCons (hName 4) hsNil))) (sSet 2 (mBin opAdd (mBin opMul (mVar 2) (mVar 3)) (mVar 4)))) (sRet (mVar 2))))
def F_place_in : Fn := fn 5 2 d_place_in
def d_is_gain_row : MS := (sRet (mAnd (mCall F_is_tuple_of (mCons (mVar 0) (mCons (mVar 1) mNil))) (mB fAll (mCons (mLc (iSeq (mVar 0)) (gName 2) mTrue (mCall F_is_whole (mCons (mVar 2) mNil)) [2]) mNil))))
def F_is_gain_row : Fn := fn 3 2 d_is_gain_row
def d_is_game_by : MS := (sSeq (sIf (mOr (mNot (mCall F_is_tuple_of (mCons (mVar 0) (mCons (mLit (.int 2)) mNil)))) (mOr (mNot (mCall F_are_sizes (mCons (mIx (mVar 0) (mLit (.int 0))) mNil))) (mNot (mCall F_is_tuple_of (mCons (mIx (mVar 0) (mLit (.int 1))) (mCons (mB fLen (mCons (mIx (mVar 0) (mLit (.int 0))) mNil)) mNil)))))) (sRet (mLit (.bl false))) sNop) (sSeq (sSet 1 (mCall F_count_of (mCons (mIx (mVar 0) (mLit (.int 0))) mNil))) (sRet (mB fAll (mCons (mLc (iSeq (mIx (mVar 0) (mLit (.int 1)))) (gName 2) mTrue (mCall F_is_gain_row (mCons (mVar 2) (mCons (mVar 1) mNil))) [2]) mNil)))))
def F_is_game_by : Fn := fn 3 1 d_is_game_by
def d_choosers_by : MS := (sRet (mB fLen (mCons (mIx (mVar 0) (mLit (.int 0))) mNil)))
def F_choosers_by : Fn := fn 1 1 d_choosers_by
def d_is_choice : MS := (sSeq (sIf (mNot (mCall F_is_tuple_of (mCons (mVar 1) (mCons (mCall F_choosers_by (mCons (mVar 0) mNil)) mNil)))) (sRet (mLit (.bl false))) sNop) (sRet (mB fAll (mCons (mLc (iZip (mCons (mVar 1) (mCons (mIx (mVar 0) (mLit (.int 0))) mNil))) (gTup (gsCons (gName 2) (gsCons (gName 3) gsNil))) mTrue (mCall F_is_between (mCons (mVar 2) (mCons (mLit (.int 0)) (mCons (mBin opSub (mVar 3) (mLit (.int 1))) mNil)))) [2, 3]) mNil))))
def F_is_choice : Fn := fn 4 2 d_is_choice
def d_is_chooser : MS := (sRet (mCall F_is_between (mCons (mVar 1) (mCons (mLit (.int 0)) (mCons (mBin opSub (mCall F_choosers_by (mCons (mVar 0) mNil)) (mLit (.int 1))) mNil)))))
def F_is_chooser : Fn := fn 2 2 d_is_chooser
def d_place_of : MS := (sRet (mCall F_place_in (mCons (mIx (mVar 0) (mLit (.int 0))) (mCons (mVar 1) mNil))))
def F_place_of : Fn := fn 2 2 d_place_of
def d_gain_by : MS := (sRet (mIx (mIx (mIx (mVar 0) (mLit (.int 1))) (mVar 1)) (mCall F_place_of (mCons (mVar 0) (mCons (mVar 2) mNil)))))
def F_gain_by : Fn := fn 3 3 d_gain_by
def d_check_game : MS := (sIf (mNot (mCall F_is_game_by (mCons (mVar 0) mNil))) (fun _ _ => .bad) sNop)
def F_check_game : Fn := fn 1 1 d_check_game
def d_check_choice : MS := (sIf (mNot (mCall F_is_choice (mCons (mVar 0) (mCons (mVar 1) mNil)))) (fun _ _ => .bad) sNop)
def F_check_choice : Fn := fn 2 2 d_check_choice
def d_check_chooser : MS := (sIf (mNot (mCall F_is_chooser (mCons (mVar 0) (mCons (mVar 1) mNil)))) (fun _ _ => .bad) sNop)
def F_check_chooser : Fn := fn 2 2 d_check_chooser
def d_is_way : MS := (sSeq (sIf (mOr (mNot (mIsTy [.tuple] (mVar 0))) (mNot (mB fAll (mCons (mLc (iSeq (mVar 0)) (gName 2) mTrue (mCall F_is_between (mCons (mVar 2) (mCons (mLit (.int 0)) (mCons (mBin opSub (mVar 1) (mLit (.int 1))) mNil)))) [2]) mNil)))) (sRet (mLit (.bl false))) sNop) (sRet (mCall F_are_rising (mCons (mVar 0) mNil))))
def F_is_way : Fn := fn 3 2 d_is_way
def d_are_ways : MS := (sSeq (sIf (mOr (mNot (mIsTy [.tuple] (mVar 0))) (mNot (mChain opLe opLe (mLit (.int 1)) (mB fLen (mCons (mVar 0) mNil)) (mLit (.int 6))))) (sRet (mLit (.bl false))) sNop) (sRet (mB fAll (mCons (mLc (iSeq (mVar 0)) (gName 2) mTrue (mCall F_is_way (mCons (mVar 2) (mCons (mVar 1) mNil))) [2]) mNil))))
def F_are_ways : Fn := fn 3 2 d_are_ways
def d_are_costs : MS := (sSeq (sIf (mOr (mNot (mIsTy [.tuple] (mVar 0))) (mNot (mChain opLe opLe (mLit (.int 1)) (mB fLen (mCons (mVar 0) mNil)) (mLit (.int 200))))) (sRet (mLit (.bl false))) sNop) (sRet (mB fAll (mCons (mLc (iSeq (mVar 0)) (gName 2) mTrue (mCall F_is_gain_row (mCons (mVar 2) (mCons (mVar 1) mNil))) [2]) mNil))))
def F_are_costs : Fn := fn 3 2 d_are_costs
def d_sizes_of_crowd : MS := (sRet (mB fTuple (mCons (mLc (iSeq (mIx (mVar 0) (mLit (.int 0)))) (gName 1) mTrue (mB fLen (mCons (mVar 1) mNil)) [1]) mNil)))
def F_sizes_of_crowd : Fn := fn 2 1 d_sizes_of_crowd
def d_is_crowd_by : MS := (sSeq (sIf (mOr (mNot (mCall F_is_tuple_of (mCons (mVar 0) (mCons (mLit (.int 2)) mNil)))) (mOr (mNot (mIsTy [.tuple] (mIx (mVar 0) (mLit (.int 0))))) (mNot (mChain opLe opLe (mLit (.int 1)) (mB fLen (mCons (mIx (mVar 0) (mLit (.int 0))) mNil)) (mLit (.int 4)))))) (sRet (mLit (.bl false))) sNop) (sSeq (sIf (mNot (mCall F_are_costs (mCons (mIx (mVar 0) (mLit (.int 1))) (mCons (mB fLen (mCons (mIx (mVar 0) (mLit (.int 0))) mNil)) mNil)))) (sRet (mLit (.bl false))) sNop) (sSeq (sIf (mNot (mB fAll (mCons (mLc (iSeq (mIx (mVar 0) (mLit (.int 0)))) (gName 1) mTrue (mCall F_are_ways (mCons (mVar 1) (mCons (mB fLen (mCons (mIx (mVar 0) (mLit (.int 1))) mNil)) mNil))) [1]) mNil))) (sRet (mLit (.bl false))) sNop) (sRet (mBin opLe (mCall F_count_of (mCons (mCall F_sizes_of_crowd (mCons (mVar 0) mNil)) mNil)) (mLit (.int 36)))))))
def F_is_crowd_by : Fn := fn 2 1 d_is_crowd_by
def d_ways_taken : MS := (sRet (mLc (iEnum (mCons (mVar 1) mNil)) (gTup (gsCons (gName 2) (gsCons (gName 3) gsNil))) mTrue (mIx (mIx (mIx (mVar 0) (mLit (.int 0))) (mVar 2)) (mVar 3)) [2, 3]))
def F_ways_taken : Fn := fn 4 2 d_ways_taken
def d_users_by : MS := (sSeq (sSetF 2 (mLc (iSeq (mIx (mVar 0) (mLit (.int 1)))) (gName 5) mTrue (mLit (.int 0)) [5])) (sSeq (sFor (iSeq (mCall F_ways_taken (mCons (mVar 0) (mCons (mVar 1) mNil)))) (hName 3) (sFor (iSeq (mVar 3)) (hName 4) (sPut 2 (mVar 4) (mBin opAdd (mIx (mVar 2) (mVar 4)) (mLit (.int 1)))))) (sRet (mB fTuple (mCons (mVar 2) mNil)))))
def F_users_by : Fn := fn 6 2 d_users_by
def d_gain_of_way : MS := (sRet (mUn unNeg (mB fSum (mCons (mLc (iSeq (mVar 2)) (gName 3) mTrue (mIx (mIx (mIx (mVar 0) (mLit (.int 1))) (mVar 3)) (mBin opSub (mIx (mVar 1) (mVar 3)) (mLit (.int 1)))) [3]) mNil))))
def F_gain_of_way : Fn := fn 4 3 d_gain_of_way
def d_gains_in_crowd : MS := (sSeq (sSet 2 (mCall F_users_by (mCons (mVar 0) (mCons (mVar 1) mNil)))) (sRet (mLc (iSeq (mCall F_ways_taken (mCons (mVar 0) (mCons (mVar 1) mNil)))) (gName 3) mTrue (mCall F_gain_of_way (mCons (mVar 0) (mCons (mVar 2) (mCons (mVar 3) mNil)))) [3])))
def F_gains_in_crowd : Fn := fn 4 2 d_gains_in_crowd
def d_crowd_game_by : MS := (sSeq (sSet 1 (mCall F_sizes_of_crowd (mCons (mVar 0) mNil))) (sSeq (sSet 2 (mLc (iSeq (mCall F_rows_of (mCons (mVar 1) mNil))) (gName 3) mTrue (mCall F_gains_in_crowd (mCons (mVar 0) (mCons (mVar 3) mNil))) [3])) (sRet (mTup (mCons (mVar 1) (mCons (mB fTuple (mCons (mLc (iRng (mCons (mB fLen (mCons (mVar 1) mNil)) mNil)) (gName 4) mTrue (mB fTuple (mCons (mLc (iSeq (mVar 2)) (gName 5) mTrue (mIx (mVar 5) (mVar 4)) [5]) mNil)) [4]) mNil)) mNil))))))
def F_crowd_game_by : Fn := fn 6 1 d_crowd_game_by
def d_is_crowd_choice : MS := (sSeq (sSet 2 (mCall F_sizes_of_crowd (mCons (mVar 0) mNil))) (sSeq (sIf (mNot (mCall F_is_tuple_of (mCons (mVar 1) (mCons (mB fLen (mCons (mVar 2) mNil)) mNil)))) (sRet (mLit (.bl false))) sNop) (sRet (mB fAll (mCons (mLc (iZip (mCons (mVar 1) (mCons (mVar 2) mNil))) (gTup (gsCons (gName 3) (gsCons (gName 4) gsNil))) mTrue (mCall F_is_between (mCons (mVar 3) (mCons (mLit (.int 0)) (mCons (mBin opSub (mVar 4) (mLit (.int 1))) mNil)))) [3, 4]) mNil)))))
def F_is_crowd_choice : Fn := fn 5 2 d_is_crowd_choice
def d_check_crowd : MS := (sIf (mNot (mCall F_is_crowd_by (mCons (mVar 0) mNil))) (fun _ _ => .bad) sNop)
def F_check_crowd : Fn := fn 1 1 d_check_crowd
def d_check_crowd_choice : MS := (sSeq (sExp (mCall F_check_crowd (mCons (mVar 0) mNil))) (sIf (mNot (mCall F_is_crowd_choice (mCons (mVar 0) (mCons (mVar 1) mNil)))) (fun _ _ => .bad) sNop))
def F_check_crowd_choice : Fn := fn 2 2 d_check_crowd_choice
def d_crowd_game : MS := (sSeq (sExp (mCall F_check_crowd (mCons (mVar 0) mNil))) (sRet (mCall F_crowd_game_by (mCons (mVar 0) mNil))))
def F_crowd_game : Fn := fn 1 1 d_crowd_game
def d_users : MS := (sSeq (sExp (mCall F_check_crowd_choice (mCons (mVar 0) (mCons (mVar 1) mNil)))) (sRet (mCall F_users_by (mCons (mVar 0) (mCons (mVar 1) mNil)))))
def F_users : Fn := fn 2 2 d_users
def d_is_game : MS := (sRet (mCall F_is_game_by (mCons (mVar 0) mNil)))
def F_is_game : Fn := fn 1 1 d_is_game
def d_gain : MS := (sSeq (sExp (mCall F_check_game (mCons (mVar 0) mNil))) (sSeq (sExp (mCall F_check_chooser (mCons (mVar 0) (mCons (mVar 1) mNil)))) (sSeq (sExp (mCall F_check_choice (mCons (mVar 0) (mCons (mVar 2) mNil)))) (sRet (mCall F_gain_by (mCons (mVar 0) (mCons (mVar 1) (mCons (mVar 2) mNil))))))))
def F_gain : Fn := fn 3 3 d_gain
def d__law_urn : MS := (sSeqF (sSet 2 (mIf (mBin opLt (mVar 1) (mB fLen (mCons (mVar 0) mNil))) (mB fInt (mCons (mIx (mVar 0) (mVar 1)) mNil)) (mBin opAdd (mBin opAdd (mBin opMul (mLit (.int 9371)) (mVar 1)) (mLit (.int 463))) (mBin opMod (mB fInt (mCons (mB fSum (mCons (mSl (mVar 0) oNo (oYes (mLit (.int 5)))) mNil)) mNil)) (mLit (.int 999671))))))
  (sSeqF (sSet 3 (mBin opAdd (mLit (.int 96997)) (mBin opMul (mLit (.int 4129)) (mVar 1))))
  (sSeqF (sFor (iSeq (mBin opAdd (mSl (mVar 0) oNo (oYes (mLit (.int 11)))) (mLst (mCons (mVar 2) mNil)))) (hName 4) (sSet 3 (mBin opMod (mB fInt (mCons (mBin opAdd (mBin opAdd (mBin opMul (mVar 3) (mLit (.int 44371))) (mBin opMod (mB fInt (mCons (mVar 4) mNil)) (mLit (.int 2147483269)))) (mLit (.int 43))) mNil)) (mLit (.int 2147483237)))))
  (sRet (mLst (mCons (mIf (mOr (mBin opLt (mVar 2) (mLit (.int 0))) (mBin opGe (mVar 2) (mBin opPow (mLit (.int 10)) (mLit (.int 18))))) (mBin opMod (mB fInt (mCons (mB fAbs (mCons (mVar 2) mNil)) mNil)) (mBin opPow (mLit (.int 10)) (mLit (.int 60)))) (mLit (.int 0))) (mCons (mVar 3) (mCons (mLit (.int 0)) mNil))))))))
def F__law_urn : Fn := fnF 5 2 d__law_urn
def d__law_nip : MS := (sSeq (sIf (mBin opGt (mIx (mVar 0) (mLit (.int 0))) (mLit (.int 0))) (sSeq (sUnpU 0 2 0 (mB fDivmod (mCons (mIx (mVar 0) (mLit (.int 0))) (mCons (mVar 1) mNil)))) (sRet (mVar 2))) sNop) (sSeq (sPutU 0 (mLit (.int 2)) (mBin opAdd (mIx (mVar 0) (mLit (.int 2))) (mLit (.int 1)))) (sSeq (sSet 3 (mBin opMod (mB fInt (mCons (mBin opAdd (mBin opAdd (mBin opMul (mIx (mVar 0) (mLit (.int 1))) (mLit (.int 41299))) (mBin opMul (mIx (mVar 0) (mLit (.int 2))) (mLit (.int 50951)))) (mLit (.int 23))) mNil)) (mLit (.int 2147483423)))) (sSeq (sPutU 0 (mLit (.int 1)) (mBin opMod (mB fInt (mCons (mBin opAdd (mBin opMul (mVar 3) (mBin opAdd (mBin opMul (mLit (.int 2)) (mBin opFdiv (mVar 3) (mLit (.int 37)))) (mLit (.int 20011)))) (mIx (mVar 0) (mLit (.int 2)))) mNil)) (mLit (.int 2147483423)))) (sRet (mBin opMod (mB fInt (mCons (mBin opFdiv (mIx (mVar 0) (mLit (.int 1))) (mLit (.int 103))) mNil)) (mVar 1)))))))
def F__law_nip : Fn := fn 4 2 d__law_nip
def d__law_any_of : MS := (sRet (mIx (mVar 1) (mCall F__law_nip (mCons (mVar 0) (mCons (mB fLen (mCons (mVar 1) mNil)) mNil)))))
def F__law_any_of : Fn := fn 2 2 d__law_any_of
def d__law_is_whole : MS := (sRet (mAnd (mIsTy [.int] (mVar 0)) (mNot (mIsTy [.bool] (mVar 0)))))
def F__law_is_whole : Fn := fn 1 1 d__law_is_whole
def d__law_is_up_to : MS := (sRet (mAnd (mCall F__law_is_whole (mCons (mVar 0) mNil)) (mChain opLe opLe (mLit (.int 0)) (mVar 0) (mVar 1))))
def F__law_is_up_to : Fn := fn 2 2 d__law_is_up_to
def d__law_same (F__law_same : Fn) : MS := (sSeq (sIf (mIsTy [.tuple, .list] (mVar 0)) (sSeq (sIf (mOr (mBin opNe (mIsTy [.tuple] (mVar 0)) (mIsTy [.tuple] (mVar 1))) (mBin opNe (mIsTy [.list] (mVar 0)) (mIsTy [.list] (mVar 1)))) (sRet (mLit (.bl false))) sNop) (sRet (mAnd (mBin opEq (mB fLen (mCons (mVar 0) mNil)) (mB fLen (mCons (mVar 1) mNil))) (mBin opNotIn (mLit (.bl false)) (mLc (iZip (mCons (mVar 0) (mCons (mVar 1) mNil))) (gTup (gsCons (gName 2) (gsCons (gName 3) gsNil))) mTrue (mCall F__law_same (mCons (mVar 2) (mCons (mVar 3) mNil))) [2, 3]))))) sNop) (sSeq (sIf (mOr (mIsTy [.tuple, .list] (mVar 1)) (mBin opNe (mIsTy [.bool] (mVar 0)) (mIsTy [.bool] (mVar 1)))) (sRet (mLit (.bl false))) sNop) (sRet (mAnd (mBin opEq (mIsTy [.str] (mVar 0)) (mIsTy [.str] (mVar 1))) (mBin opEq (mVar 0) (mVar 1))))))
def R__law_same : Nat → Fn
  | 0 => fun _ _ => .bad
  | n + 1 => fn 4 2 (d__law_same (R__law_same n))
def F__law_same : Fn := R__law_same 10
def d__law_some : MS := (sRet (mB fTuple (mCons (mLc (iSeq (mVar 1)) (gName 3) (mBin opLt (mCall F__law_nip (mCons (mVar 0) (mCons (mLit (.int 4)) mNil))) (mVar 2)) (mVar 3) [3]) mNil)))
def F__law_some : Fn := fn 4 3 d__law_some
def d__law_all : MS := (sSeq (sSet 1 (mLst (mCons (mTup mNil) mNil))) (sSeq (sFor (iSeq (mVar 0)) (hName 2) (sSet 1 (mB fSumL (mCons (mLc (iSeq (mVar 1)) (gName 3) mTrue (mLc (iRng (mCons (mVar 2) mNil)) (gName 4) mTrue (mBin opAdd (mVar 3) (mTup (mCons (mVar 4) mNil))) [4]) [3]) (mCons (mLst mNil) mNil))))) (sRet (mVar 1))))
def F__law_all : Fn := fn 5 1 d__law_all
def d__law_at : MS := (sSeq (sSet 2 (mLit (.int 0))) (sSeq (sFor (iZip (mCons (mVar 0) (mCons (mVar 1) mNil))) (hTup (hsCons (hName 3) (hsCons (hName 4) hsNil))) (sSet 2 (mBin opAdd (mBin opMul (mVar 2) (mVar 3)) (mVar 4)))) (sRet (mVar 2))))
def F__law_at : Fn := fn 5 2 d__law_at
def d__law_with : MS := (sRet (mBin opAdd (mBin opAdd (mSl (mVar 0) oNo (oYes (mVar 1))) (mTup (mCons (mVar 2) mNil))) (mSl (mVar 0) (oYes (mBin opAdd (mVar 1) (mLit (.int 1)))) oNo)))
def F__law_with : Fn := fn 3 3 d__law_with
def d__law_any_sizes : MS := (sSeq (sSet 1 (mTup (mCons (mTup (mCons (mLit (.int 2)) (mCons (mLit (.int 2)) mNil))) (mCons (mTup (mCons (mLit (.int 2)) (mCons (mLit (.int 2)) mNil))) (mCons (mTup (mCons (mLit (.int 3)) (mCons (mLit (.int 2)) mNil))) (mCons (mTup (mCons (mLit (.int 2)) (mCons (mLit (.int 3)) mNil))) (mCons (mTup (mCons (mLit (.int 3)) (mCons (mLit (.int 3)) mNil))) (mCons (mTup (mCons (mLit (.int 2)) (mCons (mLit (.int 2)) (mCons (mLit (.int 2)) mNil)))) (mCons (mTup (mCons (mLit (.int 1)) (mCons (mLit (.int 3)) mNil))) (mCons (mTup (mCons (mLit (.int 4)) mNil)) (mCons (mTup (mCons (mLit (.int 2)) (mCons (mLit (.int 1)) (mCons (mLit (.int 3)) mNil)))) (mCons (mTup (mCons (mLit (.int 3)) (mCons (mLit (.int 2)) (mCons (mLit (.int 2)) mNil)))) (mCons (mTup (mCons (mLit (.int 2)) (mCons (mLit (.int 2)) (mCons (mLit (.int 2)) (mCons (mLit (.int 2)) mNil))))) (mCons (mTup (mCons (mLit (.int 1)) mNil)) (mCons (mTup (mCons (mLit (.int 5)) (mCons (mLit (.int 2)) mNil))) (mCons (mTup (mCons (mLit (.int 1)) (mCons (mLit (.int 2)) (mCons (mLit (.int 1)) (mCons (mLit (.int 2)) mNil))))) mNil)))))))))))))))) (sRet (mCall F__law_any_of (mCons (mVar 0) (mCons (mVar 1) mNil)))))
def F__law_any_sizes : Fn := fn 2 1 d__law_any_sizes
def d__law_is_sizes : MS := (sSeq (sIf (mOr (mNot (mIsTy [.tuple] (mVar 0))) (mOr (mNot (mChain opLe opLt (mVar 1) (mB fLen (mCons (mVar 0) mNil)) (mLit (.int 5)))) (mBin opIn (mLit (.bl false)) (mLc (iSeq (mVar 0)) (gName 3) mTrue (mAnd (mCall F__law_is_up_to (mCons (mVar 3) (mCons (mLit (.int 6)) mNil))) (mBin opGt (mVar 3) (mLit (.int 0)))) [3])))) (sRet (mLit (.bl false))) sNop) (sSeq (sSet 2 (mLit (.int 1))) (sSeq (sFor (iSeq (mVar 0)) (hName 3) (sSet 2 (mBin opMul (mVar 2) (mVar 3)))) (sRet (mBin opLt (mVar 2) (mLit (.int 37)))))))
def F__law_is_sizes : Fn := fn 4 2 d__law_is_sizes
def d__law_crowd_users : MS := (sSeq (sSetF 2 (mBin opMulL (mLst (mCons (mLit (.int 0)) mNil)) (mB fLen (mCons (mIx (mVar 0) (mLit (.int 1))) mNil)))) (sSeq (sFor (iZip (mCons (mIx (mVar 0) (mLit (.int 0))) (mCons (mVar 1) mNil))) (hTup (hsCons (hName 3) (hsCons (hName 4) hsNil))) (sFor (iSeq (mIx (mVar 3) (mVar 4))) (hName 5) (sPut 2 (mVar 5) (mBin opAdd (mIx (mVar 2) (mVar 5)) (mLit (.int 1)))))) (sRet (mB fTuple (mCons (mVar 2) mNil)))))
def F__law_crowd_users : Fn := fn 6 2 d__law_crowd_users
def d__law_crowd_game : MS := (sSeq (sSet 1 (mB fTuple (mCons (mLc (iSeq (mIx (mVar 0) (mLit (.int 0)))) (gName 6) mTrue (mB fLen (mCons (mVar 6) mNil)) [6]) mNil))) (sSeq (sSet2 2 (mLc (iSeq (mVar 1)) (gName 7) mTrue (mLst mNil) [7])) (sSeq (sFor (iSeq (mCall F__law_all (mCons (mVar 1) mNil))) (hName 3) (sSeq (sSet 4 (mCall F__law_crowd_users (mCons (mVar 0) (mCons (mVar 3) mNil)))) (sFor (iEnum (mCons (mIx (mVar 0) (mLit (.int 0))) mNil)) (hTup (hsCons (hName 5) (hsCons (hName 6) hsNil))) (sApp2 2 (mVar 5) (mBin opSub (mLit (.int 0)) (mB fSum (mCons (mLc (iSeq (mIx (mVar 6) (mIx (mVar 3) (mVar 5)))) (gName 8) mTrue (mIx (mIx (mIx (mVar 0) (mLit (.int 1))) (mVar 8)) (mBin opSub (mIx (mVar 4) (mVar 8)) (mLit (.int 1)))) [8]) mNil))))))) (sRet (mTup (mCons (mVar 1) (mCons (mB fTuple (mCons (mLc (iSeq (mVar 2)) (gName 9) mTrue (mB fTuple (mCons (mVar 9) mNil)) [9]) mNil)) mNil)))))))
def F__law_crowd_game : Fn := fn 10 1 d__law_crowd_game
def d__law_any_crowd : MS := (sSeq (sPar [1, 2, 3] (qCons (mCall F__law_any_sizes (mCons (mVar 0) mNil)) (qCons (mBin opAdd (mLit (.int 1)) (mCall F__law_nip (mCons (mVar 0) (mCons (mLit (.int 5)) mNil)))) (qCons (mCall F__law_any_of (mCons (mVar 0) (mCons (mTup (mCons (mLit (.int 2)) (mCons (mLit (.int 9)) (mCons (mBin opPow (mLit (.int 10)) (mLit (.int 20))) mNil)))) mNil))) qNil)))) (sSeq (sSet 4 (mB fTuple (mCons (mLc (iSeq (mVar 1)) (gName 5) mTrue (mB fTuple (mCons (mLc (iRng (mCons (mVar 5) mNil)) (gName 6) mTrue (mCall F__law_some (mCons (mVar 0) (mCons (mLstI (iRng (mCons (mVar 2) mNil))) (mCons (mBin opAdd (mLit (.int 1)) (mCall F__law_nip (mCons (mVar 0) (mCons (mLit (.int 3)) mNil)))) mNil)))) [6]) mNil)) [5]) mNil))) (sRet (mTup (mCons (mVar 4) (mCons (mB fTuple (mCons (mLc (iRng (mCons (mVar 2) mNil)) (gName 7) mTrue (mB fTuple (mCons (mLc (iSeq (mVar 1)) (gName 8) mTrue (mBin opSub (mCall F__law_nip (mCons (mVar 0) (mCons (mBin opMul (mLit (.int 2)) (mVar 3)) mNil))) (mVar 3)) [8]) mNil)) [7]) mNil)) mNil))))))
def F__law_any_crowd : Fn := fn 9 1 d__law_any_crowd
def d__law_is_crowd : MS := (sSeq (sIf (mOr (mNot (mIsTy [.tuple] (mVar 0))) (mOr (mBin opNe (mB fLen (mCons (mVar 0) mNil)) (mLit (.int 2))) (mOr (mNot (mIsTy [.tuple] (mIx (mVar 0) (mLit (.int 0))))) (mNot (mChain opLt opLt (mLit (.int 0)) (mB fLen (mCons (mIx (mVar 0) (mLit (.int 0))) mNil)) (mLit (.int 5))))))) (sRet (mLit (.bl false))) sNop) (sSeq (sIf (mOr (mBin opIn (mLit (.bl false)) (mLc (iSeq (mIx (mVar 0) (mLit (.int 0)))) (gName 2) mTrue (mIsTy [.tuple] (mVar 2)) [2])) (mNot (mCall F__law_is_sizes (mCons (mB fTuple (mCons (mLc (iSeq (mIx (mVar 0) (mLit (.int 0)))) (gName 2) mTrue (mB fLen (mCons (mVar 2) mNil)) [2]) mNil)) (mCons (mLit (.int 1)) mNil))))) (sRet (mLit (.bl false))) sNop) (sSeq (sIf (mOr (mNot (mIsTy [.tuple] (mIx (mVar 0) (mLit (.int 1))))) (mNot (mChain opLt opLt (mLit (.int 0)) (mB fLen (mCons (mIx (mVar 0) (mLit (.int 1))) mNil)) (mLit (.int 201))))) (sRet (mLit (.bl false))) sNop) (sSeq (sFor (iSeq (mIx (mVar 0) (mLit (.int 1)))) (hName 1) (sIf (mOr (mNot (mIsTy [.tuple] (mVar 1))) (mOr (mBin opNe (mB fLen (mCons (mVar 1) mNil)) (mB fLen (mCons (mIx (mVar 0) (mLit (.int 0))) mNil))) (mBin opIn (mLit (.bl false)) (mLc (iSeq (mVar 1)) (gName 4) mTrue (mCall F__law_is_whole (mCons (mVar 4) mNil)) [4])))) (sRet (mLit (.bl false))) sNop)) (sSeq (sFor (iSeq (mIx (mVar 0) (mLit (.int 0)))) (hName 2) (sFor (iSeq (mVar 2)) (hName 3) (sIf (mOr (mNot (mIsTy [.tuple] (mVar 3))) (mOr (mBin opIn (mLit (.bl false)) (mLc (iSeq (mVar 3)) (gName 5) mTrue (mCall F__law_is_up_to (mCons (mVar 5) (mCons (mBin opSub (mB fLen (mCons (mIx (mVar 0) (mLit (.int 1))) mNil)) (mLit (.int 1))) mNil))) [5])) (mBin opIn (mLit (.bl true)) (mLc (iRng (mCons (mLit (.int 1)) (mCons (mB fLen (mCons (mVar 3) mNil)) mNil))) (gName 6) mTrue (mBin opLe (mIx (mVar 3) (mVar 6)) (mIx (mVar 3) (mBin opSub (mVar 6) (mLit (.int 1))))) [6])))) (sRet (mLit (.bl false))) sNop))) (sRet (mLit (.bl true))))))))
def F__law_is_crowd : Fn := fn 7 1 d__law_is_crowd
def d__law_gain : MS := (sSeq (sSet 3 (mLit (.int 0))) (sSeq (sFor (iSeq (mIx (mIx (mIx (mVar 0) (mLit (.int 0))) (mVar 2)) (mIx (mVar 1) (mVar 2)))) (hName 4) (sSeq (sSet 5 (mB fLen (mCons (mLc (iZip (mCons (mIx (mVar 0) (mLit (.int 0))) (mCons (mVar 1) mNil))) (gTup (gsCons (gName 6) (gsCons (gName 7) gsNil))) (mBin opIn (mVar 4) (mIx (mVar 6) (mVar 7))) (mLit (.int 1)) [6, 7]) mNil))) (sSet 3 (mBin opSub (mVar 3) (mIx (mIx (mIx (mVar 0) (mLit (.int 1))) (mVar 4)) (mBin opSub (mVar 5) (mLit (.int 1)))))))) (sRet (mVar 3))))
def F__law_gain : Fn := fn 8 3 d__law_gain
def d__law_is_told : MS := (sSeq (sSet 2 (mIf (mBin opEq (mCall F__law_nip (mCons (mVar 0) (mCons (mLit (.int 2)) mNil))) (mLit (.int 0))) (mCall F_crowd_game (mCons (mVar 1) mNil)) (mCallK F_crowd_game [0] (mCons (mVar 1) mNil)))) (sSeq (sIf (mOr (mNot (mCall F__law_same (mCons (mVar 2) (mCons (mCall F__law_crowd_game (mCons (mVar 1) mNil)) mNil)))) (mBin opIsNB (mCall F_is_game (mCons (mVar 2) mNil)) (mLit (.bl true)))) (sRet (mLit (.bl false))) sNop) (sSeq (sFor (iSeq (mLc (iRng (mCons (mLit (.int 4)) mNil)) (gName 6) mTrue (mCall F__law_any_of (mCons (mVar 0) (mCons (mCall F__law_all (mCons (mIx (mVar 2) (mLit (.int 0))) mNil)) mNil))) [6])) (hName 3) (sSeq (sSet 4 (mIf (mBin opEq (mCall F__law_nip (mCons (mVar 0) (mCons (mLit (.int 2)) mNil))) (mLit (.int 0))) (mCall F_users (mCons (mVar 1) (mCons (mVar 3) mNil))) (mCallK F_users [1, 0] (mCons (mVar 3) (mCons (mVar 1) mNil))))) (sSeq (sIf (mNot (mCall F__law_same (mCons (mVar 4) (mCons (mCall F__law_crowd_users (mCons (mVar 1) (mCons (mVar 3) mNil))) mNil)))) (sRet (mLit (.bl false))) sNop) (sFor (iRng (mCons (mB fLen (mCons (mVar 3) mNil)) mNil)) (hName 5) (sSeq (sIf (mNot (mCall F__law_same (mCons (mCall F_gain (mCons (mVar 2) (mCons (mVar 5) (mCons (mVar 3) mNil)))) (mCons (mCall F__law_gain (mCons (mVar 1) (mCons (mVar 3) (mCons (mVar 5) mNil)))) mNil)))) (sRet (mLit (.bl false))) sNop) (sIf (mAnd (mBin opEq (mIx (mIx (mIx (mVar 1) (mLit (.int 0))) (mVar 5)) (mIx (mVar 3) (mVar 5))) (mTup mNil)) (mBin opNe (mCall F_gain (mCons (mVar 2) (mCons (mVar 5) (mCons (mVar 3) mNil)))) (mLit (.int 0)))) (sRet (mLit (.bl false))) sNop)))))) (sRet (mLit (.bl true))))))
def F__law_is_told : Fn := fn 7 2 d__law_is_told
def d__law_more_right : MS := (sSeq (sSet 2 (mTup (mCons (mIx (mVar 1) (mLit (.int 0))) (mCons (mBin opAdd (mIx (mVar 1) (mLit (.int 1))) (mTup (mCons (mB fTuple (mCons (mLc (iSeq (mIx (mVar 1) (mLit (.int 0)))) (gName 4) mTrue (mCall F__law_nip (mCons (mVar 0) (mCons (mLit (.int 99)) mNil))) [4]) mNil)) mNil))) mNil)))) (sSeq (sIf (mNot (mCall F__law_same (mCons (mCall F_crowd_game (mCons (mVar 2) mNil)) (mCons (mCall F_crowd_game (mCons (mVar 1) mNil)) mNil)))) (sRet (mLit (.bl false))) sNop) (sSeq (sSet 3 (mCall F__law_nip (mCons (mVar 0) (mCons (mB fLen (mCons (mIx (mVar 1) (mLit (.int 0))) mNil)) mNil)))) (sSeq (sSet 4 (mIx (mIx (mVar 1) (mLit (.int 0))) (mVar 3))) (sSeq (sSet 5 (mB fTuple (mCons (mLc (iSeq (mIx (mVar 1) (mLit (.int 0)))) (gName 12) mTrue (mB fLen (mCons (mVar 12) mNil)) [12]) mNil))) (sSeq (sSet 6 (mTup (mCons (mBin opAdd (mBin opAdd (mSl (mIx (mVar 1) (mLit (.int 0))) oNo (oYes (mVar 3))) (mTup (mCons (mBin opAdd (mVar 4) (mSl (mVar 4) oNo (oYes (mLit (.int 1))))) mNil))) (mSl (mIx (mVar 1) (mLit (.int 0))) (oYes (mBin opAdd (mVar 3) (mLit (.int 1)))) oNo)) (mCons (mIx (mVar 1) (mLit (.int 1))) mNil)))) (sSeq (sIf (mNot (mCall F__law_is_crowd (mCons (mVar 6) mNil))) (sRet (mLit (.bl true))) sNop) (sSeq (sPar [7, 8] (qCons (mCall F_crowd_game (mCons (mVar 6) mNil)) (qCons (mCall F_crowd_game (mCons (mVar 1) mNil)) qNil))) (sSeq (sFor (iSeq (mCall F__law_all (mCons (mVar 5) mNil))) (hName 9) (sIf (mBin opEq (mIx (mVar 9) (mVar 3)) (mLit (.int 0))) (sSeq (sPar [10, 11] (qCons (mCall F__law_at (mCons (mIx (mVar 7) (mLit (.int 0))) (mCons (mVar 9) mNil))) (qCons (mCall F__law_at (mCons (mIx (mVar 7) (mLit (.int 0))) (mCons (mCall F__law_with (mCons (mVar 9) (mCons (mVar 3) (mCons (mB fLen (mCons (mVar 4) mNil)) mNil)))) mNil))) qNil))) (sIf (mOr (mBin opNe (mLc (iSeq (mIx (mVar 7) (mLit (.int 1)))) (gName 13) mTrue (mIx (mVar 13) (mVar 10)) [13]) (mLc (iSeq (mIx (mVar 7) (mLit (.int 1)))) (gName 13) mTrue (mIx (mVar 13) (mVar 11)) [13])) (mBin opNe (mLc (iSeq (mIx (mVar 7) (mLit (.int 1)))) (gName 13) mTrue (mIx (mVar 13) (mVar 10)) [13]) (mLc (iSeq (mIx (mVar 8) (mLit (.int 1)))) (gName 13) mTrue (mIx (mVar 13) (mCall F__law_at (mCons (mVar 5) (mCons (mVar 9) mNil)))) [13]))) (sRet (mLit (.bl false))) sNop)) sNop)) (sRet (mLit (.bl true))))))))))))
def F__law_more_right : Fn := fn 14 2 d__law_more_right
def d__law_right : MS := (sSeq (sFor (iRng (mCons (mLit (.int 10)) mNil)) (hName 1) (sSeq (sSet 2 (mCall F__law_any_crowd (mCons (mVar 0) mNil))) (sIf (mOr (mNot (mCall F__law_is_told (mCons (mVar 0) (mCons (mVar 2) mNil)))) (mNot (mCall F__law_more_right (mCons (mVar 0) (mCons (mVar 2) mNil))))) (sRet (mLit (.bl false))) sNop))) (sSeq (sSet 2 (mTup (mCons (mTup (mCons (mTup (mCons (mTup (mCons (mLit (.int 0)) mNil)) (mCons (mTup (mCons (mLit (.int 1)) mNil)) mNil))) (mCons (mTup (mCons (mTup (mCons (mLit (.int 0)) mNil)) (mCons (mTup (mCons (mLit (.int 1)) mNil)) mNil))) mNil))) (mCons (mTup (mCons (mTup (mCons (mLit (.int 1)) (mCons (mLit (.int 3)) mNil))) (mCons (mTup (mCons (mLit (.int 2)) (mCons (mLit (.int 2)) mNil))) mNil))) mNil)))) (sRet (mCall F__law_same (mCons (mTup (mCons (mCall F_crowd_game (mCons (mVar 2) mNil)) (mCons (mCall F_users (mCons (mVar 2) (mCons (mTup (mCons (mLit (.int 0)) (mCons (mLit (.int 0)) mNil))) mNil))) mNil))) (mCons (mTup (mCons (mTup (mCons (mTup (mCons (mLit (.int 2)) (mCons (mLit (.int 2)) mNil))) (mCons (mTup (mCons (mTup (mCons (mBin opSub (mLit (.int 0)) (mLit (.int 3))) (mCons (mBin opSub (mLit (.int 0)) (mLit (.int 1))) (mCons (mBin opSub (mLit (.int 0)) (mLit (.int 2))) (mCons (mBin opSub (mLit (.int 0)) (mLit (.int 2))) mNil))))) (mCons (mTup (mCons (mBin opSub (mLit (.int 0)) (mLit (.int 3))) (mCons (mBin opSub (mLit (.int 0)) (mLit (.int 2))) (mCons (mBin opSub (mLit (.int 0)) (mLit (.int 1))) (mCons (mBin opSub (mLit (.int 0)) (mLit (.int 2))) mNil))))) mNil))) mNil))) (mCons (mTup (mCons (mLit (.int 2)) (mCons (mLit (.int 0)) mNil))) mNil))) mNil))))))
def F__law_right : Fn := fn 3 1 d__law_right
def d_law : MS := (sRet (mB fAll (mCons (mLc (iRng (mCons (mLit (.int 2)) mNil)) (gName 1) mTrue (mCallU F__law_right (mCall F__law_urn (mCons (mVar 0) (mCons (mVar 1) mNil)))) [1]) mNil)))
def F_law : Fn := fn 2 1 d_law
end K51
namespace K51
open Dn
/-! ### shapes -/
abbrev I (l : List Int) : D := .tup (l.map .int)
abbrev TT (l : List (List Int)) : D := .tup (l.map I)
theorem is_whole_int (i : Int) (u : Urn) : F_is_whole [.int i] u = .ok (.bl true) u := by simp [F_is_whole, d_is_whole]
theorem is_between_int (i lo hi : Int) (u : Urn) : F_is_between [.int i, .int lo, .int hi] u = .ok (.bl (decide (lo ≤ i) && decide (i ≤ hi))) u := by
  simp [F_is_between, d_is_between, is_whole_int]
theorem is_tuple_of_tup (l : List D) (n : Int) (u : Urn) : F_is_tuple_of [.tup l, .int n] u = .ok (.bl (decide ((l.length : Int) = n))) u := by
  simp [F_is_tuple_of, d_is_tuple_of, opEq]
def prd : Int → List Int → Int
  | a, [] => a
  | a, x :: l => prd (a * x) l
theorem count_loop (p : D) : ∀ (l : List Int) (a : Int) (s : Slot) (u : Urn), (∀ x ∈ l, x.natAbs < 2 ^ 64) → ∃ s', forGo (hName 2) (sSet 1 (mBin opMul (mVar 1) (mVar 2))) (l.map .int) [.val p, .val (.int a), s] u = .nx [.val p, .val (.int (prd a l)), s'] u
  | [], a, s, u, _ => ⟨s, rfl⟩
  | x :: l, a, s, u, h => by
    have hx := h x List.mem_cons_self
    obtain ⟨s', e⟩ := count_loop p l (a * x) (.val (.int x)) u fun y hy => h y (List.mem_cons_of_mem _ hy)
    refine ⟨s', ?_⟩
    rw [List.map_cons, forGo]
    have hm : mulOk a x = true := by unfold mulOk; rw [decide_eq_true hx]; simp
    simp [opMul, hm, e, prd]
theorem count_of_I (l : List Int) (u : Urn) (h : ∀ x ∈ l, x.natAbs < 2 ^ 64) : F_count_of [I l] u = .ok (.int (prd 1 l)) u := by
  obtain ⟨s', e⟩ := count_loop (I l) l 1 .no u h
  simp [F_count_of, d_count_of, e]
/-- sizes that are carried -/
structure Sz (l : List Int) : Prop where
  ne : 1 ≤ l.length
  len : l.length ≤ 4
  all : ∀ x ∈ l, 1 ≤ x ∧ x ≤ 6
theorem small6 {x : Int} (h : 1 ≤ x ∧ x ≤ 6) : x.natAbs < 2 ^ 64 := by omega
theorem are_sizes_I {l : List Int} (h : Sz l) (hp : prd 1 l ≤ 36) (u : Urn) : F_are_sizes [I l] u = .ok (.bl true) u := by
  have h1 := h.ne
  have h2 := h.len
  have e : ∀ ρ : Env, lcGo (gName 1) mTrue (mCall F_is_between (mCons (mVar 1) (mCons (mLit (.int 1)) (mCons (mLit (.int 6)) mNil)))) [ρ.head?.join, none] (l.map .int) u = .ok (l.map fun a => .bl (decide (1 ≤ a) && decide (a ≤ 6))) u := fun ρ =>
    lcGo_mapT _ fun a _ => ⟨_, rfl, rfl, by simp [is_between_int]⟩
  have hb : (l.all fun a => decide (1 ≤ a) && decide (a ≤ 6)) = true := by
    rw [List.all_eq_true]
    intro x hx
    have := h.all x hx
    simp [this.1, this.2]
  have := e [some (I l)]
  simp at this
  have h3 : (1 : Int) ≤ l.length := by omega
  have h4 : (l.length : Int) ≤ 4 := by omega
  simp [F_are_sizes, d_are_sizes, h3, h4, this, hb, count_of_I l u fun x hx => small6 (h.all x hx), hp]
/-! ### all choices -/
def rowsF : List (List Int) → List Int → List (List Int)
  | acc, [] => acc
  | acc, n :: l => rowsF (acc.flatMap fun r => (rngI n).map fun d => r ++ [d]) l
def rows (l : List Int) : List (List Int) := rowsF [[]] l
theorem flat_len {α β : Type} {f : α → List β} {k : Nat} : ∀ {l : List α}, (∀ a ∈ l, (f a).length = k) → (l.flatMap f).length = l.length * k
  | [], _ => by simp
  | a :: l, h => by
    rw [List.flatMap_cons, List.length_append, h a List.mem_cons_self, flat_len (l := l) fun b hb => h b (List.mem_cons_of_mem _ hb), List.length_cons, Nat.add_mul]
    omega
theorem LN_eq : LN = 16777216 := rfl
theorem step_len {acc : List (List Int)} {n : Int} : (acc.flatMap fun r => (rngI n).map fun d => r ++ [d]).length = acc.length * n.toNat := flat_len fun r _ => by rw [List.length_map, rngI_len]
theorem step_rows {acc : List (List Int)} {n : Int} {k : Nat} (h : ∀ r ∈ acc, r.length ≤ k) : ∀ r ∈ (acc.flatMap fun r => (rngI n).map fun d => r ++ [d]), r.length ≤ k + 1 := fun r hr => by
  obtain ⟨q, hq, hr⟩ := List.mem_flatMap.mp hr
  obtain ⟨d, _, rfl⟩ := List.mem_map.mp hr
  rw [List.length_append, List.length_singleton]
  have := h q hq
  omega
theorem rows_loop (p : D) : ∀ (l : List Int) (acc : List (List Int)) (k : Nat) (s2 : Slot) (u : Urn), (∀ x ∈ l, 1 ≤ x ∧ x ≤ 6) → (∀ r ∈ acc, r.length ≤ k) → k + l.length ≤ 8 → acc.length * 6 ^ l.length ≤ 1000000 →
    ∃ s', forGo (hName 2) (sSet 1 (mLc2 (iSeq (mVar 1)) (gName 3) (iRng (mCons (mVar 2) mNil)) (gName 4) mTrue (mBin opAdd (mVar 3) (mTup (mCons (mVar 4) mNil))) [3, 4] [4])) (l.map .int) [.val p, .val (.lst (acc.map I)), s2, .no, .no] u = .nx [.val p, .val (.lst ((rowsF acc l).map I)), s', .no, .no] u
  | [], acc, k, s2, u, _, _, _, _ => ⟨s2, rfl⟩
  | n :: l, acc, k, s2, u, h, hr, hk, hl => by
    have hn := h n List.mem_cons_self
    rw [List.length_cons] at hk hl
    have hpw : acc.length * n.toNat * 6 ^ l.length ≤ 1000000 := by
      have h6 : n.toNat ≤ 6 := by omega
      calc acc.length * n.toNat * 6 ^ l.length ≤ acc.length * 6 * 6 ^ l.length := Nat.mul_le_mul_right _ (Nat.mul_le_mul_left _ h6)
        _ = acc.length * 6 ^ (l.length + 1) := by rw [Nat.pow_succ, Nat.mul_assoc, Nat.mul_comm 6]
        _ ≤ 1000000 := hl
    obtain ⟨s', e⟩ := rows_loop p l (acc.flatMap fun r => (rngI n).map fun d => r ++ [d]) (k + 1) (.val (.int n)) u (fun y hy => h y (List.mem_cons_of_mem _ hy)) (step_rows hr) (by omega) (by rw [step_len]; exact hpw)
    refine ⟨s', ?_⟩
    have hpos : 0 < 6 ^ l.length := Nat.pow_pos (by omega)
    have hlen : acc.length * n.toNat ≤ 1000000 := Nat.le_trans (Nat.le_mul_of_pos_right _ hpos) hpw
    have hok : rOk 0 n = true := rOk_mk (by omega) (by omega) (by omega) (by omega)
    have e2 : lcGo2 (gName 3) (iRng (mCons (mVar 2) mNil)) (gName 4) mTrue (mBin opAdd (mVar 3) (mTup (mCons (mVar 4) mNil))) [4] [some p, some (.lst (acc.map I)), some (.int n), none, none] (acc.map I) u = .ok ((acc.map I).flatMap fun r => match r with
        | .tup q => (rngI n).map fun d => .tup (q ++ [.int d])
        | _ => []) u := by
      refine lcGo2_map fun d hd => ?_
      obtain ⟨r, hr', rfl⟩ := List.mem_map.mp hd
      refine ⟨_, (rngI n).map .int, rfl, by simp [hok, rng_I], ?_⟩
      refine lcGo_mapT _ fun a _ => ⟨_, rfl, rfl, ?_⟩
      have h1 := hr r hr'
      have h2 : r.length + 1 ≤ LN := by rw [LN_eq]; omega
      simp [h2]
    have e3 : ((acc.map I).flatMap fun r => match r with
        | .tup q => (rngI n).map fun d => .tup (q ++ [.int d])
        | _ => ([] : List D)) = (acc.flatMap fun r => (rngI n).map fun d => r ++ [d]).map I := by
      rw [List.flatMap_map, List.map_flatMap]
      congr 1
      funext r
      show ((rngI n).map fun d => D.tup (r.map .int ++ [.int d])) = _
      rw [List.map_map]
      apply List.map_congr_left
      intro d _
      simp [I]
    rw [e3] at e2
    rw [List.map_cons, forGo]
    have hlim : ∀ u, lim [] ((acc.flatMap fun r => (rngI n).map fun d => r ++ [d]).map I) u = .ok (.lst ((acc.flatMap fun r => (rngI n).map fun d => r ++ [d]).map I)) u := fun u => by
      unfold lim
      rw [if_pos (by rw [List.length_map, step_len, LN_eq, List.length_nil]; omega)]
      rfl
    simp only [hName_eq, List.set_cons_succ, List.set_cons_zero]
    simp only [sSet_eq, mLc2_eq, hideE, List.map_cons, List.map_nil, hide_val, hide_no, iSeq_eq, mVar_eq, Dn.get, List.getElem?_cons_succ, List.getElem?_cons_zero, lift_some, Out.bind_ok, items, wipeE, List.set_cons_succ, List.set_cons_zero, e2, Out.calm_ok, hlim, thenS_ok]
    exact e
theorem rows_of_I {l : List Int} (h : Sz l) (u : Urn) : F_rows_of [I l] u = .ok (.lst ((rows l).map I)) u := by
  have h6 : 6 ^ l.length ≤ 6 ^ 4 := Nat.pow_le_pow_right (by omega) h.len
  obtain ⟨s', e⟩ := rows_loop (I l) l [[]] 0 .no u h.all (fun r hr => by rw [List.mem_singleton] at hr; rw [hr]; simp) (by have := h.len; omega) (by simp; omega)
  have e' : forGo _ _ _ [.val (I l), .val (.lst [.tup []]), .no, .no, .no] u = _ := e
  simp [F_rows_of, d_rows_of, e']
  rfl
end K51
namespace K51
open Dn
/-! ### the law's own rows -/
theorem cat2_map {α : Type} (f : α → List D) : ∀ l : List α, cat2 (l.map fun a => .lst (f a)) = some (l.flatMap f)
  | [] => rfl
  | a :: l => by rw [List.map_cons, cat2, cat2_map f l]; rfl
theorem all_loop (p : D) : ∀ (l : List Int) (acc : List (List Int)) (k : Nat) (s2 : Slot) (u : Urn), (∀ x ∈ l, 1 ≤ x ∧ x ≤ 6) → (∀ r ∈ acc, r.length ≤ k) → k + l.length ≤ 8 → acc.length * 6 ^ l.length ≤ 1000000 →
    ∃ s', forGo (hName 2) (sSet 1 (mB fSumL (mCons (mLc (iSeq (mVar 1)) (gName 3) mTrue (mLc (iRng (mCons (mVar 2) mNil)) (gName 4) mTrue (mBin opAdd (mVar 3) (mTup (mCons (mVar 4) mNil))) [4]) [3]) (mCons (mLst mNil) mNil)))) (l.map .int) [.val p, .val (.lst (acc.map I)), s2, .no, .no] u = .nx [.val p, .val (.lst ((rowsF acc l).map I)), s', .no, .no] u
  | [], acc, k, s2, u, _, _, _, _ => ⟨s2, rfl⟩
  | n :: l, acc, k, s2, u, h, hr, hk, hl => by
    have hn := h n List.mem_cons_self
    rw [List.length_cons] at hk hl
    have hpw : acc.length * n.toNat * 6 ^ l.length ≤ 1000000 := by
      have h6 : n.toNat ≤ 6 := by omega
      calc acc.length * n.toNat * 6 ^ l.length ≤ acc.length * 6 * 6 ^ l.length := Nat.mul_le_mul_right _ (Nat.mul_le_mul_left _ h6)
        _ = acc.length * 6 ^ (l.length + 1) := by rw [Nat.pow_succ, Nat.mul_assoc, Nat.mul_comm 6]
        _ ≤ 1000000 := hl
    obtain ⟨s', e⟩ := all_loop p l (acc.flatMap fun r => (rngI n).map fun d => r ++ [d]) (k + 1) (.val (.int n)) u (fun y hy => h y (List.mem_cons_of_mem _ hy)) (step_rows hr) (by omega) (by rw [step_len]; exact hpw)
    refine ⟨s', ?_⟩
    have hpos : 0 < 6 ^ l.length := Nat.pow_pos (by omega)
    have hlen : acc.length * n.toNat ≤ 1000000 := Nat.le_trans (Nat.le_mul_of_pos_right _ hpos) hpw
    have hok : rOk 0 n = true := rOk_mk (by omega) (by omega) (by omega) (by omega)
    have e2 : lcGo (gName 3) mTrue (mLc (iRng (mCons (mVar 2) mNil)) (gName 4) mTrue (mBin opAdd (mVar 3) (mTup (mCons (mVar 4) mNil))) [4]) [some p, some (.lst (acc.map I)), some (.int n), none, none] (acc.map I) u = .ok (acc.map fun r => .lst (((rngI n).map fun d => r ++ [d]).map I)) u := by
      refine lcGo_mapT _ fun r hr' => ⟨_, rfl, rfl, ?_⟩
      have e5 : lcGo (gName 4) mTrue (mBin opAdd (mVar 3) (mTup (mCons (mVar 4) mNil))) [some p, some (.lst (acc.map I)), some (.int n), some (I r), none] ((rngI n).map .int) u = .ok ((rngI n).map fun d => I (r ++ [d])) u := by
        refine lcGo_mapT _ fun a _ => ⟨_, rfl, rfl, ?_⟩
        have h1 := hr r hr'
        have h2 : r.length + 1 ≤ LN := by rw [LN_eq]; omega
        simp [h2]
      simp [hok, rng_I, e5]
    rw [List.map_cons, forGo]
    have hz : ((acc.flatMap fun r => ((rngI n).map fun d => r ++ [d]).map I)).length ≤ LN := by
      rw [flat_len (k := n.toNat) fun r _ => by rw [List.length_map, List.length_map, rngI_len], LN_eq]; omega
    have ef : (acc.flatMap fun r => ((rngI n).map fun d => r ++ [d]).map I) = (acc.flatMap fun r => (rngI n).map fun d => r ++ [d]).map I := by rw [List.map_flatMap]
    have hs : fSumL [.lst (acc.map fun r => .lst (((rngI n).map fun d => r ++ [d]).map I)), .lst []] = some (.lst ((acc.flatMap fun r => (rngI n).map fun d => r ++ [d]).map I)) := by
      have hc := cat2_map (fun r => ((rngI n).map fun d => r ++ [d]).map I) acc
      simp only [fSumL, hc]
      rw [if_pos hz, ef]
    simp only [hName_eq, List.set_cons_succ, List.set_cons_zero]
    simp only [sSet_eq, mLc_eq, mB_eq, mCons_eq, mNil_eq, mLst_eq, hideE, List.map_cons, List.map_nil, hide_val, hide_no, iSeq_eq, mVar_eq, Dn.get, List.getElem?_cons_succ, List.getElem?_cons_zero, lift_some, Out.bind_ok, items, wipeE, List.set_cons_succ, List.set_cons_zero, e2, Out.calm_ok, hs, thenS_ok]
    exact e
theorem law_all_I {l : List Int} (h : Sz l) (u : Urn) : F__law_all [I l] u = .ok (.lst ((rows l).map I)) u := by
  have h6 : 6 ^ l.length ≤ 6 ^ 4 := Nat.pow_le_pow_right (by omega) h.len
  obtain ⟨s', e⟩ := all_loop (I l) l [[]] 0 .no u h.all (fun r hr => by rw [List.mem_singleton] at hr; rw [hr]; simp) (by have := h.len; omega) (by simp; omega)
  have e' : forGo _ _ _ [.val (I l), .val (.lst [.tup []]), .no, .no, .no] u = _ := e
  simp [F__law_all, d__law_all, e']
  rfl
/-! ### the index of a choice -/
def plc : Int → List Int → List Int → Int
  | a, s :: l, d :: c => plc (a * s + d) l c
  | a, _, _ => a
theorem plc_loop (p q : D) : ∀ (l c : List Int) (a : Int) (s3 s4 : Slot) (u : Urn), (∀ x ∈ l, 1 ≤ x ∧ x ≤ 6) →
    ∃ s3' s4', forGo (hTup (hsCons (hName 3) (hsCons (hName 4) hsNil))) (sSet 2 (mBin opAdd (mBin opMul (mVar 2) (mVar 3)) (mVar 4))) (zip2 (l.map .int) (c.map .int)) [.val p, .val q, .val (.int a), s3, s4] u = .nx [.val p, .val q, .val (.int (plc a l c)), s3', s4'] u
  | [], c, a, s3, s4, u, _ => ⟨s3, s4, by cases c <;> rfl⟩
  | s :: l, [], a, s3, s4, u, _ => ⟨s3, s4, rfl⟩
  | s :: l, d :: c, a, s3, s4, u, h => by
    have hs := h s List.mem_cons_self
    obtain ⟨s3', s4', e⟩ := plc_loop p q l c (a * s + d) (.val (.int s)) (.val (.int d)) u fun y hy => h y (List.mem_cons_of_mem _ hy)
    refine ⟨s3', s4', ?_⟩
    have hm : mulOk a s = true := by unfold mulOk; rw [decide_eq_true (p := s.natAbs < 2 ^ 64) (small6 hs)]; simp
    rw [List.map_cons, List.map_cons, zip2, forGo]
    simp [opMul, hm, e, plc]
theorem place_in_I {l : List Int} (h : ∀ x ∈ l, 1 ≤ x ∧ x ≤ 6) (c : List Int) (u : Urn) : F_place_in [I l, I c] u = .ok (.int (plc 0 l c)) u := by
  obtain ⟨s3, s4, e⟩ := plc_loop (I l) (I c) l c 0 .no .no u h
  simp [F_place_in, d_place_in, e]
theorem law_at_I {l : List Int} (h : ∀ x ∈ l, 1 ≤ x ∧ x ≤ 6) (c : List Int) (u : Urn) : F__law_at [I l, I c] u = .ok (.int (plc 0 l c)) u := place_in_I h c u
/-- a choice of these sizes -/
def Vd : List Int → List Int → Prop
  | [], [] => True
  | s :: l, d :: c => 0 ≤ d ∧ d < s ∧ Vd l c
  | _, _ => False
theorem Vd.len : ∀ {l c : List Int}, Vd l c → c.length = l.length
  | [], [], _ => rfl
  | s :: l, d :: c, h => by rw [List.length_cons, List.length_cons, Vd.len h.2.2]
  | [], _ :: _, h => h.elim
  | _ :: _, [], h => h.elim
theorem rowsF_eq : ∀ (l : List Int) (acc : List (List Int)), rowsF acc l = acc.flatMap fun r => (rows l).map fun q => r ++ q
  | [], acc => by
    show acc = acc.flatMap fun r => [r ++ []]
    simp
  | n :: l, acc => by
    rw [rowsF, rowsF_eq l, List.flatMap_assoc]
    congr 1
    funext r
    unfold rows
    rw [rowsF, rowsF_eq l ([[]].flatMap fun r => (rngI n).map fun d => r ++ [d])]
    simp only [List.flatMap_cons, List.flatMap_nil, List.append_nil, List.nil_append, List.flatMap_map, List.map_flatMap, List.map_map]
    congr 1
    funext d
    show ((rows l).map fun q => (r ++ [d]) ++ q) = (rows l).map ((fun q => r ++ q) ∘ fun q => [d] ++ q)
    apply List.map_congr_left
    intro q _
    simp
theorem rows_cons (n : Int) (l : List Int) : rows (n :: l) = (rngI n).flatMap fun d => (rows l).map fun q => d :: q := by
  unfold rows
  rw [rowsF, rowsF_eq]
  simp only [List.flatMap_cons, List.flatMap_nil, List.append_nil, List.nil_append, List.flatMap_map]
  rfl
theorem mem_rows : ∀ {l c : List Int}, c ∈ rows l ↔ Vd l c
  | [], c => by
    show c ∈ [[]] ↔ _
    cases c <;> simp [Vd]
  | n :: l, c => by
    rw [rows_cons, List.mem_flatMap]
    constructor
    · rintro ⟨d, hd, hc⟩
      obtain ⟨q, hq, rfl⟩ := List.mem_map.mp hc
      exact ⟨(mem_rngI.mp hd).1, (mem_rngI.mp hd).2, mem_rows.mp hq⟩
    · cases c with
      | nil => exact fun h => h.elim
      | cons d q => exact fun h => ⟨d, mem_rngI.mpr ⟨h.1, h.2.1⟩, List.mem_map.mpr ⟨q, mem_rows.mpr h.2.2, rfl⟩⟩
def prN : List Int → Nat
  | [] => 1
  | n :: l => n.toNat * prN l
theorem rows_len : ∀ l : List Int, (rows l).length = prN l
  | [] => rfl
  | n :: l => by
    rw [rows_cons, flat_len (k := prN l) fun d _ => by rw [List.length_map, rows_len l], rngI_len, prN]
theorem prd_eq : ∀ (l : List Int) (a : Int), (∀ x ∈ l, 1 ≤ x) → prd a l = a * (prN l : Nat)
  | [], a, _ => by simp [prd, prN]
  | n :: l, a, h => by
    have hn := h n List.mem_cons_self
    rw [prd, prd_eq l _ fun x hx => h x (List.mem_cons_of_mem _ hx), prN, Int.natCast_mul, Int.mul_assoc]
    congr 2
    omega
theorem plc_eq : ∀ (l c : List Int) (a : Int), (∀ x ∈ l, 1 ≤ x) → c.length = l.length → plc a l c = a * (prN l : Nat) + plc 0 l c
  | [], c, a, _, hc => by cases c <;> simp [plc, prN]
  | n :: l, [], a, _, hc => by cases hc
  | n :: l, d :: c, a, h, hc => by
    have hn := h n List.mem_cons_self
    have hl := fun x hx => h x (List.mem_cons_of_mem n hx)
    have hc' : c.length = l.length := by simpa using hc
    rw [plc, plc_eq l c _ hl hc', plc, plc_eq l c (0 * n + d) hl hc', prN, Int.natCast_mul]
    have e : ((n.toNat : Nat) : Int) = n := by omega
    rw [e, Int.zero_mul, Int.zero_add, Int.add_mul, Int.mul_assoc]
    omega
theorem plc_bound : ∀ {l c : List Int}, (∀ x ∈ l, 1 ≤ x) → Vd l c → 0 ≤ plc 0 l c ∧ plc 0 l c < (prN l : Nat)
  | [], [], _, _ => by simp [plc, prN]
  | n :: l, d :: c, h, v => by
    have hn := h n List.mem_cons_self
    have hl := fun x hx => h x (List.mem_cons_of_mem n hx)
    have ih := plc_bound hl v.2.2
    rw [plc, plc_eq l c _ hl (Vd.len v.2.2), Int.zero_mul, Int.zero_add, prN]
    have e : ((n.toNat * prN l : Nat) : Int) = n * (prN l : Nat) := by rw [Int.natCast_mul]; congr 1; omega
    rw [e]
    have h1 : d + 1 ≤ n := by have := v.2.1; omega
    have h2 : (d + 1) * (prN l : Nat) ≤ n * (prN l : Nat) := Int.mul_le_mul_of_nonneg_right h1 (by omega)
    have h3 : 0 ≤ d * (prN l : Nat) := Int.mul_nonneg v.1 (by omega)
    rw [Int.add_mul, Int.one_mul] at h2
    constructor
    · omega
    · omega
  | [], _ :: _, _, v => v.elim
  | _ :: _, [], _, v => v.elim
theorem flat_get {α β : Type} {f : α → List β} {k : Nat} : ∀ {l : List α} {i j : Nat} {a : α}, (∀ a ∈ l, (f a).length = k) → l[i]? = some a → j < k → (l.flatMap f)[i * k + j]? = (f a)[j]?
  | [], i, j, a, _, h, _ => by simp at h
  | b :: l, 0, j, a, hk, h, hj => by
    simp at h
    subst h
    rw [List.flatMap_cons, Nat.zero_mul, Nat.zero_add, List.getElem?_append_left (by rw [hk b List.mem_cons_self]; exact hj)]
  | b :: l, i + 1, j, a, hk, h, hj => by
    have hb := hk b List.mem_cons_self
    rw [List.flatMap_cons, Nat.add_mul, Nat.one_mul, List.getElem?_append_right (by rw [hb]; omega), hb]
    have e : i * k + k + j - k = i * k + j := by omega
    rw [e]
    exact flat_get (fun c hc => hk c (List.mem_cons_of_mem _ hc)) (by simpa using h) hj
theorem rngI_get {n d : Int} (h : 0 ≤ d) (h2 : d < n) : (rngI n)[d.toNat]? = some d := by
  unfold rngI
  rw [List.getElem?_map, List.getElem?_range (by omega)]
  simp
  omega
/-- the choice stands at its index -/
theorem rows_at : ∀ {l c : List Int}, (∀ x ∈ l, 1 ≤ x) → Vd l c → (rows l)[(plc 0 l c).toNat]? = some c
  | [], [], _, _ => rfl
  | n :: l, d :: c, h, v => by
    have hl := fun x hx => h x (List.mem_cons_of_mem n hx)
    have ih := rows_at hl v.2.2
    have b := plc_bound hl v.2.2
    rw [rows_cons, plc, plc_eq l c _ hl (Vd.len v.2.2), Int.zero_mul, Int.zero_add]
    have h3 : 0 ≤ d * (prN l : Nat) := Int.mul_nonneg v.1 (by omega)
    have e : (d * (prN l : Nat) + plc 0 l c).toNat = d.toNat * prN l + (plc 0 l c).toNat := by
      have e1 : ((d.toNat * prN l : Nat) : Int) = d * (prN l : Nat) := by rw [Int.natCast_mul]; congr 1; have := v.1; omega
      omega
    rw [e, flat_get (k := prN l) (fun d _ => by rw [List.length_map, rows_len]) (rngI_get v.1 v.2.1) (by omega), List.getElem?_map, ih]
    rfl
  | [], _ :: _, _, v => v.elim
  | _ :: _, [], _, v => v.elim
end K51
namespace K51
open Dn
/-! ### sameness -/
def Pl : Nat → D → Prop
  | _, .int _ => True
  | _, .bl _ => True
  | n + 1, .tup l => ∀ d ∈ l, Pl n d
  | n + 1, .lst l => ∀ d ∈ l, Pl n d
  | _, _ => False
theorem zip2_self (l : List D) : zip2 l l = l.map fun d => .tup [d, d] := by
  induction l with
  | nil => rfl
  | cons d l ih => rw [zip2, ih, List.map_cons]
theorem notIn_true (l : List D) : opNotIn (.bl false) (.lst (l.map fun _ => D.bl true)) = some (.bl true) := by
  have h1 : (l.map fun _ => D.bl true).all flat = true := by rw [List.all_eq_true]; intro x hx; obtain ⟨_, _, rfl⟩ := List.mem_map.mp hx; rfl
  have h2 : ((l.map fun _ => D.bl true).any fun z => eqF z (.bl false)) = false := by rw [List.any_eq_false]; intro x hx; obtain ⟨_, _, rfl⟩ := List.mem_map.mp hx; exact Bool.false_ne_true
  unfold opNotIn
  simp only [items]
  rw [h1, h2]
  rfl
theorem same_pl : ∀ (n : Nat) (d : D), Pl n d → ∀ u, R__law_same (n + 1) [d, d] u = .ok (.bl true) u
  | n, .int i, _, u => by simp [R__law_same, d__law_same, opEq, opNe]
  | n, .bl i, _, u => by simp [R__law_same, d__law_same, opEq, opNe]
  | n + 1, .tup l, h, u => by
    have ih : lcGo (gTup (gsCons (gName 2) (gsCons (gName 3) gsNil))) mTrue (mCall (R__law_same (n + 1)) (mCons (mVar 2) (mCons (mVar 3) mNil))) [some (.tup l), some (.tup l), none, none] (zip2 l l) u = .ok (l.map fun _ => .bl true) u := by
      rw [zip2_self]
      exact lcGo_mapT _ fun d hd => ⟨_, rfl, rfl, by simp [same_pl n d (h d hd)]⟩
    rw [R__law_same]
    simp [d__law_same, opEq, opNe, ih, notIn_true]
  | n + 1, .lst l, h, u => by
    have ih : lcGo (gTup (gsCons (gName 2) (gsCons (gName 3) gsNil))) mTrue (mCall (R__law_same (n + 1)) (mCons (mVar 2) (mCons (mVar 3) mNil))) [some (.lst l), some (.lst l), none, none] (zip2 l l) u = .ok (l.map fun _ => .bl true) u := by
      rw [zip2_self]
      exact lcGo_mapT _ fun d hd => ⟨_, rfl, rfl, by simp [same_pl n d (h d hd)]⟩
    rw [R__law_same]
    simp [d__law_same, opEq, opNe, ih, notIn_true]
  | 0, .tup l, h, u => h.elim
  | 0, .lst l, h, u => h.elim
  | _, .non, h, u => by simp [Pl] at h
  | _, .str _, h, u => by simp [Pl] at h
  | _, .dct _ _, h, u => by simp [Pl] at h
  | _, .urn, h, u => by simp [Pl] at h
  | _, .scr _, h, u => by simp [Pl] at h
theorem same_of {d : D} (h : Pl 9 d) (u : Urn) : F__law_same [d, d] u = .ok (.bl true) u := same_pl 9 d h u
/-! ### draws -/
/-- an urn from which may be drawn -/
def Good (u : Urn) : Prop := ∃ a b c : Int, u = [a, b, c] ∧ 0 ≤ a ∧ a < 2 ^ 400 ∧ 0 ≤ b ∧ b < 2 ^ 40 ∧ 0 ≤ c
theorem mulOk_r (i : Int) {j : Int} (h : j.natAbs < 2 ^ 64) : mulOk i j = true := by unfold mulOk; rw [decide_eq_true h]; simp
theorem mulOk_l {i : Int} (j : Int) (h : i.natAbs < 2 ^ 64) : mulOk i j = true := by unfold mulOk; rw [decide_eq_true h]; simp
theorem ediv_small {a m : Int} (h : 0 ≤ a) (hm : 0 < m) : 0 ≤ a / m ∧ a / m ≤ a := ⟨Int.ediv_nonneg h (by omega), Int.ediv_le_self _ h⟩
theorem nip_I {u : Urn} (hu : Good u) {m : Int} (hm : 0 < m) : ∃ k u', F__law_nip [.urn, .int m] u = .ok (.int k) u' ∧ Good u' ∧ 0 ≤ k ∧ k < m := by
  obtain ⟨a, b, c, rfl, ha, ha2, hb, hb2, hc⟩ := hu
  by_cases h0 : 0 < a
  · refine ⟨a % m, [a / m, b, c], ?_, ⟨a / m, b, c, rfl, (ediv_small ha hm).1, Int.lt_of_le_of_lt (ediv_small ha hm).2 ha2, hb, hb2, hc⟩, Int.emod_nonneg _ (by omega), Int.emod_lt_of_pos _ hm⟩
    have hn : a.natAbs < 2 ^ 400 := by omega
    simp [F__law_nip, d__law_nip, atI, ixN, h0, hm, hn, fDivmod, putU, Option.map]
  · have ea : a = 0 := by omega
    subst ea
    have h1 : ∀ x : Int, 0 ≤ x % 2147483423 ∧ x % 2147483423 < 2147483423 := fun x => ⟨Int.emod_nonneg _ (by decide), Int.emod_lt_of_pos _ (by decide)⟩
    obtain ⟨l1, l2⟩ := h1 (b * 41299 + (c + 1) * 50951 + 23)
    generalize hl : (b * 41299 + (c + 1) * 50951 + 23) % 2147483423 = lap at l1 l2
    obtain ⟨v1, v2⟩ := h1 (lap * (2 * (lap / 37) + 20011) + (c + 1))
    generalize hv : (lap * (2 * (lap / 37) + 20011) + (c + 1)) % 2147483423 = v at v1 v2
    refine ⟨(v / 103) % m, [0, v, c + 1], ?_, ⟨0, v, c + 1, rfl, by omega, by decide, v1, by omega, by omega⟩, Int.emod_nonneg _ (by omega), Int.emod_lt_of_pos _ hm⟩
    have m1 : mulOk b 41299 = true := mulOk_r _ (by decide)
    have m2 : mulOk (c + 1) 50951 = true := mulOk_r _ (by decide)
    have m3 : mulOk 2 (lap / 37) = true := mulOk_l _ (by decide)
    have m4 : mulOk lap (2 * (lap / 37) + 20011) = true := mulOk_l _ (by omega)
    have p37 : Nat.log2 37 < 9000 := by decide
    have p103 : Nat.log2 103 < 9000 := by decide
    simp [F__law_nip, d__law_nip, atI, ixN, hm, putU, Option.map, opMul, opMod, opFdiv, m1, m2, m3, m4, hl, hv, p37, p103]
theorem any_of_I {l : List D} (hl : l ≠ []) {x : D} (hx : x = .tup l ∨ x = .lst l) {u : Urn} (hu : Good u) : ∃ d u', F__law_any_of [.urn, x] u = .ok d u' ∧ Good u' ∧ d ∈ l := by
  have hlen : 0 < l.length := List.length_pos_iff.mpr hl
  obtain ⟨k, u', e, g, k0, k1⟩ := nip_I hu (m := l.length) (by omega)
  have hk : k.toNat < l.length := by omega
  refine ⟨l[k.toNat], u', ?_, g, List.getElem_mem hk⟩
  have e2 : atI l k = some l[k.toNat] := by
    unfold atI ixN
    rw [if_pos k0, if_pos k1]
    exact List.getElem?_eq_getElem hk
  rcases hx with rfl | rfl
  · simp [F__law_any_of, d__law_any_of, e, ixD, e2]
  · simp [F__law_any_of, d__law_any_of, e, ixD, e2]
end K51
namespace K51
open Dn
theorem urn_loop (p q r : D) : ∀ (l : List Int) (st : Int) (s4 : Slot) (u : Urn), 0 ≤ st → st < 2147483647 → ∃ st' s4', forGo (hName 4) (sSet 3 (mBin opMod (mB fInt (mCons (mBin opAdd (mBin opAdd (mBin opMul (mVar 3) (mLit (.int 44371))) (mBin opMod (mB fInt (mCons (mVar 4) mNil)) (mLit (.int 2147483269)))) (mLit (.int 43))) mNil)) (mLit (.int 2147483237)))) (l.map .int) [.val p, .val q, .val r, .val (.int st), s4] u = .nx [.val p, .val q, .val r, .val (.int st'), s4'] u ∧ 0 ≤ st' ∧ st' < 2147483647
  | [], st, s4, u, h1, h2 => ⟨st, s4, rfl, h1, h2⟩
  | x :: l, st, s4, u, h1, h2 => by
    have m1 : mulOk st 44371 = true := mulOk_r _ (by decide)
    have b1 : 0 ≤ (st * 44371 + x % 2147483269 + 43) % 2147483237 := Int.emod_nonneg _ (by decide)
    have b2 : (st * 44371 + x % 2147483269 + 43) % 2147483237 < 2147483237 := Int.emod_lt_of_pos _ (by decide)
    obtain ⟨st', s4', e, h3, h4⟩ := urn_loop p q r l ((st * 44371 + x % 2147483269 + 43) % 2147483237) (.val (.int x)) u b1 (by omega)
    refine ⟨st', s4', ?_, h3, h4⟩
    rw [List.map_cons, forGo]
    simp [opMul, opMod, m1, e]
theorem cut_len (l : List Int) (n : Int) (h : 0 ≤ n) : (cut l none (some n)).length ≤ n.toNat := by
  unfold cut sIx
  rw [List.length_take]
  have : ¬ n < 0 := by omega
  simp [this]
  omega
theorem law_urn_I (ns : List Int) {lap : Int} (hl : 0 ≤ lap) (hl2 : lap ≤ 1) (u : Urn) : ∃ a b : Int, F__law_urn [.scr ns, .int lap] u = .ok (.lst [.int a, .int b, .int 0]) u ∧ Good [a, b, 0] := by
  -- the number of its own
  obtain ⟨own, ho⟩ : ∃ own : Int, ∀ s3 s4 : Slot, (mIf (mBin opLt (mVar 1) (mB fLen (mCons (mVar 0) mNil))) (mB fInt (mCons (mIx (mVar 0) (mVar 1)) mNil)) (mBin opAdd (mBin opAdd (mBin opMul (mLit (.int 9371)) (mVar 1)) (mLit (.int 463))) (mBin opMod (mB fInt (mCons (mB fSum (mCons (mSl (mVar 0) oNo (oYes (mLit (.int 5)))) mNil)) mNil)) (mLit (.int 999671))))) [some (.scr ns), some (.int lap), none, none, none] u = .ok (.int own) u := by
    by_cases h : lap < ns.length
    · have h2 : lap.toNat < ns.length := by omega
      refine ⟨ns[lap.toNat], fun _ _ => ?_⟩
      have e : atI ns lap = some ns[lap.toNat] := by
        unfold atI ixN
        rw [if_pos hl, if_pos h]
        exact List.getElem?_eq_getElem h2
      simp [h, ixD, e]
    · have m1 : mulOk 9371 lap = true := mulOk_l _ (by decide)
      have e : ∀ l : List Int, fSum [.lst (l.map .int)] = some (.int l.sum) := fun l => by unfold fSum; simp
      refine ⟨9371 * lap + 463 + (cut ns none (some 5)).sum % 999671, fun _ _ => ?_⟩
      simp [h, opMul, opMod, m1, slD, e]
  have hst : (0 : Int) ≤ 96997 + 4129 * lap := by omega
  have hst2 : 96997 + 4129 * lap < 2147483647 := by omega
  obtain ⟨st, s4, e, g1, g2⟩ := urn_loop (.scr ns) (.int lap) (.int own) (cut ns none (some 11) ++ [own]) (96997 + 4129 * lap) .no u hst hst2
  have hz : (cut ns none (some 11)).length + 1 ≤ LN := by have := cut_len ns 11 (by decide); rw [LN_eq]; omega
  have m2 : mulOk 4129 lap = true := mulOk_l _ (by decide)
  have ho' := ho .no .no
  have p1 : opPow (.int 10) (.int 18) = some (.int (10 ^ 18)) := rfl
  have p2 : opPow (.int 10) (.int 60) = some (.int (10 ^ 60)) := rfl
  have hb : ∀ x : Int, 0 ≤ x % 10 ^ 60 ∧ x % 10 ^ 60 < 2 ^ 400 := fun x => ⟨Int.emod_nonneg _ (by decide), Int.lt_of_lt_of_le (Int.emod_lt_of_pos _ (by decide)) (by decide)⟩
  rw [List.map_append, List.map_cons, List.map_nil] at e
  have key : F__law_urn [.scr ns, .int lap] u = .ok (.lst [.int (if own < 0 ∨ (10 : Int) ^ 18 ≤ own then (if own < 0 then -own else own) % 10 ^ 60 else 0), .int st, .int 0]) u := by
    unfold F__law_urn d__law_urn
    have e0 : (sSet 2 (mIf (mBin opLt (mVar 1) (mB fLen (mCons (mVar 0) mNil))) (mB fInt (mCons (mIx (mVar 0) (mVar 1)) mNil)) (mBin opAdd (mBin opAdd (mBin opMul (mLit (.int 9371)) (mVar 1)) (mLit (.int 463))) (mBin opMod (mB fInt (mCons (mB fSum (mCons (mSl (mVar 0) oNo (oYes (mLit (.int 5)))) mNil)) mNil)) (mLit (.int 999671)))))) [.val (.scr ns), .val (.int lap), .no, .no, .no] u = .nx [.val (.scr ns), .val (.int lap), .val (.int own), .no, .no] u := by
      rw [sSet_eq]
      have : hideE [.val (.scr ns), .val (.int lap), .no, .no, .no] = [some (.scr ns), some (.int lap), none, none, none] := rfl
      rw [this, ho']
      rfl
    show retF (sSeqF _ _ [.val (.scr ns), .val (.int lap), .no, .no, .no] u) = _
    rw [sSeqF_eq, e0]
    simp [opMul, m2, slD, hz, e, p1, p2, opMod, fAbs]
  refine ⟨_, _, key, ⟨_, _, _, rfl, ?_, ?_, g1, by omega, by decide⟩⟩
  · split
    · exact (hb _).1
    · exact Int.le_refl _
  · split
    · exact (hb _).2
    · decide
end K51
namespace K51
open Dn
theorem atI_nn {α : Type} {l : List α} {k : Int} (h : 0 ≤ k) : atI l k = l[k.toNat]? := by
  unfold atI ixN
  rw [if_pos h]
  by_cases h2 : k < l.length
  · rw [if_pos h2]; rfl
  · rw [if_neg h2, List.getElem?_eq_none (by omega)]; rfl
theorem map_at {α : Type} {f : α → D} {l : List α} {k : Int} {a : α} (h : 0 ≤ k) (e : l[k.toNat]? = some a) : atI (l.map f) k = some (f a) := by
  rw [atI_nn h, List.getElem?_map, e]; rfl
theorem is_gain_row_I (l : List Int) (n : Int) (u : Urn) (h : (l.length : Int) = n) : F_is_gain_row [I l, .int n] u = .ok (.bl true) u := by
  have e : lcGo (gName 2) mTrue (mCall F_is_whole (mCons (mVar 2) mNil)) [some (I l), some (.int n), none] (l.map .int) u = .ok (l.map fun _ => .bl true) u := lcGo_mapT _ fun a _ => ⟨_, rfl, rfl, by simp [is_whole_int]⟩
  have e' : lcGo (gName 2) mTrue (mCall F_is_whole (mCons (mVar 2) mNil)) [some (.tup (l.map .int)), some (.int n), none] (l.map .int) u = _ := e
  simp [F_is_gain_row, d_is_gain_row, is_tuple_of_tup, h, e']
/-- a game -/
abbrev Gm (s : List Int) (r : List (List Int)) : D := .tup [I s, TT r]
structure GmOk (s : List Int) (r : List (List Int)) : Prop where
  sz : Sz s
  pr : prd 1 s ≤ 36
  len : r.length = s.length
  row : ∀ q ∈ r, q.length = prN s
theorem Sz.ge {s : List Int} (h : Sz s) : ∀ x ∈ s, 1 ≤ x := fun x hx => (h.all x hx).1
theorem prd_prN {s : List Int} (h : Sz s) : prd 1 s = (prN s : Nat) := by rw [prd_eq s 1 h.ge, Int.one_mul]
theorem is_game_by_I {s : List Int} {r : List (List Int)} (h : GmOk s r) (u : Urn) : F_is_game_by [Gm s r] u = .ok (.bl true) u := by
  have hl : (r.length : Int) = s.length := by rw [h.len]
  have e : lcGo (gName 2) mTrue (mCall F_is_gain_row (mCons (mVar 2) (mCons (mVar 1) mNil))) [some (Gm s r), some (.int (prd 1 s)), none] (r.map I) u = .ok (r.map fun _ => .bl true) u :=
    lcGo_mapT _ fun q hq => ⟨_, rfl, rfl, by
      have := is_gain_row_I q (prd 1 s) u (by rw [h.row q hq, prd_prN h.sz])
      simpa using this⟩
  have h1 := are_sizes_I h.sz h.pr u
  have h2 := count_of_I s u fun x hx => small6 (h.sz.all x hx)
  simp [F_is_game_by, d_is_game_by, is_tuple_of_tup, ixD_tup, at0, at1, h1, h2, hl, e]
theorem is_game_I {s : List Int} {r : List (List Int)} (h : GmOk s r) (u : Urn) : F_is_game [Gm s r] u = .ok (.bl true) u := by
  have := is_game_by_I h u
  simp [F_is_game, d_is_game, this]
theorem check_game_I {s : List Int} {r : List (List Int)} (h : GmOk s r) (u : Urn) : F_check_game [Gm s r] u = .ok .non u := by
  have := is_game_by_I h u
  simp [F_check_game, d_check_game, this]
theorem choosers_by_I (s : List Int) (x : D) (u : Urn) : F_choosers_by [.tup [I s, x]] u = .ok (.int s.length) u := by
  simp [F_choosers_by, d_choosers_by, ixD_tup, at0]
theorem zip_Vd : ∀ {s c : List Int}, Vd s c → ∀ p ∈ c.zip s, 0 ≤ p.1 ∧ p.1 < p.2
  | [], [], _, p, hp => by cases hp
  | n :: s, d :: c, v, p, hp => by
    rw [List.zip_cons_cons] at hp
    rcases List.mem_cons.mp hp with e | e
    · rw [e]; exact ⟨v.1, v.2.1⟩
    · exact zip_Vd v.2.2 p e
  | [], _ :: _, v, _, _ => v.elim
  | _ :: _, [], v, _, _ => v.elim
theorem bl_true {α : Type} (l : List α) : (l.map fun _ => D.bl true) = l.map fun a => D.bl ((fun _ => true) a) := rfl
theorem all_true {α : Type} (l : List α) : fAll [.lst (l.map fun _ => D.bl true)] = some (.bl true) := by
  rw [bl_true, fAll_map]
  congr 2
  rw [List.all_eq_true]
  intros; rfl
theorem is_choice_I {s c : List Int} (x : D) (v : Vd s c) (u : Urn) : F_is_choice [.tup [I s, x], I c] u = .ok (.bl true) u := by
  have hl : (c.length : Int) = s.length := by rw [v.len]
  have e : lcGo (gTup (gsCons (gName 2) (gsCons (gName 3) gsNil))) mTrue (mCall F_is_between (mCons (mVar 2) (mCons (mLit (.int 0)) (mCons (mBin opSub (mVar 3) (mLit (.int 1))) mNil)))) [some (.tup [I s, x]), some (I c), none, none] (zip2 (c.map .int) (s.map .int)) u = .ok ((c.zip s).map fun _ => .bl true) u := by
    rw [zip2_map]
    refine lcGo_mapT _ fun p hp => ⟨_, rfl, rfl, ?_⟩
    have := zip_Vd v p hp
    have h1 : p.1 ≤ p.2 - 1 := by omega
    simp [is_between_int, this.1, h1]
  have h1 := choosers_by_I s x u
  simp [F_is_choice, d_is_choice, is_tuple_of_tup, h1, hl, ixD_tup, at0, e, all_true]
theorem check_choice_I {s c : List Int} (x : D) (v : Vd s c) (u : Urn) : F_check_choice [.tup [I s, x], I c] u = .ok .non u := by
  have := is_choice_I x v u
  simp [F_check_choice, d_check_choice, this]
theorem check_chooser_I (s : List Int) (x : D) {k : Int} (h : 0 ≤ k) (h2 : k < s.length) (u : Urn) : F_check_chooser [.tup [I s, x], .int k] u = .ok .non u := by
  have h1 := choosers_by_I s x u
  have h3 : k ≤ s.length - 1 := by omega
  simp [F_check_chooser, d_check_chooser, F_is_chooser, d_is_chooser, h1, is_between_int, h, h3]
theorem gain_I {s : List Int} {r : List (List Int)} (h : GmOk s r) {c : List Int} (v : Vd s c) {k : Int} (h0 : 0 ≤ k) {q : List Int} (hq : r[k.toNat]? = some q) {z : Int} (hz : q[(plc 0 s c).toNat]? = some z) (u : Urn) : F_gain [Gm s r, .int k, I c] u = .ok (.int z) u := by
  have hk : k < s.length := by have := (List.getElem?_eq_some_iff.mp hq).1; have := h.len; omega
  have h1 := check_game_I h u
  have h2 := check_chooser_I s (TT r) h0 hk u
  have h3 := check_choice_I (TT r) v u
  have h4 := place_in_I h.sz.all c u
  have b := plc_bound h.sz.ge v
  have e1 : atI (r.map I) k = some (I q) := map_at h0 hq
  have e2 : atI (q.map D.int) (plc 0 s c) = some (.int z) := map_at b.1 hz
  simp [F_gain, d_gain, F_gain_by, d_gain_by, F_place_of, d_place_of, h1, h2, h3, h4, ixD_tup, at0, at1, e1, e2, h4]
end K51
namespace K51
open Dn
/-! ### crowds -/
abbrev TTT (w : List (List (List Int))) : D := .tup (w.map TT)
abbrev Cw (w : List (List (List Int))) (c : List (List Int)) : D := .tup [TTT w, TT c]
def szs (w : List (List (List Int))) : List Int := w.map fun x => (x.length : Int)
def Asc (w : List Int) : Prop := w.Pairwise (· < ·)
structure CwOk (w : List (List (List Int))) (c : List (List Int)) : Prop where
  sz : Sz (szs w)
  pr : prd 1 (szs w) ≤ 36
  c1 : 1 ≤ c.length
  c2 : c.length ≤ 200
  row : ∀ q ∈ c, q.length = w.length
  way : ∀ x ∈ w, ∀ y ∈ x, Asc y ∧ ∀ r ∈ y, 0 ≤ r ∧ r < c.length
theorem szs_len (w : List (List (List Int))) : (szs w).length = w.length := by unfold szs; rw [List.length_map]
theorem CwOk.wl {w : List (List (List Int))} {c : List (List Int)} (h : CwOk w c) : 1 ≤ w.length ∧ w.length ≤ 4 := by
  have h1 := h.sz.ne
  have h2 := h.sz.len
  rw [szs_len] at h1 h2
  exact ⟨h1, h2⟩
theorem CwOk.el {w : List (List (List Int))} {c : List (List Int)} (h : CwOk w c) : ∀ x ∈ w, 1 ≤ x.length ∧ x.length ≤ 6 := fun x hx => by
  have := h.sz.all (x.length : Int) (List.mem_map.mpr ⟨x, hx, rfl⟩)
  omega
theorem sizes_of_crowd_I (w : List (List (List Int))) (x : D) (u : Urn) : F_sizes_of_crowd [.tup [TTT w, x]] u = .ok (I (szs w)) u := by
  have e : lcGo (gName 1) mTrue (mB fLen (mCons (mVar 1) mNil)) [some (.tup [TTT w, x]), none] (w.map TT) u = .ok (w.map fun y => .int (y.length : Int)) u := lcGo_mapT _ fun y _ => ⟨_, rfl, rfl, by simp⟩
  simp [F_sizes_of_crowd, d_sizes_of_crowd, ixD_tup, at0, e, szs]
theorem rng_lo (lo hi : Int) : ∃ L : List Int, rng lo hi = L.map .int ∧ ∀ k ∈ L, lo ≤ k ∧ k < hi := by
  refine ⟨(List.range (hi - lo).toNat).map fun k : Nat => lo + k, by unfold rng; rw [List.map_map]; rfl, fun k hk => ?_⟩
  obtain ⟨j, hj, rfl⟩ := List.mem_map.mp hk
  rw [List.mem_range] at hj
  omega
theorem are_rising_I {w : List Int} (h : Asc w) (hl : w.length ≤ 1000000) (u : Urn) : F_are_rising [I w] u = .ok (.bl true) u := by
  obtain ⟨L, eL, hL⟩ := rng_lo 1 w.length
  have e : lcGo (gName 1) mTrue (mBin opLt (mIx (mVar 0) (mBin opSub (mVar 1) (mLit (.int 1)))) (mIx (mVar 0) (mVar 1))) [some (I w), none] (L.map .int) u = .ok (L.map fun _ => .bl true) u := by
    refine lcGo_mapT _ fun k hk => ⟨_, rfl, rfl, ?_⟩
    have hm := hL k hk
    have hk1 := hm.1
    have a1 := atI_nth (f := D.int) (l := w) (k := k - 1) (by omega) (by omega)
    have a2 := atI_nth (f := D.int) (l := w) (k := k) (by omega) hm.2
    have lt : nth w (k - 1) < nth w k := by
      have i1 : (k - 1).toNat < w.length := by omega
      have i2 : k.toNat < w.length := by omega
      have := List.pairwise_iff_getElem.mp h (k - 1).toNat k.toNat i1 i2 (by omega)
      have e1 := nth_some (l := w) (k := k - 1) (by omega) (by omega)
      have e2 := nth_some (l := w) (k := k) (by omega) hm.2
      rw [List.getElem?_eq_getElem i1] at e1
      rw [List.getElem?_eq_getElem i2] at e2
      rw [Option.some.inj e1, Option.some.inj e2] at this
      exact this
    simp [ixD_tup, a1, a2, lt]
  have hok : rOk 1 w.length = true := rOk_mk (by omega) (by omega) (by omega) (by omega)
  simp [F_are_rising, d_are_rising, hok, eL, e, all_true]
theorem is_way_I {w : List Int} {n : Int} (h : Asc w) (hr : ∀ r ∈ w, 0 ≤ r ∧ r < n) (hl : w.length ≤ 1000000) (u : Urn) : F_is_way [I w, .int n] u = .ok (.bl true) u := by
  have e : lcGo (gName 2) mTrue (mCall F_is_between (mCons (mVar 2) (mCons (mLit (.int 0)) (mCons (mBin opSub (mVar 1) (mLit (.int 1))) mNil)))) [some (I w), some (.int n), none] (w.map .int) u = .ok (w.map fun _ => .bl true) u := by
    refine lcGo_mapT _ fun k hk => ⟨_, rfl, rfl, ?_⟩
    have := hr k hk
    have h1 : k ≤ n - 1 := by omega
    simp [is_between_int, this.1, h1]
  have e2 := are_rising_I h hl u
  simp [F_is_way, d_is_way, e, all_true, e2]
theorem asc_len {w : List Int} {n : Nat} (h : Asc w) (hr : ∀ r ∈ w, 0 ≤ r ∧ r < n) : w.length ≤ n := by
  have : ∀ (w : List Int) (a : Int), w.Pairwise (· < ·) → (∀ r ∈ w, a ≤ r ∧ r < n) → (w.length : Int) ≤ n - a ∨ w = [] := by
    intro w
    induction w with
    | nil => intro a _ _; exact .inr rfl
    | cons x w ih =>
      intro a hp hb
      rw [List.pairwise_cons] at hp
      have hx := hb x List.mem_cons_self
      left
      rcases ih (x + 1) hp.2 (fun r hr => ⟨by have := hp.1 r hr; omega, (hb r (List.mem_cons_of_mem _ hr)).2⟩) with e | e
      · rw [List.length_cons]; omega
      · rw [e]; simp; omega
  rcases this w 0 h hr with e | e
  · omega
  · rw [e]; simp
theorem CwOk.wlen {w : List (List (List Int))} {c : List (List Int)} (h : CwOk w c) {x : List (List Int)} (hx : x ∈ w) {y : List Int} (hy : y ∈ x) : y.length ≤ 200 := by
  obtain ⟨h1, h2⟩ := h.way x hx y hy
  have := asc_len h1 h2
  have := h.c2
  omega
theorem is_crowd_by_I {w : List (List (List Int))} {c : List (List Int)} (h : CwOk w c) (u : Urn) : F_is_crowd_by [Cw w c] u = .ok (.bl true) u := by
  have e1 : lcGo (gName 2) mTrue (mCall F_is_gain_row (mCons (mVar 2) (mCons (mVar 1) mNil))) [some (TT c), some (.int w.length), none] (c.map I) u = .ok (c.map fun _ => .bl true) u :=
    lcGo_mapT _ fun q hq => ⟨_, rfl, rfl, by
      have := is_gain_row_I q w.length u (by rw [h.row q hq])
      simpa using this⟩
  have c1 : (1 : Int) ≤ c.length := by have := h.c1; omega
  have c2 : (c.length : Int) ≤ 200 := by have := h.c2; omega
  have e2 : F_are_costs [TT c, .int w.length] u = .ok (.bl true) u := by
    simp [F_are_costs, d_are_costs, c1, c2, e1, all_true]
  have e3 : lcGo (gName 1) mTrue (mCall F_are_ways (mCons (mVar 1) (mCons (mB fLen (mCons (mIx (mVar 0) (mLit (.int 1))) mNil)) mNil))) [some (Cw w c), none] (w.map TT) u = .ok (w.map fun _ => .bl true) u := by
    refine lcGo_mapT _ fun x hx => ⟨_, rfl, rfl, ?_⟩
    have hx2 := h.el x hx
    have x1 : (1 : Int) ≤ x.length := by omega
    have x2 : (x.length : Int) ≤ 6 := by omega
    have e4 : lcGo (gName 2) mTrue (mCall F_is_way (mCons (mVar 2) (mCons (mVar 1) mNil))) [some (TT x), some (.int c.length), none] (x.map I) u = .ok (x.map fun _ => .bl true) u := by
      refine lcGo_mapT _ fun y hy => ⟨_, rfl, rfl, ?_⟩
      have hy2 := h.way x hx y hy
      have := is_way_I hy2.1 hy2.2 (by have := h.wlen hx hy; omega) u
      simpa using this
    have e5 : F_are_ways [TT x, .int c.length] u = .ok (.bl true) u := by
      simp [F_are_ways, d_are_ways, x1, x2, e4, all_true]
    simp [ixD_tup, at1, e5]
  have w1 : (1 : Int) ≤ w.length := by have := h.wl; omega
  have w2 : (w.length : Int) ≤ 4 := by have := h.wl; omega
  have e6 := sizes_of_crowd_I w (TT c) u
  have e7 := count_of_I (szs w) u fun x hx => small6 (h.sz.all x hx)
  simp [F_is_crowd_by, d_is_crowd_by, is_tuple_of_tup, ixD_tup, at0, at1, w1, w2, e2, e3, all_true, e6, e7, h.pr]
theorem check_crowd_I {w : List (List (List Int))} {c : List (List Int)} (h : CwOk w c) (u : Urn) : F_check_crowd [Cw w c] u = .ok .non u := by
  have := is_crowd_by_I h u
  simp [F_check_crowd, d_check_crowd, this]
theorem is_crowd_choice_I (w : List (List (List Int))) (x : D) {c : List Int} (v : Vd (szs w) c) (u : Urn) : F_is_crowd_choice [.tup [TTT w, x], I c] u = .ok (.bl true) u := by
  have hl : (c.length : Int) = (szs w).length := by rw [v.len]
  have e : lcGo (gTup (gsCons (gName 3) (gsCons (gName 4) gsNil))) mTrue (mCall F_is_between (mCons (mVar 3) (mCons (mLit (.int 0)) (mCons (mBin opSub (mVar 4) (mLit (.int 1))) mNil)))) [some (.tup [TTT w, x]), some (I c), some (I (szs w)), none, none] (zip2 (c.map .int) ((szs w).map .int)) u = .ok ((c.zip (szs w)).map fun _ => .bl true) u := by
    rw [zip2_map]
    refine lcGo_mapT _ fun p hp => ⟨_, rfl, rfl, ?_⟩
    have := zip_Vd v p hp
    have h1 : p.1 ≤ p.2 - 1 := by omega
    simp [is_between_int, this.1, h1]
  have h1 := sizes_of_crowd_I w x u
  simp [F_is_crowd_choice, d_is_crowd_choice, is_tuple_of_tup, h1, hl, e, all_true]
end K51
namespace K51
open Dn
/-! ### users -/
def bump (l : List Int) (r : Int) : List Int := l.set r.toNat (nth l r + 1)
def bumps (l w : List Int) : List Int := w.foldl bump l
def usr (n : Nat) (tk : List (List Int)) : List Int := tk.foldl bumps (List.replicate n 0)
def tkn (w : List (List (List Int))) (c : List Int) : List (List Int) := (w.zip c).map fun p => nth p.1 p.2
theorem bump_len (l : List Int) (r : Int) : (bump l r).length = l.length := by unfold bump; rw [List.length_set]
theorem bumps_len : ∀ (w l : List Int), (bumps l w).length = l.length
  | [], l => rfl
  | r :: w, l => by
    show (bumps (bump l r) w).length = _
    rw [bumps_len w, bump_len]
theorem usrF_len : ∀ (tk : List (List Int)) (l : List Int), (tk.foldl bumps l).length = l.length
  | [], l => rfl
  | w :: tk, l => by
    rw [List.foldl_cons, usrF_len tk, bumps_len]
theorem usr_len (n : Nat) (tk : List (List Int)) : (usr n tk).length = n := by unfold usr; rw [usrF_len, List.length_replicate]
theorem ixN_nn {n : Nat} {r : Int} (h : 0 ≤ r) (h2 : r < n) : ixN n r = some r.toNat := by unfold ixN; rw [if_pos h, if_pos h2]
theorem put_bump {l : List Int} {r : Int} (h : 0 ≤ r ∧ r < l.length) : putD (l.map .int) (.int r) (.int (nth l r + 1)) = some ((bump l r).map .int) := by
  unfold putD bump
  simp [noL, List.length_map, ixN_nn h.1 h.2, List.map_set]
theorem bump_in (p q : D) (s3 s5 : Slot) (u : Urn) : ∀ (w l : List Int) (s4 : Slot), (∀ r ∈ w, 0 ≤ r ∧ r < l.length) → ∃ s4', forGo (hName 4) (sPut 2 (mVar 4) (mBin opAdd (mIx (mVar 2) (mVar 4)) (mLit (.int 1)))) (w.map .int) [.val p, .val q, .own (l.map .int), s3, s4, s5] u = .nx [.val p, .val q, .own ((bumps l w).map .int), s3, s4', s5] u
  | [], l, s4, _ => ⟨s4, rfl⟩
  | r :: w, l, s4, h => by
    have hr := h r List.mem_cons_self
    obtain ⟨s4', e⟩ := bump_in p q s3 s5 u w (bump l r) (.val (.int r)) fun x hx => by rw [bump_len]; exact h x (List.mem_cons_of_mem _ hx)
    refine ⟨s4', ?_⟩
    have a1 := atI_nth (f := D.int) (l := l) hr.1 hr.2
    rw [List.map_cons, forGo]
    simp [ixD_lst, a1, put_bump hr, e]
    rfl
theorem bump_in5 (p q : D) (s3 s4 : Slot) (u : Urn) : ∀ (w l : List Int) (s5 : Slot), (∀ r ∈ w, 0 ≤ r ∧ r < l.length) → ∃ s5', forGo (hName 5) (sPut 2 (mVar 5) (mBin opAdd (mIx (mVar 2) (mVar 5)) (mLit (.int 1)))) (w.map .int) [.val p, .val q, .own (l.map .int), s3, s4, s5] u = .nx [.val p, .val q, .own ((bumps l w).map .int), s3, s4, s5'] u
  | [], l, s4, _ => ⟨s4, rfl⟩
  | r :: w, l, s5, h => by
    have hr := h r List.mem_cons_self
    obtain ⟨s4', e⟩ := bump_in5 p q s3 s4 u w (bump l r) (.val (.int r)) fun x hx => by rw [bump_len]; exact h x (List.mem_cons_of_mem _ hx)
    refine ⟨s4', ?_⟩
    have a1 := atI_nth (f := D.int) (l := l) hr.1 hr.2
    rw [List.map_cons, forGo]
    simp [ixD_lst, a1, put_bump hr, e]
    rfl
theorem bump_out (p q : D) (s5 : Slot) (u : Urn) : ∀ (tk : List (List Int)) (l : List Int) (s3 s4 : Slot), (∀ w ∈ tk, ∀ r ∈ w, 0 ≤ r ∧ r < l.length) → ∃ s3' s4', forGo (hName 3) (sFor (iSeq (mVar 3)) (hName 4) (sPut 2 (mVar 4) (mBin opAdd (mIx (mVar 2) (mVar 4)) (mLit (.int 1))))) (tk.map I) [.val p, .val q, .own (l.map .int), s3, s4, s5] u = .nx [.val p, .val q, .own ((tk.foldl bumps l).map .int), s3', s4', s5] u
  | [], l, s3, s4, _ => ⟨s3, s4, rfl⟩
  | w :: tk, l, s3, s4, h => by
    obtain ⟨s4', e⟩ := bump_in p q (.val (I w)) s5 u w l s4 (h w List.mem_cons_self)
    obtain ⟨s3'', s4'', e2⟩ := bump_out p q s5 u tk (bumps l w) (.val (I w)) s4' fun x hx r hr => by rw [bumps_len]; exact h x (List.mem_cons_of_mem _ hx) r hr
    refine ⟨s3'', s4'', ?_⟩
    rw [List.map_cons, forGo]
    simp [e, e2]
theorem tkn_len {w : List (List (List Int))} {c : List Int} (v : Vd (szs w) c) : (tkn w c).length = w.length := by
  have := v.len
  rw [szs_len] at this
  unfold tkn
  rw [List.length_map, List.length_zip]
  omega
theorem Vd_at : ∀ {w : List (List (List Int))} {c : List Int}, Vd (szs w) c → ∀ p ∈ w.zip c, 0 ≤ p.2 ∧ p.2 < p.1.length
  | [], [], _, p, hp => by cases hp
  | x :: w, d :: c, v, p, hp => by
    rw [List.zip_cons_cons] at hp
    rcases List.mem_cons.mp hp with e | e
    · rw [e]; exact ⟨v.1, v.2.1⟩
    · exact Vd_at (w := w) v.2.2 p e
  | [], _ :: _, v, _, _ => v.elim
  | _ :: _, [], v, _, _ => v.elim
theorem tkn_mem {w : List (List (List Int))} {c : List Int} (v : Vd (szs w) c) {y : List Int} (hy : y ∈ tkn w c) : ∃ x ∈ w, y ∈ x := by
  obtain ⟨p, hp, rfl⟩ := List.mem_map.mp hy
  have := Vd_at v p hp
  exact ⟨p.1, (List.of_mem_zip hp).1, nth_mem this.1 this.2⟩
theorem CwOk.tk {w : List (List (List Int))} {k : List (List Int)} (h : CwOk w k) {c : List Int} (v : Vd (szs w) c) : ∀ y ∈ tkn w c, Asc y ∧ ∀ r ∈ y, 0 ≤ r ∧ r < k.length := fun y hy => by
  obtain ⟨x, hx, hy⟩ := tkn_mem v hy
  exact h.way x hx y hy
/-- ways taken, chooser by chooser -/
theorem ways_taken_I {w : List (List (List Int))} (x : D) {c : List Int} (v : Vd (szs w) c) (u : Urn) : F_ways_taken [.tup [TTT w, x], I c] u = .ok (.lst ((tkn w c).map I)) u := by
  have hl : c.length = w.length := by rw [v.len, szs_len]
  have e : lcGo (gTup (gsCons (gName 2) (gsCons (gName 3) gsNil))) mTrue (mIx (mIx (mIx (mVar 0) (mLit (.int 0))) (mVar 2)) (mVar 3)) [some (.tup [TTT w, x]), some (I c), none, none] (enumD 0 (c.map .int)) u = .ok ((c.zipIdx 0).map fun p => I (nth (nth w p.2) p.1)) u := by
    rw [enumD_map]
    refine lcGo_mapT _ fun p hp => ⟨_, rfl, rfl, ?_⟩
    obtain ⟨hp1, hp2⟩ := List.mem_zipIdx' hp
    have hw : p.2 < w.length := by omega
    have hv := Vd_at v (w[p.2], c[p.2]) (by
      rw [List.mem_iff_getElem?]
      exact ⟨p.2, by rw [List.getElem?_zip_eq_some]; exact ⟨List.getElem?_eq_getElem hw, List.getElem?_eq_getElem hp1⟩⟩)
    have e1 : nth w (p.2 : Nat) = w[p.2] := by
      have := nth_some (l := w) (k := (p.2 : Nat)) (by omega) (by omega)
      rw [Int.toNat_natCast, List.getElem?_eq_getElem hw] at this
      exact (Option.some.inj this).symm
    have a1 := atI_nth (f := TT) (l := w) (k := (p.2 : Nat)) (by omega) (by omega)
    have a2 := atI_nth (f := I) (l := nth w (p.2 : Nat)) (k := p.1) (by rw [hp2]; exact hv.1) (by rw [hp2, e1]; exact hv.2)
    simp [ixD_tup, at0, a1, a2]
  have e2 : ((c.zipIdx 0).map fun p => I (nth (nth w (p.2 : Nat)) p.1)) = (tkn w c).map I := by
    unfold tkn
    rw [List.map_map]
    apply List.ext_getElem?
    intro i
    rw [List.getElem?_map, List.getElem?_map, List.getElem?_zipIdx]
    by_cases hi : i < w.length
    · have hc : i < c.length := by omega
      have hz : (w.zip c)[i]? = some (w[i], c[i]) := by rw [List.getElem?_zip_eq_some]; exact ⟨List.getElem?_eq_getElem hi, List.getElem?_eq_getElem hc⟩
      have e1 : nth w (i : Nat) = w[i] := by
        have := nth_some (l := w) (k := (i : Nat)) (by omega) (by omega)
        rw [Int.toNat_natCast, List.getElem?_eq_getElem hi] at this
        exact (Option.some.inj this).symm
      rw [List.getElem?_eq_getElem hc, hz]
      simp [e1]
    · rw [List.getElem?_eq_none (by omega : c.length ≤ i), List.getElem?_eq_none (by rw [List.length_zip]; omega : (w.zip c).length ≤ i)]
      rfl
  rw [e2] at e
  simp [F_ways_taken, d_ways_taken, e]
theorem rep0 (n : Nat) : (List.replicate n (D.int 0)) = (List.replicate n (0 : Int)).map .int := by rw [List.map_replicate]
theorem users_by_I {w : List (List (List Int))} {k : List (List Int)} (h : CwOk w k) {c : List Int} (v : Vd (szs w) c) (u : Urn) : F_users_by [Cw w k, I c] u = .ok (I (usr k.length (tkn w c))) u := by
  have e : lcGo (gName 5) mTrue (mLit (.int 0)) [some (Cw w k), some (I c), none, none, none, none] (k.map I) u = .ok (k.map fun _ => .int 0) u := lcGo_mapT _ fun q hq => ⟨_, rfl, rfl, rfl⟩
  have e0 : (k.map fun _ => D.int 0) = (List.replicate k.length (0 : Int)).map .int := by rw [← rep0]; exact List.map_const' ..
  rw [e0] at e
  have e1 := ways_taken_I (TT k) v u
  obtain ⟨s3, s4, e2⟩ := bump_out (Cw w k) (I c) .no u (tkn w c) (List.replicate k.length 0) .no .no fun y hy r hr => by rw [List.length_replicate]; exact (h.tk v y hy).2 r hr
  simp [F_users_by, d_users_by, ixD_tup, at1, e, e1]
  rw [List.map_replicate] at e2
  rw [e2]
  rfl
theorem users_I {w : List (List (List Int))} {k : List (List Int)} (h : CwOk w k) {c : List Int} (v : Vd (szs w) c) (u : Urn) : F_users [Cw w k, I c] u = .ok (I (usr k.length (tkn w c))) u := by
  have e1 := check_crowd_I h u
  have e2 := is_crowd_choice_I w (TT k) v u
  have e3 := users_by_I h v u
  simp [F_users, d_users, F_check_crowd_choice, d_check_crowd_choice, e1, e2, e3]
end K51
namespace K51
open Dn
/-! ### how many use a road -/
def cnt (tk : List (List Int)) (s : Int) : Int := ((tk.filter fun y => decide (s ∈ y)).length : Nat)
theorem bump_at {l : List Int} {r s : Int} (hr : 0 ≤ r ∧ r < l.length) (hs : 0 ≤ s ∧ s < l.length) : nth (bump l r) s = nth l s + if r = s then 1 else 0 := by
  unfold bump nth
  rw [List.getD_eq_getElem?_getD, List.getElem?_set]
  by_cases e : r = s
  · subst e
    have h1 : r.toNat < l.length := by omega
    rw [if_pos rfl, if_pos h1, if_pos rfl]
    rfl
  · have h1 : r.toNat ≠ s.toNat := by omega
    rw [if_neg h1, if_neg e, Int.add_zero, List.getD_eq_getElem?_getD]
theorem bumps_at : ∀ (w l : List Int) {s : Int}, (∀ r ∈ w, 0 ≤ r ∧ r < l.length) → (0 ≤ s ∧ s < l.length) → Asc w → nth (bumps l w) s = nth l s + if s ∈ w then 1 else 0
  | [], l, s, _, _, _ => by simp [bumps]
  | r :: w, l, s, h, hs, ha => by
    unfold Asc at ha
    rw [List.pairwise_cons] at ha
    have hr := h r List.mem_cons_self
    have ih := bumps_at w (bump l r) (s := s) (fun x hx => by rw [bump_len]; exact h x (List.mem_cons_of_mem _ hx)) (by rw [bump_len]; exact hs) ha.2
    show nth (bumps (bump l r) w) s = _
    rw [ih, bump_at hr hs]
    by_cases e : r = s
    · subst e
      have hn : r ∉ w := fun hm => by have := ha.1 r hm; omega
      simp [hn]
    · have e' : ¬ s = r := fun z => e z.symm
      simp [e, e', List.mem_cons]
theorem usrF_at : ∀ (tk : List (List Int)) (l : List Int) {s : Int}, (∀ w ∈ tk, Asc w ∧ ∀ r ∈ w, 0 ≤ r ∧ r < l.length) → (0 ≤ s ∧ s < l.length) → nth (tk.foldl bumps l) s = nth l s + cnt tk s
  | [], l, s, _, _ => by simp [cnt]
  | w :: tk, l, s, h, hs => by
    have hw := h w List.mem_cons_self
    rw [List.foldl_cons, usrF_at tk (bumps l w) (fun x hx => by rw [bumps_len]; exact h x (List.mem_cons_of_mem _ hx)) (by rw [bumps_len]; exact hs), bumps_at w l hw.2 hs hw.1]
    unfold cnt
    rw [List.filter_cons]
    by_cases e : s ∈ w
    · simp [e]; omega
    · simp [e]
theorem nth_rep {n : Nat} {s : Int} : nth (List.replicate n (0 : Int)) s = 0 := by
  unfold nth
  rw [List.getD_eq_getElem?_getD, List.getElem?_replicate]
  split <;> rfl
theorem usr_at {n : Nat} {tk : List (List Int)} {s : Int} (h : ∀ w ∈ tk, Asc w ∧ ∀ r ∈ w, 0 ≤ r ∧ r < n) (hs : 0 ≤ s ∧ s < n) : nth (usr n tk) s = cnt tk s := by
  unfold usr
  rw [usrF_at tk _ (fun w hw => by rw [List.length_replicate]; exact h w hw) (by rw [List.length_replicate]; exact hs), nth_rep, Int.zero_add]
theorem cnt_pos {tk : List (List Int)} {y : List Int} {s : Int} (hy : y ∈ tk) (hs : s ∈ y) : 1 ≤ cnt tk s := by
  unfold cnt
  have : 0 < (tk.filter fun y => decide (s ∈ y)).length := List.length_pos_of_mem (List.mem_filter.mpr ⟨hy, by simpa using hs⟩)
  omega
theorem cnt_le (tk : List (List Int)) (s : Int) : cnt tk s ≤ tk.length := by
  unfold cnt
  have := List.length_filter_le (fun y => decide (s ∈ y)) tk
  omega
/-! ### gains -/
def gnT (k : List (List Int)) (us y : List Int) : Int := -(y.map fun r => nth (nth k r) (nth us r - 1)).sum
def gn (k : List (List Int)) (tk : List (List Int)) (y : List Int) : Int := gnT k (usr k.length tk) y
/-- within a crowd, at a choice: what is looked up stands -/
structure At (k : List (List Int)) (us y : List Int) : Prop where
  ul : us.length = k.length
  road : ∀ r ∈ y, 0 ≤ r ∧ r < k.length
  use : ∀ r ∈ y, 0 ≤ nth us r - 1 ∧ nth us r - 1 < (nth k r).length
theorem CwOk.at {w : List (List (List Int))} {k : List (List Int)} (h : CwOk w k) {c : List Int} (v : Vd (szs w) c) {y : List Int} (hy : y ∈ tkn w c) : At k (usr k.length (tkn w c)) y := by
  refine ⟨usr_len _ _, (h.tk v y hy).2, fun r hr => ?_⟩
  have hr2 := (h.tk v y hy).2 r hr
  rw [usr_at (h.tk v) hr2]
  have h1 := cnt_pos hy hr
  have h2 := cnt_le (tkn w c) r
  rw [tkn_len v] at h2
  rw [h.row _ (nth_mem hr2.1 hr2.2)]
  omega
theorem gain_of_way_I {w : D} {k : List (List Int)} {us y : List Int} (h : At k us y) (u : Urn) : F_gain_of_way [.tup [w, TT k], I us, I y] u = .ok (.int (gnT k us y)) u := by
  have e : lcGo (gName 3) mTrue (mIx (mIx (mIx (mVar 0) (mLit (.int 1))) (mVar 3)) (mBin opSub (mIx (mVar 1) (mVar 3)) (mLit (.int 1)))) [some (.tup [w, TT k]), some (I us), some (I y), none] (y.map .int) u = .ok (y.map fun r => .int (nth (nth k r) (nth us r - 1))) u := by
    refine lcGo_mapT _ fun r hr => ⟨_, rfl, rfl, ?_⟩
    have h1 := h.road r hr
    have h2 := h.use r hr
    have a1 := atI_nth (f := I) (l := k) h1.1 h1.2
    have a2 := atI_nth (f := D.int) (l := us) (k := r) h1.1 (by rw [h.ul]; exact h1.2)
    have a3 := atI_nth (f := D.int) (l := nth k r) h2.1 h2.2
    simp [ixD_tup, at1, a1, a2, a3]
  simp [F_gain_of_way, d_gain_of_way, e, gnT]
theorem gains_in_crowd_I {w : List (List (List Int))} {k : List (List Int)} (h : CwOk w k) {c : List Int} (v : Vd (szs w) c) (u : Urn) : F_gains_in_crowd [Cw w k, I c] u = .ok (.lst ((tkn w c).map fun y => .int (gn k (tkn w c) y))) u := by
  have e1 := users_by_I h v u
  have e2 := ways_taken_I (TT k) v u
  have e : lcGo (gName 3) mTrue (mCall F_gain_of_way (mCons (mVar 0) (mCons (mVar 2) (mCons (mVar 3) mNil)))) [some (Cw w k), some (I c), some (I (usr k.length (tkn w c))), none] ((tkn w c).map I) u = .ok ((tkn w c).map fun y => .int (gn k (tkn w c) y)) u := by
    refine lcGo_mapT _ fun y hy => ⟨_, rfl, rfl, ?_⟩
    have := gain_of_way_I (w := TTT w) (h.at v hy) u
    simp [this, gn]
  simp [F_gains_in_crowd, d_gains_in_crowd, e1, e2, e]
/-- the rows of the game -/
def gRows (w : List (List (List Int))) (k : List (List Int)) : List (List Int) := (rngI w.length).map fun j => (rows (szs w)).map fun c => gn k (tkn w c) (nth (tkn w c) j)
theorem nth_map {α : Type} {f : α → Int} [Inhabited α] {l : List α} {j : Int} (h : 0 ≤ j) (h2 : j < l.length) : nth (l.map f) j = f (nth l j) := by
  have h3 : j < (l.map f).length := by rw [List.length_map]; exact h2
  have e1 := nth_some h h2
  have e2 := nth_some h h3
  rw [List.getElem?_map, e1] at e2
  exact (Option.some.inj e2).symm
theorem crowd_game_by_I {w : List (List (List Int))} {k : List (List Int)} (h : CwOk w k) (u : Urn) : F_crowd_game_by [Cw w k] u = .ok (Gm (szs w) (gRows w k)) u := by
  have e1 := sizes_of_crowd_I w (TT k) u
  have e2 := rows_of_I h.sz u
  have hd : hideE [.val (Cw w k), .val (I (szs w)), .no, .no, .no, .no] = [some (Cw w k), some (I (szs w)), none, none, none, none] := rfl
  have e3 : lcGo (gName 3) mTrue (mCall F_gains_in_crowd (mCons (mVar 0) (mCons (mVar 3) mNil))) [some (Cw w k), some (I (szs w)), none, none, none, none] ((rows (szs w)).map I) u = .ok ((rows (szs w)).map fun c => .lst ((tkn w c).map fun y => .int (gn k (tkn w c) y))) u := by
    refine lcGo_mapT _ fun c hc => ⟨_, rfl, rfl, ?_⟩
    have := gains_in_crowd_I h (mem_rows.mp hc) u
    simp [this]
  have hlen : (szs w).length = w.length := szs_len w
  have e4 : lcGo (gName 4) mTrue (mB fTuple (mCons (mLc (iSeq (mVar 2)) (gName 5) mTrue (mIx (mVar 5) (mVar 4)) [5]) mNil)) [some (Cw w k), some (I (szs w)), some (.lst ((rows (szs w)).map fun c => .lst ((tkn w c).map fun y => .int (gn k (tkn w c) y)))), none, none, none] ((rngI w.length).map .int) u = .ok ((rngI w.length).map fun j => I ((rows (szs w)).map fun c => gn k (tkn w c) (nth (tkn w c) j))) u := by
    refine lcGo_mapT _ fun j hj => ⟨_, rfl, rfl, ?_⟩
    have hj := mem_rngI.mp hj
    have e5 : lcGo (gName 5) mTrue (mIx (mVar 5) (mVar 4)) [some (Cw w k), some (I (szs w)), some (.lst ((rows (szs w)).map fun c => .lst ((tkn w c).map fun y => .int (gn k (tkn w c) y)))), none, some (.int j), none] ((rows (szs w)).map fun c => .lst ((tkn w c).map fun y => .int (gn k (tkn w c) y))) u = .ok ((rows (szs w)).map fun c => .int (gn k (tkn w c) (nth (tkn w c) j))) u := by
      refine lcGo_mapT _ fun c hc => ⟨_, rfl, rfl, ?_⟩
      have v := mem_rows.mp hc
      have a := atI_nth (f := fun y => D.int (gn k (tkn w c) y)) (l := tkn w c) hj.1 (by rw [tkn_len v]; exact hj.2)
      simp [ixD_lst, a]
    simp [e5, I]
  have hok : rOk 0 w.length = true := rOk_mk (by omega) (by omega) (by omega) (by have := h.wl; omega)
  simp [F_crowd_game_by, d_crowd_game_by, e1, e2, e3, hlen, hok, rng_I, e4, gRows]
theorem crowd_game_I {w : List (List (List Int))} {k : List (List Int)} (h : CwOk w k) (u : Urn) : F_crowd_game [Cw w k] u = .ok (Gm (szs w) (gRows w k)) u := by
  have e1 := check_crowd_I h u
  have e2 := crowd_game_by_I h u
  simp [F_crowd_game, d_crowd_game, e1, e2]
theorem gRows_ok {w : List (List (List Int))} {k : List (List Int)} (h : CwOk w k) : GmOk (szs w) (gRows w k) := by
  refine ⟨h.sz, h.pr, ?_, fun q hq => ?_⟩
  · unfold gRows
    rw [List.length_map, rngI_len, szs_len]
    omega
  · obtain ⟨j, _, rfl⟩ := List.mem_map.mp hq
    rw [List.length_map, rows_len]
end K51
namespace K51
open Dn
/-! ### the law's own users, gains -/
theorem law_bump (p q : D) (u : Urn) : ∀ (ps : List (List (List Int) × Int)) (l : List Int) (s3 s4 s5 : Slot), (∀ x ∈ ps, (0 ≤ x.2 ∧ x.2 < x.1.length) ∧ ∀ r ∈ nth x.1 x.2, 0 ≤ r ∧ r < l.length) →
    ∃ s3' s4' s5', forGo (hTup (hsCons (hName 3) (hsCons (hName 4) hsNil))) (sFor (iSeq (mIx (mVar 3) (mVar 4))) (hName 5) (sPut 2 (mVar 5) (mBin opAdd (mIx (mVar 2) (mVar 5)) (mLit (.int 1))))) (ps.map fun x => .tup [TT x.1, .int x.2]) [.val p, .val q, .own (l.map .int), s3, s4, s5] u
      = .nx [.val p, .val q, .own (((ps.map fun x => nth x.1 x.2).foldl bumps l).map .int), s3', s4', s5'] u
  | [], l, s3, s4, s5, _ => ⟨s3, s4, s5, rfl⟩
  | x :: ps, l, s3, s4, s5, h => by
    have hx := h x List.mem_cons_self
    obtain ⟨s5', e⟩ := bump_in5 p q (.val (TT x.1)) (.val (.int x.2)) u (nth x.1 x.2) l s5 hx.2
    obtain ⟨t3, t4, t5, e2⟩ := law_bump p q u ps (bumps l (nth x.1 x.2)) (.val (TT x.1)) (.val (.int x.2)) s5' fun y hy => ⟨(h y (List.mem_cons_of_mem _ hy)).1, fun r hr => by rw [bumps_len]; exact (h y (List.mem_cons_of_mem _ hy)).2 r hr⟩
    refine ⟨t3, t4, t5, ?_⟩
    have a := atI_nth (f := I) (l := x.1) hx.1.1 hx.1.2
    rw [List.map_cons, forGo]
    simp [ixD_tup, a, e, e2]
theorem mul0 (n : Nat) (h : n ≤ 200) : opMulL (.lst [.int 0]) (.int n) = some (.lst (List.replicate n (.int 0))) := by
  unfold opMulL
  have h2 : -(2 ^ 63 : Int) ≤ (n : Int) := by omega
  have h3 : (n : Int) < 2 ^ 63 := by omega
  have h4 : [D.int 0].length * (n : Int).toNat ≤ LN := by
    rw [Int.toNat_natCast, List.length_singleton, Nat.one_mul]
    rw [LN_eq]
    omega
  simp only
  rw [if_pos ⟨h2, h3, h4⟩]
  congr 2
  rw [Int.toNat_natCast, List.flatten_replicate_singleton]
theorem crowd_pairs {w : List (List (List Int))} {k : List (List Int)} (h : CwOk w k) {c : List Int} (v : Vd (szs w) c) {n : Nat} (hn : k.length = n) : ∀ x ∈ w.zip c, (0 ≤ x.2 ∧ x.2 < x.1.length) ∧ ∀ r ∈ nth x.1 x.2, 0 ≤ r ∧ r < n := fun x hx => by
  refine ⟨Vd_at v x hx, fun r hr => ?_⟩
  rw [← hn]
  exact (h.tk v (nth x.1 x.2) (List.mem_map.mpr ⟨x, hx, rfl⟩)).2 r hr
theorem law_crowd_users_I {w : List (List (List Int))} {k : List (List Int)} (h : CwOk w k) {c : List Int} (v : Vd (szs w) c) (u : Urn) : F__law_crowd_users [Cw w k, I c] u = .ok (I (usr k.length (tkn w c))) u := by
  obtain ⟨s3, s4, s5, e⟩ := law_bump (Cw w k) (I c) u (w.zip c) (List.replicate k.length 0) .no .no .no fun x hx => by
    have := crowd_pairs h v rfl x hx
    rw [List.length_replicate]; exact this
  have e1 := mul0 k.length h.c2
  rw [List.map_replicate] at e
  have e2 : (sSetF 2 (mBin opMulL (mLst (mCons (mLit (.int 0)) mNil)) (mB fLen (mCons (mIx (mVar 0) (mLit (.int 1))) mNil)))) [.val (Cw w k), .val (I c), .no, .no, .no, .no] u = .nx [.val (Cw w k), .val (I c), .own (List.replicate k.length (.int 0)), .no, .no, .no] u := by
    rw [sSetF_eq]
    have : (mBin opMulL (mLst (mCons (mLit (.int 0)) mNil)) (mB fLen (mCons (mIx (mVar 0) (mLit (.int 1))) mNil))) (hideE [.val (Cw w k), .val (I c), .no, .no, .no, .no]) u = .ok (.lst (List.replicate k.length (.int 0))) u := by
      rw [mBin_eq]
      have a : (mLst (mCons (mLit (.int 0)) mNil)) (hideE [.val (Cw w k), .val (I c), .no, .no, .no, .no]) u = .ok (.lst [.int 0]) u := rfl
      have b : (mB fLen (mCons (mIx (mVar 0) (mLit (.int 1))) mNil)) (hideE [.val (Cw w k), .val (I c), .no, .no, .no, .no]) u = .ok (.int k.length) u := by simp [ixD_tup, at1]
      rw [a, Out.bind_ok, b, Out.bind_ok, e1]
      rfl
    rw [this]
    rfl
  have e3 : startE 6 [Cw w k, I c] = [.val (Cw w k), .val (I c), .no, .no, .no, .no] := rfl
  unfold F__law_crowd_users d__law_crowd_users
  rw [fn_eq, if_pos (show [Cw w k, I c].length = 2 from rfl), e3, sSeq_eq, e2]
  simp [ixD_tup, at0, zip2_map, e]
  rfl
theorem any_int (y : List Int) (r : Int) : ((y.map D.int).any fun z => eqF z (.int r)) = decide (r ∈ y) := by
  induction y with
  | nil => rfl
  | cons a y ih =>
    rw [List.map_cons, List.any_cons, ih]
    show ((a == r) || decide (r ∈ y)) = _
    rw [Bool.eq_iff_iff]
    simp only [Bool.or_eq_true, beq_iff_eq, decide_eq_true_eq, List.mem_cons]
    exact or_congr eq_comm Iff.rfl
theorem flat_ints (y : List Int) : (y.map D.int).all flat = true := by
  rw [List.all_eq_true]; intro x hx; obtain ⟨_, _, rfl⟩ := List.mem_map.mp hx; rfl
theorem opIn_int (r : Int) (y : List Int) : opIn (.int r) (I y) = some (.bl (decide (r ∈ y))) := by
  unfold opIn
  simp only [items, flat_ints, any_int]
  rfl
theorem law_gain_loop {w : List (List (List Int))} {k : List (List Int)} (h : CwOk w k) {c : List Int} (v : Vd (szs w) c) (ch : D) (u : Urn) : ∀ (y : List Int) (a : Int) (s4 s5 : Slot), (∀ r ∈ y, (0 ≤ r ∧ r < k.length) ∧ 0 ≤ cnt (tkn w c) r - 1 ∧ cnt (tkn w c) r - 1 < (nth k r).length) →
    ∃ s4' s5', forGo (hName 4) (sSeq (sSet 5 (mB fLen (mCons (mLc (iZip (mCons (mIx (mVar 0) (mLit (.int 0))) (mCons (mVar 1) mNil))) (gTup (gsCons (gName 6) (gsCons (gName 7) gsNil))) (mBin opIn (mVar 4) (mIx (mVar 6) (mVar 7))) (mLit (.int 1)) [6, 7]) mNil))) (sSet 3 (mBin opSub (mVar 3) (mIx (mIx (mIx (mVar 0) (mLit (.int 1))) (mVar 4)) (mBin opSub (mVar 5) (mLit (.int 1))))))) (y.map .int) [.val (Cw w k), .val (I c), .val ch, .val (.int a), s4, s5, .no, .no] u
      = .nx [.val (Cw w k), .val (I c), .val ch, .val (.int (a - (y.map fun r => nth (nth k r) (cnt (tkn w c) r - 1)).sum)), s4', s5', .no, .no] u
  | [], a, s4, s5, _ => ⟨s4, s5, by simp [forGo]⟩
  | r :: y, a, s4, s5, hy => by
    have hr := hy r List.mem_cons_self
    obtain ⟨s4', s5', e⟩ := law_gain_loop h v ch u y (a - nth (nth k r) (cnt (tkn w c) r - 1)) (.val (.int r)) (.val (.int (cnt (tkn w c) r))) fun x hx => hy x (List.mem_cons_of_mem _ hx)
    refine ⟨s4', s5', ?_⟩
    have e1 : ∀ s : Slot, lcGo (gTup (gsCons (gName 6) (gsCons (gName 7) gsNil))) (mBin opIn (mVar 4) (mIx (mVar 6) (mVar 7))) (mLit (.int 1)) [some (Cw w k), some (I c), some ch, some (.int a), some (.int r), s.hide, none, none] ((w.zip c).map fun p => .tup [TT p.1, .int p.2]) u = .ok (((w.zip c).filter fun p => decide (r ∈ nth p.1 p.2)).map fun _ => .int 1) u := fun s => by
      refine lcGo_filterT _ _ fun p hp => ⟨_, rfl, ?_, fun _ => rfl⟩
      have hv := Vd_at v p hp
      have a := atI_nth (f := I) (l := p.1) hv.1 hv.2
      simp [ixD_tup, a, opIn_int]
    have e2 : (((w.zip c).filter fun p => decide (r ∈ nth p.1 p.2)).length : Int) = cnt (tkn w c) r := by
      unfold cnt tkn
      rw [List.filter_map, List.length_map]
      rfl
    have a1 := atI_nth (f := I) (l := k) hr.1.1 hr.1.2
    have a2 := atI_nth (f := D.int) (l := nth k r) hr.2.1 hr.2.2
    have e1' := e1 s5
    rw [List.map_cons, forGo]
    simp [ixD_tup, at0, at1, zip2_map, e1', e2, a1, a2, e]
    rw [Int.sub_sub]
theorem law_gain_I {w : List (List (List Int))} {k : List (List Int)} (h : CwOk w k) {c : List Int} (v : Vd (szs w) c) {j : Int} (h0 : 0 ≤ j) (h1 : j < w.length) (u : Urn) : F__law_gain [Cw w k, I c, .int j] u = .ok (.int (gn k (tkn w c) (nth (tkn w c) j))) u := by
  have tl := tkn_len v
  have hy : nth (tkn w c) j ∈ tkn w c := nth_mem h0 (by rw [tl]; exact h1)
  have hA := h.at v hy
  have hr := (h.tk v _ hy).2
  have hcl : c.length = w.length := by rw [v.len, szs_len]
  -- the way that is taken
  have ey : nth (nth w j) (nth c j) = nth (tkn w c) j := by
    have e1 := nth_some (l := tkn w c) h0 (by rw [tl]; exact h1)
    unfold tkn at e1
    rw [List.getElem?_map] at e1
    have hz : (w.zip c)[j.toNat]? = some (nth w j, nth c j) := by
      rw [List.getElem?_zip_eq_some]
      exact ⟨nth_some h0 h1, nth_some h0 (by omega)⟩
    rw [hz] at e1
    exact Option.some.inj e1
  have hv := Vd_at v (nth w j, nth c j) (by
    rw [List.mem_iff_getElem?]
    exact ⟨j.toNat, by rw [List.getElem?_zip_eq_some]; exact ⟨nth_some h0 h1, nth_some h0 (by omega)⟩⟩)
  obtain ⟨s4, s5, e⟩ := law_gain_loop h v (.int j) u (nth (tkn w c) j) 0 .no .no fun r hrm => by
    have hr2 := hr r hrm
    have hu := hA.use r hrm
    rw [usr_at (h.tk v) hr2] at hu
    exact ⟨hr2, hu⟩
  have es : ((nth (tkn w c) j).map fun r => nth (nth k r) (cnt (tkn w c) r - 1)) = (nth (tkn w c) j).map fun r => nth (nth k r) (nth (usr k.length (tkn w c)) r - 1) := by
    apply List.map_congr_left
    intro r hrm
    rw [usr_at (h.tk v) (hr r hrm)]
  rw [es] at e
  have a1 := atI_nth (f := TT) (l := w) h0 h1
  have a2 := atI_nth (f := D.int) (l := c) (k := j) h0 (by omega)
  have a3 := atI_nth (f := I) (l := nth w j) (k := nth c j) hv.1 hv.2
  rw [ey] at a3
  simp [F__law_gain, d__law_gain, ixD_tup, at0, a1, a2, a3, e, gn, gnT]
end K51
namespace K51
open Dn
/-! ### the law's own game -/
theorem lsts_mapF {α : Type} (f : α → List D) : ∀ l : List α, lsts (l.map fun a => .lst (f a)) = some (l.map f)
  | [] => rfl
  | a :: l => by rw [List.map_cons, lsts, lsts_mapF f l]; rfl
/-- rows, grown as far as chooser i -/
def LL (n : Nat) (G : List Int → Nat → Int) (dn : List (List Int)) (c : List Int) (i : Nat) : List (List D) := (List.range n).map fun j => (if j < i then dn ++ [c] else dn).map fun c => D.int (G c j)
theorem LL_done (n : Nat) (G : List Int → Nat → Int) (dn : List (List Int)) (c c' : List Int) : LL n G dn c n = LL n G (dn ++ [c]) c' 0 := by
  unfold LL
  apply List.map_congr_left
  intro j hj
  rw [if_pos (List.mem_range.mp hj), if_neg (Nat.not_lt_zero _)]
theorem LL_step {n : Nat} {G : List Int → Nat → Int} {dn : List (List Int)} {c : List Int} {i : Nat} (hi : i < n) (hd : dn.length < LN) : app2 (LL n G dn c i) i (.int (G c i)) = some (LL n G dn c (i + 1)) := by
  have h1 : (LL n G dn c i)[i]? = some (dn.map fun c => D.int (G c i)) := by
    unfold LL
    rw [List.getElem?_map, List.getElem?_range hi]
    simp
  unfold app2
  rw [h1]
  have h2 : (dn.map fun c => D.int (G c i)).length < LN ∧ noL (D.int (G c i)) = true := ⟨by rw [List.length_map]; exact hd, by rw [noL]⟩
  rw [Option.bind_some, if_pos h2]
  congr 1
  unfold LL
  apply List.ext_getElem?
  intro j
  rw [List.getElem?_set]
  by_cases e : i = j
  · subst e
    rw [if_pos rfl, if_pos (by rw [List.length_map, List.length_range]; exact hi), List.getElem?_map, List.getElem?_range hi]
    simp
  · rw [if_neg e, List.getElem?_map, List.getElem?_map]
    by_cases hj : j < n
    · rw [List.getElem?_range hj]
      have : (j < i) ↔ (j < i + 1) := by omega
      simp [this]
    · rw [List.getElem?_eq_none (by rw [List.length_range]; omega)]
      rfl
theorem LL_len (n : Nat) (G : List Int → Nat → Int) (dn : List (List Int)) (c : List Int) (i : Nat) : (LL n G dn c i).length = n := by unfold LL; rw [List.length_map, List.length_range]
/-- one choice's gains are put at the rows' ends -/
theorem game_in {w : List (List (List Int))} {k : List (List Int)} (h : CwOk w k) {c : List Int} (v : Vd (szs w) c) (dn : List (List Int)) (hd : dn.length < LN) (p1 : D) (u : Urn) : ∀ (ws : List (List (List Int))) (i : Nat) (s5 s6 : Slot), w.drop i = ws →
    ∃ s5' s6', forGo (hTup (hsCons (hName 5) (hsCons (hName 6) hsNil))) (sApp2 2 (mVar 5) (mBin opSub (mLit (.int 0)) (mB fSum (mCons (mLc (iSeq (mIx (mVar 6) (mIx (mVar 3) (mVar 5)))) (gName 8) mTrue (mIx (mIx (mIx (mVar 0) (mLit (.int 1))) (mVar 8)) (mBin opSub (mIx (mVar 4) (mVar 8)) (mLit (.int 1)))) [8]) mNil)))) ((ws.zipIdx i).map fun p => .tup [.int (p.2 : Nat), TT p.1])
      [.val (Cw w k), .val p1, .own2 (LL w.length (fun c j => gn k (tkn w c) (nth (tkn w c) j)) dn c i), .val (I c), .val (I (usr k.length (tkn w c))), s5, s6, .no, .no, .no] u
      = .nx [.val (Cw w k), .val p1, .own2 (LL w.length (fun c j => gn k (tkn w c) (nth (tkn w c) j)) dn c w.length), .val (I c), .val (I (usr k.length (tkn w c))), s5', s6', .no, .no, .no] u
  | [], i, s5, s6, e => by
    have hi : w.length ≤ i := by rw [← List.drop_eq_nil_iff]; exact e
    refine ⟨s5, s6, ?_⟩
    have : LL w.length (fun c j => gn k (tkn w c) (nth (tkn w c) j)) dn c i = LL w.length (fun c j => gn k (tkn w c) (nth (tkn w c) j)) dn c w.length := by
      unfold LL
      apply List.map_congr_left
      intro j hj
      have := List.mem_range.mp hj
      rw [if_pos this, if_pos (by omega)]
    rw [this]
    rfl
  | x :: ws, i, s5, s6, e => by
    have hi : i < w.length := by
      apply Classical.byContradiction
      intro hn
      rw [List.drop_eq_nil_iff.mpr (by omega)] at e
      cases e
    have ex : w[i]? = some x := by
      have := congrArg (·[0]?) e
      rw [List.getElem?_drop] at this
      simpa using this
    have ews : w.drop (i + 1) = ws := by
      have := congrArg List.tail e
      rw [List.tail_drop] at this
      simpa using this
    obtain ⟨s5', s6', e2⟩ := game_in h v dn hd p1 u ws (i + 1) (.val (.int (i : Nat))) (.val (TT x)) ews
    refine ⟨s5', s6', ?_⟩
    have hcl : c.length = w.length := by rw [v.len, szs_len]
    have tl := tkn_len v
    have exn : nth w (i : Nat) = x := by
      have := nth_some (l := w) (k := (i : Nat)) (by omega) (by omega)
      rw [Int.toNat_natCast, ex] at this
      exact (Option.some.inj this).symm
    have hz : (w.zip c)[i]? = some (x, nth c (i : Nat)) := by
      rw [List.getElem?_zip_eq_some]
      refine ⟨ex, ?_⟩
      have := nth_some (l := c) (k := (i : Nat)) (by omega) (by omega)
      rwa [Int.toNat_natCast] at this
    have ey : nth (tkn w c) (i : Nat) = nth x (nth c (i : Nat)) := by
      have := nth_some (l := tkn w c) (k := (i : Nat)) (by omega) (by omega)
      rw [Int.toNat_natCast] at this
      unfold tkn at this
      rw [List.getElem?_map, hz] at this
      exact (Option.some.inj this).symm
    have hv := Vd_at v (x, nth c (i : Nat)) (List.mem_of_getElem? hz)
    have hy : nth (tkn w c) (i : Nat) ∈ tkn w c := nth_mem (by omega) (by omega)
    have hA := h.at v hy
    have a1 := atI_nth (f := D.int) (l := c) (k := (i : Nat)) (by omega) (by omega)
    have a2 := atI_nth (f := I) (l := x) (k := nth c (i : Nat)) hv.1 hv.2
    rw [← ey] at a2
    have e3 : ∀ z : Slot, lcGo (gName 8) mTrue (mIx (mIx (mIx (mVar 0) (mLit (.int 1))) (mVar 8)) (mBin opSub (mIx (mVar 4) (mVar 8)) (mLit (.int 1)))) [some (Cw w k), some p1, z.snap, some (I c), some (I (usr k.length (tkn w c))), some (.int (i : Nat)), some (TT x), none, none, none] ((nth (tkn w c) (i : Nat)).map .int) u = .ok ((nth (tkn w c) (i : Nat)).map fun r => .int (nth (nth k r) (nth (usr k.length (tkn w c)) r - 1))) u := fun z => by
      refine lcGo_mapT _ fun r hr => ⟨_, rfl, rfl, ?_⟩
      have h1 := hA.road r hr
      have h2 := hA.use r hr
      have b1 := atI_nth (f := I) (l := k) h1.1 h1.2
      have b2 := atI_nth (f := D.int) (l := usr k.length (tkn w c)) (k := r) h1.1 (by rw [hA.ul]; exact h1.2)
      have b3 := atI_nth (f := D.int) (l := nth k r) h2.1 h2.2
      simp [ixD_tup, at1, b1, b2, b3]
    have e3' := e3 (.own2 (LL w.length (fun c j => gn k (tkn w c) (nth (tkn w c) j)) dn c i))
    rw [show (Slot.own2 (LL w.length (fun c j => gn k (tkn w c) (nth (tkn w c) j)) dn c i)).snap = some (.lst ((LL w.length (fun c j => gn k (tkn w c) (nth (tkn w c) j)) dn c i).map .lst)) from rfl] at e3'
    have hs := LL_step (n := w.length) (G := fun c j => gn k (tkn w c) (nth (tkn w c) j)) (dn := dn) (c := c) hi hd
    have hix : ix2 (LL w.length (fun c j => gn k (tkn w c) (nth (tkn w c) j)) dn c i) (.int (i : Nat)) = some i := by
      show Dn.ixN (LL w.length (fun c j => gn k (tkn w c) (nth (tkn w c) j)) dn c i).length ((i : Nat) : Int) = some i
      rw [ixN_nn (by omega) (by rw [LL_len]; omega), Int.toNat_natCast]
    have hg : (0 : Int) - ((nth (tkn w c) (i : Nat)).map fun r => nth (nth k r) (nth (usr k.length (tkn w c)) r - 1)).sum = gn k (tkn w c) (nth (tkn w c) (i : Nat)) := by
      unfold gn gnT
      omega
    rw [List.zipIdx_cons, List.map_cons, forGo]
    simp only [hTup_eq, hsCons_eq, hName_eq, hsNil_eq, List.set_cons_succ, List.set_cons_zero, Option.bind_some]
    simp only [sApp2_eq, List.getElem?_cons_succ, List.getElem?_cons_zero, mVar_eq, snapE, List.map_cons, List.map_nil, snap_val, snap_no, snap_own2, Dn.get, lift_some, thenS_ok, hix, mBin_eq, mLit_eq, mB_eq, mCons_eq, mNil_eq, mLc_eq, iSeq_eq, mIx_eq, Out.bind_ok, ixU_tup, ixD_tup, a1, a2, items, wipeE, List.set_cons_succ, List.set_cons_zero, e3', Out.calm_ok, fSum_map, opSub, hg, hs]
    exact e2
theorem rows_le {w : List (List (List Int))} {k : List (List Int)} (h : CwOk w k) : (rows (szs w)).length ≤ 36 := by
  rw [rows_len]
  have h1 := h.pr
  rw [prd_prN h.sz] at h1
  omega
/-- all choices -/
theorem game_out {w : List (List (List Int))} {k : List (List Int)} (h : CwOk w k) (p1 : D) (u : Urn) : ∀ (cs dn : List (List Int)) (s3 s4 s5 s6 : Slot) (c0 : List Int), (∀ c ∈ cs, Vd (szs w) c) → dn.length + cs.length ≤ 1000 →
    ∃ s3' s4' s5' s6', forGo (hName 3) (sSeq (sSet 4 (mCall F__law_crowd_users (mCons (mVar 0) (mCons (mVar 3) mNil)))) (sFor (iEnum (mCons (mIx (mVar 0) (mLit (.int 0))) mNil)) (hTup (hsCons (hName 5) (hsCons (hName 6) hsNil))) (sApp2 2 (mVar 5) (mBin opSub (mLit (.int 0)) (mB fSum (mCons (mLc (iSeq (mIx (mVar 6) (mIx (mVar 3) (mVar 5)))) (gName 8) mTrue (mIx (mIx (mIx (mVar 0) (mLit (.int 1))) (mVar 8)) (mBin opSub (mIx (mVar 4) (mVar 8)) (mLit (.int 1)))) [8]) mNil)))))) (cs.map I)
      [.val (Cw w k), .val p1, .own2 (LL w.length (fun c j => gn k (tkn w c) (nth (tkn w c) j)) dn c0 0), s3, s4, s5, s6, .no, .no, .no] u
      = .nx [.val (Cw w k), .val p1, .own2 (LL w.length (fun c j => gn k (tkn w c) (nth (tkn w c) j)) (dn ++ cs) c0 0), s3', s4', s5', s6', .no, .no, .no] u
  | [], dn, s3, s4, s5, s6, c0, _, _ => ⟨s3, s4, s5, s6, by rw [List.append_nil]; rfl⟩
  | c :: cs, dn, s3, s4, s5, s6, c0, hc, hl => by
    have v := hc c List.mem_cons_self
    rw [List.length_cons] at hl
    obtain ⟨t5, t6, e1⟩ := game_in h v dn (by rw [LN_eq]; omega) p1 u w 0 s5 s6 rfl
    obtain ⟨r3, r4, r5, r6, e2⟩ := game_out h p1 u cs (dn ++ [c]) (.val (I c)) (.val (I (usr k.length (tkn w c)))) t5 t6 c0 (fun x hx => hc x (List.mem_cons_of_mem _ hx)) (by rw [List.length_append, List.length_singleton]; omega)
    refine ⟨r3, r4, r5, r6, ?_⟩
    have e3 := law_crowd_users_I h v u
    have e0 : LL w.length (fun c j => gn k (tkn w c) (nth (tkn w c) j)) dn c0 0 = LL w.length (fun c j => gn k (tkn w c) (nth (tkn w c) j)) dn c 0 := by
      unfold LL
      apply List.map_congr_left
      intro j _
      rw [if_neg (Nat.not_lt_zero _), if_neg (Nat.not_lt_zero _)]
    rw [LL_done _ _ _ _ c0] at e1
    rw [List.append_assoc, List.singleton_append] at e2
    rw [List.map_cons, e0]
    refine (forGo_nx (Γ1 := [.val (Cw w k), .val p1, .own2 (LL w.length (fun c j => gn k (tkn w c) (nth (tkn w c) j)) dn c 0), .val (I c), s4, s5, s6, .no, .no, .no]) rfl ?_).trans e2
    have hu : ∀ s : Slot, (sSet 4 (mCall F__law_crowd_users (mCons (mVar 0) (mCons (mVar 3) mNil)))) [.val (Cw w k), .val p1, .own2 (LL w.length (fun c j => gn k (tkn w c) (nth (tkn w c) j)) dn c 0), .val (I c), s, s5, s6, .no, .no, .no] u = .nx [.val (Cw w k), .val p1, .own2 (LL w.length (fun c j => gn k (tkn w c) (nth (tkn w c) j)) dn c 0), .val (I c), .val (I (usr k.length (tkn w c))), s5, s6, .no, .no, .no] u := fun s => by
      have hv : (mCall F__law_crowd_users (mCons (mVar 0) (mCons (mVar 3) mNil))) (hideE [.val (Cw w k), .val p1, .own2 (LL w.length (fun c j => gn k (tkn w c) (nth (tkn w c) j)) dn c 0), .val (I c), s, s5, s6, .no, .no, .no]) u = .ok (I (usr k.length (tkn w c))) u := by
        simp only [mCall_eq, mCons_eq, mNil_eq, mVar_eq, hideE, List.map_cons, List.map_nil, hide_val, hide_no, hide_own2, Dn.get, List.getElem?_cons_succ, List.getElem?_cons_zero, lift_some, Out.bind_ok, e3]
      rw [sSet_eq, hv, thenS_ok]
      rfl
    have hw : ∀ s3' : Slot, (iEnum (mCons (mIx (mVar 0) (mLit (.int 0))) mNil)) (hideE [.val (Cw w k), .val p1, .own2 (LL w.length (fun c j => gn k (tkn w c) (nth (tkn w c) j)) dn c 0), .val (I c), .val (I (usr k.length (tkn w c))), s5, s6, .no, .no, .no]) u = .ok ((w.zipIdx 0).map fun p => .tup [.int (p.2 : Nat), TT p.1]) u := fun _ => by
      simp only [hideE, List.map_cons, List.map_nil, hide_val, hide_no, hide_own2, iEnum_eq, mIx_eq, mLit_eq, mCons_eq, mNil_eq, mVar_eq, Dn.get, List.getElem?_cons_zero, lift_some, Out.bind_ok, ixU_tup, ixD_tup, at0, items, enumD_map]
    rw [sSeq_eq, hu, SOut.andThen_nx, sFor_eq, hw .no, thenS_ok]
    exact e1
theorem law_crowd_game_I {w : List (List (List Int))} {k : List (List Int)} (h : CwOk w k) (u : Urn) : F__law_crowd_game [Cw w k] u = .ok (Gm (szs w) (gRows w k)) u := by
  have e1 : lcGo (gName 6) mTrue (mB fLen (mCons (mVar 6) mNil)) [some (Cw w k), none, none, none, none, none, none, none, none, none] (w.map TT) u = .ok (w.map fun y => .int (y.length : Int)) u := lcGo_mapT _ fun y _ => ⟨_, rfl, rfl, by simp⟩
  have e2 : lcGo (gName 7) mTrue (mLst mNil) [some (Cw w k), some (I (szs w)), none, none, none, none, none, none, none, none] ((szs w).map .int) u = .ok ((szs w).map fun y => .lst []) u := lcGo_mapT _ fun y _ => ⟨_, rfl, rfl, by simp⟩
  have e3 := law_all_I h.sz u
  obtain ⟨s3, s4, s5, s6, e4⟩ := game_out h (I (szs w)) u (rows (szs w)) [] .no .no .no .no [] (fun c hc => mem_rows.mp hc) (by have := rows_le h; simp; omega)
  have e5 : LL w.length (fun c j => gn k (tkn w c) (nth (tkn w c) j)) [] [] 0 = (szs w).map fun _ => ([] : List D) := by
    unfold LL szs
    rw [List.map_map]
    apply List.ext_getElem?
    intro j
    rw [List.getElem?_map, List.getElem?_map]
    by_cases hj : j < w.length
    · rw [List.getElem?_range hj, List.getElem?_eq_getElem hj]; simp
    · rw [List.getElem?_eq_none (by rw [List.length_range]; omega), List.getElem?_eq_none (by omega)]; rfl
  rw [List.nil_append, e5] at e4
  have e6 : ∀ Y : List (List D), lcGo (gName 9) mTrue (mB fTuple (mCons (mVar 9) mNil)) [some (Cw w k), some (I (szs w)), some (.lst (Y.map .lst)), s3.snap, s4.snap, s5.snap, s6.snap, none, none, none] (Y.map .lst) u = .ok (Y.map fun y => .tup y) u := fun Y => lcGo_mapT _ fun y _ => ⟨_, rfl, rfl, by simp⟩
  have e7 : ((LL w.length (fun c j => gn k (tkn w c) (nth (tkn w c) j)) (rows (szs w)) [] 0).map fun y => D.tup y) = (gRows w k).map I := by
    unfold LL gRows rngI
    rw [List.map_map, List.map_map, List.map_map]
    apply List.map_congr_left
    intro j _
    show D.tup ((if j < 0 then _ else _ : List (List Int)).map _) = I ((rows (szs w)).map _)
    rw [if_neg (Nat.not_lt_zero _)]
    unfold I
    rw [List.map_map]
    rfl
  have e6' := e6 (LL w.length (fun c j => gn k (tkn w c) (nth (tkn w c) j)) (rows (szs w)) [] 0)
  have hl : lsts ((szs w).map fun y => D.lst []) = some ((szs w).map fun _ => ([] : List D)) := lsts_mapF _ _
  rw [e7] at e6'
  have e8 : (D.tup (w.map fun y => .int (y.length : Int))) = I (szs w) := by unfold szs I; rw [List.map_map]; rfl
  have e9 : startE 10 [Cw w k] = [.val (Cw w k), .no, .no, .no, .no, .no, .no, .no, .no, .no] := rfl
  unfold F__law_crowd_game d__law_crowd_game
  rw [fn_eq, if_pos (show [Cw w k].length = 1 from rfl), e9]
  simp only [sSeq_eq, sSet_eq, mB_eq, mCons_eq, mNil_eq, mLc_eq, iSeq_eq, mIx_eq, mVar_eq, mLit_eq, hideE, List.map_cons, List.map_nil, hide_val, hide_no, hide_own2, Dn.get, List.getElem?_cons_succ, List.getElem?_cons_zero, lift_some, Out.bind_ok, ixU_tup, ixD_tup, at0, items, wipeE, List.set_cons_succ, List.set_cons_zero, e1, Out.calm_ok, fTuple_lst, e8, thenS_ok, SOut.andThen_nx, sSet2_eq, e2, hl, sFor_eq, mCall_eq, e3, e4, sRet_eq, mTup_eq, snapE, snap_val, snap_no, snap_own2, e6', ret_rt]
end K51
namespace K51
open Dn
/-! ### drawn crowds -/
theorem any_sizes_I {u : Urn} (hu : Good u) : ∃ s u', F__law_any_sizes [.urn] u = .ok (I s) u' ∧ Good u' ∧ Sz s ∧ prd 1 s ≤ 36 := by
  obtain ⟨d, u', e, g, hd⟩ := any_of_I (l := [I [2, 2], I [2, 2], I [3, 2], I [2, 3], I [3, 3], I [2, 2, 2], I [1, 3], I [4], I [2, 1, 3], I [3, 2, 2], I [2, 2, 2, 2], I [1], I [5, 2], I [1, 2, 1, 2]]) (by simp) (.inl rfl) hu
  have hP : ∃ s, d = I s ∧ Sz s ∧ prd 1 s ≤ 36 := by
    simp only [List.mem_cons, List.not_mem_nil, or_false] at hd
    rcases hd with h | h | h | h | h | h | h | h | h | h | h | h | h | h <;>
      exact ⟨_, h, ⟨by decide, by decide, by decide⟩, by decide⟩
  obtain ⟨s, rfl, h1, h2⟩ := hP
  refine ⟨s, u', ?_, g, h1, h2⟩
  unfold F__law_any_sizes d__law_any_sizes
  simp only [I, List.map_cons, List.map_nil] at e
  simp [e]
theorem some_I {u : Urn} (hu : Good u) (l : List Int) (sh : Int) : ∃ y u', F__law_some [.urn, .lst (l.map .int), .int sh] u = .ok (I y) u' ∧ Good u' ∧ y.Sublist l := by
  obtain ⟨xs, u', e, g, hs⟩ := lcGo_drawC (g := gName 3) (c := mBin opLt (mCall F__law_nip (mCons (mVar 0) (mCons (mLit (.int 4)) mNil))) (mVar 2)) (elt := mVar 3) (ρ := [some .urn, some (.lst (l.map .int)), some (.int sh), none]) (G := Good) (f := id) (ds := l.map .int) hu fun d hd u hu => by
    obtain ⟨k, u', e, g, _, _⟩ := nip_I hu (m := 4) (by decide)
    refine ⟨_, rfl, ⟨decide (k < sh), u', ?_, g⟩, fun u => rfl⟩
    simp [e]
  rw [List.map_id] at e
  obtain ⟨y, hy, rfl⟩ := List.sublist_map_iff.mp hs
  refine ⟨y, u', ?_, g, hy⟩
  simp [F__law_some, d__law_some, e]
theorem rngI_asc (n : Int) : (rngI n).Pairwise (· < ·) := by
  unfold rngI
  rw [List.pairwise_map]
  exact List.pairwise_lt_range.imp fun h => by omega
theorem F2.all {α β : Type} {R : α → β → Prop} {x : List α} {y : List β} (h : F2 R x y) : ∀ b ∈ y, ∃ a ∈ x, R a b := by
  induction h with
  | nil => intro b hb; cases hb
  | cons r _ ih =>
    intro b hb
    rcases List.mem_cons.mp hb with e | e
    · rw [e]; exact ⟨_, List.mem_cons_self, r⟩
    · obtain ⟨a, ha, hr⟩ := ih b e
      exact ⟨a, List.mem_cons_of_mem _ ha, hr⟩
theorem szs_of : ∀ {s : List Int} {w : List (List (List Int))}, F2 (fun (n : Int) (x : List (List Int)) => (x.length : Int) = n) s w → szs w = s
  | [], w, h => by cases h; rfl
  | n :: s, w, h => by
    cases h with
    | cons r t =>
      show _ :: szs _ = _
      rw [szs_of t]
      exact congrArg (· :: s) r
theorem any_crowd_I {u : Urn} (hu : Good u) : ∃ w k u', F__law_any_crowd [.urn] u = .ok (Cw w k) u' ∧ Good u' ∧ CwOk w k ∧ k.length ≤ 5 := by
  obtain ⟨s, u1, e1, g1, hs, hp⟩ := any_sizes_I hu
  obtain ⟨n, u2, e2, g2, n0, n1⟩ := nip_I g1 (m := 5) (by decide)
  obtain ⟨hd, u3, e3, g3, hh⟩ := any_of_I (l := [.int 2, .int 9, .int 100000000000000000000]) (by simp) (.inl rfl) g2
  have hP : ∃ m : Int, hd = .int m ∧ 0 < m := by
    simp only [List.mem_cons, List.not_mem_nil, or_false] at hh
    rcases hh with h | h | h <;> exact ⟨_, h, by decide⟩
  obtain ⟨hi, rfl, hi0⟩ := hP
  have hok : rOk 0 (1 + n) = true := rOk_mk (by omega) (by omega) (by omega) (by omega)
  -- ways
  obtain ⟨w, u4, e4, g4, f4⟩ := lcGo_draw (α := List (List Int)) (g := gName 5) (c := mTrue) (elt := mB fTuple (mCons (mLc (iRng (mCons (mVar 5) mNil)) (gName 6) mTrue (mCall F__law_some (mCons (mVar 0) (mCons (mLstI (iRng (mCons (mVar 2) mNil))) (mCons (mBin opAdd (mLit (.int 1)) (mCall F__law_nip (mCons (mVar 0) (mCons (mLit (.int 3)) mNil)))) mNil)))) [6]) mNil))
    (ρ := [some .urn, some (I s), some (.int (1 + n)), some (.int hi), none, none, none, none, none]) (G := Good) (enc := TT) (R := fun d x => ∃ m : Int, d = .int m ∧ (x.length : Int) = m ∧ ∀ y ∈ x, Asc y ∧ ∀ r ∈ y, 0 ≤ r ∧ r < 1 + n) (ds := s.map .int) g3 fun d hd u hu => by
    obtain ⟨m, hm, rfl⟩ := List.mem_map.mp hd
    have hm2 := hs.all m hm
    obtain ⟨x, u', e, g, f⟩ := lcGo_draw (α := List Int) (g := gName 6) (c := mTrue) (elt := mCall F__law_some (mCons (mVar 0) (mCons (mLstI (iRng (mCons (mVar 2) mNil))) (mCons (mBin opAdd (mLit (.int 1)) (mCall F__law_nip (mCons (mVar 0) (mCons (mLit (.int 3)) mNil)))) mNil))))
      (ρ := [some .urn, some (I s), some (.int (1 + n)), some (.int hi), none, some (.int m), none, none, none]) (G := Good) (enc := I) (R := fun d y => Asc y ∧ ∀ r ∈ y, 0 ≤ r ∧ r < 1 + n) (ds := (rngI m).map .int) hu fun d hd u hu => by
      obtain ⟨j, u5, e5, g5, _, _⟩ := nip_I hu (m := 3) (by decide)
      obtain ⟨y, u6, e6, g6, hy⟩ := some_I g5 (rngI (1 + n)) (1 + j)
      refine ⟨_, rfl, rfl, y, u6, ?_, g6, List.Pairwise.sublist hy (rngI_asc _), fun r hr => mem_rngI.mp (hy.subset hr)⟩
      simp [hok, rng_I, e5, e6]
    have hok2 : rOk 0 m = true := rOk_mk (by omega) (by omega) (by omega) (by omega)
    refine ⟨_, rfl, rfl, x, u', ?_, g, m, rfl, ?_, f.right fun a b h => h⟩
    · simp [hok2, rng_I, e]
    · rw [f.len, List.length_map, rngI_len]; omega
  -- costs
  have hm : mulOk 2 hi = true := mulOk_l _ (by decide)
  obtain ⟨k, u5, e5, g5, f5⟩ := lcGo_draw (α := List Int) (g := gName 7) (c := mTrue) (elt := mB fTuple (mCons (mLc (iSeq (mVar 1)) (gName 8) mTrue (mBin opSub (mCall F__law_nip (mCons (mVar 0) (mCons (mBin opMul (mLit (.int 2)) (mVar 3)) mNil))) (mVar 3)) [8]) mNil))
    (ρ := [some .urn, some (I s), some (.int (1 + n)), some (.int hi), some (TTT w), none, none, none, none]) (G := Good) (enc := I) (R := fun d y => y.length = s.length) (ds := (rngI (1 + n)).map .int) g4 fun d hd u hu => by
    obtain ⟨x, u', e, g, f⟩ := lcGo_draw (α := Int) (g := gName 8) (c := mTrue) (elt := mBin opSub (mCall F__law_nip (mCons (mVar 0) (mCons (mBin opMul (mLit (.int 2)) (mVar 3)) mNil))) (mVar 3))
      (ρ := [some .urn, some (I s), some (.int (1 + n)), some (.int hi), some (TTT w), none, none, some d, none]) (G := Good) (enc := .int) (R := fun _ _ => True) (ds := s.map .int) hu fun d' hd' u hu => by
      obtain ⟨j, u7, e7, g7, _, _⟩ := nip_I hu (m := 2 * hi) (by omega)
      exact ⟨_, rfl, rfl, j - hi, u7, by simp [opMul, hm, e7], g7, trivial⟩
    refine ⟨_, rfl, rfl, x, u', by simp [e], g, ?_⟩
    rw [f.len, List.length_map]
  have ez : szs w = s := szs_of ((F2.mapL f4).imp fun a b h => by
    obtain ⟨m, e, h1, _⟩ := h
    cases e
    exact h1)
  have kl : (k.length : Int) = 1 + n := by rw [f5.len, List.length_map, rngI_len]; omega
  refine ⟨w, k, u5, ?_, g5, ?_⟩
  · have p1 : opPow (.int 10) (.int 20) = some (.int 100000000000000000000) := rfl
    simp [F__law_any_crowd, d__law_any_crowd, e1, e2, p1, e3, e4, hok, rng_I, e5]
  · refine ⟨⟨by rw [ez]; exact hs, by rw [ez]; exact hp, by omega, by omega, fun q hq => ?_, fun x hx y hy => ?_⟩, by omega⟩
    · have h1 := f5.right (Q := fun q => q.length = s.length) (fun a b h => h) q hq
      rw [h1, ← ez, szs_len]
    · have h1 := f4.right (Q := fun x => ∀ y ∈ x, Asc y ∧ ∀ r ∈ y, 0 ≤ r ∧ r < 1 + n) (fun a b h => by obtain ⟨_, _, _, h⟩ := h; exact h) x hx y hy
      exact ⟨h1.1, fun r hr => by have := h1.2 r hr; omega⟩
end K51
namespace K51
open Dn
theorem Pl_int (n : Nat) (i : Int) : Pl n (.int i) := by cases n <;> trivial
theorem Pl_I (n : Nat) (l : List Int) : Pl (n + 1) (I l) := fun d hd => by
  obtain ⟨i, _, rfl⟩ := List.mem_map.mp hd
  exact Pl_int n i
theorem Pl_TT (n : Nat) (l : List (List Int)) : Pl (n + 2) (TT l) := fun d hd => by
  obtain ⟨i, _, rfl⟩ := List.mem_map.mp hd
  exact Pl_I n i
theorem Pl_Gm (n : Nat) (s : List Int) (r : List (List Int)) : Pl (n + 3) (Gm s r) := fun d hd => by
  simp only [List.mem_cons, List.not_mem_nil, or_false] at hd
  rcases hd with e | e
  · rw [e]; exact Pl_I (n + 1) s
  · rw [e]; exact Pl_TT n r
theorem same_Gm (s : List Int) (r : List (List Int)) (u : Urn) : F__law_same [Gm s r, Gm s r] u = .ok (.bl true) u := same_of (Pl_Gm 6 s r) u
theorem same_I (s : List Int) (u : Urn) : F__law_same [I s, I s] u = .ok (.bl true) u := same_of (Pl_I 8 s) u
theorem same_int (s : Int) (u : Urn) : F__law_same [.int s, .int s] u = .ok (.bl true) u := same_of (Pl_int 9 s) u
theorem prN_pos : ∀ {s : List Int}, (∀ x ∈ s, 1 ≤ x) → 1 ≤ prN s
  | [], _ => Nat.le_refl _
  | n :: s, h => by
    have h1 := h n List.mem_cons_self
    have h2 := prN_pos (s := s) fun x hx => h x (List.mem_cons_of_mem _ hx)
    rw [prN]
    exact Nat.mul_pos (by omega) h2
theorem rows_ne {s : List Int} (h : Sz s) : (rows s).map I ≠ [] := fun e => by
  have := congrArg List.length e
  rw [List.length_map, rows_len] at this
  have := prN_pos h.ge
  simp at *
  omega
/-- the row of a chooser, a gain at its place -/
theorem gRows_at {w : List (List (List Int))} {k : List (List Int)} {j : Int} (h0 : 0 ≤ j) (h1 : j < w.length) : (gRows w k)[j.toNat]? = some ((rows (szs w)).map fun c => gn k (tkn w c) (nth (tkn w c) j)) := by
  unfold gRows
  rw [List.getElem?_map, rngI_get h0 h1]
  rfl
theorem gain_at {w : List (List (List Int))} {k : List (List Int)} (h : CwOk w k) {c : List Int} (v : Vd (szs w) c) {j : Int} (h0 : 0 ≤ j) (h1 : j < w.length) (u : Urn) : F_gain [Gm (szs w) (gRows w k), .int j, I c] u = .ok (.int (gn k (tkn w c) (nth (tkn w c) j))) u :=
  gain_I (gRows_ok h) v h0 (gRows_at h0 h1) (by rw [List.getElem?_map, rows_at h.sz.ge v]; rfl) u
theorem way_at {w : List (List (List Int))} {c : List Int} (v : Vd (szs w) c) {j : Int} (h0 : 0 ≤ j) (h1 : j < w.length) : nth (nth w j) (nth c j) = nth (tkn w c) j ∧ 0 ≤ nth c j ∧ nth c j < (nth w j).length ∧ j < c.length := by
  have tl := tkn_len v
  have hcl : c.length = w.length := by rw [v.len, szs_len]
  have hz : (w.zip c)[j.toNat]? = some (nth w j, nth c j) := by
    rw [List.getElem?_zip_eq_some]
    exact ⟨nth_some h0 h1, nth_some h0 (by omega)⟩
  have e1 := nth_some (l := tkn w c) h0 (by omega)
  unfold tkn at e1
  rw [List.getElem?_map, hz] at e1
  have hv := Vd_at v _ (List.mem_of_getElem? hz)
  exact ⟨Option.some.inj e1, hv.1, hv.2, by omega⟩
theorem eq_nil (y : List Int) : opEq (I y) (.tup []) = some (.bl (decide (y = []))) := by
  unfold opEq
  rw [okEq_tup, okEqs_ints, okEq_tup, okEqs_nil, eqD_tup]
  cases y with
  | nil => simp [eqDs]
  | cons a y => simp [eqDs]
/-- each chooser's gain -/
theorem told_in {w : List (List (List Int))} {k : List (List Int)} (h : CwOk w k) {c : List Int} (v : Vd (szs w) c) (p0 p4 : Slot) (s6 : Slot) (u : Urn) : ∀ (js : List Int) (s5 : Slot), (∀ j ∈ js, 0 ≤ j ∧ j < w.length) →
    ∃ s5', forGo (hName 5) (sSeq (sIf (mNot (mCall F__law_same (mCons (mCall F_gain (mCons (mVar 2) (mCons (mVar 5) (mCons (mVar 3) mNil)))) (mCons (mCall F__law_gain (mCons (mVar 1) (mCons (mVar 3) (mCons (mVar 5) mNil)))) mNil)))) (sRet (mLit (.bl false))) sNop) (sIf (mAnd (mBin opEq (mIx (mIx (mIx (mVar 1) (mLit (.int 0))) (mVar 5)) (mIx (mVar 3) (mVar 5))) (mTup mNil)) (mBin opNe (mCall F_gain (mCons (mVar 2) (mCons (mVar 5) (mCons (mVar 3) mNil)))) (mLit (.int 0)))) (sRet (mLit (.bl false))) sNop)) (js.map .int)
      [p0, .val (Cw w k), .val (Gm (szs w) (gRows w k)), .val (I c), p4, s5, s6] u = .nx [p0, .val (Cw w k), .val (Gm (szs w) (gRows w k)), .val (I c), p4, s5', s6] u
  | [], s5, _ => ⟨s5, rfl⟩
  | j :: js, s5, hj => by
    have h1 := hj j List.mem_cons_self
    obtain ⟨s5', e⟩ := told_in h v p0 p4 s6 u js (.val (.int j)) fun x hx => hj x (List.mem_cons_of_mem _ hx)
    refine ⟨s5', ?_⟩
    have e1 := gain_at h v h1.1 h1.2 u
    have e2 := law_gain_I h v h1.1 h1.2 u
    have e3 := same_int (gn k (tkn w c) (nth (tkn w c) j)) u
    obtain ⟨w1, w2, w3, w4⟩ := way_at v h1.1 h1.2
    have a1 := atI_nth (f := TT) (l := w) h1.1 h1.2
    have a2 := atI_nth (f := D.int) (l := c) h1.1 w4
    have a3 := atI_nth (f := I) (l := nth w j) w2 w3
    rw [w1] at a3
    have hz : nth (tkn w c) j = [] → gn k (tkn w c) (nth (tkn w c) j) = 0 := fun e => by rw [e]; rfl
    rw [List.map_cons]
    refine (forGo_nx (Γ1 := [p0, .val (Cw w k), .val (Gm (szs w) (gRows w k)), .val (I c), p4, .val (.int j), s6]) rfl ?_).trans e
    by_cases hy : nth (tkn w c) j = []
    · have h0 := hz hy
      rw [h0] at e1 e2 e3
      simp [e1, e2, e3, ixD_tup, at0, a1, a2, a3, eq_nil, hy, opNe]
    · simp [e1, e2, e3, ixD_tup, at0, a1, a2, a3, eq_nil, hy]
end K51
namespace K51
open Dn
theorem ite_same {α : Type} (c : Prop) [Decidable c] (a : α) : (if c then a else a) = a := by split <;> rfl
theorem is_told_I {u : Urn} (hu : Good u) {w : List (List (List Int))} {k : List (List Int)} (h : CwOk w k) : ∃ u', F__law_is_told [.urn, Cw w k] u = .ok (.bl true) u' ∧ Good u' := by
  obtain ⟨j, u1, e1, g1, _, _⟩ := nip_I hu (m := 2) (by decide)
  have e2 := crowd_game_I h u1
  have e3 := law_crowd_game_I h u1
  have e4 := same_Gm (szs w) (gRows w k) u1
  have e5 := is_game_I (gRows_ok h) u1
  have e6 := law_all_I h.sz
  -- four choices are drawn
  obtain ⟨cs, u2, e7, g2, f2⟩ := lcGo_draw (α := List Int) (g := gName 6) (c := mTrue) (elt := mCall F__law_any_of (mCons (mVar 0) (mCons (mCall F__law_all (mCons (mIx (mVar 2) (mLit (.int 0))) mNil)) mNil)))
    (ρ := [some .urn, some (Cw w k), some (Gm (szs w) (gRows w k)), none, none, none, none]) (G := Good) (enc := I) (R := fun _ c => Vd (szs w) c) (ds := rng 0 4) g1 fun d hd u hu => by
    obtain ⟨x, u', e, g, hx⟩ := any_of_I (rows_ne h.sz) (.inr rfl) hu
    obtain ⟨c, hc, rfl⟩ := List.mem_map.mp hx
    exact ⟨_, rfl, rfl, c, u', by simp [ixD_tup, at0, e6, e], g, mem_rows.mp hc⟩
  have hv : ∀ c ∈ cs, Vd (szs w) c := f2.right fun _ _ h => h
  -- the loop over them
  have loop : ∀ (cs : List (List Int)) (s3 s4 s5 : Slot) (u : Urn), Good u → (∀ c ∈ cs, Vd (szs w) c) → ∃ s3' s4' s5' u', forGo (hName 3) (sSeq (sSet 4 (mIf (mBin opEq (mCall F__law_nip (mCons (mVar 0) (mCons (mLit (.int 2)) mNil))) (mLit (.int 0))) (mCall F_users (mCons (mVar 1) (mCons (mVar 3) mNil))) (mCallK F_users [1, 0] (mCons (mVar 3) (mCons (mVar 1) mNil))))) (sSeq (sIf (mNot (mCall F__law_same (mCons (mVar 4) (mCons (mCall F__law_crowd_users (mCons (mVar 1) (mCons (mVar 3) mNil))) mNil)))) (sRet (mLit (.bl false))) sNop) (sFor (iRng (mCons (mB fLen (mCons (mVar 3) mNil)) mNil)) (hName 5) (sSeq (sIf (mNot (mCall F__law_same (mCons (mCall F_gain (mCons (mVar 2) (mCons (mVar 5) (mCons (mVar 3) mNil)))) (mCons (mCall F__law_gain (mCons (mVar 1) (mCons (mVar 3) (mCons (mVar 5) mNil)))) mNil)))) (sRet (mLit (.bl false))) sNop) (sIf (mAnd (mBin opEq (mIx (mIx (mIx (mVar 1) (mLit (.int 0))) (mVar 5)) (mIx (mVar 3) (mVar 5))) (mTup mNil)) (mBin opNe (mCall F_gain (mCons (mVar 2) (mCons (mVar 5) (mCons (mVar 3) mNil)))) (mLit (.int 0)))) (sRet (mLit (.bl false))) sNop))))) (cs.map I)
      [.val .urn, .val (Cw w k), .val (Gm (szs w) (gRows w k)), s3, s4, s5, .no] u = .nx [.val .urn, .val (Cw w k), .val (Gm (szs w) (gRows w k)), s3', s4', s5', .no] u' ∧ Good u' := by
    intro cs
    induction cs with
    | nil => exact fun s3 s4 s5 u hu _ => ⟨s3, s4, s5, u, rfl, hu⟩
    | cons c cs ih =>
      intro s3 s4 s5 u hu hc
      have v := hc c List.mem_cons_self
      obtain ⟨i, u1, d1, q1, _, _⟩ := nip_I hu (m := 2) (by decide)
      have d2 := users_I h v u1
      have d3 := law_crowd_users_I h v u1
      have d4 := same_I (usr k.length (tkn w c)) u1
      have hcl : c.length = w.length := by rw [v.len, szs_len]
      obtain ⟨t5, d5⟩ := told_in h v (.val .urn) (.val (I (usr k.length (tkn w c)))) .no u1 (rngI c.length) s5 fun j hj => by have := mem_rngI.mp hj; omega
      obtain ⟨r3, r4, r5, u', d6, q6⟩ := ih (.val (I c)) (.val (I (usr k.length (tkn w c)))) t5 u1 q1 fun x hx => hc x (List.mem_cons_of_mem _ hx)
      have hok : rOk 0 c.length = true := rOk_mk (by omega) (by omega) (by omega) (by have := h.wl; omega)
      refine ⟨r3, r4, r5, u', ?_, q6⟩
      rw [List.map_cons]
      refine (forGo_nx (Γ1 := [.val .urn, .val (Cw w k), .val (Gm (szs w) (gRows w k)), .val (I c), s4, s5, .no]) rfl ?_).trans d6
      simp [d1, opEq, d2, d3, d4, hok, rng_I, d5, ite_same]
  obtain ⟨s3, s4, s5, u3, e8, g3⟩ := loop cs .no .no .no u2 g2 hv
  refine ⟨u3, ?_, g3⟩
  have hok : rOk 0 4 = true := rfl
  simp [F__law_is_told, d__law_is_told, e1, opEq, e2, e3, e4, e5, opIsNB, hok, e7, e8, ite_same]
end K51
namespace K51
open Dn
/-! ### the law's is-a-crowd -/
theorem in_false {α : Type} (p : α → Bool) (l : List α) : opIn (.bl false) (.lst (l.map fun a => .bl (p a))) = some (.bl (!(l.all p))) := by
  have h1 : (l.map fun a => D.bl (p a)).all flat = true := by rw [List.all_eq_true]; intro x hx; obtain ⟨_, _, rfl⟩ := List.mem_map.mp hx; rfl
  have h2 : ∀ l : List α, ((l.map fun a => D.bl (p a)).any fun z => eqF z (.bl false)) = !(l.all p) := fun l => by
    induction l with
    | nil => rfl
    | cons a l ih =>
      rw [List.map_cons, List.any_cons, ih, List.all_cons]
      show ((p a == false) || _) = _
      cases p a <;> simp
  unfold opIn
  simp only [items]
  rw [h1, h2]
  rfl
theorem in_true {α : Type} (l : List α) : opIn (.bl true) (.lst (l.map fun _ => .bl false)) = some (.bl false) := by
  have h1 : (l.map fun _ => D.bl false).all flat = true := by rw [List.all_eq_true]; intro x hx; obtain ⟨_, _, rfl⟩ := List.mem_map.mp hx; rfl
  have h2 : ((l.map fun _ => D.bl false).any fun z => eqF z (.bl true)) = false := by rw [List.any_eq_false]; intro x hx; obtain ⟨_, _, rfl⟩ := List.mem_map.mp hx; exact Bool.false_ne_true
  unfold opIn
  simp only [items]
  rw [h1, h2]
  rfl
theorem in_false1 {α : Type} (l : List α) : opIn (.bl false) (.lst (l.map fun _ => .bl true)) = some (.bl false) := by
  rw [bl_true, in_false]
  congr 2
  rw [Bool.not_eq_false', List.all_eq_true]
  intros; rfl
theorem law_whole (i : Int) (u : Urn) : F__law_is_whole [.int i] u = .ok (.bl true) u := by simp [F__law_is_whole, d__law_is_whole]
theorem law_up_to (i m : Int) (u : Urn) : F__law_is_up_to [.int i, .int m] u = .ok (.bl (decide (0 ≤ i) && decide (i ≤ m))) u := by
  simp [F__law_is_up_to, d__law_is_up_to, law_whole]
theorem count_loop2 (p q : D) : ∀ (l : List Int) (a : Int) (s : Slot) (u : Urn), (∀ x ∈ l, x.natAbs < 2 ^ 64) → ∃ s', forGo (hName 3) (sSet 2 (mBin opMul (mVar 2) (mVar 3))) (l.map .int) [.val p, .val q, .val (.int a), s] u = .nx [.val p, .val q, .val (.int (prd a l)), s'] u
  | [], a, s, u, _ => ⟨s, rfl⟩
  | x :: l, a, s, u, h => by
    have hx := h x List.mem_cons_self
    obtain ⟨s', e⟩ := count_loop2 p q l (a * x) (.val (.int x)) u fun y hy => h y (List.mem_cons_of_mem _ hy)
    refine ⟨s', ?_⟩
    rw [List.map_cons, forGo]
    have hm : mulOk a x = true := by unfold mulOk; rw [decide_eq_true hx]; simp
    simp [opMul, hm, e, prd]
theorem law_is_sizes_I {s : List Int} (h1 : 1 ≤ s.length) (h2 : s.length ≤ 4) (h3 : ∀ x ∈ s, x.natAbs < 2 ^ 64) (u : Urn) : ∃ b, F__law_is_sizes [I s, .int 1] u = .ok (.bl b) u ∧ (b = true → (∀ x ∈ s, 1 ≤ x ∧ x ≤ 6) ∧ prd 1 s ≤ 36) := by
  have e : lcGo (gName 3) mTrue (mAnd (mCall F__law_is_up_to (mCons (mVar 3) (mCons (mLit (.int 6)) mNil))) (mBin opGt (mVar 3) (mLit (.int 0)))) [some (I s), some (.int 1), none, none] (s.map .int) u = .ok (s.map fun x => .bl ((decide (0 ≤ x) && decide (x ≤ 6)) && decide (0 < x))) u := by
    refine lcGo_mapT _ fun x _ => ⟨_, rfl, rfl, ?_⟩
    simp [law_up_to]
  obtain ⟨s', e2⟩ := count_loop2 (I s) (.int 1) s 1 .no u h3
  have l1 : (1 : Int) ≤ s.length := by omega
  have l2 : (s.length : Int) < 5 := by omega
  cases q : s.all (fun x => (decide (0 ≤ x) && decide (x ≤ 6)) && decide (0 < x)) with
  | false => exact ⟨false, by simp [F__law_is_sizes, d__law_is_sizes, l1, l2, e, in_false, q], nofun⟩
  | true =>
    refine ⟨decide (prd 1 s < 37), by simp [F__law_is_sizes, d__law_is_sizes, l1, l2, e, in_false, q, e2], fun hb => ⟨fun x hx => ?_, ?_⟩⟩
    · have := List.all_eq_true.mp q x hx
      simp at this
      omega
    · have := of_decide_eq_true hb
      omega
/-- all but the sizes' bounds -/
structure Pre (w : List (List (List Int))) (c : List (List Int)) : Prop where
  w1 : 1 ≤ w.length
  w2 : w.length ≤ 4
  el : ∀ x ∈ w, x.length ≤ 1000
  ne : ∀ x ∈ w, 1 ≤ x.length
  c1 : 1 ≤ c.length
  c2 : c.length ≤ 200
  row : ∀ q ∈ c, q.length = w.length
  way : ∀ x ∈ w, ∀ y ∈ x, Asc y ∧ ∀ r ∈ y, 0 ≤ r ∧ r < c.length
theorem costs_loop {w : List (List (List Int))} {c : List (List Int)} (s2 s3 : Slot) (u : Urn) : ∀ (cs : List (List Int)) (s1 : Slot), (∀ q ∈ cs, q.length = w.length) → ∃ s1', forGo (hName 1) (sIf (mOr (mNot (mIsTy [.tuple] (mVar 1))) (mOr (mBin opNe (mB fLen (mCons (mVar 1) mNil)) (mB fLen (mCons (mIx (mVar 0) (mLit (.int 0))) mNil))) (mBin opIn (mLit (.bl false)) (mLc (iSeq (mVar 1)) (gName 4) mTrue (mCall F__law_is_whole (mCons (mVar 4) mNil)) [4])))) (sRet (mLit (.bl false))) sNop) (cs.map I)
      [.val (Cw w c), s1, s2, s3, .no, .no, .no] u = .nx [.val (Cw w c), s1', s2, s3, .no, .no, .no] u
  | [], s1, _ => ⟨s1, rfl⟩
  | q :: cs, s1, h => by
    have hq := h q List.mem_cons_self
    obtain ⟨s1', e⟩ := costs_loop s2 s3 u cs (.val (I q)) fun x hx => h x (List.mem_cons_of_mem _ hx)
    refine ⟨s1', ?_⟩
    have e1 : lcGo (gName 4) mTrue (mCall F__law_is_whole (mCons (mVar 4) mNil)) [some (Cw w c), some (I q), s2.snap, s3.snap, none, none, none] (q.map .int) u = .ok (q.map fun _ => .bl true) u := lcGo_mapT _ fun x _ => ⟨_, rfl, rfl, by simp [law_whole]⟩
    rw [List.map_cons]
    refine (forGo_nx (Γ1 := [.val (Cw w c), .val (I q), s2, s3, .no, .no, .no]) rfl ?_).trans e
    simp [ixD_tup, at0, opNe, hq, e1, in_false1]
theorem way_ok {w : List (List (List Int))} {c : List (List Int)} (s1 s2 : Slot) (u : Urn) {y : List Int} (ha : Asc y) (hr : ∀ r ∈ y, 0 ≤ r ∧ r < c.length) (hl : y.length ≤ 200) : (sIf (mOr (mNot (mIsTy [.tuple] (mVar 3))) (mOr (mBin opIn (mLit (.bl false)) (mLc (iSeq (mVar 3)) (gName 5) mTrue (mCall F__law_is_up_to (mCons (mVar 5) (mCons (mBin opSub (mB fLen (mCons (mIx (mVar 0) (mLit (.int 1))) mNil)) (mLit (.int 1))) mNil))) [5])) (mBin opIn (mLit (.bl true)) (mLc (iRng (mCons (mLit (.int 1)) (mCons (mB fLen (mCons (mVar 3) mNil)) mNil))) (gName 6) mTrue (mBin opLe (mIx (mVar 3) (mVar 6)) (mIx (mVar 3) (mBin opSub (mVar 6) (mLit (.int 1))))) [6])))) (sRet (mLit (.bl false))) sNop)
      [.val (Cw w c), s1, s2, .val (I y), .no, .no, .no] u = .nx [.val (Cw w c), s1, s2, .val (I y), .no, .no, .no] u := by
  have e1 : lcGo (gName 5) mTrue (mCall F__law_is_up_to (mCons (mVar 5) (mCons (mBin opSub (mB fLen (mCons (mIx (mVar 0) (mLit (.int 1))) mNil)) (mLit (.int 1))) mNil))) [some (Cw w c), s1.snap, s2.snap, some (I y), none, none, none] (y.map .int) u = .ok (y.map fun _ => .bl true) u := by
    refine lcGo_mapT _ fun r hr' => ⟨_, rfl, rfl, ?_⟩
    have h1 := hr r hr'
    have h2 : r ≤ c.length - 1 := by omega
    simp [ixD_tup, at1, law_up_to, h1.1, h2]
  obtain ⟨L, eL, hL⟩ := rng_lo 1 y.length
  have e2 : lcGo (gName 6) mTrue (mBin opLe (mIx (mVar 3) (mVar 6)) (mIx (mVar 3) (mBin opSub (mVar 6) (mLit (.int 1))))) [some (Cw w c), s1.snap, s2.snap, some (I y), none, none, none] (L.map .int) u = .ok (L.map fun _ => .bl false) u := by
    refine lcGo_mapT _ fun j hj => ⟨_, rfl, rfl, ?_⟩
    have hm := hL j hj
    have a1 := atI_nth (f := D.int) (l := y) (k := j - 1) (by omega) (by omega)
    have a2 := atI_nth (f := D.int) (l := y) (k := j) (by omega) hm.2
    have lt : ¬ nth y j ≤ nth y (j - 1) := by
      have i1 : (j - 1).toNat < y.length := by omega
      have i2 : j.toNat < y.length := by omega
      have := List.pairwise_iff_getElem.mp ha (j - 1).toNat j.toNat i1 i2 (by omega)
      have b1 := nth_some (l := y) (k := j - 1) (by omega) (by omega)
      have b2 := nth_some (l := y) (k := j) (by omega) hm.2
      rw [List.getElem?_eq_getElem i1] at b1
      rw [List.getElem?_eq_getElem i2] at b2
      rw [Option.some.inj b1, Option.some.inj b2] at this
      omega
    simp [ixD_tup, a1, a2, lt]
  have hok : rOk 1 y.length = true := rOk_mk (by omega) (by omega) (by omega) (by omega)
  simp [e1, in_false1, hok, eL, e2, in_true]
theorem ways_in {w : List (List (List Int))} {c : List (List Int)} (s1 s2 : Slot) (u : Urn) : ∀ (x : List (List Int)) (s3 : Slot), (∀ y ∈ x, (Asc y ∧ ∀ r ∈ y, 0 ≤ r ∧ r < c.length) ∧ y.length ≤ 200) → ∃ s3', forGo (hName 3) (sIf (mOr (mNot (mIsTy [.tuple] (mVar 3))) (mOr (mBin opIn (mLit (.bl false)) (mLc (iSeq (mVar 3)) (gName 5) mTrue (mCall F__law_is_up_to (mCons (mVar 5) (mCons (mBin opSub (mB fLen (mCons (mIx (mVar 0) (mLit (.int 1))) mNil)) (mLit (.int 1))) mNil))) [5])) (mBin opIn (mLit (.bl true)) (mLc (iRng (mCons (mLit (.int 1)) (mCons (mB fLen (mCons (mVar 3) mNil)) mNil))) (gName 6) mTrue (mBin opLe (mIx (mVar 3) (mVar 6)) (mIx (mVar 3) (mBin opSub (mVar 6) (mLit (.int 1))))) [6])))) (sRet (mLit (.bl false))) sNop) (x.map I)
      [.val (Cw w c), s1, s2, s3, .no, .no, .no] u = .nx [.val (Cw w c), s1, s2, s3', .no, .no, .no] u
  | [], s3, _ => ⟨s3, rfl⟩
  | y :: x, s3, h => by
    have hy := h y List.mem_cons_self
    obtain ⟨s3', e⟩ := ways_in s1 s2 u x (.val (I y)) fun z hz => h z (List.mem_cons_of_mem _ hz)
    refine ⟨s3', ?_⟩
    rw [List.map_cons]
    exact (forGo_nx (Γ1 := [.val (Cw w c), s1, s2, .val (I y), .no, .no, .no]) rfl (way_ok s1 s2 u hy.1.1 hy.1.2 hy.2)).trans e
theorem ways_out {w : List (List (List Int))} {c : List (List Int)} (s1 : Slot) (u : Urn) : ∀ (ws : List (List (List Int))) (s2 s3 : Slot), (∀ x ∈ ws, ∀ y ∈ x, (Asc y ∧ ∀ r ∈ y, 0 ≤ r ∧ r < c.length) ∧ y.length ≤ 200) → ∃ s2' s3', forGo (hName 2) (sFor (iSeq (mVar 2)) (hName 3) (sIf (mOr (mNot (mIsTy [.tuple] (mVar 3))) (mOr (mBin opIn (mLit (.bl false)) (mLc (iSeq (mVar 3)) (gName 5) mTrue (mCall F__law_is_up_to (mCons (mVar 5) (mCons (mBin opSub (mB fLen (mCons (mIx (mVar 0) (mLit (.int 1))) mNil)) (mLit (.int 1))) mNil))) [5])) (mBin opIn (mLit (.bl true)) (mLc (iRng (mCons (mLit (.int 1)) (mCons (mB fLen (mCons (mVar 3) mNil)) mNil))) (gName 6) mTrue (mBin opLe (mIx (mVar 3) (mVar 6)) (mIx (mVar 3) (mBin opSub (mVar 6) (mLit (.int 1))))) [6])))) (sRet (mLit (.bl false))) sNop)) (ws.map TT)
      [.val (Cw w c), s1, s2, s3, .no, .no, .no] u = .nx [.val (Cw w c), s1, s2', s3', .no, .no, .no] u
  | [], s2, s3, _ => ⟨s2, s3, rfl⟩
  | x :: ws, s2, s3, h => by
    obtain ⟨t3, e1⟩ := ways_in (w := w) s1 (.val (TT x)) u x s3 (h x List.mem_cons_self)
    obtain ⟨s2', s3', e⟩ := ways_out s1 u ws (.val (TT x)) t3 fun z hz => h z (List.mem_cons_of_mem _ hz)
    refine ⟨s2', s3', ?_⟩
    rw [List.map_cons]
    refine (forGo_nx (Γ1 := [.val (Cw w c), s1, .val (TT x), s3, .no, .no, .no]) rfl ?_).trans e
    rw [sFor_eq, show (iSeq (mVar 2)) (hideE [.val (Cw w c), s1, .val (TT x), s3, .no, .no, .no]) u = .ok (x.map I) u from rfl, thenS_ok]
    exact e1
theorem law_is_crowd_I {w : List (List (List Int))} {c : List (List Int)} (h : Pre w c) (u : Urn) : ∃ b, F__law_is_crowd [Cw w c] u = .ok (.bl b) u ∧ (b = true → CwOk w c) := by
  have hs : ∀ x ∈ szs w, x.natAbs < 2 ^ 64 := fun x hx => by
    obtain ⟨y, hy, rfl⟩ := List.mem_map.mp hx
    have := h.el y hy
    show ((y.length : Int)).natAbs < _
    omega
  obtain ⟨b, e0, hb⟩ := law_is_sizes_I (s := szs w) (by rw [szs_len]; exact h.w1) (by rw [szs_len]; exact h.w2) hs u
  have e1 : lcGo (gName 2) mTrue (mIsTy [.tuple] (mVar 2)) [some (Cw w c), none, none, none, none, none, none] (w.map TT) u = .ok (w.map fun _ => .bl true) u := lcGo_mapT _ fun x _ => ⟨_, rfl, rfl, by simp⟩
  have e2 : lcGo (gName 2) mTrue (mB fLen (mCons (mVar 2) mNil)) [some (Cw w c), none, none, none, none, none, none] (w.map TT) u = .ok (w.map fun y => .int (y.length : Int)) u := lcGo_mapT _ fun y _ => ⟨_, rfl, rfl, by simp⟩
  have e3 : (D.tup (w.map fun y => .int (y.length : Int))) = I (szs w) := by unfold szs I; rw [List.map_map]; rfl
  have w1 : (0 : Int) < w.length := by have := h.w1; omega
  have w2 : (w.length : Int) < 5 := by have := h.w2; omega
  have c1 : (0 : Int) < c.length := by have := h.c1; omega
  have c2 : (c.length : Int) < 201 := by have := h.c2; omega
  have wn : ¬ w = [] := fun e => by have := h.w1; rw [e] at this; exact absurd this (by decide)
  have cn : ¬ c = [] := fun e => by have := h.c1; rw [e] at this; exact absurd this (by decide)
  obtain ⟨s1, e4⟩ := costs_loop (w := w) (c := c) .no .no u c .no h.row
  obtain ⟨s2, s3, e5⟩ := ways_out (w := w) (c := c) s1 u w .no .no fun x hx y hy => ⟨h.way x hx y hy, by
    have := asc_len (h.way x hx y hy).1 (h.way x hx y hy).2
    have := h.c2
    omega⟩
  refine ⟨b, ?_, fun q => ?_⟩
  · cases b with
    | false => simp [F__law_is_crowd, d__law_is_crowd, opNe, ixD_tup, at0, w1, w2, e1, in_false1, e2, e3, e0, wn]
    | true => simp [F__law_is_crowd, d__law_is_crowd, opNe, ixD_tup, at0, at1, w1, w2, e1, in_false1, e2, e3, e0, c1, c2, e4, e5, wn, cn]
  · obtain ⟨q1, q2⟩ := hb q
    exact ⟨⟨by rw [szs_len]; exact h.w1, by rw [szs_len]; exact h.w2, q1⟩, q2, h.c1, h.c2, h.row, h.way⟩
end K51
namespace K51
open Dn
theorem tkn_zw (w : List (List (List Int))) (c : List Int) : tkn w c = List.zipWith nth w c := by
  unfold tkn
  rw [List.zip, List.map_zipWith]
theorem tkn_at (w : List (List (List Int))) (c : List Int) (i : Nat) : (tkn w c)[i]? = match w[i]?, c[i]? with
    | some a, some b => some (nth a b)
    | _, _ => none := by
  rw [tkn_zw, List.getElem?_zipWith]
  cases w[i]? <;> cases c[i]? <;> rfl
theorem Vd_iff : ∀ {l c : List Int}, Vd l c ↔ c.length = l.length ∧ ∀ (i : Nat) (s d : Int), l[i]? = some s → c[i]? = some d → 0 ≤ d ∧ d < s
  | [], [] => by simp [Vd]
  | [], _ :: _ => by simp [Vd]
  | _ :: _, [] => by simp [Vd]
  | n :: l, a :: c => by
    constructor
    · intro v
      refine ⟨by rw [v.len], fun i s d h1 h2 => ?_⟩
      cases i with
      | zero =>
        simp at h1 h2
        subst h1 h2
        exact ⟨v.1, v.2.1⟩
      | succ i => exact (Vd_iff.mp v.2.2).2 i s d (by simpa using h1) (by simpa using h2)
    · rintro ⟨h1, h2⟩
      have h0 := h2 0 n a rfl rfl
      exact ⟨h0.1, h0.2, Vd_iff.mpr ⟨by simpa using h1, fun i s d e1 e2 => h2 (i + 1) s d (by simpa using e1) (by simpa using e2)⟩⟩
/-- one more road -/
theorem gn_more {w : List (List (List Int))} {k : List (List Int)} (h : CwOk w k) (x : List Int) {c : List Int} (v : Vd (szs w) c) {y : List Int} (hy : y ∈ tkn w c) : gn (k ++ [x]) (tkn w c) y = gn k (tkn w c) y := by
  unfold gn gnT
  congr 2
  apply List.map_congr_left
  intro r hr
  have h1 := (h.tk v y hy).2 r hr
  have e1 : nth (k ++ [x]) r = nth k r := by
    have a := nth_some (l := k) h1.1 h1.2
    have b := nth_some (l := k ++ [x]) (k := r) h1.1 (by rw [List.length_append]; simp; omega)
    rw [List.getElem?_append_left (by omega), a] at b
    exact (Option.some.inj b).symm
  have e2 : nth (usr (k ++ [x]).length (tkn w c)) r = nth (usr k.length (tkn w c)) r := by
    rw [usr_at (h.tk v) h1, usr_at (fun z hz => ⟨(h.tk v z hz).1, fun r hr => by
      have := (h.tk v z hz).2 r hr
      rw [List.length_append]; simp; omega⟩) ⟨h1.1, by rw [List.length_append]; simp; omega⟩]
  rw [e1, e2]
theorem gRows_more {w : List (List (List Int))} {k : List (List Int)} (h : CwOk w k) (x : List Int) : gRows w (k ++ [x]) = gRows w k := by
  unfold gRows
  apply List.map_congr_left
  intro j hj
  have hj := mem_rngI.mp hj
  apply List.map_congr_left
  intro c hc
  have v := mem_rows.mp hc
  exact gn_more h x v (nth_mem hj.1 (by rw [tkn_len v]; exact hj.2))
theorem CwOk.more {w : List (List (List Int))} {k : List (List Int)} (h : CwOk w k) {x : List Int} (hx : x.length = w.length) (hk : k.length ≤ 5) : CwOk w (k ++ [x]) := by
  refine ⟨h.sz, h.pr, by rw [List.length_append]; simp, by rw [List.length_append]; simp; omega, fun q hq => ?_, fun z hz y hy => ⟨(h.way z hz y hy).1, fun r hr => ?_⟩⟩
  · rcases List.mem_append.mp hq with e | e
    · exact h.row q e
    · rw [List.mem_singleton] at e; rw [e]; exact hx
  · have := (h.way z hz y hy).2 r hr
    rw [List.length_append]; simp; omega
/-- a way that is there twice -/
def tw (w : List (List (List Int))) (j : Int) : List (List (List Int)) := w.set j.toNat (nth w j ++ (nth w j).take 1)
theorem tw_len (w : List (List (List Int))) (j : Int) : (tw w j).length = w.length := by unfold tw; rw [List.length_set]
theorem mem_tw {w : List (List (List Int))} {j : Int} (h0 : 0 ≤ j) (h1 : j < w.length) {x : List (List Int)} (hx : x ∈ tw w j) : ∃ z ∈ w, x = z ∨ x = z ++ z.take 1 := by
  unfold tw at hx
  rcases List.mem_or_eq_of_mem_set hx with e | e
  · exact ⟨x, e, .inl rfl⟩
  · exact ⟨nth w j, nth_mem h0 h1, .inr e⟩
theorem pre_tw {w : List (List (List Int))} {k : List (List Int)} (h : CwOk w k) {j : Int} (h0 : 0 ≤ j) (h1 : j < w.length) : Pre (tw w j) k := by
  refine ⟨by rw [tw_len]; exact h.wl.1, by rw [tw_len]; exact h.wl.2, fun x hx => ?_, fun x hx => ?_, h.c1, h.c2, fun q hq => by rw [tw_len]; exact h.row q hq, fun x hx y hy => ?_⟩
  · obtain ⟨z, hz, e | e⟩ := mem_tw h0 h1 hx
    · rw [e]; have := h.el z hz; omega
    · rw [e, List.length_append, List.length_take]; have := h.el z hz; omega
  · obtain ⟨z, hz, e | e⟩ := mem_tw h0 h1 hx
    · rw [e]; have := h.el z hz; omega
    · rw [e, List.length_append]; have := h.el z hz; omega
  · obtain ⟨z, hz, e | e⟩ := mem_tw h0 h1 hx
    · rw [e] at hy; exact h.way z hz y hy
    · rw [e] at hy
      rcases List.mem_append.mp hy with q | q
      · exact h.way z hz y q
      · exact h.way z hz y (List.mem_of_mem_take q)
theorem szs_tw (w : List (List (List Int))) (j : Int) (i : Nat) : (szs (tw w j))[i]? = if j.toNat = i then (if i < w.length then some (((nth w j).length + ((nth w j).take 1).length : Nat) : Int) else none) else (szs w)[i]? := by
  unfold szs tw
  rw [List.getElem?_map, List.getElem?_set]
  by_cases e : j.toNat = i
  · subst e
    by_cases h : j.toNat < w.length
    · simp [h]
    · simp [h]
  · simp [e]
theorem Vd_tw {w : List (List (List Int))} {c : List Int} (v : Vd (szs w) c) {j : Int} (h0 : 0 ≤ j) (h1 : j < w.length) : Vd (szs (tw w j)) c := by
  obtain ⟨a, b⟩ := Vd_iff.mp v
  refine Vd_iff.mpr ⟨by rw [a, szs_len, szs_len, tw_len], fun i s d e1 e2 => ?_⟩
  rw [szs_tw] at e1
  by_cases e : j.toNat = i
  · subst e
    rw [if_pos rfl, if_pos (by omega)] at e1
    cases e1
    have hw : (szs w)[j.toNat]? = some ((nth w j).length : Int) := by unfold szs; rw [List.getElem?_map, nth_some h0 h1]; rfl
    have := b j.toNat _ d hw e2
    omega
  · rw [if_neg e] at e1
    exact b i s d e1 e2
theorem take1 {x : List (List Int)} (h : 1 ≤ x.length) : (x.take 1).length = 1 := by rw [List.length_take]; omega
theorem Vd_tw2 {w : List (List (List Int))} {c : List Int} (v : Vd (szs w) c) {j : Int} (h0 : 0 ≤ j) (h1 : j < w.length) (hx : 1 ≤ (nth w j).length) : Vd (szs (tw w j)) (c.set j.toNat ((nth w j).length : Int)) := by
  obtain ⟨a, b⟩ := Vd_iff.mp (Vd_tw v h0 h1)
  refine Vd_iff.mpr ⟨by rw [List.length_set, a], fun i s d e1 e2 => ?_⟩
  rw [List.getElem?_set] at e2
  by_cases e : j.toNat = i
  · subst e
    rw [szs_tw, if_pos rfl, if_pos (by omega), take1 hx] at e1
    cases e1
    rw [if_pos rfl] at e2
    split at e2
    · cases e2; omega
    · cases e2
  · rw [if_neg e] at e2
    exact b i s d e1 e2
theorem tkn_tw {w : List (List (List Int))} {c : List Int} (v : Vd (szs w) c) {j : Int} (h0 : 0 ≤ j) (h1 : j < w.length) (hx : 1 ≤ (nth w j).length) (hc : nth c j = 0) : tkn (tw w j) c = tkn w c := by
  apply List.ext_getElem?
  intro i
  rw [tkn_at, tkn_at]
  unfold tw
  rw [List.getElem?_set]
  by_cases e : j.toNat = i
  · subst e
    have hcl : c.length = w.length := by rw [v.len, szs_len]
    have e1 := nth_some h0 h1
    have e2 := nth_some (l := c) h0 (by omega)
    rw [if_pos rfl, if_pos (by omega), e1, e2, hc]
    show some _ = some _
    congr 1
    have a := nth_some (l := nth w j) (k := 0) (by omega) (by omega)
    have b := nth_some (l := nth w j ++ (nth w j).take 1) (k := 0) (by omega) (by rw [List.length_append]; omega)
    rw [List.getElem?_append_left (by show 0 < _; omega), a] at b
    exact (Option.some.inj b).symm
  · rw [if_neg e]
theorem tkn_tw2 {w : List (List (List Int))} {c : List Int} (v : Vd (szs w) c) {j : Int} (h0 : 0 ≤ j) (h1 : j < w.length) (hx : 1 ≤ (nth w j).length) (hc : nth c j = 0) : tkn (tw w j) (c.set j.toNat ((nth w j).length : Int)) = tkn w c := by
  apply List.ext_getElem?
  intro i
  rw [tkn_at, tkn_at]
  unfold tw
  rw [List.getElem?_set, List.getElem?_set]
  by_cases e : j.toNat = i
  · subst e
    have hcl : c.length = w.length := by rw [v.len, szs_len]
    have e1 := nth_some h0 h1
    have e2 := nth_some (l := c) h0 (by omega)
    rw [if_pos rfl, if_pos (by omega), if_pos rfl, if_pos (by omega), e1, e2, hc]
    show some _ = some _
    congr 1
    have a := nth_some (l := nth w j) (k := 0) (by omega) (by omega)
    have b := nth_some (l := nth w j ++ (nth w j).take 1) (k := ((nth w j).length : Int)) (by omega) (by rw [List.length_append, take1 hx]; omega)
    rw [Int.toNat_natCast, List.getElem?_append_right (Nat.le_refl _), Nat.sub_self, List.getElem?_take] at b
    have a' : (nth w j)[0]? = some (nth (nth w j) 0) := a
    rw [if_pos (by decide), a'] at b
    exact (Option.some.inj b).symm
  · rw [if_neg e, if_neg e]
theorem cut_take {α : Type} (l : List α) {j : Int} (h : 0 ≤ j) (h2 : j ≤ l.length) : cut l none (some j) = l.take j.toNat := by
  unfold cut sIx
  have : ¬ j < 0 := by omega
  simp only [this, if_false, List.drop_zero, Nat.sub_zero]
  rw [Nat.min_eq_left (by omega)]
theorem cut_drop {α : Type} (l : List α) {j : Int} (h : 0 ≤ j) (h2 : j ≤ l.length) : cut l (some j) none = l.drop j.toNat := by
  unfold cut sIx
  have : ¬ j < 0 := by omega
  simp only [this, if_false]
  rw [Nat.min_eq_left (by omega), List.take_of_length_le (by rw [List.length_drop]; omega)]
theorem law_with_I (c : List Int) {j : Int} (d : Int) (h0 : 0 ≤ j) (h1 : j < c.length) (hl : c.length ≤ 1000) (u : Urn) : F__law_with [I c, .int j, .int d] u = .ok (I (c.set j.toNat d)) u := by
  have e1 : cut (c.map D.int) none (some j) = (c.take j.toNat).map .int := by rw [cut_take _ h0 (by rw [List.length_map]; omega), List.map_take]
  have e2 : cut (c.map D.int) (some (j + 1)) none = (c.drop (j.toNat + 1)).map .int := by
    rw [cut_drop _ (by omega) (by rw [List.length_map]; omega), List.map_drop]
    congr 1
    omega
  have e3 : c.set j.toNat d = c.take j.toNat ++ d :: c.drop (j.toNat + 1) := by rw [List.set_eq_take_append_cons_drop, if_pos (by omega)]
  have l1 : min j.toNat c.length + 1 ≤ LN := by rw [LN_eq]; omega
  have l2 : min j.toNat c.length + 1 + (c.length - (j.toNat + 1)) ≤ LN := by rw [LN_eq]; omega
  rw [e3]
  simp [F__law_with, d__law_with, slD, e1, e2, l1, l2]
end K51
namespace K51
open Dn
theorem eqDs_ints : ∀ l : List Int, eqDs (l.map .int) (l.map .int) = true
  | [] => by simp [eqDs]
  | a :: l => by rw [List.map_cons, eqDs, eqDs_ints l, eqD_int]; simp
theorem ne_self (l : List Int) : opNe (.lst (l.map .int)) (.lst (l.map .int)) = some (.bl false) := by
  unfold opNe
  rw [okEq_lst, okEqs_ints, eqD_lst, eqDs_ints]
  rfl
/-- the gains at a choice, chooser by chooser -/
def col (w : List (List (List Int))) (k : List (List Int)) (c : List Int) : List Int := (rngI w.length).map fun i => gn k (tkn w c) (nth (tkn w c) i)
theorem col_go {w : List (List (List Int))} {k : List (List Int)} (h : CwOk w k) {c : List Int} (v : Vd (szs w) c) {ρ : Env} {j : Nat} (hj : ∀ d, Dn.get (ρ.set 13 (some d)) j = some (.int (plc 0 (szs w) c))) (h13 : ∀ d, Dn.get (ρ.set 13 (some d)) 13 = some d) (u : Urn) :
    lcGo (gName 13) mTrue (mIx (mVar 13) (mVar j)) ρ ((gRows w k).map I) u = .ok ((col w k c).map .int) u := by
  have b := plc_bound h.sz.ge v
  have e : lcGo (gName 13) mTrue (mIx (mVar 13) (mVar j)) ρ ((gRows w k).map I) u = .ok ((gRows w k).map fun q => .int (nth q (plc 0 (szs w) c))) u := by
    refine lcGo_mapT _ fun q hq => ⟨ρ.set 13 (some (I q)), rfl, rfl, ?_⟩
    have hl := (gRows_ok h).row q hq
    have a := atI_nth (f := D.int) (l := q) (k := plc 0 (szs w) c) b.1 (by omega)
    rw [mIx_eq, mVar_eq, h13, lift_some, Out.bind_ok, mVar_eq, hj, lift_some, Out.bind_ok]
    show lift (ixD (I q) _) u = _
    rw [ixD_tup, a]
    rfl
  rw [e]
  congr 1
  unfold gRows col
  rw [List.map_map, List.map_map]
  apply List.map_congr_left
  intro i _
  show D.int (nth ((rows (szs w)).map fun c => gn k (tkn w c) (nth (tkn w c) i)) (plc 0 (szs w) c)) = D.int _
  congr 1
  have hr := rows_at h.sz.ge v
  have hl : plc 0 (szs w) c < ((rows (szs w)).map fun c => gn k (tkn w c) (nth (tkn w c) i)).length := by rw [List.length_map, rows_len]; exact b.2
  have e2 := nth_some b.1 hl
  rw [List.getElem?_map, hr] at e2
  exact (Option.some.inj e2).symm
theorem nth_int0 (c : List Int) (j : Int) (h0 : 0 ≤ j) (h1 : j < c.length) (u : Urn) : atI (c.map D.int) j = some (.int (nth c j)) := atI_nth h0 h1
theorem more_loop {w : List (List (List Int))} {k : List (List Int)} (h : CwOk w k) {j : Int} (h0 : 0 ≤ j) (h1 : j < w.length) (h2 : CwOk (tw w j) k) (p0 p1 p2 p6 : Slot) (u : Urn) : ∀ (cs : List (List Int)) (s9 s10 s11 : Slot), (∀ c ∈ cs, Vd (szs w) c) →
    ∃ s9' s10' s11', forGo (hName 9) (sIf (mBin opEq (mIx (mVar 9) (mVar 3)) (mLit (.int 0))) (sSeq (sPar [10, 11] (qCons (mCall F__law_at (mCons (mIx (mVar 7) (mLit (.int 0))) (mCons (mVar 9) mNil))) (qCons (mCall F__law_at (mCons (mIx (mVar 7) (mLit (.int 0))) (mCons (mCall F__law_with (mCons (mVar 9) (mCons (mVar 3) (mCons (mB fLen (mCons (mVar 4) mNil)) mNil)))) mNil))) qNil))) (sIf (mOr (mBin opNe (mLc (iSeq (mIx (mVar 7) (mLit (.int 1)))) (gName 13) mTrue (mIx (mVar 13) (mVar 10)) [13]) (mLc (iSeq (mIx (mVar 7) (mLit (.int 1)))) (gName 13) mTrue (mIx (mVar 13) (mVar 11)) [13])) (mBin opNe (mLc (iSeq (mIx (mVar 7) (mLit (.int 1)))) (gName 13) mTrue (mIx (mVar 13) (mVar 10)) [13]) (mLc (iSeq (mIx (mVar 8) (mLit (.int 1)))) (gName 13) mTrue (mIx (mVar 13) (mCall F__law_at (mCons (mVar 5) (mCons (mVar 9) mNil)))) [13]))) (sRet (mLit (.bl false))) sNop)) sNop) (cs.map I)
      [p0, p1, p2, .val (.int j), .val (TT (nth w j)), .val (I (szs w)), p6, .val (Gm (szs (tw w j)) (gRows (tw w j) k)), .val (Gm (szs w) (gRows w k)), s9, s10, s11, .no, .no] u
      = .nx [p0, p1, p2, .val (.int j), .val (TT (nth w j)), .val (I (szs w)), p6, .val (Gm (szs (tw w j)) (gRows (tw w j) k)), .val (Gm (szs w) (gRows w k)), s9', s10', s11', .no, .no] u
  | [], s9, s10, s11, _ => ⟨s9, s10, s11, rfl⟩
  | c :: cs, s9, s10, s11, hc => by
    have v := hc c List.mem_cons_self
    have hcl : c.length = w.length := by rw [v.len, szs_len]
    have a0 := nth_int0 c j h0 (by omega) u
    by_cases hz : nth c j = 0
    · have hx := (h.el _ (nth_mem h0 h1)).1
      have v1 := Vd_tw v h0 h1
      have v2 := Vd_tw2 v h0 h1 hx
      have t1 := tkn_tw v h0 h1 hx hz
      have t2 := tkn_tw2 v h0 h1 hx hz
      obtain ⟨r9, r10, r11, e⟩ := more_loop h h0 h1 h2 p0 p1 p2 p6 u cs (.val (I c)) (.val (.int (plc 0 (szs (tw w j)) c))) (.val (.int (plc 0 (szs (tw w j)) (c.set j.toNat ((nth w j).length : Int))))) fun x hx => hc x (List.mem_cons_of_mem _ hx)
      refine ⟨r9, r10, r11, ?_⟩
      have d1 := law_at_I h2.sz.all c u
      have d2 := law_with_I c ((nth w j).length : Int) h0 (by omega) (by have := h.wl; omega) u
      have d3 := law_at_I h2.sz.all (c.set j.toNat ((nth w j).length : Int)) u
      have d4 := law_at_I h.sz.all c u
      have c1 : col (tw w j) k c = col w k c := by unfold col; rw [tw_len, t1]
      have c2 : col (tw w j) k (c.set j.toNat ((nth w j).length : Int)) = col w k c := by unfold col; rw [tw_len, t2]
      have g1 := col_go h2 v1 (ρ := [p0.snap, p1.snap, p2.snap, some (.int j), some (TT (nth w j)), some (I (szs w)), p6.snap, some (Gm (szs (tw w j)) (gRows (tw w j) k)), some (Gm (szs w) (gRows w k)), some (I c), some (.int (plc 0 (szs (tw w j)) c)), some (.int (plc 0 (szs (tw w j)) (c.set j.toNat ((nth w j).length : Int)))), none, none]) (j := 10) (fun d => rfl) (fun d => rfl) u
      have g2 := col_go h2 v2 (ρ := [p0.snap, p1.snap, p2.snap, some (.int j), some (TT (nth w j)), some (I (szs w)), p6.snap, some (Gm (szs (tw w j)) (gRows (tw w j) k)), some (Gm (szs w) (gRows w k)), some (I c), some (.int (plc 0 (szs (tw w j)) c)), some (.int (plc 0 (szs (tw w j)) (c.set j.toNat ((nth w j).length : Int)))), none, none]) (j := 11) (fun d => rfl) (fun d => rfl) u
      have b := plc_bound h.sz.ge v
      have g3 : lcGo (gName 13) mTrue (mIx (mVar 13) (mCall F__law_at (mCons (mVar 5) (mCons (mVar 9) mNil)))) [p0.snap, p1.snap, p2.snap, some (.int j), some (TT (nth w j)), some (I (szs w)), p6.snap, some (Gm (szs (tw w j)) (gRows (tw w j) k)), some (Gm (szs w) (gRows w k)), some (I c), some (.int (plc 0 (szs (tw w j)) c)), some (.int (plc 0 (szs (tw w j)) (c.set j.toNat ((nth w j).length : Int)))), none, none] ((gRows w k).map I) u = .ok ((col w k c).map .int) u := by
        have e1 : lcGo (gName 13) mTrue (mIx (mVar 13) (mCall F__law_at (mCons (mVar 5) (mCons (mVar 9) mNil)))) [p0.snap, p1.snap, p2.snap, some (.int j), some (TT (nth w j)), some (I (szs w)), p6.snap, some (Gm (szs (tw w j)) (gRows (tw w j) k)), some (Gm (szs w) (gRows w k)), some (I c), some (.int (plc 0 (szs (tw w j)) c)), some (.int (plc 0 (szs (tw w j)) (c.set j.toNat ((nth w j).length : Int)))), none, none] ((gRows w k).map I) u = .ok ((gRows w k).map fun q => .int (nth q (plc 0 (szs w) c))) u := by
          refine lcGo_mapT _ fun q hq => ⟨_, rfl, rfl, ?_⟩
          have hl := (gRows_ok h).row q hq
          have a := atI_nth (f := D.int) (l := q) (k := plc 0 (szs w) c) b.1 (by omega)
          simp [d4, ixD_tup, a]
        have e2 : lcGo (gName 13) mTrue (mIx (mVar 13) (mVar 10)) [none, none, none, none, none, none, none, none, none, none, some (.int (plc 0 (szs w) c)), none, none, none] ((gRows w k).map I) u = .ok ((gRows w k).map fun q => .int (nth q (plc 0 (szs w) c))) u := by
          refine lcGo_mapT _ fun q hq => ⟨_, rfl, rfl, ?_⟩
          have hl := (gRows_ok h).row q hq
          have a := atI_nth (f := D.int) (l := q) (k := plc 0 (szs w) c) b.1 (by omega)
          simp [ixD_tup, a]
        have e3 := col_go h v (ρ := [none, none, none, none, none, none, none, none, none, none, some (.int (plc 0 (szs w) c)), none, none, none]) (j := 10) (fun d => rfl) (fun d => rfl) u
        rw [e1, ← e2, e3]
      rw [c1] at g1
      rw [c2] at g2
      have nn := ne_self (col w k c)
      rw [List.map_cons]
      refine (forGo_nx (Γ1 := [p0, p1, p2, .val (.int j), .val (TT (nth w j)), .val (I (szs w)), p6, .val (Gm (szs (tw w j)) (gRows (tw w j) k)), .val (Gm (szs w) (gRows w k)), .val (I c), s10, s11, .no, .no]) rfl ?_).trans e
      simp [ixD_tup, a0, hz, opEq, at0, at1, d1, d2, d3, g1, g2, g3, nn]
    · obtain ⟨r9, r10, r11, e⟩ := more_loop h h0 h1 h2 p0 p1 p2 p6 u cs (.val (I c)) s10 s11 fun x hx => hc x (List.mem_cons_of_mem _ hx)
      refine ⟨r9, r10, r11, ?_⟩
      rw [List.map_cons]
      refine (forGo_nx (Γ1 := [p0, p1, p2, .val (.int j), .val (TT (nth w j)), .val (I (szs w)), p6, .val (Gm (szs (tw w j)) (gRows (tw w j) k)), .val (Gm (szs w) (gRows w k)), .val (I c), s10, s11, .no, .no]) rfl ?_).trans e
      simp [ixD_tup, a0, hz, opEq]
end K51
namespace K51
open Dn
theorem TTT_tw (w : List (List (List Int))) {j : Int} (h0 : 0 ≤ j) (h1 : j < w.length) : TTT (tw w j) = .tup (((w.take j.toNat).map TT ++ [.tup ((nth w j).map I ++ ((nth w j).take 1).map I)]) ++ (w.drop (j.toNat + 1)).map TT) := by
  unfold TTT tw
  rw [List.set_eq_take_append_cons_drop, if_pos (by omega), List.map_append, List.map_cons, List.append_assoc, List.singleton_append]
  unfold TT
  rw [List.map_append]
theorem opAdd_tup {a b : List D} (h : a.length + b.length ≤ LN) : opAdd (.tup a) (.tup b) = some (.tup (a ++ b)) := by
  show (if a.length + b.length ≤ LN then some (D.tup (a ++ b)) else none) = _
  rw [if_pos h]
theorem LN_ge {n : Nat} (h : n ≤ 10000) : n ≤ LN := by rw [LN_eq]; omega
theorem more_right_I {u : Urn} (hu : Good u) {w : List (List (List Int))} {k : List (List Int)} (h : CwOk w k) (hk : k.length ≤ 5) : ∃ u', F__law_more_right [.urn, Cw w k] u = .ok (.bl true) u' ∧ Good u' := by
  have hwl := h.wl
  obtain ⟨x, u1, e1, g1, f1⟩ := lcGo_draw (α := Int) (g := gName 4) (c := mTrue) (elt := mCall F__law_nip (mCons (mVar 0) (mCons (mLit (.int 99)) mNil)))
    (ρ := [some .urn, some (Cw w k), none, none, none, none, none, none, none, none, none, none, none, none]) (G := Good) (enc := .int) (R := fun _ _ => True) (ds := w.map TT) hu fun d hd u hu => by
    obtain ⟨i, u', e, g, _, _⟩ := nip_I hu (m := 99) (by decide)
    exact ⟨_, rfl, rfl, i, u', by simp [e], g, trivial⟩
  have hx : x.length = w.length := by rw [f1.len, List.length_map]
  have hm := h.more hx hk
  have cm : F_crowd_game [Cw w (k ++ [x])] u1 = .ok (Gm (szs w) (gRows w k)) u1 := by rw [crowd_game_I hm u1, gRows_more h x]
  have cg := crowd_game_I h
  have sm := same_Gm (szs w) (gRows w k) u1
  obtain ⟨j, u2, e4, g2, j0, j1⟩ := nip_I g1 (m := w.length) (by omega)
  obtain ⟨b, e5, hb⟩ := law_is_crowd_I (pre_tw h j0 j1) u2
  have lk : k.length + 1 ≤ LN := LN_ge (by omega)
  -- statement by statement
  have s1 : (sSet 2 (mTup (mCons (mIx (mVar 1) (mLit (.int 0))) (mCons (mBin opAdd (mIx (mVar 1) (mLit (.int 1))) (mTup (mCons (mB fTuple (mCons (mLc (iSeq (mIx (mVar 1) (mLit (.int 0)))) (gName 4) mTrue (mCall F__law_nip (mCons (mVar 0) (mCons (mLit (.int 99)) mNil))) [4]) mNil)) mNil))) mNil)))) [.val .urn, .val (Cw w k), .no, .no, .no, .no, .no, .no, .no, .no, .no, .no, .no, .no] u
      = .nx [.val .urn, .val (Cw w k), .val (Cw w (k ++ [x])), .no, .no, .no, .no, .no, .no, .no, .no, .no, .no, .no] u1 := by
    simp [ixD_tup, at0, at1, e1, lk]
  have s2 : (sIf (mNot (mCall F__law_same (mCons (mCall F_crowd_game (mCons (mVar 2) mNil)) (mCons (mCall F_crowd_game (mCons (mVar 1) mNil)) mNil)))) (sRet (mLit (.bl false))) sNop) [.val .urn, .val (Cw w k), .val (Cw w (k ++ [x])), .no, .no, .no, .no, .no, .no, .no, .no, .no, .no, .no] u1
      = .nx [.val .urn, .val (Cw w k), .val (Cw w (k ++ [x])), .no, .no, .no, .no, .no, .no, .no, .no, .no, .no, .no] u1 := by
    simp [cm, cg, sm]
  have s3 : (sSet 3 (mCall F__law_nip (mCons (mVar 0) (mCons (mB fLen (mCons (mIx (mVar 1) (mLit (.int 0))) mNil)) mNil)))) [.val .urn, .val (Cw w k), .val (Cw w (k ++ [x])), .no, .no, .no, .no, .no, .no, .no, .no, .no, .no, .no] u1
      = .nx [.val .urn, .val (Cw w k), .val (Cw w (k ++ [x])), .val (.int j), .no, .no, .no, .no, .no, .no, .no, .no, .no, .no] u2 := by
    simp [ixD_tup, at0, e4]
  have a1 := atI_nth (f := TT) (l := w) j0 j1
  have s4 : (sSet 4 (mIx (mIx (mVar 1) (mLit (.int 0))) (mVar 3))) [.val .urn, .val (Cw w k), .val (Cw w (k ++ [x])), .val (.int j), .no, .no, .no, .no, .no, .no, .no, .no, .no, .no] u2
      = .nx [.val .urn, .val (Cw w k), .val (Cw w (k ++ [x])), .val (.int j), .val (TT (nth w j)), .no, .no, .no, .no, .no, .no, .no, .no, .no] u2 := by
    simp [ixD_tup, at0, a1]
  have e6 : lcGo (gName 12) mTrue (mB fLen (mCons (mVar 12) mNil)) [some .urn, some (Cw w k), some (Cw w (k ++ [x])), some (.int j), some (TT (nth w j)), none, none, none, none, none, none, none, none, none] (w.map TT) u2 = .ok (w.map fun y => .int (y.length : Int)) u2 := lcGo_mapT _ fun y _ => ⟨_, rfl, rfl, by simp⟩
  have e7 : (D.tup (w.map fun y => .int (y.length : Int))) = I (szs w) := by unfold szs I; rw [List.map_map]; rfl
  have s5 : (sSet 5 (mB fTuple (mCons (mLc (iSeq (mIx (mVar 1) (mLit (.int 0)))) (gName 12) mTrue (mB fLen (mCons (mVar 12) mNil)) [12]) mNil))) [.val .urn, .val (Cw w k), .val (Cw w (k ++ [x])), .val (.int j), .val (TT (nth w j)), .no, .no, .no, .no, .no, .no, .no, .no, .no] u2
      = .nx [.val .urn, .val (Cw w k), .val (Cw w (k ++ [x])), .val (.int j), .val (TT (nth w j)), .val (I (szs w)), .no, .no, .no, .no, .no, .no, .no, .no] u2 := by
    rw [← e7]
    simp only [sSet_eq, mB_eq, mCons_eq, mNil_eq, mLc_eq, iSeq_eq, mIx_eq, mVar_eq, mLit_eq, hideE, List.map_cons, List.map_nil, hide_val, hide_no, Dn.get, List.getElem?_cons_succ, List.getElem?_cons_zero, lift_some, Out.bind_ok, ixU_tup, ixD_tup, at0, items, wipeE, List.set_cons_succ, List.set_cons_zero, e6, Out.calm_ok, fTuple_lst, thenS_ok]
  have hel := h.el _ (nth_mem j0 j1)
  have c1 : cut (w.map TT) none (some j) = (w.take j.toNat).map TT := by rw [cut_take _ j0 (by rw [List.length_map]; omega), List.map_take]
  have c2 : cut (w.map TT) (some (j + 1)) none = (w.drop (j.toNat + 1)).map TT := by
    rw [cut_drop _ (by omega) (by rw [List.length_map]; omega), List.map_drop]
    congr 1
    omega
  have c3 : cut ((nth w j).map I) none (some 1) = ((nth w j).take 1).map I := by
    rw [cut_take _ (by decide) (by rw [List.length_map]; omega), List.map_take]
    rfl
  have o1 : opAdd (TT (nth w j)) (.tup (((nth w j).take 1).map I)) = some (.tup ((nth w j).map I ++ ((nth w j).take 1).map I)) := by
    exact opAdd_tup (LN_ge (by rw [List.length_map, List.length_map, List.length_take]; omega))
  have o2 : opAdd (.tup ((w.take j.toNat).map TT)) (.tup [.tup ((nth w j).map I ++ ((nth w j).take 1).map I)]) = some (.tup ((w.take j.toNat).map TT ++ [.tup ((nth w j).map I ++ ((nth w j).take 1).map I)])) := by
    exact opAdd_tup (LN_ge (by rw [List.length_map, List.length_take, List.length_singleton]; omega))
  have o3 : opAdd (.tup ((w.take j.toNat).map TT ++ [.tup ((nth w j).map I ++ ((nth w j).take 1).map I)])) (.tup ((w.drop (j.toNat + 1)).map TT)) = some (TTT (tw w j)) := by
    rw [TTT_tw w j0 j1]
    exact opAdd_tup (LN_ge (by rw [List.length_append, List.length_map, List.length_take, List.length_singleton, List.length_map, List.length_drop]; omega))
  have s6 : (sSet 6 (mTup (mCons (mBin opAdd (mBin opAdd (mSl (mIx (mVar 1) (mLit (.int 0))) oNo (oYes (mVar 3))) (mTup (mCons (mBin opAdd (mVar 4) (mSl (mVar 4) oNo (oYes (mLit (.int 1))))) mNil))) (mSl (mIx (mVar 1) (mLit (.int 0))) (oYes (mBin opAdd (mVar 3) (mLit (.int 1)))) oNo)) (mCons (mIx (mVar 1) (mLit (.int 1))) mNil)))) [.val .urn, .val (Cw w k), .val (Cw w (k ++ [x])), .val (.int j), .val (TT (nth w j)), .val (I (szs w)), .no, .no, .no, .no, .no, .no, .no, .no] u2
      = .nx [.val .urn, .val (Cw w k), .val (Cw w (k ++ [x])), .val (.int j), .val (TT (nth w j)), .val (I (szs w)), .val (Cw (tw w j) k), .no, .no, .no, .no, .no, .no, .no] u2 := by
    have oi : opAdd (.int j) (.int 1) = some (.int (j + 1)) := rfl
    simp only [sSet_eq, mTup_eq, mBin_eq, mSl_eq, oNo_eq, oYes_eq, mCons_eq, mNil_eq, mIx_eq, mVar_eq, mLit_eq, hideE, List.map_cons, List.map_nil, hide_val, hide_no, Dn.get, List.getElem?_cons_succ, List.getElem?_cons_zero, lift_some, Out.bind_ok, ixU_tup, ixD_tup, at0, at1, slD, c1, c2, c3, o1, o2, oi, o3, thenS_ok, List.set_cons_succ, List.set_cons_zero]
  have e0 : startE 14 [.urn, Cw w k] = [.val .urn, .val (Cw w k), .no, .no, .no, .no, .no, .no, .no, .no, .no, .no, .no, .no] := rfl
  refine ⟨u2, ?_, g2⟩
  unfold F__law_more_right d__law_more_right
  rw [fn_eq, if_pos (show [D.urn, Cw w k].length = 2 from rfl), e0, sSeq_eq, s1, SOut.andThen_nx, sSeq_eq, s2, SOut.andThen_nx, sSeq_eq, s3, SOut.andThen_nx, sSeq_eq, s4, SOut.andThen_nx, sSeq_eq, s5, SOut.andThen_nx, sSeq_eq, s6, SOut.andThen_nx, sSeq_eq]
  cases b with
  | false =>
    simp [e5]
  | true =>
    have h2 := hb rfl
    have cg2 := crowd_game_I h2 u2
    have cg1 := cg u2
    obtain ⟨r9, r10, r11, e8⟩ := more_loop h j0 j1 h2 (.val .urn) (.val (Cw w k)) (.val (Cw w (k ++ [x]))) (.val (Cw (tw w j) k)) u2 (rows (szs w)) .no .no .no fun c hc => mem_rows.mp hc
    have la := law_all_I h.sz u2
    simp [e5, cg2, cg1, la, e8]
theorem ten_loop : ∀ (ds : List D) (s1 s2 : Slot) (u : Urn), Good u → ∃ s1' s2' u', forGo (hName 1) (sSeq (sSet 2 (mCall F__law_any_crowd (mCons (mVar 0) mNil))) (sIf (mOr (mNot (mCall F__law_is_told (mCons (mVar 0) (mCons (mVar 2) mNil)))) (mNot (mCall F__law_more_right (mCons (mVar 0) (mCons (mVar 2) mNil))))) (sRet (mLit (.bl false))) sNop)) ds [.val .urn, s1, s2] u = .nx [.val .urn, s1', s2'] u' ∧ Good u'
  | [], s1, s2, u, hu => ⟨s1, s2, u, rfl, hu⟩
  | d :: ds, s1, s2, u, hu => by
    obtain ⟨w, k, u1, e1, g1, h, hk⟩ := any_crowd_I hu
    obtain ⟨u2, e2, g2⟩ := is_told_I g1 h
    obtain ⟨u3, e3, g3⟩ := more_right_I g2 h hk
    obtain ⟨t1, t2, u', e, g⟩ := ten_loop ds (.val d) (.val (Cw w k)) u3 g3
    refine ⟨t1, t2, u', ?_, g⟩
    refine (forGo_nx (Γ1 := [.val .urn, .val d, s2]) rfl ?_).trans e
    simp [e1, e2, e3]
theorem last_ok : CwOk [[[0], [1]], [[0], [1]]] [[1, 3], [2, 2]] := by
  refine ⟨⟨by decide, by decide, by decide⟩, by decide, by decide, by decide, by decide, fun x hx y hy => ?_⟩
  simp only [List.mem_cons, List.not_mem_nil, or_false, or_self] at hx
  subst hx
  simp only [List.mem_cons, List.not_mem_nil, or_false] at hy
  rcases hy with e | e <;> (subst e; exact ⟨by unfold Asc; simp, by decide⟩)
theorem law_right_I {u : Urn} (hu : Good u) : ∃ u', F__law_right [.urn] u = .ok (.bl true) u' := by
  obtain ⟨s1, s2, u1, e1, g1⟩ := ten_loop (rng 0 10) .no .no u hu
  have cg := crowd_game_I last_ok u1
  have us := users_I last_ok (c := [0, 0]) (by simp [Vd, szs]) u1
  have v0 : szs [[[0], [1]], [[0], [1]]] = [2, 2] := by decide
  have v1 : gRows [[[0], [1]], [[0], [1]]] [[1, 3], [2, 2]] = [[-3, -1, -2, -2], [-3, -2, -1, -2]] := by decide
  have v2 : usr ([[1, 3], [2, 2]] : List (List Int)).length (tkn [[[0], [1]], [[0], [1]]] [0, 0]) = [2, 0] := by decide
  rw [v0, v1] at cg
  rw [v2] at us
  have pl : Pl 9 (.tup [Gm [2, 2] [[-3, -1, -2, -2], [-3, -2, -1, -2]], I [2, 0]]) := fun d hd => by
    simp only [List.mem_cons, List.not_mem_nil, or_false] at hd
    rcases hd with e | e
    · rw [e]; exact Pl_Gm 5 _ _
    · rw [e]; exact Pl_I 7 _
  have sm := same_of pl u1
  refine ⟨u1, ?_⟩
  have hok : rOk 0 10 = true := rfl
  have cg' : F_crowd_game [.tup [.tup [.tup [.tup [.int 0], .tup [.int 1]], .tup [.tup [.int 0], .tup [.int 1]]], .tup [.tup [.int 1, .int 3], .tup [.int 2, .int 2]]]] u1 = .ok (.tup [.tup [.int 2, .int 2], .tup [.tup [.int (-3), .int (-1), .int (-2), .int (-2)], .tup [.int (-3), .int (-2), .int (-1), .int (-2)]]]) u1 := cg
  have us' : F_users [.tup [.tup [.tup [.tup [.int 0], .tup [.int 1]], .tup [.tup [.int 0], .tup [.int 1]]], .tup [.tup [.int 1, .int 3], .tup [.int 2, .int 2]]], .tup [.int 0, .int 0]] u1 = .ok (.tup [.int 2, .int 0]) u1 := us
  have sm' : F__law_same [.tup [.tup [.tup [.int 2, .int 2], .tup [.tup [.int (-3), .int (-1), .int (-2), .int (-2)], .tup [.int (-3), .int (-2), .int (-1), .int (-2)]]], .tup [.int 2, .int 0]], .tup [.tup [.tup [.int 2, .int 2], .tup [.tup [.int (-3), .int (-1), .int (-2), .int (-2)], .tup [.int (-3), .int (-2), .int (-1), .int (-2)]]], .tup [.int 2, .int 0]]] u1 = .ok (.bl true) u1 := sm
  simp [F__law_right, d__law_right, hok, e1, cg', us', sm']
theorem law_true : ∀ ns : List Int, ns.length ≤ 63 → (∀ z ∈ ns, True) → ∃ u, F_law [.scr ns] [] = .ok (.bl true) u := by
  intro ns _ _
  have key : ∀ lap : Int, 0 ≤ lap → lap ≤ 1 → ∀ x : Option D, (mCallU F__law_right (mCall F__law_urn (mCons (mVar 0) (mCons (mVar 1) mNil)))) [some (.scr ns), some (.int lap)] [] = .ok (.bl true) [] := fun lap h0 h1 _ => by
    obtain ⟨a, b, e1, g⟩ := law_urn_I ns h0 h1 []
    obtain ⟨u', e2⟩ := law_right_I g
    simp only [mCallU_eq, mCall_eq, mCons_eq, mNil_eq, mVar_eq, Dn.get, List.getElem?_cons_succ, List.getElem?_cons_zero, lift_some, Out.bind_ok, e1]
    simp [isInts, toInts, e2]
  have e : lcGo (gName 1) mTrue (mCallU F__law_right (mCall F__law_urn (mCons (mVar 0) (mCons (mVar 1) mNil)))) [some (.scr ns), none] ((rngI 2).map .int) [] = .ok ((rngI 2).map fun _ => .bl true) [] := by
    refine lcGo_mapT _ fun j hj => ⟨[some (.scr ns), some (.int j)], rfl, rfl, ?_⟩
    have := mem_rngI.mp hj
    exact key j this.1 (by omega) none
  refine ⟨[], ?_⟩
  have hok : rOk 0 2 = true := rfl
  simp [F_law, d_law, hok, rng_I, e, all_true]
end K51
namespace K51
open PySem PySem.Spec PyProof.Rows L2 Dn

def topS (i : Nat) : Stmt := PySem.Challenge.pw_restchoices_k51_whole_games_of_crowds.main.body.getD i (.Pass ⟨0, 0, 0, 0⟩)
abbrev s_is_whole : Stmt := topS 7
theorem sc_is_whole : FnScope ["value"] ["value"] (defScope s_is_whole) := ⟨rfl, rfl, rfl, by decide +kernel, rfl, by decide +kernel, by decide +kernel⟩
abbrev s_is_between : Stmt := topS 8
theorem sc_is_between : FnScope ["value", "low", "high"] ["value", "low", "high"] (defScope s_is_between) := ⟨rfl, rfl, rfl, by decide +kernel, rfl, by decide +kernel, by decide +kernel⟩
abbrev s_is_tuple_of : Stmt := topS 9
theorem sc_is_tuple_of : FnScope ["value", "many"] ["value", "many"] (defScope s_is_tuple_of) := ⟨rfl, rfl, rfl, by decide +kernel, rfl, by decide +kernel, by decide +kernel⟩
abbrev s_are_rising : Stmt := topS 10
theorem sc_are_rising : FnScope ["value", "index"] ["value"] (defScope s_are_rising) := ⟨rfl, rfl, rfl, by decide +kernel, rfl, by decide +kernel, by decide +kernel⟩
abbrev s_count_of : Stmt := topS 17
theorem sc_count_of : FnScope ["sizes", "found", "size"] ["sizes"] (defScope s_count_of) := ⟨rfl, rfl, rfl, by decide +kernel, rfl, by decide +kernel, by decide +kernel⟩
abbrev s_are_sizes : Stmt := topS 18
theorem sc_are_sizes : FnScope ["value", "each"] ["value"] (defScope s_are_sizes) := ⟨rfl, rfl, rfl, by decide +kernel, rfl, by decide +kernel, by decide +kernel⟩
abbrev s_rows_of : Stmt := topS 19
theorem sc_rows_of : FnScope ["sizes", "found", "size", "row", "deed"] ["sizes"] (defScope s_rows_of) := ⟨rfl, rfl, rfl, by decide +kernel, rfl, by decide +kernel, by decide +kernel⟩
abbrev s_place_in : Stmt := topS 20
theorem sc_place_in : FnScope ["sizes", "row", "found", "size", "deed"] ["sizes", "row"] (defScope s_place_in) := ⟨rfl, rfl, rfl, by decide +kernel, rfl, by decide +kernel, by decide +kernel⟩
abbrev s_is_gain_row : Stmt := topS 21
theorem sc_is_gain_row : FnScope ["value", "many", "each"] ["value", "many"] (defScope s_is_gain_row) := ⟨rfl, rfl, rfl, by decide +kernel, rfl, by decide +kernel, by decide +kernel⟩
abbrev s_is_game_by : Stmt := topS 22
theorem sc_is_game_by : FnScope ["value", "many", "each"] ["value"] (defScope s_is_game_by) := ⟨rfl, rfl, rfl, by decide +kernel, rfl, by decide +kernel, by decide +kernel⟩
abbrev s_choosers_by : Stmt := topS 23
theorem sc_choosers_by : FnScope ["game"] ["game"] (defScope s_choosers_by) := ⟨rfl, rfl, rfl, by decide +kernel, rfl, by decide +kernel, by decide +kernel⟩
abbrev s_is_choice : Stmt := topS 24
theorem sc_is_choice : FnScope ["game", "value", "deed", "size"] ["game", "value"] (defScope s_is_choice) := ⟨rfl, rfl, rfl, by decide +kernel, rfl, by decide +kernel, by decide +kernel⟩
abbrev s_is_chooser : Stmt := topS 25
theorem sc_is_chooser : FnScope ["game", "value"] ["game", "value"] (defScope s_is_chooser) := ⟨rfl, rfl, rfl, by decide +kernel, rfl, by decide +kernel, by decide +kernel⟩
abbrev s_place_of : Stmt := topS 26
theorem sc_place_of : FnScope ["game", "choice"] ["game", "choice"] (defScope s_place_of) := ⟨rfl, rfl, rfl, by decide +kernel, rfl, by decide +kernel, by decide +kernel⟩
abbrev s_gain_by : Stmt := topS 27
theorem sc_gain_by : FnScope ["game", "chooser", "choice"] ["game", "chooser", "choice"] (defScope s_gain_by) := ⟨rfl, rfl, rfl, by decide +kernel, rfl, by decide +kernel, by decide +kernel⟩
abbrev s_check_game : Stmt := topS 29
theorem sc_check_game : FnScope ["value"] ["value"] (defScope s_check_game) := ⟨rfl, rfl, rfl, by decide +kernel, rfl, by decide +kernel, by decide +kernel⟩
abbrev s_check_choice : Stmt := topS 30
theorem sc_check_choice : FnScope ["game", "value"] ["game", "value"] (defScope s_check_choice) := ⟨rfl, rfl, rfl, by decide +kernel, rfl, by decide +kernel, by decide +kernel⟩
abbrev s_check_chooser : Stmt := topS 31
theorem sc_check_chooser : FnScope ["game", "value"] ["game", "value"] (defScope s_check_chooser) := ⟨rfl, rfl, rfl, by decide +kernel, rfl, by decide +kernel, by decide +kernel⟩
abbrev s_is_way : Stmt := topS 36
theorem sc_is_way : FnScope ["value", "roads", "each"] ["value", "roads"] (defScope s_is_way) := ⟨rfl, rfl, rfl, by decide +kernel, rfl, by decide +kernel, by decide +kernel⟩
abbrev s_are_ways : Stmt := topS 37
theorem sc_are_ways : FnScope ["value", "roads", "each"] ["value", "roads"] (defScope s_are_ways) := ⟨rfl, rfl, rfl, by decide +kernel, rfl, by decide +kernel, by decide +kernel⟩
abbrev s_are_costs : Stmt := topS 38
theorem sc_are_costs : FnScope ["value", "many", "each"] ["value", "many"] (defScope s_are_costs) := ⟨rfl, rfl, rfl, by decide +kernel, rfl, by decide +kernel, by decide +kernel⟩
abbrev s_sizes_of_crowd : Stmt := topS 40
theorem sc_sizes_of_crowd : FnScope ["crowd", "ways"] ["crowd"] (defScope s_sizes_of_crowd) := ⟨rfl, rfl, rfl, by decide +kernel, rfl, by decide +kernel, by decide +kernel⟩
abbrev s_is_crowd_by : Stmt := topS 39
theorem sc_is_crowd_by : FnScope ["value", "each"] ["value"] (defScope s_is_crowd_by) := ⟨rfl, rfl, rfl, by decide +kernel, rfl, by decide +kernel, by decide +kernel⟩
abbrev s_ways_taken : Stmt := topS 41
theorem sc_ways_taken : FnScope ["crowd", "choice", "chooser", "deed"] ["crowd", "choice"] (defScope s_ways_taken) := ⟨rfl, rfl, rfl, by decide +kernel, rfl, by decide +kernel, by decide +kernel⟩
abbrev s_users_by : Stmt := topS 42
theorem sc_users_by : FnScope ["crowd", "choice", "found", "way", "road", "_"] ["crowd", "choice"] (defScope s_users_by) := ⟨rfl, rfl, rfl, by decide +kernel, rfl, by decide +kernel, by decide +kernel⟩
abbrev s_gain_of_way : Stmt := topS 43
theorem sc_gain_of_way : FnScope ["crowd", "users", "way", "road"] ["crowd", "users", "way"] (defScope s_gain_of_way) := ⟨rfl, rfl, rfl, by decide +kernel, rfl, by decide +kernel, by decide +kernel⟩
abbrev s_gains_in_crowd : Stmt := topS 44
theorem sc_gains_in_crowd : FnScope ["crowd", "choice", "users", "way"] ["crowd", "choice"] (defScope s_gains_in_crowd) := ⟨rfl, rfl, rfl, by decide +kernel, rfl, by decide +kernel, by decide +kernel⟩
abbrev s_crowd_game_by : Stmt := topS 45
theorem sc_crowd_game_by : FnScope ["crowd", "sizes", "gains", "choice", "chooser", "row"] ["crowd"] (defScope s_crowd_game_by) := ⟨rfl, rfl, rfl, by decide +kernel, rfl, by decide +kernel, by decide +kernel⟩
abbrev s_is_crowd_choice : Stmt := topS 46
theorem sc_is_crowd_choice : FnScope ["crowd", "value", "sizes", "deed", "size"] ["crowd", "value"] (defScope s_is_crowd_choice) := ⟨rfl, rfl, rfl, by decide +kernel, rfl, by decide +kernel, by decide +kernel⟩
abbrev s_check_crowd : Stmt := topS 48
theorem sc_check_crowd : FnScope ["value"] ["value"] (defScope s_check_crowd) := ⟨rfl, rfl, rfl, by decide +kernel, rfl, by decide +kernel, by decide +kernel⟩
abbrev s_check_crowd_choice : Stmt := topS 49
theorem sc_check_crowd_choice : FnScope ["crowd", "value"] ["crowd", "value"] (defScope s_check_crowd_choice) := ⟨rfl, rfl, rfl, by decide +kernel, rfl, by decide +kernel, by decide +kernel⟩
abbrev s_crowd_game : Stmt := topS 50
theorem sc_crowd_game : FnScope ["crowd"] ["crowd"] (defScope s_crowd_game) := ⟨rfl, rfl, rfl, by decide +kernel, rfl, by decide +kernel, by decide +kernel⟩
abbrev s_users : Stmt := topS 51
theorem sc_users : FnScope ["crowd", "choice"] ["crowd", "choice"] (defScope s_users) := ⟨rfl, rfl, rfl, by decide +kernel, rfl, by decide +kernel, by decide +kernel⟩
abbrev s_is_game : Stmt := topS 53
theorem sc_is_game : FnScope ["value"] ["value"] (defScope s_is_game) := ⟨rfl, rfl, rfl, by decide +kernel, rfl, by decide +kernel, by decide +kernel⟩
abbrev s_gain : Stmt := topS 54
theorem sc_gain : FnScope ["game", "chooser", "choice"] ["game", "chooser", "choice"] (defScope s_gain) := ⟨rfl, rfl, rfl, by decide +kernel, rfl, by decide +kernel, by decide +kernel⟩
abbrev s__law_urn : Stmt := topS 56
theorem sc__law_urn : FnScope ["script", "lap", "own", "stir", "each"] ["script", "lap"] (defScope s__law_urn) := ⟨rfl, rfl, rfl, by decide +kernel, rfl, by decide +kernel, by decide +kernel⟩
abbrev s__law_nip : Stmt := topS 57
theorem sc__law_nip : FnScope ["urn", "many", "found", "lap"] ["urn", "many"] (defScope s__law_nip) := ⟨rfl, rfl, rfl, by decide +kernel, rfl, by decide +kernel, by decide +kernel⟩
abbrev s__law_any_of : Stmt := topS 58
theorem sc__law_any_of : FnScope ["urn", "some"] ["urn", "some"] (defScope s__law_any_of) := ⟨rfl, rfl, rfl, by decide +kernel, rfl, by decide +kernel, by decide +kernel⟩
abbrev s__law_is_whole : Stmt := topS 59
theorem sc__law_is_whole : FnScope ["value"] ["value"] (defScope s__law_is_whole) := ⟨rfl, rfl, rfl, by decide +kernel, rfl, by decide +kernel, by decide +kernel⟩
abbrev s__law_is_up_to : Stmt := topS 60
theorem sc__law_is_up_to : FnScope ["value", "most"] ["value", "most"] (defScope s__law_is_up_to) := ⟨rfl, rfl, rfl, by decide +kernel, rfl, by decide +kernel, by decide +kernel⟩
abbrev s__law_same : Stmt := topS 61
theorem sc__law_same : FnScope ["one", "two", "a", "b"] ["one", "two"] (defScope s__law_same) := ⟨rfl, rfl, rfl, by decide +kernel, rfl, by decide +kernel, by decide +kernel⟩
abbrev s__law_some : Stmt := topS 62
theorem sc__law_some : FnScope ["urn", "things", "share", "thing"] ["urn", "things", "share"] (defScope s__law_some) := ⟨rfl, rfl, rfl, by decide +kernel, rfl, by decide +kernel, by decide +kernel⟩
abbrev s__law_all : Stmt := topS 63
theorem sc__law_all : FnScope ["sizes", "found", "size", "row", "deed"] ["sizes"] (defScope s__law_all) := ⟨rfl, rfl, rfl, by decide +kernel, rfl, by decide +kernel, by decide +kernel⟩
abbrev s__law_at : Stmt := topS 64
theorem sc__law_at : FnScope ["sizes", "choice", "found", "size", "deed"] ["sizes", "choice"] (defScope s__law_at) := ⟨rfl, rfl, rfl, by decide +kernel, rfl, by decide +kernel, by decide +kernel⟩
abbrev s__law_with : Stmt := topS 65
theorem sc__law_with : FnScope ["choice", "chooser", "deed"] ["choice", "chooser", "deed"] (defScope s__law_with) := ⟨rfl, rfl, rfl, by decide +kernel, rfl, by decide +kernel, by decide +kernel⟩
abbrev s__law_any_sizes : Stmt := topS 66
theorem sc__law_any_sizes : FnScope ["urn", "some"] ["urn"] (defScope s__law_any_sizes) := ⟨rfl, rfl, rfl, by decide +kernel, rfl, by decide +kernel, by decide +kernel⟩
abbrev s__law_is_sizes : Stmt := topS 67
theorem sc__law_is_sizes : FnScope ["value", "least", "product", "each"] ["value", "least"] (defScope s__law_is_sizes) := ⟨rfl, rfl, rfl, by decide +kernel, rfl, by decide +kernel, by decide +kernel⟩
abbrev s__law_crowd_users : Stmt := topS 68
theorem sc__law_crowd_users : FnScope ["crowd", "choice", "found", "ways", "deed", "road"] ["crowd", "choice"] (defScope s__law_crowd_users) := ⟨rfl, rfl, rfl, by decide +kernel, rfl, by decide +kernel, by decide +kernel⟩
abbrev s__law_crowd_game : Stmt := topS 69
theorem sc__law_crowd_game : FnScope ["crowd", "sizes", "rows", "choice", "told", "k", "ways", "size", "road", "row"] ["crowd"] (defScope s__law_crowd_game) := ⟨rfl, rfl, rfl, by decide +kernel, rfl, by decide +kernel, by decide +kernel⟩
abbrev s__law_any_crowd : Stmt := topS 70
theorem sc__law_any_crowd : FnScope ["urn", "sizes", "roads", "high", "ways", "size", "deed", "road", "k"] ["urn"] (defScope s__law_any_crowd) := ⟨rfl, rfl, rfl, by decide +kernel, rfl, by decide +kernel, by decide +kernel⟩
abbrev s__law_is_crowd : Stmt := topS 71
theorem sc__law_is_crowd : FnScope ["value", "row", "ways", "way", "each", "road", "k"] ["value"] (defScope s__law_is_crowd) := ⟨rfl, rfl, rfl, by decide +kernel, rfl, by decide +kernel, by decide +kernel⟩
abbrev s__law_gain : Stmt := topS 72
theorem sc__law_gain : FnScope ["crowd", "choice", "chooser", "found", "road", "number", "ways", "deed"] ["crowd", "choice", "chooser"] (defScope s__law_gain) := ⟨rfl, rfl, rfl, by decide +kernel, rfl, by decide +kernel, by decide +kernel⟩
abbrev s__law_is_told : Stmt := topS 73
theorem sc__law_is_told : FnScope ["urn", "crowd", "told", "choice", "some", "chooser", "lap"] ["urn", "crowd"] (defScope s__law_is_told) := ⟨rfl, rfl, rfl, by decide +kernel, rfl, by decide +kernel, by decide +kernel⟩
abbrev s__law_more_right : Stmt := topS 74
theorem sc__law_more_right : FnScope ["urn", "crowd", "more", "chooser", "ways", "sizes", "twice", "told", "first", "choice", "here", "there", "each", "row"] ["urn", "crowd"] (defScope s__law_more_right) := ⟨rfl, rfl, rfl, by decide +kernel, rfl, by decide +kernel, by decide +kernel⟩
abbrev s__law_right : Stmt := topS 75
theorem sc__law_right : FnScope ["urn", "lap", "crowd"] ["urn"] (defScope s__law_right) := ⟨rfl, rfl, rfl, by decide +kernel, rfl, by decide +kernel, by decide +kernel⟩
abbrev s_law : Stmt := topS 76
theorem sc_law : FnScope ["script", "lap"] ["script"] (defScope s_law) := ⟨rfl, rfl, rfl, by decide +kernel, rfl, by decide +kernel, by decide +kernel⟩
section
variable {P : Program} {w : World} {K : PySem.W.Frag} {mg : Str → Option Value} {base : Heap} {EA : EAT}
theorem ok_is_whole {f : Addr} {fd : FuncData} {k : Nat} (hea : EaOk EA) (F : Fun K "is_whole" "is_whole" s_is_whole f fd) (b_isinstance : mg "isinstance" = none) (b_int : mg "int" = none) (b_bool : mg "bool" = none) :
    FnOk P w K mg base (L2.CX P w) (k + 1) f fd ["value"] (spF K EA 1 (fn 1 1 d_is_whole)) := by
  refine def_ok F sc_is_whole hea rfl (by decide) fun cdv Ar outer s H E A hW hEA hr => ?_
  subst hEA
  exact (ssd_one (sd_ret (ed_and (ed_isTy (by rfl) b_isinstance (by rfl) b_int (by rfl) (ed_var 0 rfl (Or.inl rfl))) (ed_one (ed_not (ed_isTy (by rfl) b_isinstance (by rfl) b_bool (by rfl) (ed_var 0 rfl (Or.inl rfl))))))))
theorem ok_is_between {f : Addr} {fd : FuncData} {k : Nat} (hea : EaOk EA) (F : Fun K "is_between" "is_between" s_is_between f fd) (k_is_whole : Cal P w K mg base EA "is_whole" ["value"] k F_is_whole) :
    FnOk P w K mg base (L2.CX P w) (k + 1) f fd ["value", "low", "high"] (spF K EA 3 (fn 3 3 d_is_between)) := by
  refine def_ok F sc_is_between hea rfl (by decide) fun cdv Ar outer s H E A hW hEA hr => ?_
  subst hEA
  have hx : Passes (L2.CX P w) (cxOf (L2.CX P w) P w K mg base ["value", "low", "high"] "is_between" (defScope s_is_between) f cdv Ar outer s H E) A.g.W := by subst hW; exact passes_call (takes_of rfl rfl rfl rfl) (fun _ _ _ _ h => h)
  exact (ssd_one (sd_ret (ed_and (ed_call k_is_whole hr hx (by rfl) (ad_cons (ed_var 0 rfl (Or.inl rfl)) ad_nil)) (ed_one (ed_chain2 od_le od_le (ed_var 1 rfl (Or.inl rfl)) (ed_var 0 rfl (Or.inl rfl)) (ed_var 2 rfl (Or.inl rfl)))))))
theorem ok_is_tuple_of {f : Addr} {fd : FuncData} {k : Nat} (hea : EaOk EA) (F : Fun K "is_tuple_of" "is_tuple_of" s_is_tuple_of f fd) (b_isinstance : mg "isinstance" = none) (b_tuple : mg "tuple" = none) (b_len : mg "len" = none) :
    FnOk P w K mg base (L2.CX P w) (k + 1) f fd ["value", "many"] (spF K EA 2 (fn 2 2 d_is_tuple_of)) := by
  refine def_ok F sc_is_tuple_of hea rfl (by decide) fun cdv Ar outer s H E A hW hEA hr => ?_
  subst hEA
  have hU := hr.units
  exact (ssd_one (sd_ret (ed_and (ed_isTy (by rfl) b_isinstance (by rfl) b_tuple (by rfl) (ed_var 0 rfl (Or.inl rfl))) (ed_one (ed_cmp (od_eq hU) (ed_B cd_len (by rfl) b_len boot_len (ad_cons (ed_var 0 rfl (Or.inl rfl)) ad_nil)) (ed_var 1 rfl (Or.inl rfl)))))))
theorem ok_are_rising {f : Addr} {fd : FuncData} {k : Nat} (hea : EaOk EA) (F : Fun K "are_rising" "are_rising" s_are_rising f fd) (b_all : mg "all" = none) (b_range : mg "range" = none) (b_len : mg "len" = none) :
    FnOk P w K mg base (L2.CX P w) (k + 1) f fd ["value"] (spF K EA 1 (fn 2 1 d_are_rising)) := by
  refine def_ok F sc_are_rising hea rfl (by decide) fun cdv Ar outer s H E A hW hEA hr => ?_
  subst hEA
  have hU := hr.units
  have hU0 := hr.units0
  have nd := sc_are_rising.nd
  have hc : (cxOf (L2.CX P w) P w K mg base ["value", "index"] "are_rising" (defScope s_are_rising) f cdv Ar outer s H E).calm = true := rfl
  exact (ssd_one (sd_ret (ed_B (cd_all hc) (by rfl) b_all (by decide +kernel) (ad_cons (FD.ed (fd_lc (own := [("index", 1)]) hc nd (id_rng2 (by rfl) b_range (ad_cons ed_int (ad_cons (ed_B cd_len (by rfl) b_len boot_len (ad_cons (ed_var 0 rfl (Or.inr (Or.inl rfl))) ad_nil)) ad_nil))) (blkOk_by (by kernel_rfl)) (fun _ _ _ _ _ => (gd_name 1 nd rfl (Or.inl rfl))) (fun _ _ _ _ _ => cd_nil) (fun _ _ _ _ _ => (ed_cmp (od_lt hU0) (ed_ix (ed_var 0 rfl (Or.inr (Or.inl rfl))) (ed_op od_sub (ed_var 1 rfl (Or.inl rfl)) ed_int)) (ed_ix (ed_var 0 rfl (Or.inr (Or.inl rfl))) (ed_var 1 rfl (Or.inl rfl))))))) ad_nil))))
theorem ok_count_of {f : Addr} {fd : FuncData} {k : Nat} (hea : EaOk EA) (F : Fun K "count_of" "count_of" s_count_of f fd) :
    FnOk P w K mg base (L2.CX P w) (k + 1) f fd ["sizes"] (spF K EA 1 (fn 3 1 d_count_of)) := by
  refine def_ok F sc_count_of hea rfl (by decide) fun cdv Ar outer s H E A hW hEA hr => ?_
  subst hEA
  have nd := sc_count_of.nd
  have hp : PassesOwn (model P w) _ (cxOf (L2.CX P w) P w K mg base ["sizes", "found", "size"] "count_of" (defScope s_count_of) f cdv Ar outer s H E).env (cxOf (L2.CX P w) P w K mg base ["sizes", "found", "size"] "count_of" (defScope s_count_of) f cdv Ar outer s H E).xe := passes_of rfl
  have hc : (cxOf (L2.CX P w) P w K mg base ["sizes", "found", "size"] "count_of" (defScope s_count_of) f cdv Ar outer s H E).calm = true := rfl
  exact (ssd_cons (sd_set 1 nd rfl (Or.inl rfl) ed_int)
      (ssd_cons (sd_for hp hc (id_seq (ed_var 0 rfl (Or.inl rfl))) (hd_name 2 nd rfl (Or.inl rfl))
      (ssd_one (sd_set 1 nd rfl (Or.inl rfl) (ed_op od_mul (ed_var 1 rfl (Or.inl rfl)) (ed_var 2 rfl (Or.inl rfl))))))
      (ssd_one (sd_ret (ed_var 1 rfl (Or.inl rfl))))))
theorem ok_are_sizes {f : Addr} {fd : FuncData} {k : Nat} (hea : EaOk EA) (F : Fun K "are_sizes" "are_sizes" s_are_sizes f fd) (k_is_between : Cal P w K mg base EA "is_between" ["value", "low", "high"] k F_is_between) (k_count_of : Cal P w K mg base EA "count_of" ["sizes"] k F_count_of) (b_isinstance : mg "isinstance" = none) (b_tuple : mg "tuple" = none) (b_len : mg "len" = none) (b_all : mg "all" = none) {t_MOST_CHOOSERS : Tok} (c_MOST_CHOOSERS : mg "MOST_CHOOSERS" = some (.int 4 t_MOST_CHOOSERS)) {t_MOST_DEEDS : Tok} (c_MOST_DEEDS : mg "MOST_DEEDS" = some (.int 6 t_MOST_DEEDS)) {t_MOST_CHOICES : Tok} (c_MOST_CHOICES : mg "MOST_CHOICES" = some (.int 36 t_MOST_CHOICES)) :
    FnOk P w K mg base (L2.CX P w) (k + 1) f fd ["value"] (spF K EA 1 (fn 2 1 d_are_sizes)) := by
  refine def_ok F sc_are_sizes hea rfl (by decide) fun cdv Ar outer s H E A hW hEA hr => ?_
  subst hEA
  have nd := sc_are_sizes.nd
  have hx : Passes (L2.CX P w) (cxOf (L2.CX P w) P w K mg base ["value", "each"] "are_sizes" (defScope s_are_sizes) f cdv Ar outer s H E) A.g.W := by subst hW; exact passes_call (takes_of rfl rfl rfl rfl) (fun _ _ _ _ h => h)
  have hc : (cxOf (L2.CX P w) P w K mg base ["value", "each"] "are_sizes" (defScope s_are_sizes) f cdv Ar outer s H E).calm = true := rfl
  exact (ssd_cons (sd_if (WD.td (wd_or (td_not (td (ed_isTy (by rfl) b_isinstance (by rfl) b_tuple (by rfl) (ed_var 0 rfl (Or.inl rfl))))) (wd_or1 (td_not (td_chain od_le od_le ed_int (ed_B cd_len (by rfl) b_len boot_len (ad_cons (ed_var 0 rfl (Or.inl rfl)) ad_nil)) (ed_glob (v := .int 4) rfl c_MOST_CHOOSERS ⟨_, rfl⟩ (.int _)))))))
      (ssd_one (sd_ret ed_bl))
      ssd_nil)
      (ssd_one (sd_ret (ed_and (ed_B (cd_all hc) (by rfl) b_all (by decide +kernel) (ad_cons (FD.ed (fd_lc (own := [("each", 1)]) hc nd (id_seq (ed_var 0 rfl (Or.inl rfl))) (blkOk_by (by kernel_rfl)) (fun _ _ _ _ _ => (gd_name 1 nd rfl (Or.inl rfl))) (fun _ _ _ _ _ => cd_nil) (fun _ _ _ _ _ => (ed_call k_is_between hr Dn.passL (by rfl) (ad_cons (ed_var 1 rfl (Or.inl rfl)) (ad_cons ed_int (ad_cons (ed_glob (v := .int 6) rfl c_MOST_DEEDS ⟨_, rfl⟩ (.int _)) ad_nil))))))) ad_nil)) (ed_one (ed_cmp od_le (ed_call k_count_of hr hx (by rfl) (ad_cons (ed_var 0 rfl (Or.inl rfl)) ad_nil)) (ed_glob (v := .int 36) rfl c_MOST_CHOICES ⟨_, rfl⟩ (.int _))))))))
theorem ok_rows_of {f : Addr} {fd : FuncData} {k : Nat} (hea : EaOk EA) (F : Fun K "rows_of" "rows_of" s_rows_of f fd) (b_range : mg "range" = none) :
    FnOk P w K mg base (L2.CX P w) (k + 1) f fd ["sizes"] (spF K EA 1 (fn 5 1 d_rows_of)) := by
  refine def_ok F sc_rows_of hea rfl (by decide) fun cdv Ar outer s H E A hW hEA hr => ?_
  subst hEA
  have nd := sc_rows_of.nd
  have hp : PassesOwn (model P w) _ (cxOf (L2.CX P w) P w K mg base ["sizes", "found", "size", "row", "deed"] "rows_of" (defScope s_rows_of) f cdv Ar outer s H E).env (cxOf (L2.CX P w) P w K mg base ["sizes", "found", "size", "row", "deed"] "rows_of" (defScope s_rows_of) f cdv Ar outer s H E).xe := passes_of rfl
  have hc : (cxOf (L2.CX P w) P w K mg base ["sizes", "found", "size", "row", "deed"] "rows_of" (defScope s_rows_of) f cdv Ar outer s H E).calm = true := rfl
  exact (ssd_cons (sd_set 1 nd rfl (Or.inl rfl) (ed_lst (ad_cons (ed_tup ad_nil) ad_nil)))
      (ssd_cons (sd_for hp hc (id_seq (ed_var 0 rfl (Or.inl rfl))) (hd_name 2 nd rfl (Or.inr rfl))
      (ssd_one (sd_setLc2 (own := [("row", 3), ("deed", 4)]) (vs1 := [4]) 1 nd rfl rfl (sw_true rfl rfl rfl rfl) hc (id_seq (ed_var 1 rfl (Or.inl rfl))) (blkOk_by (by kernel_rfl)) (by decide) (fun _ _ _ _ _ => (gd_name 3 nd rfl (Or.inl rfl))) (fun _ _ _ _ _ => (id_rng1 (by rfl) b_range (ad_cons (ed_var 2 rfl (Or.inr (Or.inl rfl))) ad_nil))) (fun _ _ _ _ _ => (gd_name 4 nd rfl (Or.inl rfl))) (fun _ _ _ _ _ => cd_nil) (fun _ _ _ _ _ => (ed_op od_add (ed_var 3 rfl (Or.inl rfl)) (ed_tup (ad_cons (ed_var 4 rfl (Or.inl rfl)) ad_nil)))))))
      (ssd_one (sd_ret (ed_var 1 rfl (Or.inl rfl))))))
theorem ok_place_in {f : Addr} {fd : FuncData} {k : Nat} (hea : EaOk EA) (F : Fun K "place_in" "place_in" s_place_in f fd) (b_zip : mg "zip" = none) :
    FnOk P w K mg base (L2.CX P w) (k + 1) f fd ["sizes", "row"] (spF K EA 2 (fn 5 2 d_place_in)) := by
  refine def_ok F sc_place_in hea rfl (by decide) fun cdv Ar outer s H E A hW hEA hr => ?_
  subst hEA
  have nd := sc_place_in.nd
  have hp : PassesOwn (model P w) _ (cxOf (L2.CX P w) P w K mg base ["sizes", "row", "found", "size", "deed"] "place_in" (defScope s_place_in) f cdv Ar outer s H E).env (cxOf (L2.CX P w) P w K mg base ["sizes", "row", "found", "size", "deed"] "place_in" (defScope s_place_in) f cdv Ar outer s H E).xe := passes_of rfl
  have hc : (cxOf (L2.CX P w) P w K mg base ["sizes", "row", "found", "size", "deed"] "place_in" (defScope s_place_in) f cdv Ar outer s H E).calm = true := rfl
  exact (ssd_cons (sd_set 2 nd rfl (Or.inl rfl) ed_int)
      (ssd_cons (sd_for hp hc (id_zip (by rfl) b_zip (ad_cons (ed_var 0 rfl (Or.inl rfl)) (ad_cons (ed_var 1 rfl (Or.inl rfl)) ad_nil))) (hd_tup hc (hsd_cons (hd_name 3 nd rfl (Or.inl rfl)) (hsd_cons (hd_name 4 nd rfl (Or.inl rfl)) hsd_nil)))
      (ssd_one (sd_set 2 nd rfl (Or.inl rfl) (ed_op od_add (ed_op od_mul (ed_var 2 rfl (Or.inl rfl)) (ed_var 3 rfl (Or.inl rfl))) (ed_var 4 rfl (Or.inl rfl))))))
      (ssd_one (sd_ret (ed_var 2 rfl (Or.inl rfl))))))
theorem ok_is_gain_row {f : Addr} {fd : FuncData} {k : Nat} (hea : EaOk EA) (F : Fun K "is_gain_row" "is_gain_row" s_is_gain_row f fd) (k_is_tuple_of : Cal P w K mg base EA "is_tuple_of" ["value", "many"] k F_is_tuple_of) (k_is_whole : Cal P w K mg base EA "is_whole" ["value"] k F_is_whole) (b_all : mg "all" = none) :
    FnOk P w K mg base (L2.CX P w) (k + 1) f fd ["value", "many"] (spF K EA 2 (fn 3 2 d_is_gain_row)) := by
  refine def_ok F sc_is_gain_row hea rfl (by decide) fun cdv Ar outer s H E A hW hEA hr => ?_
  subst hEA
  have nd := sc_is_gain_row.nd
  have hx : Passes (L2.CX P w) (cxOf (L2.CX P w) P w K mg base ["value", "many", "each"] "is_gain_row" (defScope s_is_gain_row) f cdv Ar outer s H E) A.g.W := by subst hW; exact passes_call (takes_of rfl rfl rfl rfl) (fun _ _ _ _ h => h)
  have hc : (cxOf (L2.CX P w) P w K mg base ["value", "many", "each"] "is_gain_row" (defScope s_is_gain_row) f cdv Ar outer s H E).calm = true := rfl
  exact (ssd_one (sd_ret (ed_and (ed_call k_is_tuple_of hr hx (by rfl) (ad_cons (ed_var 0 rfl (Or.inl rfl)) (ad_cons (ed_var 1 rfl (Or.inl rfl)) ad_nil))) (ed_one (ed_B (cd_all hc) (by rfl) b_all (by decide +kernel) (ad_cons (FD.ed (fd_lc (own := [("each", 2)]) hc nd (id_seq (ed_var 0 rfl (Or.inl rfl))) (blkOk_by (by kernel_rfl)) (fun _ _ _ _ _ => (gd_name 2 nd rfl (Or.inl rfl))) (fun _ _ _ _ _ => cd_nil) (fun _ _ _ _ _ => (ed_call k_is_whole hr Dn.passL (by rfl) (ad_cons (ed_var 2 rfl (Or.inl rfl)) ad_nil))))) ad_nil))))))
theorem ok_is_game_by {f : Addr} {fd : FuncData} {k : Nat} (hea : EaOk EA) (F : Fun K "is_game_by" "is_game_by" s_is_game_by f fd) (k_is_tuple_of : Cal P w K mg base EA "is_tuple_of" ["value", "many"] k F_is_tuple_of) (k_are_sizes : Cal P w K mg base EA "are_sizes" ["value"] k F_are_sizes) (k_count_of : Cal P w K mg base EA "count_of" ["sizes"] k F_count_of) (k_is_gain_row : Cal P w K mg base EA "is_gain_row" ["value", "many"] k F_is_gain_row) (b_len : mg "len" = none) (b_all : mg "all" = none) {t_SIZES : Tok} (c_SIZES : mg "SIZES" = some (.int 0 t_SIZES)) {t_GAINS : Tok} (c_GAINS : mg "GAINS" = some (.int 1 t_GAINS)) :
    FnOk P w K mg base (L2.CX P w) (k + 1) f fd ["value"] (spF K EA 1 (fn 3 1 d_is_game_by)) := by
  refine def_ok F sc_is_game_by hea rfl (by decide) fun cdv Ar outer s H E A hW hEA hr => ?_
  subst hEA
  have nd := sc_is_game_by.nd
  have hx : Passes (L2.CX P w) (cxOf (L2.CX P w) P w K mg base ["value", "many", "each"] "is_game_by" (defScope s_is_game_by) f cdv Ar outer s H E) A.g.W := by subst hW; exact passes_call (takes_of rfl rfl rfl rfl) (fun _ _ _ _ h => h)
  have hc : (cxOf (L2.CX P w) P w K mg base ["value", "many", "each"] "is_game_by" (defScope s_is_game_by) f cdv Ar outer s H E).calm = true := rfl
  exact (ssd_cons (sd_if (WD.td (wd_or (td_not (td (ed_call k_is_tuple_of hr hx (by rfl) (ad_cons (ed_var 0 rfl (Or.inl rfl)) (ad_cons ed_int ad_nil))))) (wd_or (td_not (td (ed_call k_are_sizes hr hx (by rfl) (ad_cons (ed_ix (ed_var 0 rfl (Or.inl rfl)) (ed_glob (v := .int 0) rfl c_SIZES ⟨_, rfl⟩ (.int _))) ad_nil)))) (wd_or1 (td_not (td (ed_call k_is_tuple_of hr hx (by rfl) (ad_cons (ed_ix (ed_var 0 rfl (Or.inl rfl)) (ed_glob (v := .int 1) rfl c_GAINS ⟨_, rfl⟩ (.int _))) (ad_cons (ed_B cd_len (by rfl) b_len boot_len (ad_cons (ed_ix (ed_var 0 rfl (Or.inl rfl)) (ed_glob (v := .int 0) rfl c_SIZES ⟨_, rfl⟩ (.int _))) ad_nil)) ad_nil)))))))))
      (ssd_one (sd_ret ed_bl))
      ssd_nil)
      (ssd_cons (sd_set 1 nd rfl (Or.inr rfl) (ed_call k_count_of hr hx (by rfl) (ad_cons (ed_ix (ed_var 0 rfl (Or.inl rfl)) (ed_glob (v := .int 0) rfl c_SIZES ⟨_, rfl⟩ (.int _))) ad_nil)))
      (ssd_one (sd_ret (ed_B (cd_all hc) (by rfl) b_all (by decide +kernel) (ad_cons (FD.ed (fd_lc (own := [("each", 2)]) hc nd (id_seq (ed_ix (ed_var 0 rfl (Or.inl rfl)) (ed_glob (v := .int 1) rfl c_GAINS ⟨_, rfl⟩ (.int _)))) (blkOk_by (by kernel_rfl)) (fun _ _ _ _ _ => (gd_name 2 nd rfl (Or.inl rfl))) (fun _ _ _ _ _ => cd_nil) (fun _ _ _ _ _ => (ed_call k_is_gain_row hr Dn.passL (by rfl) (ad_cons (ed_var 2 rfl (Or.inl rfl)) (ad_cons (ed_var 1 rfl (Or.inr (Or.inl rfl))) ad_nil)))))) ad_nil))))))
theorem ok_choosers_by {f : Addr} {fd : FuncData} {k : Nat} (hea : EaOk EA) (F : Fun K "choosers_by" "choosers_by" s_choosers_by f fd) (b_len : mg "len" = none) {t_SIZES : Tok} (c_SIZES : mg "SIZES" = some (.int 0 t_SIZES)) :
    FnOk P w K mg base (L2.CX P w) (k + 1) f fd ["game"] (spF K EA 1 (fn 1 1 d_choosers_by)) := by
  refine def_ok F sc_choosers_by hea rfl (by decide) fun cdv Ar outer s H E A hW hEA hr => ?_
  subst hEA
  exact (ssd_one (sd_ret (ed_B cd_len (by rfl) b_len boot_len (ad_cons (ed_ix (ed_var 0 rfl (Or.inl rfl)) (ed_glob (v := .int 0) rfl c_SIZES ⟨_, rfl⟩ (.int _))) ad_nil))))
theorem ok_is_choice {f : Addr} {fd : FuncData} {k : Nat} (hea : EaOk EA) (F : Fun K "is_choice" "is_choice" s_is_choice f fd) (k_is_tuple_of : Cal P w K mg base EA "is_tuple_of" ["value", "many"] k F_is_tuple_of) (k_choosers_by : Cal P w K mg base EA "choosers_by" ["game"] k F_choosers_by) (k_is_between : Cal P w K mg base EA "is_between" ["value", "low", "high"] k F_is_between) (b_all : mg "all" = none) (b_zip : mg "zip" = none) {t_SIZES : Tok} (c_SIZES : mg "SIZES" = some (.int 0 t_SIZES)) :
    FnOk P w K mg base (L2.CX P w) (k + 1) f fd ["game", "value"] (spF K EA 2 (fn 4 2 d_is_choice)) := by
  refine def_ok F sc_is_choice hea rfl (by decide) fun cdv Ar outer s H E A hW hEA hr => ?_
  subst hEA
  have nd := sc_is_choice.nd
  have hx : Passes (L2.CX P w) (cxOf (L2.CX P w) P w K mg base ["game", "value", "deed", "size"] "is_choice" (defScope s_is_choice) f cdv Ar outer s H E) A.g.W := by subst hW; exact passes_call (takes_of rfl rfl rfl rfl) (fun _ _ _ _ h => h)
  have hc : (cxOf (L2.CX P w) P w K mg base ["game", "value", "deed", "size"] "is_choice" (defScope s_is_choice) f cdv Ar outer s H E).calm = true := rfl
  exact (ssd_cons (sd_if (td_not (td (ed_call k_is_tuple_of hr hx (by rfl) (ad_cons (ed_var 1 rfl (Or.inl rfl)) (ad_cons (ed_call k_choosers_by hr hx (by rfl) (ad_cons (ed_var 0 rfl (Or.inl rfl)) ad_nil)) ad_nil)))))
      (ssd_one (sd_ret ed_bl))
      ssd_nil)
      (ssd_one (sd_ret (ed_B (cd_all hc) (by rfl) b_all (by decide +kernel) (ad_cons (FD.ed (fd_lc (own := [("deed", 2), ("size", 3)]) hc nd (id_zip (by rfl) b_zip (ad_cons (ed_var 1 rfl (Or.inl rfl)) (ad_cons (ed_ix (ed_var 0 rfl (Or.inl rfl)) (ed_glob (v := .int 0) rfl c_SIZES ⟨_, rfl⟩ (.int _))) ad_nil))) (blkOk_by (by kernel_rfl)) (fun _ _ _ _ _ => (gd_tup hc (gsd_cons (gd_name 2 nd rfl (Or.inl rfl)) (gsd_cons (gd_name 3 nd rfl (Or.inl rfl)) gsd_nil)))) (fun _ _ _ _ _ => cd_nil) (fun _ _ _ _ _ => (ed_call k_is_between hr Dn.passL (by rfl) (ad_cons (ed_var 2 rfl (Or.inl rfl)) (ad_cons ed_int (ad_cons (ed_op od_sub (ed_var 3 rfl (Or.inl rfl)) ed_int) ad_nil))))))) ad_nil)))))
theorem ok_is_chooser {f : Addr} {fd : FuncData} {k : Nat} (hea : EaOk EA) (F : Fun K "is_chooser" "is_chooser" s_is_chooser f fd) (k_is_between : Cal P w K mg base EA "is_between" ["value", "low", "high"] k F_is_between) (k_choosers_by : Cal P w K mg base EA "choosers_by" ["game"] k F_choosers_by) :
    FnOk P w K mg base (L2.CX P w) (k + 1) f fd ["game", "value"] (spF K EA 2 (fn 2 2 d_is_chooser)) := by
  refine def_ok F sc_is_chooser hea rfl (by decide) fun cdv Ar outer s H E A hW hEA hr => ?_
  subst hEA
  have hx : Passes (L2.CX P w) (cxOf (L2.CX P w) P w K mg base ["game", "value"] "is_chooser" (defScope s_is_chooser) f cdv Ar outer s H E) A.g.W := by subst hW; exact passes_call (takes_of rfl rfl rfl rfl) (fun _ _ _ _ h => h)
  exact (ssd_one (sd_ret (ed_call k_is_between hr hx (by rfl) (ad_cons (ed_var 1 rfl (Or.inl rfl)) (ad_cons ed_int (ad_cons (ed_op od_sub (ed_call k_choosers_by hr hx (by rfl) (ad_cons (ed_var 0 rfl (Or.inl rfl)) ad_nil)) ed_int) ad_nil))))))
theorem ok_place_of {f : Addr} {fd : FuncData} {k : Nat} (hea : EaOk EA) (F : Fun K "place_of" "place_of" s_place_of f fd) (k_place_in : Cal P w K mg base EA "place_in" ["sizes", "row"] k F_place_in) {t_SIZES : Tok} (c_SIZES : mg "SIZES" = some (.int 0 t_SIZES)) :
    FnOk P w K mg base (L2.CX P w) (k + 1) f fd ["game", "choice"] (spF K EA 2 (fn 2 2 d_place_of)) := by
  refine def_ok F sc_place_of hea rfl (by decide) fun cdv Ar outer s H E A hW hEA hr => ?_
  subst hEA
  have hx : Passes (L2.CX P w) (cxOf (L2.CX P w) P w K mg base ["game", "choice"] "place_of" (defScope s_place_of) f cdv Ar outer s H E) A.g.W := by subst hW; exact passes_call (takes_of rfl rfl rfl rfl) (fun _ _ _ _ h => h)
  exact (ssd_one (sd_ret (ed_call k_place_in hr hx (by rfl) (ad_cons (ed_ix (ed_var 0 rfl (Or.inl rfl)) (ed_glob (v := .int 0) rfl c_SIZES ⟨_, rfl⟩ (.int _))) (ad_cons (ed_var 1 rfl (Or.inl rfl)) ad_nil)))))
theorem ok_gain_by {f : Addr} {fd : FuncData} {k : Nat} (hea : EaOk EA) (F : Fun K "gain_by" "gain_by" s_gain_by f fd) (k_place_of : Cal P w K mg base EA "place_of" ["game", "choice"] k F_place_of) {t_GAINS : Tok} (c_GAINS : mg "GAINS" = some (.int 1 t_GAINS)) :
    FnOk P w K mg base (L2.CX P w) (k + 1) f fd ["game", "chooser", "choice"] (spF K EA 3 (fn 3 3 d_gain_by)) := by
  refine def_ok F sc_gain_by hea rfl (by decide) fun cdv Ar outer s H E A hW hEA hr => ?_
  subst hEA
  have hx : Passes (L2.CX P w) (cxOf (L2.CX P w) P w K mg base ["game", "chooser", "choice"] "gain_by" (defScope s_gain_by) f cdv Ar outer s H E) A.g.W := by subst hW; exact passes_call (takes_of rfl rfl rfl rfl) (fun _ _ _ _ h => h)
  exact (ssd_one (sd_ret (ed_ix (ed_ix (ed_ix (ed_var 0 rfl (Or.inl rfl)) (ed_glob (v := .int 1) rfl c_GAINS ⟨_, rfl⟩ (.int _))) (ed_var 1 rfl (Or.inl rfl))) (ed_call k_place_of hr hx (by rfl) (ad_cons (ed_var 0 rfl (Or.inl rfl)) (ad_cons (ed_var 2 rfl (Or.inl rfl)) ad_nil))))))
theorem ok_check_game {f : Addr} {fd : FuncData} {k : Nat} (hea : EaOk EA) (F : Fun K "check_game" "check_game" s_check_game f fd) (k_is_game_by : Cal P w K mg base EA "is_game_by" ["value"] k F_is_game_by) :
    FnOk P w K mg base (L2.CX P w) (k + 1) f fd ["value"] (spF K EA 1 (fn 1 1 d_check_game)) := by
  refine def_ok F sc_check_game hea rfl (by decide) fun cdv Ar outer s H E A hW hEA hr => ?_
  subst hEA
  have hx : Passes (L2.CX P w) (cxOf (L2.CX P w) P w K mg base ["value"] "check_game" (defScope s_check_game) f cdv Ar outer s H E) A.g.W := by subst hW; exact passes_call (takes_of rfl rfl rfl rfl) (fun _ _ _ _ h => h)
  exact (ssd_one (sd_if (td_not (td (ed_call k_is_game_by hr hx (by rfl) (ad_cons (ed_var 0 rfl (Or.inl rfl)) ad_nil))))
      (ssd_one sd_never)
      ssd_nil))
theorem ok_check_choice {f : Addr} {fd : FuncData} {k : Nat} (hea : EaOk EA) (F : Fun K "check_choice" "check_choice" s_check_choice f fd) (k_is_choice : Cal P w K mg base EA "is_choice" ["game", "value"] k F_is_choice) :
    FnOk P w K mg base (L2.CX P w) (k + 1) f fd ["game", "value"] (spF K EA 2 (fn 2 2 d_check_choice)) := by
  refine def_ok F sc_check_choice hea rfl (by decide) fun cdv Ar outer s H E A hW hEA hr => ?_
  subst hEA
  have hx : Passes (L2.CX P w) (cxOf (L2.CX P w) P w K mg base ["game", "value"] "check_choice" (defScope s_check_choice) f cdv Ar outer s H E) A.g.W := by subst hW; exact passes_call (takes_of rfl rfl rfl rfl) (fun _ _ _ _ h => h)
  exact (ssd_one (sd_if (td_not (td (ed_call k_is_choice hr hx (by rfl) (ad_cons (ed_var 0 rfl (Or.inl rfl)) (ad_cons (ed_var 1 rfl (Or.inl rfl)) ad_nil)))))
      (ssd_one sd_never)
      ssd_nil))
theorem ok_check_chooser {f : Addr} {fd : FuncData} {k : Nat} (hea : EaOk EA) (F : Fun K "check_chooser" "check_chooser" s_check_chooser f fd) (k_is_chooser : Cal P w K mg base EA "is_chooser" ["game", "value"] k F_is_chooser) :
    FnOk P w K mg base (L2.CX P w) (k + 1) f fd ["game", "value"] (spF K EA 2 (fn 2 2 d_check_chooser)) := by
  refine def_ok F sc_check_chooser hea rfl (by decide) fun cdv Ar outer s H E A hW hEA hr => ?_
  subst hEA
  have hx : Passes (L2.CX P w) (cxOf (L2.CX P w) P w K mg base ["game", "value"] "check_chooser" (defScope s_check_chooser) f cdv Ar outer s H E) A.g.W := by subst hW; exact passes_call (takes_of rfl rfl rfl rfl) (fun _ _ _ _ h => h)
  exact (ssd_one (sd_if (td_not (td (ed_call k_is_chooser hr hx (by rfl) (ad_cons (ed_var 0 rfl (Or.inl rfl)) (ad_cons (ed_var 1 rfl (Or.inl rfl)) ad_nil)))))
      (ssd_one sd_never)
      ssd_nil))
theorem ok_is_way {f : Addr} {fd : FuncData} {k : Nat} (hea : EaOk EA) (F : Fun K "is_way" "is_way" s_is_way f fd) (k_is_between : Cal P w K mg base EA "is_between" ["value", "low", "high"] k F_is_between) (k_are_rising : Cal P w K mg base EA "are_rising" ["value"] k F_are_rising) (b_isinstance : mg "isinstance" = none) (b_tuple : mg "tuple" = none) (b_all : mg "all" = none) :
    FnOk P w K mg base (L2.CX P w) (k + 1) f fd ["value", "roads"] (spF K EA 2 (fn 3 2 d_is_way)) := by
  refine def_ok F sc_is_way hea rfl (by decide) fun cdv Ar outer s H E A hW hEA hr => ?_
  subst hEA
  have nd := sc_is_way.nd
  have hx : Passes (L2.CX P w) (cxOf (L2.CX P w) P w K mg base ["value", "roads", "each"] "is_way" (defScope s_is_way) f cdv Ar outer s H E) A.g.W := by subst hW; exact passes_call (takes_of rfl rfl rfl rfl) (fun _ _ _ _ h => h)
  have hc : (cxOf (L2.CX P w) P w K mg base ["value", "roads", "each"] "is_way" (defScope s_is_way) f cdv Ar outer s H E).calm = true := rfl
  exact (ssd_cons (sd_if (WD.td (wd_or (td_not (td (ed_isTy (by rfl) b_isinstance (by rfl) b_tuple (by rfl) (ed_var 0 rfl (Or.inl rfl))))) (wd_or1 (td_not (td (ed_B (cd_all hc) (by rfl) b_all (by decide +kernel) (ad_cons (FD.ed (fd_lc (own := [("each", 2)]) hc nd (id_seq (ed_var 0 rfl (Or.inl rfl))) (blkOk_by (by kernel_rfl)) (fun _ _ _ _ _ => (gd_name 2 nd rfl (Or.inl rfl))) (fun _ _ _ _ _ => cd_nil) (fun _ _ _ _ _ => (ed_call k_is_between hr Dn.passL (by rfl) (ad_cons (ed_var 2 rfl (Or.inl rfl)) (ad_cons ed_int (ad_cons (ed_op od_sub (ed_var 1 rfl (Or.inr (Or.inl rfl))) ed_int) ad_nil))))))) ad_nil)))))))
      (ssd_one (sd_ret ed_bl))
      ssd_nil)
      (ssd_one (sd_ret (ed_call k_are_rising hr hx (by rfl) (ad_cons (ed_var 0 rfl (Or.inl rfl)) ad_nil)))))
theorem ok_are_ways {f : Addr} {fd : FuncData} {k : Nat} (hea : EaOk EA) (F : Fun K "are_ways" "are_ways" s_are_ways f fd) (k_is_way : Cal P w K mg base EA "is_way" ["value", "roads"] k F_is_way) (b_isinstance : mg "isinstance" = none) (b_tuple : mg "tuple" = none) (b_len : mg "len" = none) (b_all : mg "all" = none) {t_MOST_DEEDS : Tok} (c_MOST_DEEDS : mg "MOST_DEEDS" = some (.int 6 t_MOST_DEEDS)) :
    FnOk P w K mg base (L2.CX P w) (k + 1) f fd ["value", "roads"] (spF K EA 2 (fn 3 2 d_are_ways)) := by
  refine def_ok F sc_are_ways hea rfl (by decide) fun cdv Ar outer s H E A hW hEA hr => ?_
  subst hEA
  have nd := sc_are_ways.nd
  have hx : Passes (L2.CX P w) (cxOf (L2.CX P w) P w K mg base ["value", "roads", "each"] "are_ways" (defScope s_are_ways) f cdv Ar outer s H E) A.g.W := by subst hW; exact passes_call (takes_of rfl rfl rfl rfl) (fun _ _ _ _ h => h)
  have hc : (cxOf (L2.CX P w) P w K mg base ["value", "roads", "each"] "are_ways" (defScope s_are_ways) f cdv Ar outer s H E).calm = true := rfl
  exact (ssd_cons (sd_if (WD.td (wd_or (td_not (td (ed_isTy (by rfl) b_isinstance (by rfl) b_tuple (by rfl) (ed_var 0 rfl (Or.inl rfl))))) (wd_or1 (td_not (td_chain od_le od_le ed_int (ed_B cd_len (by rfl) b_len boot_len (ad_cons (ed_var 0 rfl (Or.inl rfl)) ad_nil)) (ed_glob (v := .int 6) rfl c_MOST_DEEDS ⟨_, rfl⟩ (.int _)))))))
      (ssd_one (sd_ret ed_bl))
      ssd_nil)
      (ssd_one (sd_ret (ed_B (cd_all hc) (by rfl) b_all (by decide +kernel) (ad_cons (FD.ed (fd_lc (own := [("each", 2)]) hc nd (id_seq (ed_var 0 rfl (Or.inl rfl))) (blkOk_by (by kernel_rfl)) (fun _ _ _ _ _ => (gd_name 2 nd rfl (Or.inl rfl))) (fun _ _ _ _ _ => cd_nil) (fun _ _ _ _ _ => (ed_call k_is_way hr Dn.passL (by rfl) (ad_cons (ed_var 2 rfl (Or.inl rfl)) (ad_cons (ed_var 1 rfl (Or.inr (Or.inl rfl))) ad_nil)))))) ad_nil)))))
theorem ok_are_costs {f : Addr} {fd : FuncData} {k : Nat} (hea : EaOk EA) (F : Fun K "are_costs" "are_costs" s_are_costs f fd) (k_is_gain_row : Cal P w K mg base EA "is_gain_row" ["value", "many"] k F_is_gain_row) (b_isinstance : mg "isinstance" = none) (b_tuple : mg "tuple" = none) (b_len : mg "len" = none) (b_all : mg "all" = none) {t_MOST_ROADS : Tok} (c_MOST_ROADS : mg "MOST_ROADS" = some (.int 200 t_MOST_ROADS)) :
    FnOk P w K mg base (L2.CX P w) (k + 1) f fd ["value", "many"] (spF K EA 2 (fn 3 2 d_are_costs)) := by
  refine def_ok F sc_are_costs hea rfl (by decide) fun cdv Ar outer s H E A hW hEA hr => ?_
  subst hEA
  have nd := sc_are_costs.nd
  have hx : Passes (L2.CX P w) (cxOf (L2.CX P w) P w K mg base ["value", "many", "each"] "are_costs" (defScope s_are_costs) f cdv Ar outer s H E) A.g.W := by subst hW; exact passes_call (takes_of rfl rfl rfl rfl) (fun _ _ _ _ h => h)
  have hc : (cxOf (L2.CX P w) P w K mg base ["value", "many", "each"] "are_costs" (defScope s_are_costs) f cdv Ar outer s H E).calm = true := rfl
  exact (ssd_cons (sd_if (WD.td (wd_or (td_not (td (ed_isTy (by rfl) b_isinstance (by rfl) b_tuple (by rfl) (ed_var 0 rfl (Or.inl rfl))))) (wd_or1 (td_not (td_chain od_le od_le ed_int (ed_B cd_len (by rfl) b_len boot_len (ad_cons (ed_var 0 rfl (Or.inl rfl)) ad_nil)) (ed_glob (v := .int 200) rfl c_MOST_ROADS ⟨_, rfl⟩ (.int _)))))))
      (ssd_one (sd_ret ed_bl))
      ssd_nil)
      (ssd_one (sd_ret (ed_B (cd_all hc) (by rfl) b_all (by decide +kernel) (ad_cons (FD.ed (fd_lc (own := [("each", 2)]) hc nd (id_seq (ed_var 0 rfl (Or.inl rfl))) (blkOk_by (by kernel_rfl)) (fun _ _ _ _ _ => (gd_name 2 nd rfl (Or.inl rfl))) (fun _ _ _ _ _ => cd_nil) (fun _ _ _ _ _ => (ed_call k_is_gain_row hr Dn.passL (by rfl) (ad_cons (ed_var 2 rfl (Or.inl rfl)) (ad_cons (ed_var 1 rfl (Or.inr (Or.inl rfl))) ad_nil)))))) ad_nil)))))
theorem ok_sizes_of_crowd {f : Addr} {fd : FuncData} {k : Nat} (hea : EaOk EA) (F : Fun K "sizes_of_crowd" "sizes_of_crowd" s_sizes_of_crowd f fd) (b_tuple : mg "tuple" = none) (b_len : mg "len" = none) {t_WAYS : Tok} (c_WAYS : mg "WAYS" = some (.int 0 t_WAYS)) :
    FnOk P w K mg base (L2.CX P w) (k + 1) f fd ["crowd"] (spF K EA 1 (fn 2 1 d_sizes_of_crowd)) := by
  refine def_ok F sc_sizes_of_crowd hea rfl (by decide) fun cdv Ar outer s H E A hW hEA hr => ?_
  subst hEA
  have nd := sc_sizes_of_crowd.nd
  have hc : (cxOf (L2.CX P w) P w K mg base ["crowd", "ways"] "sizes_of_crowd" (defScope s_sizes_of_crowd) f cdv Ar outer s H E).calm = true := rfl
  exact (ssd_one (sd_ret (ed_Ty cd_tuple (by rfl) b_tuple (by decide +kernel) (ad_cons (FD.ed (fd_lc (own := [("ways", 1)]) hc nd (id_seq (ed_ix (ed_var 0 rfl (Or.inl rfl)) (ed_glob (v := .int 0) rfl c_WAYS ⟨_, rfl⟩ (.int _)))) (blkOk_by (by kernel_rfl)) (fun _ _ _ _ _ => (gd_name 1 nd rfl (Or.inl rfl))) (fun _ _ _ _ _ => cd_nil) (fun _ _ _ _ _ => (ed_B cd_len (by rfl) b_len boot_len (ad_cons (ed_var 1 rfl (Or.inl rfl)) ad_nil))))) ad_nil))))
theorem ok_is_crowd_by {f : Addr} {fd : FuncData} {k : Nat} (hea : EaOk EA) (F : Fun K "is_crowd_by" "is_crowd_by" s_is_crowd_by f fd) (k_is_tuple_of : Cal P w K mg base EA "is_tuple_of" ["value", "many"] k F_is_tuple_of) (k_are_costs : Cal P w K mg base EA "are_costs" ["value", "many"] k F_are_costs) (k_are_ways : Cal P w K mg base EA "are_ways" ["value", "roads"] k F_are_ways) (k_count_of : Cal P w K mg base EA "count_of" ["sizes"] k F_count_of) (k_sizes_of_crowd : Cal P w K mg base EA "sizes_of_crowd" ["crowd"] k F_sizes_of_crowd) (b_isinstance : mg "isinstance" = none) (b_tuple : mg "tuple" = none) (b_len : mg "len" = none) (b_all : mg "all" = none) {t_WAYS : Tok} (c_WAYS : mg "WAYS" = some (.int 0 t_WAYS)) {t_MOST_CHOOSERS : Tok} (c_MOST_CHOOSERS : mg "MOST_CHOOSERS" = some (.int 4 t_MOST_CHOOSERS)) {t_COSTS : Tok} (c_COSTS : mg "COSTS" = some (.int 1 t_COSTS)) {t_MOST_CHOICES : Tok} (c_MOST_CHOICES : mg "MOST_CHOICES" = some (.int 36 t_MOST_CHOICES)) :
    FnOk P w K mg base (L2.CX P w) (k + 1) f fd ["value"] (spF K EA 1 (fn 2 1 d_is_crowd_by)) := by
  refine def_ok F sc_is_crowd_by hea rfl (by decide) fun cdv Ar outer s H E A hW hEA hr => ?_
  subst hEA
  have nd := sc_is_crowd_by.nd
  have hx : Passes (L2.CX P w) (cxOf (L2.CX P w) P w K mg base ["value", "each"] "is_crowd_by" (defScope s_is_crowd_by) f cdv Ar outer s H E) A.g.W := by subst hW; exact passes_call (takes_of rfl rfl rfl rfl) (fun _ _ _ _ h => h)
  have hc : (cxOf (L2.CX P w) P w K mg base ["value", "each"] "is_crowd_by" (defScope s_is_crowd_by) f cdv Ar outer s H E).calm = true := rfl
  exact (ssd_cons (sd_if (WD.td (wd_or (td_not (td (ed_call k_is_tuple_of hr hx (by rfl) (ad_cons (ed_var 0 rfl (Or.inr (Or.inl rfl))) (ad_cons ed_int ad_nil))))) (wd_or (td_not (td (ed_isTy (by rfl) b_isinstance (by rfl) b_tuple (by rfl) (ed_ix (ed_var 0 rfl (Or.inr (Or.inl rfl))) (ed_glob (v := .int 0) rfl c_WAYS ⟨_, rfl⟩ (.int _)))))) (wd_or1 (td_not (td_chain od_le od_le ed_int (ed_B cd_len (by rfl) b_len boot_len (ad_cons (ed_ix (ed_var 0 rfl (Or.inr (Or.inl rfl))) (ed_glob (v := .int 0) rfl c_WAYS ⟨_, rfl⟩ (.int _))) ad_nil)) (ed_glob (v := .int 4) rfl c_MOST_CHOOSERS ⟨_, rfl⟩ (.int _))))))))
      (ssd_one (sd_ret ed_bl))
      ssd_nil)
      (ssd_cons (sd_if (td_not (td (ed_call k_are_costs hr hx (by rfl) (ad_cons (ed_ix (ed_var 0 rfl (Or.inr (Or.inl rfl))) (ed_glob (v := .int 1) rfl c_COSTS ⟨_, rfl⟩ (.int _))) (ad_cons (ed_B cd_len (by rfl) b_len boot_len (ad_cons (ed_ix (ed_var 0 rfl (Or.inr (Or.inl rfl))) (ed_glob (v := .int 0) rfl c_WAYS ⟨_, rfl⟩ (.int _))) ad_nil)) ad_nil)))))
      (ssd_one (sd_ret ed_bl))
      ssd_nil)
      (ssd_cons (sd_if (td_not (td (ed_B (cd_all hc) (by rfl) b_all (by decide +kernel) (ad_cons (FD.ed (fd_lc (own := [("each", 1)]) hc nd (id_seq (ed_ix (ed_var 0 rfl (Or.inr (Or.inl rfl))) (ed_glob (v := .int 0) rfl c_WAYS ⟨_, rfl⟩ (.int _)))) (blkOk_by (by kernel_rfl)) (fun _ _ _ _ _ => (gd_name 1 nd rfl (Or.inl rfl))) (fun _ _ _ _ _ => cd_nil) (fun _ _ _ _ _ => (ed_call k_are_ways hr Dn.passL (by rfl) (ad_cons (ed_var 1 rfl (Or.inl rfl)) (ad_cons (ed_B cd_len (by rfl) b_len boot_len (ad_cons (ed_ix (ed_var 0 rfl (Or.inr (Or.inl rfl))) (ed_glob (v := .int 1) rfl c_COSTS ⟨_, rfl⟩ (.int _))) ad_nil)) ad_nil)))))) ad_nil))))
      (ssd_one (sd_ret ed_bl))
      ssd_nil)
      (ssd_one (sd_ret (ed_cmp od_le (ed_call k_count_of hr hx (by rfl) (ad_cons (ed_call k_sizes_of_crowd hr hx (by rfl) (ad_cons (ed_var 0 rfl (Or.inr (Or.inl rfl))) ad_nil)) ad_nil)) (ed_glob (v := .int 36) rfl c_MOST_CHOICES ⟨_, rfl⟩ (.int _))))))))
theorem ok_ways_taken {f : Addr} {fd : FuncData} {k : Nat} (hea : EaOk EA) (F : Fun K "ways_taken" "ways_taken" s_ways_taken f fd) (b_enumerate : mg "enumerate" = none) {t_WAYS : Tok} (c_WAYS : mg "WAYS" = some (.int 0 t_WAYS)) :
    FnOk P w K mg base (L2.CX P w) (k + 1) f fd ["crowd", "choice"] (spF K EA 2 (fn 4 2 d_ways_taken)) := by
  refine def_ok F sc_ways_taken hea rfl (by decide) fun cdv Ar outer s H E A hW hEA hr => ?_
  subst hEA
  have nd := sc_ways_taken.nd
  have hc : (cxOf (L2.CX P w) P w K mg base ["crowd", "choice", "chooser", "deed"] "ways_taken" (defScope s_ways_taken) f cdv Ar outer s H E).calm = true := rfl
  exact (ssd_one (sd_ret (FD.ed (fd_lc (own := [("chooser", 2), ("deed", 3)]) hc nd (id_enum (by rfl) b_enumerate (ad_cons (ed_var 1 rfl (Or.inl rfl)) ad_nil)) (blkOk_by (by kernel_rfl)) (fun _ _ _ _ _ => (gd_tup hc (gsd_cons (gd_name 2 nd rfl (Or.inl rfl)) (gsd_cons (gd_name 3 nd rfl (Or.inl rfl)) gsd_nil)))) (fun _ _ _ _ _ => cd_nil) (fun _ _ _ _ _ => (ed_ix (ed_ix (ed_ix (ed_var 0 rfl (Or.inr (Or.inl rfl))) (ed_glob (v := .int 0) rfl c_WAYS ⟨_, rfl⟩ (.int _))) (ed_var 2 rfl (Or.inl rfl))) (ed_var 3 rfl (Or.inl rfl))))))))
theorem ok_users_by {f : Addr} {fd : FuncData} {k : Nat} (hea : EaOk EA) (F : Fun K "users_by" "users_by" s_users_by f fd) (k_ways_taken : Cal P w K mg base EA "ways_taken" ["crowd", "choice"] k F_ways_taken) (b_tuple : mg "tuple" = none) {t_COSTS : Tok} (c_COSTS : mg "COSTS" = some (.int 1 t_COSTS)) :
    FnOk P w K mg base (L2.CX P w) (k + 1) f fd ["crowd", "choice"] (spF K EA 2 (fn 6 2 d_users_by)) := by
  refine def_ok F sc_users_by hea rfl (by decide) fun cdv Ar outer s H E A hW hEA hr => ?_
  subst hEA
  have nd := sc_users_by.nd
  have hx : Passes (L2.CX P w) (cxOf (L2.CX P w) P w K mg base ["crowd", "choice", "found", "way", "road", "_"] "users_by" (defScope s_users_by) f cdv Ar outer s H E) A.g.W := by subst hW; exact passes_call (takes_of rfl rfl rfl rfl) (fun _ _ _ _ h => h)
  have hp : PassesOwn (model P w) _ (cxOf (L2.CX P w) P w K mg base ["crowd", "choice", "found", "way", "road", "_"] "users_by" (defScope s_users_by) f cdv Ar outer s H E).env (cxOf (L2.CX P w) P w K mg base ["crowd", "choice", "found", "way", "road", "_"] "users_by" (defScope s_users_by) f cdv Ar outer s H E).xe := passes_of rfl
  have hc : (cxOf (L2.CX P w) P w K mg base ["crowd", "choice", "found", "way", "road", "_"] "users_by" (defScope s_users_by) f cdv Ar outer s H E).calm = true := rfl
  exact (ssd_cons (sd_setFLc (own := [("_", 5)]) 2 nd rfl rfl (sw_true rfl rfl rfl rfl) hc (id_seq (ed_ix (ed_var 0 rfl (Or.inl rfl)) (ed_glob (v := .int 1) rfl c_COSTS ⟨_, rfl⟩ (.int _)))) (blkOk_by (by kernel_rfl)) (fun _ _ _ _ _ => (gd_name 5 nd rfl (Or.inl rfl))) (fun _ _ _ _ _ => cd_nil) (fun _ _ _ _ _ => ed_int))
      (ssd_cons (sd_for hp hc (id_seq (ed_call k_ways_taken hr hx (by rfl) (ad_cons (ed_var 0 rfl (Or.inl rfl)) (ad_cons (ed_var 1 rfl (Or.inl rfl)) ad_nil)))) (hd_name 3 nd rfl (Or.inl rfl))
      (ssd_one (sd_for hp hc (id_seq (ed_var 3 rfl (Or.inl rfl))) (hd_name 4 nd rfl (Or.inl rfl))
      (ssd_one (sd_put 2 rfl (Or.inl rfl) (ed_var 4 rfl (Or.inl rfl)) (ed_op od_add (ed_ix (ed_var 2 rfl (Or.inl rfl)) (ed_var 4 rfl (Or.inl rfl))) ed_int))))))
      (ssd_one (sd_ret (ed_Ty cd_tuple (by rfl) b_tuple (by decide +kernel) (ad_cons (ed_var 2 rfl (Or.inl rfl)) ad_nil))))))
theorem ok_gain_of_way {f : Addr} {fd : FuncData} {k : Nat} (hea : EaOk EA) (F : Fun K "gain_of_way" "gain_of_way" s_gain_of_way f fd) (b_sum : mg "sum" = none) {t_COSTS : Tok} (c_COSTS : mg "COSTS" = some (.int 1 t_COSTS)) :
    FnOk P w K mg base (L2.CX P w) (k + 1) f fd ["crowd", "users", "way"] (spF K EA 3 (fn 4 3 d_gain_of_way)) := by
  refine def_ok F sc_gain_of_way hea rfl (by decide) fun cdv Ar outer s H E A hW hEA hr => ?_
  subst hEA
  have nd := sc_gain_of_way.nd
  have hc : (cxOf (L2.CX P w) P w K mg base ["crowd", "users", "way", "road"] "gain_of_way" (defScope s_gain_of_way) f cdv Ar outer s H E).calm = true := rfl
  exact (ssd_one (sd_ret (ed_un ud_neg (ed_B (cd_sum hc) (by rfl) b_sum (by decide +kernel) (ad_cons (FD.ed (fd_lc (own := [("road", 3)]) hc nd (id_seq (ed_var 2 rfl (Or.inl rfl))) (blkOk_by (by kernel_rfl)) (fun _ _ _ _ _ => (gd_name 3 nd rfl (Or.inl rfl))) (fun _ _ _ _ _ => cd_nil) (fun _ _ _ _ _ => (ed_ix (ed_ix (ed_ix (ed_var 0 rfl (Or.inr (Or.inl rfl))) (ed_glob (v := .int 1) rfl c_COSTS ⟨_, rfl⟩ (.int _))) (ed_var 3 rfl (Or.inl rfl))) (ed_op od_sub (ed_ix (ed_var 1 rfl (Or.inr (Or.inl rfl))) (ed_var 3 rfl (Or.inl rfl))) ed_int))))) ad_nil)))))
theorem ok_gains_in_crowd {f : Addr} {fd : FuncData} {k : Nat} (hea : EaOk EA) (F : Fun K "gains_in_crowd" "gains_in_crowd" s_gains_in_crowd f fd) (k_users_by : Cal P w K mg base EA "users_by" ["crowd", "choice"] k F_users_by) (k_ways_taken : Cal P w K mg base EA "ways_taken" ["crowd", "choice"] k F_ways_taken) (k_gain_of_way : Cal P w K mg base EA "gain_of_way" ["crowd", "users", "way"] k F_gain_of_way) :
    FnOk P w K mg base (L2.CX P w) (k + 1) f fd ["crowd", "choice"] (spF K EA 2 (fn 4 2 d_gains_in_crowd)) := by
  refine def_ok F sc_gains_in_crowd hea rfl (by decide) fun cdv Ar outer s H E A hW hEA hr => ?_
  subst hEA
  have nd := sc_gains_in_crowd.nd
  have hx : Passes (L2.CX P w) (cxOf (L2.CX P w) P w K mg base ["crowd", "choice", "users", "way"] "gains_in_crowd" (defScope s_gains_in_crowd) f cdv Ar outer s H E) A.g.W := by subst hW; exact passes_call (takes_of rfl rfl rfl rfl) (fun _ _ _ _ h => h)
  have hc : (cxOf (L2.CX P w) P w K mg base ["crowd", "choice", "users", "way"] "gains_in_crowd" (defScope s_gains_in_crowd) f cdv Ar outer s H E).calm = true := rfl
  exact (ssd_cons (sd_set 2 nd rfl (Or.inr rfl) (ed_call k_users_by hr hx (by rfl) (ad_cons (ed_var 0 rfl (Or.inr (Or.inl rfl))) (ad_cons (ed_var 1 rfl (Or.inl rfl)) ad_nil))))
      (ssd_one (sd_ret (FD.ed (fd_lc (own := [("way", 3)]) hc nd (id_seq (ed_call k_ways_taken hr hx (by rfl) (ad_cons (ed_var 0 rfl (Or.inr (Or.inl rfl))) (ad_cons (ed_var 1 rfl (Or.inl rfl)) ad_nil)))) (blkOk_by (by kernel_rfl)) (fun _ _ _ _ _ => (gd_name 3 nd rfl (Or.inl rfl))) (fun _ _ _ _ _ => cd_nil) (fun _ _ _ _ _ => (ed_call k_gain_of_way hr Dn.passL (by rfl) (ad_cons (ed_var 0 rfl (Or.inr (Or.inl rfl))) (ad_cons (ed_var 2 rfl (Or.inr (Or.inl rfl))) (ad_cons (ed_var 3 rfl (Or.inl rfl)) ad_nil))))))))))
theorem ok_crowd_game_by {f : Addr} {fd : FuncData} {k : Nat} (hea : EaOk EA) (F : Fun K "crowd_game_by" "crowd_game_by" s_crowd_game_by f fd) (k_sizes_of_crowd : Cal P w K mg base EA "sizes_of_crowd" ["crowd"] k F_sizes_of_crowd) (k_rows_of : Cal P w K mg base EA "rows_of" ["sizes"] k F_rows_of) (k_gains_in_crowd : Cal P w K mg base EA "gains_in_crowd" ["crowd", "choice"] k F_gains_in_crowd) (b_tuple : mg "tuple" = none) (b_range : mg "range" = none) (b_len : mg "len" = none) :
    FnOk P w K mg base (L2.CX P w) (k + 1) f fd ["crowd"] (spF K EA 1 (fn 6 1 d_crowd_game_by)) := by
  refine def_ok F sc_crowd_game_by hea rfl (by decide) fun cdv Ar outer s H E A hW hEA hr => ?_
  subst hEA
  have nd := sc_crowd_game_by.nd
  have hx : Passes (L2.CX P w) (cxOf (L2.CX P w) P w K mg base ["crowd", "sizes", "gains", "choice", "chooser", "row"] "crowd_game_by" (defScope s_crowd_game_by) f cdv Ar outer s H E) A.g.W := by subst hW; exact passes_call (takes_of rfl rfl rfl rfl) (fun _ _ _ _ h => h)
  have hc : (cxOf (L2.CX P w) P w K mg base ["crowd", "sizes", "gains", "choice", "chooser", "row"] "crowd_game_by" (defScope s_crowd_game_by) f cdv Ar outer s H E).calm = true := rfl
  exact (ssd_cons (sd_set 1 nd rfl (Or.inl rfl) (ed_call k_sizes_of_crowd hr hx (by rfl) (ad_cons (ed_var 0 rfl (Or.inr (Or.inl rfl))) ad_nil)))
      (ssd_cons (sd_set 2 nd rfl (Or.inr rfl) (FD.ed (fd_lc (own := [("choice", 3)]) hc nd (id_seq (ed_call k_rows_of hr hx (by rfl) (ad_cons (ed_var 1 rfl (Or.inl rfl)) ad_nil))) (blkOk_by (by kernel_rfl)) (fun _ _ _ _ _ => (gd_name 3 nd rfl (Or.inl rfl))) (fun _ _ _ _ _ => cd_nil) (fun _ _ _ _ _ => (ed_call k_gains_in_crowd hr Dn.passL (by rfl) (ad_cons (ed_var 0 rfl (Or.inr (Or.inl rfl))) (ad_cons (ed_var 3 rfl (Or.inl rfl)) ad_nil)))))))
      (ssd_one (sd_ret (ed_tup (ad_cons (ed_var 1 rfl (Or.inl rfl)) (ad_cons (ed_Ty cd_tuple (by rfl) b_tuple (by decide +kernel) (ad_cons (FD.ed (fd_lc (own := [("chooser", 4)]) hc nd (id_rng1 (by rfl) b_range (ad_cons (ed_B cd_len (by rfl) b_len boot_len (ad_cons (ed_var 1 rfl (Or.inl rfl)) ad_nil)) ad_nil)) (blkOk_by (by kernel_rfl)) (fun _ _ _ _ _ => (gd_name 4 nd rfl (Or.inr rfl))) (fun _ _ _ _ _ => cd_nil) (fun _ _ _ _ _ => (ed_Ty cd_tuple (by rfl) b_tuple (by decide +kernel) (ad_cons (FD.ed (fd_lc (own := [("row", 5)]) hc nd (id_seq (ed_var 2 rfl (Or.inr (Or.inl rfl)))) (blkOk_by (by kernel_rfl)) (fun _ _ _ _ _ => (gd_name 5 nd rfl (Or.inl rfl))) (fun _ _ _ _ _ => cd_nil) (fun _ _ _ _ _ => (ed_ix (ed_var 5 rfl (Or.inl rfl)) (ed_var 4 rfl (Or.inr (Or.inl rfl))))))) ad_nil))))) ad_nil)) ad_nil)))))))
theorem ok_is_crowd_choice {f : Addr} {fd : FuncData} {k : Nat} (hea : EaOk EA) (F : Fun K "is_crowd_choice" "is_crowd_choice" s_is_crowd_choice f fd) (k_sizes_of_crowd : Cal P w K mg base EA "sizes_of_crowd" ["crowd"] k F_sizes_of_crowd) (k_is_tuple_of : Cal P w K mg base EA "is_tuple_of" ["value", "many"] k F_is_tuple_of) (k_is_between : Cal P w K mg base EA "is_between" ["value", "low", "high"] k F_is_between) (b_len : mg "len" = none) (b_all : mg "all" = none) (b_zip : mg "zip" = none) :
    FnOk P w K mg base (L2.CX P w) (k + 1) f fd ["crowd", "value"] (spF K EA 2 (fn 5 2 d_is_crowd_choice)) := by
  refine def_ok F sc_is_crowd_choice hea rfl (by decide) fun cdv Ar outer s H E A hW hEA hr => ?_
  subst hEA
  have nd := sc_is_crowd_choice.nd
  have hx : Passes (L2.CX P w) (cxOf (L2.CX P w) P w K mg base ["crowd", "value", "sizes", "deed", "size"] "is_crowd_choice" (defScope s_is_crowd_choice) f cdv Ar outer s H E) A.g.W := by subst hW; exact passes_call (takes_of rfl rfl rfl rfl) (fun _ _ _ _ h => h)
  have hc : (cxOf (L2.CX P w) P w K mg base ["crowd", "value", "sizes", "deed", "size"] "is_crowd_choice" (defScope s_is_crowd_choice) f cdv Ar outer s H E).calm = true := rfl
  exact (ssd_cons (sd_set 2 nd rfl (Or.inl rfl) (ed_call k_sizes_of_crowd hr hx (by rfl) (ad_cons (ed_var 0 rfl (Or.inl rfl)) ad_nil)))
      (ssd_cons (sd_if (td_not (td (ed_call k_is_tuple_of hr hx (by rfl) (ad_cons (ed_var 1 rfl (Or.inl rfl)) (ad_cons (ed_B cd_len (by rfl) b_len boot_len (ad_cons (ed_var 2 rfl (Or.inl rfl)) ad_nil)) ad_nil)))))
      (ssd_one (sd_ret ed_bl))
      ssd_nil)
      (ssd_one (sd_ret (ed_B (cd_all hc) (by rfl) b_all (by decide +kernel) (ad_cons (FD.ed (fd_lc (own := [("deed", 3), ("size", 4)]) hc nd (id_zip (by rfl) b_zip (ad_cons (ed_var 1 rfl (Or.inl rfl)) (ad_cons (ed_var 2 rfl (Or.inl rfl)) ad_nil))) (blkOk_by (by kernel_rfl)) (fun _ _ _ _ _ => (gd_tup hc (gsd_cons (gd_name 3 nd rfl (Or.inl rfl)) (gsd_cons (gd_name 4 nd rfl (Or.inl rfl)) gsd_nil)))) (fun _ _ _ _ _ => cd_nil) (fun _ _ _ _ _ => (ed_call k_is_between hr Dn.passL (by rfl) (ad_cons (ed_var 3 rfl (Or.inl rfl)) (ad_cons ed_int (ad_cons (ed_op od_sub (ed_var 4 rfl (Or.inl rfl)) ed_int) ad_nil))))))) ad_nil))))))
theorem ok_check_crowd {f : Addr} {fd : FuncData} {k : Nat} (hea : EaOk EA) (F : Fun K "check_crowd" "check_crowd" s_check_crowd f fd) (k_is_crowd_by : Cal P w K mg base EA "is_crowd_by" ["value"] k F_is_crowd_by) :
    FnOk P w K mg base (L2.CX P w) (k + 1) f fd ["value"] (spF K EA 1 (fn 1 1 d_check_crowd)) := by
  refine def_ok F sc_check_crowd hea rfl (by decide) fun cdv Ar outer s H E A hW hEA hr => ?_
  subst hEA
  have hx : Passes (L2.CX P w) (cxOf (L2.CX P w) P w K mg base ["value"] "check_crowd" (defScope s_check_crowd) f cdv Ar outer s H E) A.g.W := by subst hW; exact passes_call (takes_of rfl rfl rfl rfl) (fun _ _ _ _ h => h)
  exact (ssd_one (sd_if (td_not (td (ed_call k_is_crowd_by hr hx (by rfl) (ad_cons (ed_var 0 rfl (Or.inl rfl)) ad_nil))))
      (ssd_one sd_never)
      ssd_nil))
theorem ok_check_crowd_choice {f : Addr} {fd : FuncData} {k : Nat} (hea : EaOk EA) (F : Fun K "check_crowd_choice" "check_crowd_choice" s_check_crowd_choice f fd) (k_check_crowd : Cal P w K mg base EA "check_crowd" ["value"] k F_check_crowd) (k_is_crowd_choice : Cal P w K mg base EA "is_crowd_choice" ["crowd", "value"] k F_is_crowd_choice) :
    FnOk P w K mg base (L2.CX P w) (k + 1) f fd ["crowd", "value"] (spF K EA 2 (fn 2 2 d_check_crowd_choice)) := by
  refine def_ok F sc_check_crowd_choice hea rfl (by decide) fun cdv Ar outer s H E A hW hEA hr => ?_
  subst hEA
  have hx : Passes (L2.CX P w) (cxOf (L2.CX P w) P w K mg base ["crowd", "value"] "check_crowd_choice" (defScope s_check_crowd_choice) f cdv Ar outer s H E) A.g.W := by subst hW; exact passes_call (takes_of rfl rfl rfl rfl) (fun _ _ _ _ h => h)
  exact (ssd_cons (sd_expr (ed_call k_check_crowd hr hx (by rfl) (ad_cons (ed_var 0 rfl (Or.inl rfl)) ad_nil)))
      (ssd_one (sd_if (td_not (td (ed_call k_is_crowd_choice hr hx (by rfl) (ad_cons (ed_var 0 rfl (Or.inl rfl)) (ad_cons (ed_var 1 rfl (Or.inl rfl)) ad_nil)))))
      (ssd_one sd_never)
      ssd_nil)))
theorem ok_crowd_game {f : Addr} {fd : FuncData} {k : Nat} (hea : EaOk EA) (F : Fun K "crowd_game" "crowd_game" s_crowd_game f fd) (k_check_crowd : Cal P w K mg base EA "check_crowd" ["value"] k F_check_crowd) (k_crowd_game_by : Cal P w K mg base EA "crowd_game_by" ["crowd"] k F_crowd_game_by) :
    FnOk P w K mg base (L2.CX P w) (k + 1) f fd ["crowd"] (spF K EA 1 (fn 1 1 d_crowd_game)) := by
  refine def_ok F sc_crowd_game hea rfl (by decide) fun cdv Ar outer s H E A hW hEA hr => ?_
  subst hEA
  have hx : Passes (L2.CX P w) (cxOf (L2.CX P w) P w K mg base ["crowd"] "crowd_game" (defScope s_crowd_game) f cdv Ar outer s H E) A.g.W := by subst hW; exact passes_call (takes_of rfl rfl rfl rfl) (fun _ _ _ _ h => h)
  exact (ssd_cons (sd_expr (ed_call k_check_crowd hr hx (by rfl) (ad_cons (ed_var 0 rfl (Or.inl rfl)) ad_nil)))
      (ssd_one (sd_ret (ed_call k_crowd_game_by hr hx (by rfl) (ad_cons (ed_var 0 rfl (Or.inl rfl)) ad_nil)))))
theorem ok_users {f : Addr} {fd : FuncData} {k : Nat} (hea : EaOk EA) (F : Fun K "users" "users" s_users f fd) (k_check_crowd_choice : Cal P w K mg base EA "check_crowd_choice" ["crowd", "value"] k F_check_crowd_choice) (k_users_by : Cal P w K mg base EA "users_by" ["crowd", "choice"] k F_users_by) :
    FnOk P w K mg base (L2.CX P w) (k + 1) f fd ["crowd", "choice"] (spF K EA 2 (fn 2 2 d_users)) := by
  refine def_ok F sc_users hea rfl (by decide) fun cdv Ar outer s H E A hW hEA hr => ?_
  subst hEA
  have hx : Passes (L2.CX P w) (cxOf (L2.CX P w) P w K mg base ["crowd", "choice"] "users" (defScope s_users) f cdv Ar outer s H E) A.g.W := by subst hW; exact passes_call (takes_of rfl rfl rfl rfl) (fun _ _ _ _ h => h)
  exact (ssd_cons (sd_expr (ed_call k_check_crowd_choice hr hx (by rfl) (ad_cons (ed_var 0 rfl (Or.inl rfl)) (ad_cons (ed_var 1 rfl (Or.inl rfl)) ad_nil))))
      (ssd_one (sd_ret (ed_call k_users_by hr hx (by rfl) (ad_cons (ed_var 0 rfl (Or.inl rfl)) (ad_cons (ed_var 1 rfl (Or.inl rfl)) ad_nil))))))
theorem ok_is_game {f : Addr} {fd : FuncData} {k : Nat} (hea : EaOk EA) (F : Fun K "is_game" "is_game" s_is_game f fd) (k_is_game_by : Cal P w K mg base EA "is_game_by" ["value"] k F_is_game_by) :
    FnOk P w K mg base (L2.CX P w) (k + 1) f fd ["value"] (spF K EA 1 (fn 1 1 d_is_game)) := by
  refine def_ok F sc_is_game hea rfl (by decide) fun cdv Ar outer s H E A hW hEA hr => ?_
  subst hEA
  have hx : Passes (L2.CX P w) (cxOf (L2.CX P w) P w K mg base ["value"] "is_game" (defScope s_is_game) f cdv Ar outer s H E) A.g.W := by subst hW; exact passes_call (takes_of rfl rfl rfl rfl) (fun _ _ _ _ h => h)
  exact (ssd_one (sd_ret (ed_call k_is_game_by hr hx (by rfl) (ad_cons (ed_var 0 rfl (Or.inl rfl)) ad_nil))))
theorem ok_gain {f : Addr} {fd : FuncData} {k : Nat} (hea : EaOk EA) (F : Fun K "gain" "gain" s_gain f fd) (k_check_game : Cal P w K mg base EA "check_game" ["value"] k F_check_game) (k_check_chooser : Cal P w K mg base EA "check_chooser" ["game", "value"] k F_check_chooser) (k_check_choice : Cal P w K mg base EA "check_choice" ["game", "value"] k F_check_choice) (k_gain_by : Cal P w K mg base EA "gain_by" ["game", "chooser", "choice"] k F_gain_by) :
    FnOk P w K mg base (L2.CX P w) (k + 1) f fd ["game", "chooser", "choice"] (spF K EA 3 (fn 3 3 d_gain)) := by
  refine def_ok F sc_gain hea rfl (by decide) fun cdv Ar outer s H E A hW hEA hr => ?_
  subst hEA
  have hx : Passes (L2.CX P w) (cxOf (L2.CX P w) P w K mg base ["game", "chooser", "choice"] "gain" (defScope s_gain) f cdv Ar outer s H E) A.g.W := by subst hW; exact passes_call (takes_of rfl rfl rfl rfl) (fun _ _ _ _ h => h)
  exact (ssd_cons (sd_expr (ed_call k_check_game hr hx (by rfl) (ad_cons (ed_var 0 rfl (Or.inl rfl)) ad_nil)))
      (ssd_cons (sd_expr (ed_call k_check_chooser hr hx (by rfl) (ad_cons (ed_var 0 rfl (Or.inl rfl)) (ad_cons (ed_var 1 rfl (Or.inl rfl)) ad_nil))))
      (ssd_cons (sd_expr (ed_call k_check_choice hr hx (by rfl) (ad_cons (ed_var 0 rfl (Or.inl rfl)) (ad_cons (ed_var 2 rfl (Or.inl rfl)) ad_nil))))
      (ssd_one (sd_ret (ed_call k_gain_by hr hx (by rfl) (ad_cons (ed_var 0 rfl (Or.inl rfl)) (ad_cons (ed_var 1 rfl (Or.inl rfl)) (ad_cons (ed_var 2 rfl (Or.inl rfl)) ad_nil)))))))))
theorem ok__law_urn {f : Addr} {fd : FuncData} {k : Nat} (hea : EaOk EA) (F : Fun K "_law_urn" "_law_urn" s__law_urn f fd) (b_len : mg "len" = none) (b_int : mg "int" = none) (b_sum : mg "sum" = none) (b_abs : mg "abs" = none) :
    FnOk P w K mg base (L2.CX P w) (k + 1) f fd ["script", "lap"] (spFF K EA 2 (fnF 5 2 d__law_urn)) := by
  refine def_okF F sc__law_urn hea rfl (by decide) fun cdv Ar outer s H E A hW hEA hr => ?_
  subst hEA
  have hU := hr.units
  have hU0 := hr.units0
  have nd := sc__law_urn.nd
  have hp : PassesOwn (model P w) _ (cxOf (L2.CX P w) P w K mg base ["script", "lap", "own", "stir", "each"] "_law_urn" (defScope s__law_urn) f cdv Ar outer s H E).env (cxOf (L2.CX P w) P w K mg base ["script", "lap", "own", "stir", "each"] "_law_urn" (defScope s__law_urn) f cdv Ar outer s H E).xe := passes_of rfl
  have hc : (cxOf (L2.CX P w) P w K mg base ["script", "lap", "own", "stir", "each"] "_law_urn" (defScope s__law_urn) f cdv Ar outer s H E).calm = true := rfl
  exact (sfd_cons (sd_set 2 nd rfl (Or.inl rfl) (ed_if (td_cmp (od_lt hU0) (ed_var 1 rfl (Or.inl rfl)) (ed_B cd_len (by rfl) b_len boot_len (ad_cons (ed_var 0 rfl (Or.inl rfl)) ad_nil))) (ed_Ty cd_int (by rfl) b_int (by decide +kernel) (ad_cons (ed_ix (ed_var 0 rfl (Or.inl rfl)) (ed_var 1 rfl (Or.inl rfl))) ad_nil)) (ed_op od_add (ed_op od_add (ed_op od_mul ed_int (ed_var 1 rfl (Or.inl rfl))) ed_int) (ed_op od_mod (ed_Ty cd_int (by rfl) b_int (by decide +kernel) (ad_cons (ed_B (cd_sum hc) (by rfl) b_sum (by decide +kernel) (ad_cons (ed_sl (ed_var 0 rfl (Or.inl rfl)) oo_no (oo_yes ed_int)) ad_nil)) ad_nil)) ed_int))))
      (sfd_cons (sd_set 3 nd rfl (Or.inl rfl) (ed_op od_add ed_int (ed_op od_mul ed_int (ed_var 1 rfl (Or.inl rfl)))))
      (sfd_cons (sd_for hp hc (id_seq (ed_op od_add (ed_sl (ed_var 0 rfl (Or.inl rfl)) oo_no (oo_yes ed_int)) (ed_lst (ad_cons (ed_var 2 rfl (Or.inl rfl)) ad_nil)))) (hd_name 4 nd rfl (Or.inl rfl))
      (ssd_one (sd_set 3 nd rfl (Or.inl rfl) (ed_op od_mod (ed_Ty cd_int (by rfl) b_int (by decide +kernel) (ad_cons (ed_op od_add (ed_op od_add (ed_op od_mul (ed_var 3 rfl (Or.inl rfl)) ed_int) (ed_op od_mod (ed_Ty cd_int (by rfl) b_int (by decide +kernel) (ad_cons (ed_var 4 rfl (Or.inl rfl)) ad_nil)) ed_int)) ed_int) ad_nil)) ed_int))))
      (sfd_ret (fd_lst (ad_cons (ed_if (WD.td (wd_or (td_cmp (od_lt hU0) (ed_var 2 rfl (Or.inl rfl)) ed_int) (wd_or1 (td_cmp od_ge (ed_var 2 rfl (Or.inl rfl)) (ed_op od_pow ed_int ed_int))))) (ed_op od_mod (ed_Ty cd_int (by rfl) b_int (by decide +kernel) (ad_cons (ed_B cd_abs (by rfl) b_abs (by decide +kernel) (ad_cons (ed_var 2 rfl (Or.inl rfl)) ad_nil)) ad_nil)) (ed_op od_pow ed_int ed_int)) ed_int) (ad_cons (ed_var 3 rfl (Or.inl rfl)) (ad_cons ed_int ad_nil))))))))
theorem ok__law_nip {f : Addr} {fd : FuncData} {k : Nat} (hea : EaOk EA) (F : Fun K "_law_nip" "_law_nip" s__law_nip f fd) (b_divmod : mg "divmod" = none) (b_int : mg "int" = none) :
    FnOk P w K mg base (L2.CX P w) (k + 1) f fd ["urn", "many"] (spF K EA 2 (fn 4 2 d__law_nip)) := by
  refine def_ok F sc__law_nip hea rfl (by decide) fun cdv Ar outer s H E A hW hEA hr => ?_
  subst hEA
  have nd := sc__law_nip.nd
  have hc : (cxOf (L2.CX P w) P w K mg base ["urn", "many", "found", "lap"] "_law_nip" (defScope s__law_nip) f cdv Ar outer s H E).calm = true := rfl
  exact (ssd_cons (sd_if (td_cmp od_gt (ed_ix (ed_var 0 rfl (Or.inl rfl)) ed_int) ed_int)
      (ssd_cons (sd_unpU hc 0 2 rfl (Or.inl rfl) nd rfl (Or.inl rfl) (ed_B cd_divmod (by rfl) b_divmod (by decide +kernel) (ad_cons (ed_ix (ed_var 0 rfl (Or.inl rfl)) ed_int) (ad_cons (ed_var 1 rfl (Or.inl rfl)) ad_nil))))
      (ssd_one (sd_ret (ed_var 2 rfl (Or.inl rfl)))))
      ssd_nil)
      (ssd_cons (sd_putU 0 rfl (Or.inl rfl) ed_int (ed_op od_add (ed_ix (ed_var 0 rfl (Or.inl rfl)) ed_int) ed_int))
      (ssd_cons (sd_set 3 nd rfl (Or.inl rfl) (ed_op od_mod (ed_Ty cd_int (by rfl) b_int (by decide +kernel) (ad_cons (ed_op od_add (ed_op od_add (ed_op od_mul (ed_ix (ed_var 0 rfl (Or.inl rfl)) ed_int) ed_int) (ed_op od_mul (ed_ix (ed_var 0 rfl (Or.inl rfl)) ed_int) ed_int)) ed_int) ad_nil)) ed_int))
      (ssd_cons (sd_putU 0 rfl (Or.inl rfl) ed_int (ed_op od_mod (ed_Ty cd_int (by rfl) b_int (by decide +kernel) (ad_cons (ed_op od_add (ed_op od_mul (ed_var 3 rfl (Or.inl rfl)) (ed_op od_add (ed_op od_mul ed_int (ed_op od_fdiv (ed_var 3 rfl (Or.inl rfl)) ed_int)) ed_int)) (ed_ix (ed_var 0 rfl (Or.inl rfl)) ed_int)) ad_nil)) ed_int))
      (ssd_one (sd_ret (ed_op od_mod (ed_Ty cd_int (by rfl) b_int (by decide +kernel) (ad_cons (ed_op od_fdiv (ed_ix (ed_var 0 rfl (Or.inl rfl)) ed_int) ed_int) ad_nil)) (ed_var 1 rfl (Or.inl rfl)))))))))
theorem ok__law_any_of {f : Addr} {fd : FuncData} {k : Nat} (hea : EaOk EA) (F : Fun K "_law_any_of" "_law_any_of" s__law_any_of f fd) (k__law_nip : Cal P w K mg base EA "_law_nip" ["urn", "many"] k F__law_nip) (b_len : mg "len" = none) :
    FnOk P w K mg base (L2.CX P w) (k + 1) f fd ["urn", "some"] (spF K EA 2 (fn 2 2 d__law_any_of)) := by
  refine def_ok F sc__law_any_of hea rfl (by decide) fun cdv Ar outer s H E A hW hEA hr => ?_
  subst hEA
  have hx : Passes (L2.CX P w) (cxOf (L2.CX P w) P w K mg base ["urn", "some"] "_law_any_of" (defScope s__law_any_of) f cdv Ar outer s H E) A.g.W := by subst hW; exact passes_call (takes_of rfl rfl rfl rfl) (fun _ _ _ _ h => h)
  exact (ssd_one (sd_ret (ed_ix (ed_var 1 rfl (Or.inl rfl)) (ed_call k__law_nip hr hx (by rfl) (ad_cons (ed_var 0 rfl (Or.inl rfl)) (ad_cons (ed_B cd_len (by rfl) b_len boot_len (ad_cons (ed_var 1 rfl (Or.inl rfl)) ad_nil)) ad_nil))))))
theorem ok__law_is_whole {f : Addr} {fd : FuncData} {k : Nat} (hea : EaOk EA) (F : Fun K "_law_is_whole" "_law_is_whole" s__law_is_whole f fd) (b_isinstance : mg "isinstance" = none) (b_int : mg "int" = none) (b_bool : mg "bool" = none) :
    FnOk P w K mg base (L2.CX P w) (k + 1) f fd ["value"] (spF K EA 1 (fn 1 1 d__law_is_whole)) := by
  refine def_ok F sc__law_is_whole hea rfl (by decide) fun cdv Ar outer s H E A hW hEA hr => ?_
  subst hEA
  exact (ssd_one (sd_ret (ed_and (ed_isTy (by rfl) b_isinstance (by rfl) b_int (by rfl) (ed_var 0 rfl (Or.inl rfl))) (ed_one (ed_not (ed_isTy (by rfl) b_isinstance (by rfl) b_bool (by rfl) (ed_var 0 rfl (Or.inl rfl))))))))
theorem ok__law_is_up_to {f : Addr} {fd : FuncData} {k : Nat} (hea : EaOk EA) (F : Fun K "_law_is_up_to" "_law_is_up_to" s__law_is_up_to f fd) (k__law_is_whole : Cal P w K mg base EA "_law_is_whole" ["value"] k F__law_is_whole) :
    FnOk P w K mg base (L2.CX P w) (k + 1) f fd ["value", "most"] (spF K EA 2 (fn 2 2 d__law_is_up_to)) := by
  refine def_ok F sc__law_is_up_to hea rfl (by decide) fun cdv Ar outer s H E A hW hEA hr => ?_
  subst hEA
  have hx : Passes (L2.CX P w) (cxOf (L2.CX P w) P w K mg base ["value", "most"] "_law_is_up_to" (defScope s__law_is_up_to) f cdv Ar outer s H E) A.g.W := by subst hW; exact passes_call (takes_of rfl rfl rfl rfl) (fun _ _ _ _ h => h)
  exact (ssd_one (sd_ret (ed_and (ed_call k__law_is_whole hr hx (by rfl) (ad_cons (ed_var 0 rfl (Or.inl rfl)) ad_nil)) (ed_one (ed_chain2 od_le od_le ed_int (ed_var 0 rfl (Or.inl rfl)) (ed_var 1 rfl (Or.inl rfl)))))))
theorem ok__law_same {f : Addr} {fd : FuncData} {k : Nat} (hea : EaOk EA) {F__law_same : Fn} (F : Fun K "_law_same" "_law_same" s__law_same f fd) (k__law_same : Cal P w K mg base EA "_law_same" ["one", "two"] k F__law_same) (b_isinstance : mg "isinstance" = none) (b_tuple : mg "tuple" = none) (b_list : mg "list" = none) (b_len : mg "len" = none) (b_zip : mg "zip" = none) (b_bool : mg "bool" = none) (b_str : mg "str" = none) :
    FnOk P w K mg base (L2.CX P w) (k + 1) f fd ["one", "two"] (spF K EA 2 (fn 4 2 (d__law_same F__law_same))) := by
  refine def_ok F sc__law_same hea rfl (by decide) fun cdv Ar outer s H E A hW hEA hr => ?_
  subst hEA
  have hU := hr.units
  have nd := sc__law_same.nd
  have hx : Passes (L2.CX P w) (cxOf (L2.CX P w) P w K mg base ["one", "two", "a", "b"] "_law_same" (defScope s__law_same) f cdv Ar outer s H E) A.g.W := by subst hW; exact passes_call (takes_of rfl rfl rfl rfl) (fun _ _ _ _ h => h)
  have hc : (cxOf (L2.CX P w) P w K mg base ["one", "two", "a", "b"] "_law_same" (defScope s__law_same) f cdv Ar outer s H E).calm = true := rfl
  exact (ssd_cons (sd_if (td (ed_isTy2 (by rfl) b_isinstance (by rfl) b_tuple (by rfl) (by rfl) b_list (by rfl) (ed_var 0 rfl (Or.inl rfl))))
      (ssd_cons (sd_if (WD.td (wd_or (td_cmp (od_ne hU) (ed_isTy (by rfl) b_isinstance (by rfl) b_tuple (by rfl) (ed_var 0 rfl (Or.inl rfl))) (ed_isTy (by rfl) b_isinstance (by rfl) b_tuple (by rfl) (ed_var 1 rfl (Or.inl rfl)))) (wd_or1 (td_cmp (od_ne hU) (ed_isTy (by rfl) b_isinstance (by rfl) b_list (by rfl) (ed_var 0 rfl (Or.inl rfl))) (ed_isTy (by rfl) b_isinstance (by rfl) b_list (by rfl) (ed_var 1 rfl (Or.inl rfl)))))))
      (ssd_one (sd_ret ed_bl))
      ssd_nil)
      (ssd_one (sd_ret (ed_and (ed_cmp (od_eq hU) (ed_B cd_len (by rfl) b_len boot_len (ad_cons (ed_var 0 rfl (Or.inl rfl)) ad_nil)) (ed_B cd_len (by rfl) b_len boot_len (ad_cons (ed_var 1 rfl (Or.inl rfl)) ad_nil))) (ed_one (ed_cmp od_notIn ed_bl (FD.ed (fd_lc (own := [("a", 2), ("b", 3)]) hc nd (id_zip (by rfl) b_zip (ad_cons (ed_var 0 rfl (Or.inl rfl)) (ad_cons (ed_var 1 rfl (Or.inl rfl)) ad_nil))) (blkOk_by (by kernel_rfl)) (fun _ _ _ _ _ => (gd_tup hc (gsd_cons (gd_name 2 nd rfl (Or.inl rfl)) (gsd_cons (gd_name 3 nd rfl (Or.inl rfl)) gsd_nil)))) (fun _ _ _ _ _ => cd_nil) (fun _ _ _ _ _ => (ed_call k__law_same hr Dn.passL (by rfl) (ad_cons (ed_var 2 rfl (Or.inl rfl)) (ad_cons (ed_var 3 rfl (Or.inl rfl)) ad_nil))))))))))))
      ssd_nil)
      (ssd_cons (sd_if (WD.td (wd_or (td (ed_isTy2 (by rfl) b_isinstance (by rfl) b_tuple (by rfl) (by rfl) b_list (by rfl) (ed_var 1 rfl (Or.inl rfl)))) (wd_or1 (td_cmp (od_ne hU) (ed_isTy (by rfl) b_isinstance (by rfl) b_bool (by rfl) (ed_var 0 rfl (Or.inl rfl))) (ed_isTy (by rfl) b_isinstance (by rfl) b_bool (by rfl) (ed_var 1 rfl (Or.inl rfl)))))))
      (ssd_one (sd_ret ed_bl))
      ssd_nil)
      (ssd_one (sd_ret (ed_and (ed_cmp (od_eq hU) (ed_isTy (by rfl) b_isinstance (by rfl) b_str (by rfl) (ed_var 0 rfl (Or.inl rfl))) (ed_isTy (by rfl) b_isinstance (by rfl) b_str (by rfl) (ed_var 1 rfl (Or.inl rfl)))) (ed_one (ed_cmp (od_eq hU) (ed_var 0 rfl (Or.inl rfl)) (ed_var 1 rfl (Or.inl rfl)))))))))
theorem ok__law_some {f : Addr} {fd : FuncData} {k : Nat} (hea : EaOk EA) (F : Fun K "_law_some" "_law_some" s__law_some f fd) (k__law_nip : Cal P w K mg base EA "_law_nip" ["urn", "many"] k F__law_nip) (b_tuple : mg "tuple" = none) :
    FnOk P w K mg base (L2.CX P w) (k + 1) f fd ["urn", "things", "share"] (spF K EA 3 (fn 4 3 d__law_some)) := by
  refine def_ok F sc__law_some hea rfl (by decide) fun cdv Ar outer s H E A hW hEA hr => ?_
  subst hEA
  have hU := hr.units
  have hU0 := hr.units0
  have nd := sc__law_some.nd
  have hx : Passes (L2.CX P w) (cxOf (L2.CX P w) P w K mg base ["urn", "things", "share", "thing"] "_law_some" (defScope s__law_some) f cdv Ar outer s H E) A.g.W := by subst hW; exact passes_call (takes_of rfl rfl rfl rfl) (fun _ _ _ _ h => h)
  have hc : (cxOf (L2.CX P w) P w K mg base ["urn", "things", "share", "thing"] "_law_some" (defScope s__law_some) f cdv Ar outer s H E).calm = true := rfl
  exact (ssd_one (sd_ret (ed_Ty cd_tuple (by rfl) b_tuple (by decide +kernel) (ad_cons (FD.ed (fd_lc (own := [("thing", 3)]) hc nd (id_seq (ed_var 1 rfl (Or.inl rfl))) (blkOk_by (by kernel_rfl)) (fun _ _ _ _ _ => (gd_name 3 nd rfl (Or.inl rfl))) (fun _ _ _ _ _ => (cd_one (td_cmp (od_lt hU0) (ed_call k__law_nip hr Dn.passL (by rfl) (ad_cons (ed_var 0 rfl (Or.inr (Or.inl rfl))) (ad_cons ed_int ad_nil))) (ed_var 2 rfl (Or.inr (Or.inl rfl)))))) (fun _ _ _ _ _ => (ed_var 3 rfl (Or.inl rfl))))) ad_nil))))
theorem ok__law_all {f : Addr} {fd : FuncData} {k : Nat} (hea : EaOk EA) (F : Fun K "_law_all" "_law_all" s__law_all f fd) (b_sum : mg "sum" = none) (b_range : mg "range" = none) :
    FnOk P w K mg base (L2.CX P w) (k + 1) f fd ["sizes"] (spF K EA 1 (fn 5 1 d__law_all)) := by
  refine def_ok F sc__law_all hea rfl (by decide) fun cdv Ar outer s H E A hW hEA hr => ?_
  subst hEA
  have nd := sc__law_all.nd
  have hp : PassesOwn (model P w) _ (cxOf (L2.CX P w) P w K mg base ["sizes", "found", "size", "row", "deed"] "_law_all" (defScope s__law_all) f cdv Ar outer s H E).env (cxOf (L2.CX P w) P w K mg base ["sizes", "found", "size", "row", "deed"] "_law_all" (defScope s__law_all) f cdv Ar outer s H E).xe := passes_of rfl
  have hc : (cxOf (L2.CX P w) P w K mg base ["sizes", "found", "size", "row", "deed"] "_law_all" (defScope s__law_all) f cdv Ar outer s H E).calm = true := rfl
  exact (ssd_cons (sd_set 1 nd rfl (Or.inl rfl) (ed_lst (ad_cons (ed_tup ad_nil) ad_nil)))
      (ssd_cons (sd_for hp hc (id_seq (ed_var 0 rfl (Or.inl rfl))) (hd_name 2 nd rfl (Or.inr rfl))
      (ssd_one (sd_set 1 nd rfl (Or.inl rfl) (ed_B (cd_sumL hc) (by rfl) b_sum (by decide +kernel) (ad_cons (FD.ed (fd_lc (own := [("row", 3)]) hc nd (id_seq (ed_var 1 rfl (Or.inl rfl))) (blkOk_by (by kernel_rfl)) (fun _ _ _ _ _ => (gd_name 3 nd rfl (Or.inr rfl))) (fun _ _ _ _ _ => cd_nil) (fun _ _ _ _ _ => (FD.ed (fd_lc (own := [("deed", 4)]) hc nd (id_rng1 (by rfl) b_range (ad_cons (ed_var 2 rfl (Or.inr (Or.inl rfl))) ad_nil)) (blkOk_by (by kernel_rfl)) (fun _ _ _ _ _ => (gd_name 4 nd rfl (Or.inl rfl))) (fun _ _ _ _ _ => cd_nil) (fun _ _ _ _ _ => (ed_op od_add (ed_var 3 rfl (Or.inr (Or.inl rfl))) (ed_tup (ad_cons (ed_var 4 rfl (Or.inl rfl)) ad_nil))))))))) (ad_cons (ed_lst ad_nil) ad_nil))))))
      (ssd_one (sd_ret (ed_var 1 rfl (Or.inl rfl))))))
theorem ok__law_at {f : Addr} {fd : FuncData} {k : Nat} (hea : EaOk EA) (F : Fun K "_law_at" "_law_at" s__law_at f fd) (b_zip : mg "zip" = none) :
    FnOk P w K mg base (L2.CX P w) (k + 1) f fd ["sizes", "choice"] (spF K EA 2 (fn 5 2 d__law_at)) := by
  refine def_ok F sc__law_at hea rfl (by decide) fun cdv Ar outer s H E A hW hEA hr => ?_
  subst hEA
  have nd := sc__law_at.nd
  have hp : PassesOwn (model P w) _ (cxOf (L2.CX P w) P w K mg base ["sizes", "choice", "found", "size", "deed"] "_law_at" (defScope s__law_at) f cdv Ar outer s H E).env (cxOf (L2.CX P w) P w K mg base ["sizes", "choice", "found", "size", "deed"] "_law_at" (defScope s__law_at) f cdv Ar outer s H E).xe := passes_of rfl
  have hc : (cxOf (L2.CX P w) P w K mg base ["sizes", "choice", "found", "size", "deed"] "_law_at" (defScope s__law_at) f cdv Ar outer s H E).calm = true := rfl
  exact (ssd_cons (sd_set 2 nd rfl (Or.inl rfl) ed_int)
      (ssd_cons (sd_for hp hc (id_zip (by rfl) b_zip (ad_cons (ed_var 0 rfl (Or.inl rfl)) (ad_cons (ed_var 1 rfl (Or.inl rfl)) ad_nil))) (hd_tup hc (hsd_cons (hd_name 3 nd rfl (Or.inl rfl)) (hsd_cons (hd_name 4 nd rfl (Or.inl rfl)) hsd_nil)))
      (ssd_one (sd_set 2 nd rfl (Or.inl rfl) (ed_op od_add (ed_op od_mul (ed_var 2 rfl (Or.inl rfl)) (ed_var 3 rfl (Or.inl rfl))) (ed_var 4 rfl (Or.inl rfl))))))
      (ssd_one (sd_ret (ed_var 2 rfl (Or.inl rfl))))))
theorem ok__law_with {f : Addr} {fd : FuncData} {k : Nat} (hea : EaOk EA) (F : Fun K "_law_with" "_law_with" s__law_with f fd) :
    FnOk P w K mg base (L2.CX P w) (k + 1) f fd ["choice", "chooser", "deed"] (spF K EA 3 (fn 3 3 d__law_with)) := by
  refine def_ok F sc__law_with hea rfl (by decide) fun cdv Ar outer s H E A hW hEA hr => ?_
  subst hEA
  exact (ssd_one (sd_ret (ed_op od_add (ed_op od_add (ed_sl (ed_var 0 rfl (Or.inl rfl)) oo_no (oo_yes (ed_var 1 rfl (Or.inl rfl)))) (ed_tup (ad_cons (ed_var 2 rfl (Or.inl rfl)) ad_nil))) (ed_sl (ed_var 0 rfl (Or.inl rfl)) (oo_yes (ed_op od_add (ed_var 1 rfl (Or.inl rfl)) ed_int)) oo_no))))
theorem ok__law_any_sizes {f : Addr} {fd : FuncData} {k : Nat} (hea : EaOk EA) (F : Fun K "_law_any_sizes" "_law_any_sizes" s__law_any_sizes f fd) (k__law_any_of : Cal P w K mg base EA "_law_any_of" ["urn", "some"] k F__law_any_of) :
    FnOk P w K mg base (L2.CX P w) (k + 1) f fd ["urn"] (spF K EA 1 (fn 2 1 d__law_any_sizes)) := by
  refine def_ok F sc__law_any_sizes hea rfl (by decide) fun cdv Ar outer s H E A hW hEA hr => ?_
  subst hEA
  have nd := sc__law_any_sizes.nd
  have hx : Passes (L2.CX P w) (cxOf (L2.CX P w) P w K mg base ["urn", "some"] "_law_any_sizes" (defScope s__law_any_sizes) f cdv Ar outer s H E) A.g.W := by subst hW; exact passes_call (takes_of rfl rfl rfl rfl) (fun _ _ _ _ h => h)
  exact (ssd_cons (sd_set 1 nd rfl (Or.inl rfl) (ed_tup (ad_cons (ed_tup (ad_cons ed_int (ad_cons ed_int ad_nil))) (ad_cons (ed_tup (ad_cons ed_int (ad_cons ed_int ad_nil))) (ad_cons (ed_tup (ad_cons ed_int (ad_cons ed_int ad_nil))) (ad_cons (ed_tup (ad_cons ed_int (ad_cons ed_int ad_nil))) (ad_cons (ed_tup (ad_cons ed_int (ad_cons ed_int ad_nil))) (ad_cons (ed_tup (ad_cons ed_int (ad_cons ed_int (ad_cons ed_int ad_nil)))) (ad_cons (ed_tup (ad_cons ed_int (ad_cons ed_int ad_nil))) (ad_cons (ed_tup (ad_cons ed_int ad_nil)) (ad_cons (ed_tup (ad_cons ed_int (ad_cons ed_int (ad_cons ed_int ad_nil)))) (ad_cons (ed_tup (ad_cons ed_int (ad_cons ed_int (ad_cons ed_int ad_nil)))) (ad_cons (ed_tup (ad_cons ed_int (ad_cons ed_int (ad_cons ed_int (ad_cons ed_int ad_nil))))) (ad_cons (ed_tup (ad_cons ed_int ad_nil)) (ad_cons (ed_tup (ad_cons ed_int (ad_cons ed_int ad_nil))) (ad_cons (ed_tup (ad_cons ed_int (ad_cons ed_int (ad_cons ed_int (ad_cons ed_int ad_nil))))) ad_nil))))))))))))))))
      (ssd_one (sd_ret (ed_call k__law_any_of hr hx (by rfl) (ad_cons (ed_var 0 rfl (Or.inl rfl)) (ad_cons (ed_var 1 rfl (Or.inl rfl)) ad_nil))))))
theorem ok__law_is_sizes {f : Addr} {fd : FuncData} {k : Nat} (hea : EaOk EA) (F : Fun K "_law_is_sizes" "_law_is_sizes" s__law_is_sizes f fd) (k__law_is_up_to : Cal P w K mg base EA "_law_is_up_to" ["value", "most"] k F__law_is_up_to) (b_isinstance : mg "isinstance" = none) (b_tuple : mg "tuple" = none) (b_len : mg "len" = none) :
    FnOk P w K mg base (L2.CX P w) (k + 1) f fd ["value", "least"] (spF K EA 2 (fn 4 2 d__law_is_sizes)) := by
  refine def_ok F sc__law_is_sizes hea rfl (by decide) fun cdv Ar outer s H E A hW hEA hr => ?_
  subst hEA
  have hU := hr.units
  have hU0 := hr.units0
  have nd := sc__law_is_sizes.nd
  have hx : Passes (L2.CX P w) (cxOf (L2.CX P w) P w K mg base ["value", "least", "product", "each"] "_law_is_sizes" (defScope s__law_is_sizes) f cdv Ar outer s H E) A.g.W := by subst hW; exact passes_call (takes_of rfl rfl rfl rfl) (fun _ _ _ _ h => h)
  have hp : PassesOwn (model P w) _ (cxOf (L2.CX P w) P w K mg base ["value", "least", "product", "each"] "_law_is_sizes" (defScope s__law_is_sizes) f cdv Ar outer s H E).env (cxOf (L2.CX P w) P w K mg base ["value", "least", "product", "each"] "_law_is_sizes" (defScope s__law_is_sizes) f cdv Ar outer s H E).xe := passes_of rfl
  have hc : (cxOf (L2.CX P w) P w K mg base ["value", "least", "product", "each"] "_law_is_sizes" (defScope s__law_is_sizes) f cdv Ar outer s H E).calm = true := rfl
  exact (ssd_cons (sd_if (WD.td (wd_or (td_not (td (ed_isTy (by rfl) b_isinstance (by rfl) b_tuple (by rfl) (ed_var 0 rfl (Or.inl rfl))))) (wd_or (td_not (td_chain od_le (od_lt hU0) (ed_var 1 rfl (Or.inl rfl)) (ed_B cd_len (by rfl) b_len boot_len (ad_cons (ed_var 0 rfl (Or.inl rfl)) ad_nil)) ed_int)) (wd_or1 (td_cmp od_in ed_bl (FD.ed (fd_lc (own := [("each", 3)]) hc nd (id_seq (ed_var 0 rfl (Or.inl rfl))) (blkOk_by (by kernel_rfl)) (fun _ _ _ _ _ => (gd_name 3 nd rfl (Or.inl rfl))) (fun _ _ _ _ _ => cd_nil) (fun _ _ _ _ _ => (ed_and (ed_call k__law_is_up_to hr Dn.passL (by rfl) (ad_cons (ed_var 3 rfl (Or.inl rfl)) (ad_cons ed_int ad_nil))) (ed_one (ed_cmp od_gt (ed_var 3 rfl (Or.inl rfl)) ed_int)))))))))))
      (ssd_one (sd_ret ed_bl))
      ssd_nil)
      (ssd_cons (sd_set 2 nd rfl (Or.inl rfl) ed_int)
      (ssd_cons (sd_for hp hc (id_seq (ed_var 0 rfl (Or.inl rfl))) (hd_name 3 nd rfl (Or.inl rfl))
      (ssd_one (sd_set 2 nd rfl (Or.inl rfl) (ed_op od_mul (ed_var 2 rfl (Or.inl rfl)) (ed_var 3 rfl (Or.inl rfl))))))
      (ssd_one (sd_ret (ed_cmp (od_lt hU0) (ed_var 2 rfl (Or.inl rfl)) ed_int))))))
theorem ok__law_crowd_users {f : Addr} {fd : FuncData} {k : Nat} (hea : EaOk EA) (F : Fun K "_law_crowd_users" "_law_crowd_users" s__law_crowd_users f fd) (b_len : mg "len" = none) (b_zip : mg "zip" = none) (b_tuple : mg "tuple" = none) :
    FnOk P w K mg base (L2.CX P w) (k + 1) f fd ["crowd", "choice"] (spF K EA 2 (fn 6 2 d__law_crowd_users)) := by
  refine def_ok F sc__law_crowd_users hea rfl (by decide) fun cdv Ar outer s H E A hW hEA hr => ?_
  subst hEA
  have nd := sc__law_crowd_users.nd
  have hp : PassesOwn (model P w) _ (cxOf (L2.CX P w) P w K mg base ["crowd", "choice", "found", "ways", "deed", "road"] "_law_crowd_users" (defScope s__law_crowd_users) f cdv Ar outer s H E).env (cxOf (L2.CX P w) P w K mg base ["crowd", "choice", "found", "ways", "deed", "road"] "_law_crowd_users" (defScope s__law_crowd_users) f cdv Ar outer s H E).xe := passes_of rfl
  have hc : (cxOf (L2.CX P w) P w K mg base ["crowd", "choice", "found", "ways", "deed", "road"] "_law_crowd_users" (defScope s__law_crowd_users) f cdv Ar outer s H E).calm = true := rfl
  exact (ssd_cons (sd_setF 2 nd rfl (Or.inl rfl) (fd_mul (FD.ed (fd_lst (ad_cons ed_int ad_nil))) (ed_B cd_len (by rfl) b_len boot_len (ad_cons (ed_ix (ed_var 0 rfl (Or.inl rfl)) ed_int) ad_nil))))
      (ssd_cons (sd_for hp hc (id_zip (by rfl) b_zip (ad_cons (ed_ix (ed_var 0 rfl (Or.inl rfl)) ed_int) (ad_cons (ed_var 1 rfl (Or.inl rfl)) ad_nil))) (hd_tup hc (hsd_cons (hd_name 3 nd rfl (Or.inl rfl)) (hsd_cons (hd_name 4 nd rfl (Or.inl rfl)) hsd_nil)))
      (ssd_one (sd_for hp hc (id_seq (ed_ix (ed_var 3 rfl (Or.inl rfl)) (ed_var 4 rfl (Or.inl rfl)))) (hd_name 5 nd rfl (Or.inl rfl))
      (ssd_one (sd_put 2 rfl (Or.inl rfl) (ed_var 5 rfl (Or.inl rfl)) (ed_op od_add (ed_ix (ed_var 2 rfl (Or.inl rfl)) (ed_var 5 rfl (Or.inl rfl))) ed_int))))))
      (ssd_one (sd_ret (ed_Ty cd_tuple (by rfl) b_tuple (by decide +kernel) (ad_cons (ed_var 2 rfl (Or.inl rfl)) ad_nil))))))
theorem ok__law_crowd_game {f : Addr} {fd : FuncData} {k : Nat} (hea : EaOk EA) (F : Fun K "_law_crowd_game" "_law_crowd_game" s__law_crowd_game f fd) (k__law_all : Cal P w K mg base EA "_law_all" ["sizes"] k F__law_all) (k__law_crowd_users : Cal P w K mg base EA "_law_crowd_users" ["crowd", "choice"] k F__law_crowd_users) (b_tuple : mg "tuple" = none) (b_len : mg "len" = none) (b_enumerate : mg "enumerate" = none) (b_sum : mg "sum" = none) :
    FnOk P w K mg base (L2.CX P w) (k + 1) f fd ["crowd"] (spF K EA 1 (fn 10 1 d__law_crowd_game)) := by
  refine def_ok F sc__law_crowd_game hea rfl (by decide) fun cdv Ar outer s H E A hW hEA hr => ?_
  subst hEA
  have nd := sc__law_crowd_game.nd
  have hx : Passes (L2.CX P w) (cxOf (L2.CX P w) P w K mg base ["crowd", "sizes", "rows", "choice", "told", "k", "ways", "size", "road", "row"] "_law_crowd_game" (defScope s__law_crowd_game) f cdv Ar outer s H E) A.g.W := by subst hW; exact passes_call (takes_of rfl rfl rfl rfl) (fun _ _ _ _ h => h)
  have hp : PassesOwn (model P w) _ (cxOf (L2.CX P w) P w K mg base ["crowd", "sizes", "rows", "choice", "told", "k", "ways", "size", "road", "row"] "_law_crowd_game" (defScope s__law_crowd_game) f cdv Ar outer s H E).env (cxOf (L2.CX P w) P w K mg base ["crowd", "sizes", "rows", "choice", "told", "k", "ways", "size", "road", "row"] "_law_crowd_game" (defScope s__law_crowd_game) f cdv Ar outer s H E).xe := passes_of rfl
  have hc : (cxOf (L2.CX P w) P w K mg base ["crowd", "sizes", "rows", "choice", "told", "k", "ways", "size", "road", "row"] "_law_crowd_game" (defScope s__law_crowd_game) f cdv Ar outer s H E).calm = true := rfl
  exact (ssd_cons (sd_set 1 nd rfl (Or.inl rfl) (ed_Ty cd_tuple (by rfl) b_tuple (by decide +kernel) (ad_cons (FD.ed (fd_lc (own := [("ways", 6)]) hc nd (id_seq (ed_ix (ed_var 0 rfl (Or.inr (Or.inl rfl))) ed_int)) (blkOk_by (by kernel_rfl)) (fun _ _ _ _ _ => (gd_name 6 nd rfl (Or.inl rfl))) (fun _ _ _ _ _ => cd_nil) (fun _ _ _ _ _ => (ed_B cd_len (by rfl) b_len boot_len (ad_cons (ed_var 6 rfl (Or.inl rfl)) ad_nil))))) ad_nil)))
      (ssd_cons (sd_set2Lc (own := [("size", 7)]) 2 nd rfl rfl (sw_true rfl rfl rfl rfl) hc (id_seq (ed_var 1 rfl (Or.inl rfl))) (blkOk_by (by kernel_rfl)) (fun _ _ _ _ _ => (gd_name 7 nd rfl (Or.inl rfl))) (fun _ _ _ _ _ => cd_nil) (fun _ _ _ _ _ => (fd_lst ad_nil)))
      (ssd_cons (sd_for hp hc (id_seq (ed_call k__law_all hr hx (by rfl) (ad_cons (ed_var 1 rfl (Or.inl rfl)) ad_nil))) (hd_name 3 nd rfl (Or.inl rfl))
      (ssd_cons (sd_set 4 nd rfl (Or.inr rfl) (ed_call k__law_crowd_users hr hx (by rfl) (ad_cons (ed_var 0 rfl (Or.inr (Or.inl rfl))) (ad_cons (ed_var 3 rfl (Or.inl rfl)) ad_nil))))
      (ssd_one (sd_for hp hc (id_enum (by rfl) b_enumerate (ad_cons (ed_ix (ed_var 0 rfl (Or.inr (Or.inl rfl))) ed_int) ad_nil)) (hd_tup hc (hsd_cons (hd_name 5 nd rfl (Or.inl rfl)) (hsd_cons (hd_name 6 nd rfl (Or.inl rfl)) hsd_nil)))
      (ssd_one (sd_app2 2 rfl (Or.inl rfl) (ed_var 5 rfl (Or.inl rfl)) (ed_op od_sub ed_int (ed_B (cd_sum hc) (by rfl) b_sum (by decide +kernel) (ad_cons (FD.ed (fd_lc (own := [("road", 8)]) hc nd (id_seq (ed_ix (ed_var 6 rfl (Or.inl rfl)) (ed_ix (ed_var 3 rfl (Or.inl rfl)) (ed_var 5 rfl (Or.inl rfl))))) (blkOk_by (by kernel_rfl)) (fun _ _ _ _ _ => (gd_name 8 nd rfl (Or.inl rfl))) (fun _ _ _ _ _ => cd_nil) (fun _ _ _ _ _ => (ed_ix (ed_ix (ed_ix (ed_var 0 rfl (Or.inr (Or.inl rfl))) ed_int) (ed_var 8 rfl (Or.inl rfl))) (ed_op od_sub (ed_ix (ed_var 4 rfl (Or.inr (Or.inl rfl))) (ed_var 8 rfl (Or.inl rfl))) ed_int))))) ad_nil)))))))))
      (ssd_one (sd_ret (ed_tup (ad_cons (ed_var 1 rfl (Or.inl rfl)) (ad_cons (ed_Ty cd_tuple (by rfl) b_tuple (by decide +kernel) (ad_cons (FD.ed (fd_lc (own := [("row", 9)]) hc nd (id_seq (ed_var 2 rfl (Or.inl rfl))) (blkOk_by (by kernel_rfl)) (fun _ _ _ _ _ => (gd_name 9 nd rfl (Or.inl rfl))) (fun _ _ _ _ _ => cd_nil) (fun _ _ _ _ _ => (ed_Ty cd_tuple (by rfl) b_tuple (by decide +kernel) (ad_cons (ed_var 9 rfl (Or.inl rfl)) ad_nil))))) ad_nil)) ad_nil))))))))
theorem ok__law_any_crowd {f : Addr} {fd : FuncData} {k : Nat} (hea : EaOk EA) (F : Fun K "_law_any_crowd" "_law_any_crowd" s__law_any_crowd f fd) (k__law_any_of : Cal P w K mg base EA "_law_any_of" ["urn", "some"] k F__law_any_of) (k__law_nip : Cal P w K mg base EA "_law_nip" ["urn", "many"] k F__law_nip) (k__law_any_sizes : Cal P w K mg base EA "_law_any_sizes" ["urn"] k F__law_any_sizes) (k__law_some : Cal P w K mg base EA "_law_some" ["urn", "things", "share"] k F__law_some) (b_tuple : mg "tuple" = none) (b_range : mg "range" = none) (b_list : mg "list" = none) :
    FnOk P w K mg base (L2.CX P w) (k + 1) f fd ["urn"] (spF K EA 1 (fn 9 1 d__law_any_crowd)) := by
  refine def_ok F sc__law_any_crowd hea rfl (by decide) fun cdv Ar outer s H E A hW hEA hr => ?_
  subst hEA
  have nd := sc__law_any_crowd.nd
  have hx : Passes (L2.CX P w) (cxOf (L2.CX P w) P w K mg base ["urn", "sizes", "roads", "high", "ways", "size", "deed", "road", "k"] "_law_any_crowd" (defScope s__law_any_crowd) f cdv Ar outer s H E) A.g.W := by subst hW; exact passes_call (takes_of rfl rfl rfl rfl) (fun _ _ _ _ h => h)
  have hc : (cxOf (L2.CX P w) P w K mg base ["urn", "sizes", "roads", "high", "ways", "size", "deed", "road", "k"] "_law_any_crowd" (defScope s__law_any_crowd) f cdv Ar outer s H E).calm = true := rfl
  exact (ssd_cons (sd_parT hc (nd_cons 1 nd rfl (Or.inr rfl) (nd_cons 2 nd rfl (Or.inr rfl) (nd_cons 3 nd rfl (Or.inr rfl) nd_nil))) (qd_cons (ed_call k__law_any_sizes hr hx (by rfl) (ad_cons (ed_var 0 rfl (Or.inr (Or.inl rfl))) ad_nil)) (qd_cons (ed_op od_add ed_int (ed_call k__law_nip hr hx (by rfl) (ad_cons (ed_var 0 rfl (Or.inr (Or.inl rfl))) (ad_cons ed_int ad_nil)))) (qd_cons (ed_call k__law_any_of hr hx (by rfl) (ad_cons (ed_var 0 rfl (Or.inr (Or.inl rfl))) (ad_cons (ed_tup (ad_cons ed_int (ad_cons ed_int (ad_cons (ed_op od_pow ed_int ed_int) ad_nil)))) ad_nil))) qd_nil))))
      (ssd_cons (sd_set 4 nd rfl (Or.inl rfl) (ed_Ty cd_tuple (by rfl) b_tuple (by decide +kernel) (ad_cons (FD.ed (fd_lc (own := [("size", 5)]) hc nd (id_seq (ed_var 1 rfl (Or.inr (Or.inl rfl)))) (blkOk_by (by kernel_rfl)) (fun _ _ _ _ _ => (gd_name 5 nd rfl (Or.inl rfl))) (fun _ _ _ _ _ => cd_nil) (fun _ _ _ _ _ => (ed_Ty cd_tuple (by rfl) b_tuple (by decide +kernel) (ad_cons (FD.ed (fd_lc (own := [("deed", 6)]) hc nd (id_rng1 (by rfl) b_range (ad_cons (ed_var 5 rfl (Or.inl rfl)) ad_nil)) (blkOk_by (by kernel_rfl)) (fun _ _ _ _ _ => (gd_name 6 nd rfl (Or.inl rfl))) (fun _ _ _ _ _ => cd_nil) (fun _ _ _ _ _ => (ed_call k__law_some hr Dn.passL (by rfl) (ad_cons (ed_var 0 rfl (Or.inr (Or.inl rfl))) (ad_cons (FD.ed (fd_listR1 hc (by rfl) b_list (by rfl) b_range (ed_var 2 rfl (Or.inr (Or.inl rfl))))) (ad_cons (ed_op od_add ed_int (ed_call k__law_nip hr Dn.passL (by rfl) (ad_cons (ed_var 0 rfl (Or.inr (Or.inl rfl))) (ad_cons ed_int ad_nil)))) ad_nil))))))) ad_nil))))) ad_nil)))
      (ssd_one (sd_ret (ed_tup (ad_cons (ed_var 4 rfl (Or.inl rfl)) (ad_cons (ed_Ty cd_tuple (by rfl) b_tuple (by decide +kernel) (ad_cons (FD.ed (fd_lc (own := [("road", 7)]) hc nd (id_rng1 (by rfl) b_range (ad_cons (ed_var 2 rfl (Or.inr (Or.inl rfl))) ad_nil)) (blkOk_by (by kernel_rfl)) (fun _ _ _ _ _ => (gd_name 7 nd rfl (Or.inl rfl))) (fun _ _ _ _ _ => cd_nil) (fun _ _ _ _ _ => (ed_Ty cd_tuple (by rfl) b_tuple (by decide +kernel) (ad_cons (FD.ed (fd_lc (own := [("k", 8)]) hc nd (id_seq (ed_var 1 rfl (Or.inr (Or.inl rfl)))) (blkOk_by (by kernel_rfl)) (fun _ _ _ _ _ => (gd_name 8 nd rfl (Or.inl rfl))) (fun _ _ _ _ _ => cd_nil) (fun _ _ _ _ _ => (ed_op od_sub (ed_call k__law_nip hr Dn.passL (by rfl) (ad_cons (ed_var 0 rfl (Or.inr (Or.inl rfl))) (ad_cons (ed_op od_mul ed_int (ed_var 3 rfl (Or.inr (Or.inl rfl)))) ad_nil))) (ed_var 3 rfl (Or.inr (Or.inl rfl))))))) ad_nil))))) ad_nil)) ad_nil)))))))
theorem ok__law_is_crowd {f : Addr} {fd : FuncData} {k : Nat} (hea : EaOk EA) (F : Fun K "_law_is_crowd" "_law_is_crowd" s__law_is_crowd f fd) (k__law_is_sizes : Cal P w K mg base EA "_law_is_sizes" ["value", "least"] k F__law_is_sizes) (k__law_is_whole : Cal P w K mg base EA "_law_is_whole" ["value"] k F__law_is_whole) (k__law_is_up_to : Cal P w K mg base EA "_law_is_up_to" ["value", "most"] k F__law_is_up_to) (b_isinstance : mg "isinstance" = none) (b_tuple : mg "tuple" = none) (b_len : mg "len" = none) (b_range : mg "range" = none) :
    FnOk P w K mg base (L2.CX P w) (k + 1) f fd ["value"] (spF K EA 1 (fn 7 1 d__law_is_crowd)) := by
  refine def_ok F sc__law_is_crowd hea rfl (by decide) fun cdv Ar outer s H E A hW hEA hr => ?_
  subst hEA
  have hU := hr.units
  have hU0 := hr.units0
  have nd := sc__law_is_crowd.nd
  have hx : Passes (L2.CX P w) (cxOf (L2.CX P w) P w K mg base ["value", "row", "ways", "way", "each", "road", "k"] "_law_is_crowd" (defScope s__law_is_crowd) f cdv Ar outer s H E) A.g.W := by subst hW; exact passes_call (takes_of rfl rfl rfl rfl) (fun _ _ _ _ h => h)
  have hp : PassesOwn (model P w) _ (cxOf (L2.CX P w) P w K mg base ["value", "row", "ways", "way", "each", "road", "k"] "_law_is_crowd" (defScope s__law_is_crowd) f cdv Ar outer s H E).env (cxOf (L2.CX P w) P w K mg base ["value", "row", "ways", "way", "each", "road", "k"] "_law_is_crowd" (defScope s__law_is_crowd) f cdv Ar outer s H E).xe := passes_of rfl
  have hc : (cxOf (L2.CX P w) P w K mg base ["value", "row", "ways", "way", "each", "road", "k"] "_law_is_crowd" (defScope s__law_is_crowd) f cdv Ar outer s H E).calm = true := rfl
  exact (ssd_cons (sd_if (WD.td (wd_or (td_not (td (ed_isTy (by rfl) b_isinstance (by rfl) b_tuple (by rfl) (ed_var 0 rfl (Or.inr (Or.inl rfl)))))) (wd_or (td_cmp (od_ne hU) (ed_B cd_len (by rfl) b_len boot_len (ad_cons (ed_var 0 rfl (Or.inr (Or.inl rfl))) ad_nil)) ed_int) (wd_or (td_not (td (ed_isTy (by rfl) b_isinstance (by rfl) b_tuple (by rfl) (ed_ix (ed_var 0 rfl (Or.inr (Or.inl rfl))) ed_int)))) (wd_or1 (td_not (td_chain (od_lt hU0) (od_lt hU0) ed_int (ed_B cd_len (by rfl) b_len boot_len (ad_cons (ed_ix (ed_var 0 rfl (Or.inr (Or.inl rfl))) ed_int) ad_nil)) ed_int)))))))
      (ssd_one (sd_ret ed_bl))
      ssd_nil)
      (ssd_cons (sd_if (WD.td (wd_or (td_cmp od_in ed_bl (FD.ed (fd_lc (own := [("ways", 2)]) hc nd (id_seq (ed_ix (ed_var 0 rfl (Or.inr (Or.inl rfl))) ed_int)) (blkOk_by (by kernel_rfl)) (fun _ _ _ _ _ => (gd_name 2 nd rfl (Or.inl rfl))) (fun _ _ _ _ _ => cd_nil) (fun _ _ _ _ _ => (ed_isTy (by rfl) b_isinstance (by rfl) b_tuple (by rfl) (ed_var 2 rfl (Or.inl rfl))))))) (wd_or1 (td_not (td (ed_call k__law_is_sizes hr hx (by rfl) (ad_cons (ed_Ty cd_tuple (by rfl) b_tuple (by decide +kernel) (ad_cons (FD.ed (fd_lc (own := [("ways", 2)]) hc nd (id_seq (ed_ix (ed_var 0 rfl (Or.inr (Or.inl rfl))) ed_int)) (blkOk_by (by kernel_rfl)) (fun _ _ _ _ _ => (gd_name 2 nd rfl (Or.inl rfl))) (fun _ _ _ _ _ => cd_nil) (fun _ _ _ _ _ => (ed_B cd_len (by rfl) b_len boot_len (ad_cons (ed_var 2 rfl (Or.inl rfl)) ad_nil))))) ad_nil)) (ad_cons ed_int ad_nil))))))))
      (ssd_one (sd_ret ed_bl))
      ssd_nil)
      (ssd_cons (sd_if (WD.td (wd_or (td_not (td (ed_isTy (by rfl) b_isinstance (by rfl) b_tuple (by rfl) (ed_ix (ed_var 0 rfl (Or.inr (Or.inl rfl))) ed_int)))) (wd_or1 (td_not (td_chain (od_lt hU0) (od_lt hU0) ed_int (ed_B cd_len (by rfl) b_len boot_len (ad_cons (ed_ix (ed_var 0 rfl (Or.inr (Or.inl rfl))) ed_int) ad_nil)) ed_int)))))
      (ssd_one (sd_ret ed_bl))
      ssd_nil)
      (ssd_cons (sd_for hp hc (id_seq (ed_ix (ed_var 0 rfl (Or.inr (Or.inl rfl))) ed_int)) (hd_name 1 nd rfl (Or.inl rfl))
      (ssd_one (sd_if (WD.td (wd_or (td_not (td (ed_isTy (by rfl) b_isinstance (by rfl) b_tuple (by rfl) (ed_var 1 rfl (Or.inl rfl))))) (wd_or (td_cmp (od_ne hU) (ed_B cd_len (by rfl) b_len boot_len (ad_cons (ed_var 1 rfl (Or.inl rfl)) ad_nil)) (ed_B cd_len (by rfl) b_len boot_len (ad_cons (ed_ix (ed_var 0 rfl (Or.inr (Or.inl rfl))) ed_int) ad_nil))) (wd_or1 (td_cmp od_in ed_bl (FD.ed (fd_lc (own := [("each", 4)]) hc nd (id_seq (ed_var 1 rfl (Or.inl rfl))) (blkOk_by (by kernel_rfl)) (fun _ _ _ _ _ => (gd_name 4 nd rfl (Or.inl rfl))) (fun _ _ _ _ _ => cd_nil) (fun _ _ _ _ _ => (ed_call k__law_is_whole hr Dn.passL (by rfl) (ad_cons (ed_var 4 rfl (Or.inl rfl)) ad_nil))))))))))
      (ssd_one (sd_ret ed_bl))
      ssd_nil)))
      (ssd_cons (sd_for hp hc (id_seq (ed_ix (ed_var 0 rfl (Or.inr (Or.inl rfl))) ed_int)) (hd_name 2 nd rfl (Or.inl rfl))
      (ssd_one (sd_for hp hc (id_seq (ed_var 2 rfl (Or.inl rfl))) (hd_name 3 nd rfl (Or.inr rfl))
      (ssd_one (sd_if (WD.td (wd_or (td_not (td (ed_isTy (by rfl) b_isinstance (by rfl) b_tuple (by rfl) (ed_var 3 rfl (Or.inr (Or.inl rfl)))))) (wd_or (td_cmp od_in ed_bl (FD.ed (fd_lc (own := [("road", 5)]) hc nd (id_seq (ed_var 3 rfl (Or.inr (Or.inl rfl)))) (blkOk_by (by kernel_rfl)) (fun _ _ _ _ _ => (gd_name 5 nd rfl (Or.inl rfl))) (fun _ _ _ _ _ => cd_nil) (fun _ _ _ _ _ => (ed_call k__law_is_up_to hr Dn.passL (by rfl) (ad_cons (ed_var 5 rfl (Or.inl rfl)) (ad_cons (ed_op od_sub (ed_B cd_len (by rfl) b_len boot_len (ad_cons (ed_ix (ed_var 0 rfl (Or.inr (Or.inl rfl))) ed_int) ad_nil)) ed_int) ad_nil))))))) (wd_or1 (td_cmp od_in ed_bl (FD.ed (fd_lc (own := [("k", 6)]) hc nd (id_rng2 (by rfl) b_range (ad_cons ed_int (ad_cons (ed_B cd_len (by rfl) b_len boot_len (ad_cons (ed_var 3 rfl (Or.inr (Or.inl rfl))) ad_nil)) ad_nil))) (blkOk_by (by kernel_rfl)) (fun _ _ _ _ _ => (gd_name 6 nd rfl (Or.inl rfl))) (fun _ _ _ _ _ => cd_nil) (fun _ _ _ _ _ => (ed_cmp od_le (ed_ix (ed_var 3 rfl (Or.inr (Or.inl rfl))) (ed_var 6 rfl (Or.inl rfl))) (ed_ix (ed_var 3 rfl (Or.inr (Or.inl rfl))) (ed_op od_sub (ed_var 6 rfl (Or.inl rfl)) ed_int)))))))))))
      (ssd_one (sd_ret ed_bl))
      ssd_nil)))))
      (ssd_one (sd_ret ed_bl)))))))
theorem ok__law_gain {f : Addr} {fd : FuncData} {k : Nat} (hea : EaOk EA) (F : Fun K "_law_gain" "_law_gain" s__law_gain f fd) (b_len : mg "len" = none) (b_zip : mg "zip" = none) :
    FnOk P w K mg base (L2.CX P w) (k + 1) f fd ["crowd", "choice", "chooser"] (spF K EA 3 (fn 8 3 d__law_gain)) := by
  refine def_ok F sc__law_gain hea rfl (by decide) fun cdv Ar outer s H E A hW hEA hr => ?_
  subst hEA
  have nd := sc__law_gain.nd
  have hp : PassesOwn (model P w) _ (cxOf (L2.CX P w) P w K mg base ["crowd", "choice", "chooser", "found", "road", "number", "ways", "deed"] "_law_gain" (defScope s__law_gain) f cdv Ar outer s H E).env (cxOf (L2.CX P w) P w K mg base ["crowd", "choice", "chooser", "found", "road", "number", "ways", "deed"] "_law_gain" (defScope s__law_gain) f cdv Ar outer s H E).xe := passes_of rfl
  have hc : (cxOf (L2.CX P w) P w K mg base ["crowd", "choice", "chooser", "found", "road", "number", "ways", "deed"] "_law_gain" (defScope s__law_gain) f cdv Ar outer s H E).calm = true := rfl
  exact (ssd_cons (sd_set 3 nd rfl (Or.inl rfl) ed_int)
      (ssd_cons (sd_for hp hc (id_seq (ed_ix (ed_ix (ed_ix (ed_var 0 rfl (Or.inl rfl)) ed_int) (ed_var 2 rfl (Or.inl rfl))) (ed_ix (ed_var 1 rfl (Or.inl rfl)) (ed_var 2 rfl (Or.inl rfl))))) (hd_name 4 nd rfl (Or.inr rfl))
      (ssd_cons (sd_set 5 nd rfl (Or.inl rfl) (ed_B cd_len (by rfl) b_len boot_len (ad_cons (FD.ed (fd_lc (own := [("ways", 6), ("deed", 7)]) hc nd (id_zip (by rfl) b_zip (ad_cons (ed_ix (ed_var 0 rfl (Or.inl rfl)) ed_int) (ad_cons (ed_var 1 rfl (Or.inl rfl)) ad_nil))) (blkOk_by (by kernel_rfl)) (fun _ _ _ _ _ => (gd_tup hc (gsd_cons (gd_name 6 nd rfl (Or.inl rfl)) (gsd_cons (gd_name 7 nd rfl (Or.inl rfl)) gsd_nil)))) (fun _ _ _ _ _ => (cd_one (td_cmp od_in (ed_var 4 rfl (Or.inr (Or.inl rfl))) (ed_ix (ed_var 6 rfl (Or.inl rfl)) (ed_var 7 rfl (Or.inl rfl)))))) (fun _ _ _ _ _ => ed_int))) ad_nil)))
      (ssd_one (sd_set 3 nd rfl (Or.inl rfl) (ed_op od_sub (ed_var 3 rfl (Or.inl rfl)) (ed_ix (ed_ix (ed_ix (ed_var 0 rfl (Or.inl rfl)) ed_int) (ed_var 4 rfl (Or.inr (Or.inl rfl)))) (ed_op od_sub (ed_var 5 rfl (Or.inl rfl)) ed_int)))))))
      (ssd_one (sd_ret (ed_var 3 rfl (Or.inl rfl))))))
theorem ok__law_is_told {f : Addr} {fd : FuncData} {k : Nat} (hea : EaOk EA) (F : Fun K "_law_is_told" "_law_is_told" s__law_is_told f fd) (k__law_nip : Cal P w K mg base EA "_law_nip" ["urn", "many"] k F__law_nip) (k_crowd_game : Cal P w K mg base EA "crowd_game" ["crowd"] k F_crowd_game) (k__law_same : Cal P w K mg base EA "_law_same" ["one", "two"] k F__law_same) (k__law_crowd_game : Cal P w K mg base EA "_law_crowd_game" ["crowd"] k F__law_crowd_game) (k_is_game : Cal P w K mg base EA "is_game" ["value"] k F_is_game) (k__law_any_of : Cal P w K mg base EA "_law_any_of" ["urn", "some"] k F__law_any_of) (k__law_all : Cal P w K mg base EA "_law_all" ["sizes"] k F__law_all) (k_users : Cal P w K mg base EA "users" ["crowd", "choice"] k F_users) (k__law_crowd_users : Cal P w K mg base EA "_law_crowd_users" ["crowd", "choice"] k F__law_crowd_users) (k__law_gain : Cal P w K mg base EA "_law_gain" ["crowd", "choice", "chooser"] k F__law_gain) (k_gain : Cal P w K mg base EA "gain" ["game", "chooser", "choice"] k F_gain) (kb_crowd_game_0 : ∀ (qual : Str) (st : Stmt) (f : Addr) (fd : FuncData), Fun K "crowd_game" qual st f fd → mg "crowd_game" = some (.ref f) → KB fd ["crowd"] ["crowd"] [0]) (kb_users_1_0 : ∀ (qual : Str) (st : Stmt) (f : Addr) (fd : FuncData), Fun K "users" qual st f fd → mg "users" = some (.ref f) → KB fd ["crowd", "choice"] ["choice", "crowd"] [1, 0]) (b_range : mg "range" = none) (b_len : mg "len" = none) :
    FnOk P w K mg base (L2.CX P w) (k + 1) f fd ["urn", "crowd"] (spF K EA 2 (fn 7 2 d__law_is_told)) := by
  refine def_ok F sc__law_is_told hea rfl (by decide) fun cdv Ar outer s H E A hW hEA hr => ?_
  subst hEA
  have hU := hr.units
  have nd := sc__law_is_told.nd
  have hx : Passes (L2.CX P w) (cxOf (L2.CX P w) P w K mg base ["urn", "crowd", "told", "choice", "some", "chooser", "lap"] "_law_is_told" (defScope s__law_is_told) f cdv Ar outer s H E) A.g.W := by subst hW; exact passes_call (takes_of rfl rfl rfl rfl) (fun _ _ _ _ h => h)
  have hp : PassesOwn (model P w) _ (cxOf (L2.CX P w) P w K mg base ["urn", "crowd", "told", "choice", "some", "chooser", "lap"] "_law_is_told" (defScope s__law_is_told) f cdv Ar outer s H E).env (cxOf (L2.CX P w) P w K mg base ["urn", "crowd", "told", "choice", "some", "chooser", "lap"] "_law_is_told" (defScope s__law_is_told) f cdv Ar outer s H E).xe := passes_of rfl
  have hc : (cxOf (L2.CX P w) P w K mg base ["urn", "crowd", "told", "choice", "some", "chooser", "lap"] "_law_is_told" (defScope s__law_is_told) f cdv Ar outer s H E).calm = true := rfl
  exact (ssd_cons (sd_set 2 nd rfl (Or.inr rfl) (ed_if (td_cmp (od_eq hU) (ed_call k__law_nip hr hx (by rfl) (ad_cons (ed_var 0 rfl (Or.inr (Or.inl rfl))) (ad_cons ed_int ad_nil))) ed_int) (ed_call k_crowd_game hr hx (by rfl) (ad_cons (ed_var 1 rfl (Or.inl rfl)) ad_nil)) (ed_callK (q := [0]) k_crowd_game kb_crowd_game_0 hr hx (by rfl) (kd_cons (ed_var 1 rfl (Or.inl rfl)) kd_nil) (fun ds h => by match ds, h with | [_], _ => rfl))))
      (ssd_cons (sd_if (WD.td (wd_or (td_not (td (ed_call k__law_same hr hx (by rfl) (ad_cons (ed_var 2 rfl (Or.inr (Or.inl rfl))) (ad_cons (ed_call k__law_crowd_game hr hx (by rfl) (ad_cons (ed_var 1 rfl (Or.inl rfl)) ad_nil)) ad_nil))))) (wd_or1 (td_cmp od_isNB (ed_call k_is_game hr hx (by rfl) (ad_cons (ed_var 2 rfl (Or.inr (Or.inl rfl))) ad_nil)) ed_bl))))
      (ssd_one (sd_ret ed_bl))
      ssd_nil)
      (ssd_cons (sd_for hp hc (id_seq (FD.ed (fd_lc (own := [("lap", 6)]) hc nd (id_rng1 (by rfl) b_range (ad_cons ed_int ad_nil)) (blkOk_by (by kernel_rfl)) (fun _ _ _ _ _ => (gd_name 6 nd rfl (Or.inl rfl))) (fun _ _ _ _ _ => cd_nil) (fun _ _ _ _ _ => (ed_call k__law_any_of hr Dn.passL (by rfl) (ad_cons (ed_var 0 rfl (Or.inr (Or.inl rfl))) (ad_cons (ed_call k__law_all hr Dn.passL (by rfl) (ad_cons (ed_ix (ed_var 2 rfl (Or.inr (Or.inl rfl))) ed_int) ad_nil)) ad_nil))))))) (hd_name 3 nd rfl (Or.inl rfl))
      (ssd_cons (sd_set 4 nd rfl (Or.inl rfl) (ed_if (td_cmp (od_eq hU) (ed_call k__law_nip hr hx (by rfl) (ad_cons (ed_var 0 rfl (Or.inr (Or.inl rfl))) (ad_cons ed_int ad_nil))) ed_int) (ed_call k_users hr hx (by rfl) (ad_cons (ed_var 1 rfl (Or.inl rfl)) (ad_cons (ed_var 3 rfl (Or.inl rfl)) ad_nil))) (ed_callK (q := [1, 0]) k_users kb_users_1_0 hr hx (by rfl) (kd_cons (ed_var 3 rfl (Or.inl rfl)) (kd_cons (ed_var 1 rfl (Or.inl rfl)) kd_nil)) (fun ds h => by match ds, h with | [_, _], _ => rfl))))
      (ssd_cons (sd_if (td_not (td (ed_call k__law_same hr hx (by rfl) (ad_cons (ed_var 4 rfl (Or.inl rfl)) (ad_cons (ed_call k__law_crowd_users hr hx (by rfl) (ad_cons (ed_var 1 rfl (Or.inl rfl)) (ad_cons (ed_var 3 rfl (Or.inl rfl)) ad_nil))) ad_nil)))))
      (ssd_one (sd_ret ed_bl))
      ssd_nil)
      (ssd_one (sd_for hp hc (id_rng1 (by rfl) b_range (ad_cons (ed_B cd_len (by rfl) b_len boot_len (ad_cons (ed_var 3 rfl (Or.inl rfl)) ad_nil)) ad_nil)) (hd_name 5 nd rfl (Or.inl rfl))
      (ssd_cons (sd_if (td_not (td (ed_call k__law_same hr hx (by rfl) (ad_cons (ed_call k_gain hr hx (by rfl) (ad_cons (ed_var 2 rfl (Or.inr (Or.inl rfl))) (ad_cons (ed_var 5 rfl (Or.inl rfl)) (ad_cons (ed_var 3 rfl (Or.inl rfl)) ad_nil)))) (ad_cons (ed_call k__law_gain hr hx (by rfl) (ad_cons (ed_var 1 rfl (Or.inl rfl)) (ad_cons (ed_var 3 rfl (Or.inl rfl)) (ad_cons (ed_var 5 rfl (Or.inl rfl)) ad_nil)))) ad_nil)))))
      (ssd_one (sd_ret ed_bl))
      ssd_nil)
      (ssd_one (sd_if (WD.td (wd_and (td_cmp (od_eq hU) (ed_ix (ed_ix (ed_ix (ed_var 1 rfl (Or.inl rfl)) ed_int) (ed_var 5 rfl (Or.inl rfl))) (ed_ix (ed_var 3 rfl (Or.inl rfl)) (ed_var 5 rfl (Or.inl rfl)))) (ed_tup ad_nil)) (wd_and1 (td_cmp (od_ne hU) (ed_call k_gain hr hx (by rfl) (ad_cons (ed_var 2 rfl (Or.inr (Or.inl rfl))) (ad_cons (ed_var 5 rfl (Or.inl rfl)) (ad_cons (ed_var 3 rfl (Or.inl rfl)) ad_nil)))) ed_int))))
      (ssd_one (sd_ret ed_bl))
      ssd_nil))))))))
      (ssd_one (sd_ret ed_bl)))))
theorem ok__law_more_right {f : Addr} {fd : FuncData} {k : Nat} (hea : EaOk EA) (F : Fun K "_law_more_right" "_law_more_right" s__law_more_right f fd) (k__law_nip : Cal P w K mg base EA "_law_nip" ["urn", "many"] k F__law_nip) (k__law_same : Cal P w K mg base EA "_law_same" ["one", "two"] k F__law_same) (k_crowd_game : Cal P w K mg base EA "crowd_game" ["crowd"] k F_crowd_game) (k__law_is_crowd : Cal P w K mg base EA "_law_is_crowd" ["value"] k F__law_is_crowd) (k__law_all : Cal P w K mg base EA "_law_all" ["sizes"] k F__law_all) (k__law_at : Cal P w K mg base EA "_law_at" ["sizes", "choice"] k F__law_at) (k__law_with : Cal P w K mg base EA "_law_with" ["choice", "chooser", "deed"] k F__law_with) (b_tuple : mg "tuple" = none) (b_len : mg "len" = none) :
    FnOk P w K mg base (L2.CX P w) (k + 1) f fd ["urn", "crowd"] (spF K EA 2 (fn 14 2 d__law_more_right)) := by
  refine def_ok F sc__law_more_right hea rfl (by decide) fun cdv Ar outer s H E A hW hEA hr => ?_
  subst hEA
  have hU := hr.units
  have nd := sc__law_more_right.nd
  have hx : Passes (L2.CX P w) (cxOf (L2.CX P w) P w K mg base ["urn", "crowd", "more", "chooser", "ways", "sizes", "twice", "told", "first", "choice", "here", "there", "each", "row"] "_law_more_right" (defScope s__law_more_right) f cdv Ar outer s H E) A.g.W := by subst hW; exact passes_call (takes_of rfl rfl rfl rfl) (fun _ _ _ _ h => h)
  have hp : PassesOwn (model P w) _ (cxOf (L2.CX P w) P w K mg base ["urn", "crowd", "more", "chooser", "ways", "sizes", "twice", "told", "first", "choice", "here", "there", "each", "row"] "_law_more_right" (defScope s__law_more_right) f cdv Ar outer s H E).env (cxOf (L2.CX P w) P w K mg base ["urn", "crowd", "more", "chooser", "ways", "sizes", "twice", "told", "first", "choice", "here", "there", "each", "row"] "_law_more_right" (defScope s__law_more_right) f cdv Ar outer s H E).xe := passes_of rfl
  have hc : (cxOf (L2.CX P w) P w K mg base ["urn", "crowd", "more", "chooser", "ways", "sizes", "twice", "told", "first", "choice", "here", "there", "each", "row"] "_law_more_right" (defScope s__law_more_right) f cdv Ar outer s H E).calm = true := rfl
  exact (ssd_cons (sd_set 2 nd rfl (Or.inl rfl) (ed_tup (ad_cons (ed_ix (ed_var 1 rfl (Or.inl rfl)) ed_int) (ad_cons (ed_op od_add (ed_ix (ed_var 1 rfl (Or.inl rfl)) ed_int) (ed_tup (ad_cons (ed_Ty cd_tuple (by rfl) b_tuple (by decide +kernel) (ad_cons (FD.ed (fd_lc (own := [("ways", 4)]) hc nd (id_seq (ed_ix (ed_var 1 rfl (Or.inl rfl)) ed_int)) (blkOk_by (by kernel_rfl)) (fun _ _ _ _ _ => (gd_name 4 nd rfl (Or.inl rfl))) (fun _ _ _ _ _ => cd_nil) (fun _ _ _ _ _ => (ed_call k__law_nip hr Dn.passL (by rfl) (ad_cons (ed_var 0 rfl (Or.inr (Or.inl rfl))) (ad_cons ed_int ad_nil)))))) ad_nil)) ad_nil))) ad_nil))))
      (ssd_cons (sd_if (td_not (td (ed_call k__law_same hr hx (by rfl) (ad_cons (ed_call k_crowd_game hr hx (by rfl) (ad_cons (ed_var 2 rfl (Or.inl rfl)) ad_nil)) (ad_cons (ed_call k_crowd_game hr hx (by rfl) (ad_cons (ed_var 1 rfl (Or.inl rfl)) ad_nil)) ad_nil)))))
      (ssd_one (sd_ret ed_bl))
      ssd_nil)
      (ssd_cons (sd_set 3 nd rfl (Or.inl rfl) (ed_call k__law_nip hr hx (by rfl) (ad_cons (ed_var 0 rfl (Or.inr (Or.inl rfl))) (ad_cons (ed_B cd_len (by rfl) b_len boot_len (ad_cons (ed_ix (ed_var 1 rfl (Or.inl rfl)) ed_int) ad_nil)) ad_nil))))
      (ssd_cons (sd_set 4 nd rfl (Or.inl rfl) (ed_ix (ed_ix (ed_var 1 rfl (Or.inl rfl)) ed_int) (ed_var 3 rfl (Or.inl rfl))))
      (ssd_cons (sd_set 5 nd rfl (Or.inr rfl) (ed_Ty cd_tuple (by rfl) b_tuple (by decide +kernel) (ad_cons (FD.ed (fd_lc (own := [("each", 12)]) hc nd (id_seq (ed_ix (ed_var 1 rfl (Or.inl rfl)) ed_int)) (blkOk_by (by kernel_rfl)) (fun _ _ _ _ _ => (gd_name 12 nd rfl (Or.inl rfl))) (fun _ _ _ _ _ => cd_nil) (fun _ _ _ _ _ => (ed_B cd_len (by rfl) b_len boot_len (ad_cons (ed_var 12 rfl (Or.inl rfl)) ad_nil))))) ad_nil)))
      (ssd_cons (sd_set 6 nd rfl (Or.inl rfl) (ed_tup (ad_cons (ed_op od_add (ed_op od_add (ed_sl (ed_ix (ed_var 1 rfl (Or.inl rfl)) ed_int) oo_no (oo_yes (ed_var 3 rfl (Or.inl rfl)))) (ed_tup (ad_cons (ed_op od_add (ed_var 4 rfl (Or.inl rfl)) (ed_sl (ed_var 4 rfl (Or.inl rfl)) oo_no (oo_yes ed_int))) ad_nil))) (ed_sl (ed_ix (ed_var 1 rfl (Or.inl rfl)) ed_int) (oo_yes (ed_op od_add (ed_var 3 rfl (Or.inl rfl)) ed_int)) oo_no)) (ad_cons (ed_ix (ed_var 1 rfl (Or.inl rfl)) ed_int) ad_nil))))
      (ssd_cons (sd_if (td_not (td (ed_call k__law_is_crowd hr hx (by rfl) (ad_cons (ed_var 6 rfl (Or.inl rfl)) ad_nil))))
      (ssd_one (sd_ret ed_bl))
      ssd_nil)
      (ssd_cons (sd_par2 hc nd 7 8 (by decide) (qd_cons (ed_call k_crowd_game hr hx (by rfl) (ad_cons (ed_var 6 rfl (Or.inl rfl)) ad_nil)) (qd_cons (ed_call k_crowd_game hr hx (by rfl) (ad_cons (ed_var 1 rfl (Or.inl rfl)) ad_nil)) qd_nil)))
      (ssd_cons (sd_for hp hc (id_seq (ed_call k__law_all hr hx (by rfl) (ad_cons (ed_var 5 rfl (Or.inr (Or.inl rfl))) ad_nil))) (hd_name 9 nd rfl (Or.inr rfl))
      (ssd_one (sd_if (td_cmp (od_eq hU) (ed_ix (ed_var 9 rfl (Or.inr (Or.inl rfl))) (ed_var 3 rfl (Or.inl rfl))) ed_int)
      (ssd_cons (sd_parT hc (nd_cons 10 nd rfl (Or.inr rfl) (nd_cons 11 nd rfl (Or.inr rfl) nd_nil)) (qd_cons (ed_call k__law_at hr hx (by rfl) (ad_cons (ed_ix (ed_var 7 rfl (Or.inl rfl)) ed_int) (ad_cons (ed_var 9 rfl (Or.inr (Or.inl rfl))) ad_nil))) (qd_cons (ed_call k__law_at hr hx (by rfl) (ad_cons (ed_ix (ed_var 7 rfl (Or.inl rfl)) ed_int) (ad_cons (ed_call k__law_with hr hx (by rfl) (ad_cons (ed_var 9 rfl (Or.inr (Or.inl rfl))) (ad_cons (ed_var 3 rfl (Or.inl rfl)) (ad_cons (ed_B cd_len (by rfl) b_len boot_len (ad_cons (ed_var 4 rfl (Or.inl rfl)) ad_nil)) ad_nil)))) ad_nil))) qd_nil)))
      (ssd_one (sd_if (WD.td (wd_or (td_cmp (od_ne hU) (FD.ed (fd_lc (own := [("row", 13)]) hc nd (id_seq (ed_ix (ed_var 7 rfl (Or.inl rfl)) ed_int)) (blkOk_by (by kernel_rfl)) (fun _ _ _ _ _ => (gd_name 13 nd rfl (Or.inl rfl))) (fun _ _ _ _ _ => cd_nil) (fun _ _ _ _ _ => (ed_ix (ed_var 13 rfl (Or.inl rfl)) (ed_var 10 rfl (Or.inr (Or.inl rfl))))))) (FD.ed (fd_lc (own := [("row", 13)]) hc nd (id_seq (ed_ix (ed_var 7 rfl (Or.inl rfl)) ed_int)) (blkOk_by (by kernel_rfl)) (fun _ _ _ _ _ => (gd_name 13 nd rfl (Or.inl rfl))) (fun _ _ _ _ _ => cd_nil) (fun _ _ _ _ _ => (ed_ix (ed_var 13 rfl (Or.inl rfl)) (ed_var 11 rfl (Or.inr (Or.inl rfl)))))))) (wd_or1 (td_cmp (od_ne hU) (FD.ed (fd_lc (own := [("row", 13)]) hc nd (id_seq (ed_ix (ed_var 7 rfl (Or.inl rfl)) ed_int)) (blkOk_by (by kernel_rfl)) (fun _ _ _ _ _ => (gd_name 13 nd rfl (Or.inl rfl))) (fun _ _ _ _ _ => cd_nil) (fun _ _ _ _ _ => (ed_ix (ed_var 13 rfl (Or.inl rfl)) (ed_var 10 rfl (Or.inr (Or.inl rfl))))))) (FD.ed (fd_lc (own := [("row", 13)]) hc nd (id_seq (ed_ix (ed_var 8 rfl (Or.inl rfl)) ed_int)) (blkOk_by (by kernel_rfl)) (fun _ _ _ _ _ => (gd_name 13 nd rfl (Or.inl rfl))) (fun _ _ _ _ _ => cd_nil) (fun _ _ _ _ _ => (ed_ix (ed_var 13 rfl (Or.inl rfl)) (ed_call k__law_at hr Dn.passL (by rfl) (ad_cons (ed_var 5 rfl (Or.inr (Or.inl rfl))) (ad_cons (ed_var 9 rfl (Or.inr (Or.inl rfl))) ad_nil)))))))))))
      (ssd_one (sd_ret ed_bl))
      ssd_nil)))
      ssd_nil)))
      (ssd_one (sd_ret ed_bl)))))))))))
theorem ok__law_right {f : Addr} {fd : FuncData} {k : Nat} (hea : EaOk EA) (F : Fun K "_law_right" "_law_right" s__law_right f fd) (k__law_any_crowd : Cal P w K mg base EA "_law_any_crowd" ["urn"] k F__law_any_crowd) (k__law_is_told : Cal P w K mg base EA "_law_is_told" ["urn", "crowd"] k F__law_is_told) (k__law_more_right : Cal P w K mg base EA "_law_more_right" ["urn", "crowd"] k F__law_more_right) (k__law_same : Cal P w K mg base EA "_law_same" ["one", "two"] k F__law_same) (k_users : Cal P w K mg base EA "users" ["crowd", "choice"] k F_users) (k_crowd_game : Cal P w K mg base EA "crowd_game" ["crowd"] k F_crowd_game) (b_range : mg "range" = none) :
    FnOk P w K mg base (L2.CX P w) (k + 1) f fd ["urn"] (spF K EA 1 (fn 3 1 d__law_right)) := by
  refine def_ok F sc__law_right hea rfl (by decide) fun cdv Ar outer s H E A hW hEA hr => ?_
  subst hEA
  have nd := sc__law_right.nd
  have hx : Passes (L2.CX P w) (cxOf (L2.CX P w) P w K mg base ["urn", "lap", "crowd"] "_law_right" (defScope s__law_right) f cdv Ar outer s H E) A.g.W := by subst hW; exact passes_call (takes_of rfl rfl rfl rfl) (fun _ _ _ _ h => h)
  have hp : PassesOwn (model P w) _ (cxOf (L2.CX P w) P w K mg base ["urn", "lap", "crowd"] "_law_right" (defScope s__law_right) f cdv Ar outer s H E).env (cxOf (L2.CX P w) P w K mg base ["urn", "lap", "crowd"] "_law_right" (defScope s__law_right) f cdv Ar outer s H E).xe := passes_of rfl
  have hc : (cxOf (L2.CX P w) P w K mg base ["urn", "lap", "crowd"] "_law_right" (defScope s__law_right) f cdv Ar outer s H E).calm = true := rfl
  exact (ssd_cons (sd_for hp hc (id_rng1 (by rfl) b_range (ad_cons ed_int ad_nil)) (hd_name 1 nd rfl (Or.inl rfl))
      (ssd_cons (sd_set 2 nd rfl (Or.inl rfl) (ed_call k__law_any_crowd hr hx (by rfl) (ad_cons (ed_var 0 rfl (Or.inl rfl)) ad_nil)))
      (ssd_one (sd_if (WD.td (wd_or (td_not (td (ed_call k__law_is_told hr hx (by rfl) (ad_cons (ed_var 0 rfl (Or.inl rfl)) (ad_cons (ed_var 2 rfl (Or.inl rfl)) ad_nil))))) (wd_or1 (td_not (td (ed_call k__law_more_right hr hx (by rfl) (ad_cons (ed_var 0 rfl (Or.inl rfl)) (ad_cons (ed_var 2 rfl (Or.inl rfl)) ad_nil))))))))
      (ssd_one (sd_ret ed_bl))
      ssd_nil))))
      (ssd_cons (sd_set 2 nd rfl (Or.inl rfl) (ed_tup (ad_cons (ed_tup (ad_cons (ed_tup (ad_cons (ed_tup (ad_cons ed_int ad_nil)) (ad_cons (ed_tup (ad_cons ed_int ad_nil)) ad_nil))) (ad_cons (ed_tup (ad_cons (ed_tup (ad_cons ed_int ad_nil)) (ad_cons (ed_tup (ad_cons ed_int ad_nil)) ad_nil))) ad_nil))) (ad_cons (ed_tup (ad_cons (ed_tup (ad_cons ed_int (ad_cons ed_int ad_nil))) (ad_cons (ed_tup (ad_cons ed_int (ad_cons ed_int ad_nil))) ad_nil))) ad_nil))))
      (ssd_one (sd_ret (ed_call k__law_same hr hx (by rfl) (ad_cons (ed_tup (ad_cons (ed_call k_crowd_game hr hx (by rfl) (ad_cons (ed_var 2 rfl (Or.inl rfl)) ad_nil)) (ad_cons (ed_call k_users hr hx (by rfl) (ad_cons (ed_var 2 rfl (Or.inl rfl)) (ad_cons (ed_tup (ad_cons ed_int (ad_cons ed_int ad_nil))) ad_nil))) ad_nil))) (ad_cons (ed_tup (ad_cons (ed_tup (ad_cons (ed_tup (ad_cons ed_int (ad_cons ed_int ad_nil))) (ad_cons (ed_tup (ad_cons (ed_tup (ad_cons (ed_op od_sub ed_int ed_int) (ad_cons (ed_op od_sub ed_int ed_int) (ad_cons (ed_op od_sub ed_int ed_int) (ad_cons (ed_op od_sub ed_int ed_int) ad_nil))))) (ad_cons (ed_tup (ad_cons (ed_op od_sub ed_int ed_int) (ad_cons (ed_op od_sub ed_int ed_int) (ad_cons (ed_op od_sub ed_int ed_int) (ad_cons (ed_op od_sub ed_int ed_int) ad_nil))))) ad_nil))) ad_nil))) (ad_cons (ed_tup (ad_cons ed_int (ad_cons ed_int ad_nil))) ad_nil))) ad_nil)))))))
theorem ok_law {f : Addr} {fd : FuncData} {k : Nat} (hea : EaOk EA) (F : Fun K "law" "law" s_law f fd) (k__law_right : Cal P w K mg base EA "_law_right" ["urn"] k F__law_right) (k__law_urn : CalF P w K mg base EA "_law_urn" ["script", "lap"] k F__law_urn) (b_all : mg "all" = none) (b_range : mg "range" = none) :
    FnOk P w K mg base (L2.CX P w) (k + 1) f fd ["script"] (spF K EA 1 (fn 2 1 d_law)) := by
  refine def_ok F sc_law hea rfl (by decide) fun cdv Ar outer s H E A hW hEA hr => ?_
  subst hEA
  have nd := sc_law.nd
  have hx : Passes (L2.CX P w) (cxOf (L2.CX P w) P w K mg base ["script", "lap"] "law" (defScope s_law) f cdv Ar outer s H E) A.g.W := by subst hW; exact passes_call (takes_of rfl rfl rfl rfl) (fun _ _ _ _ h => h)
  have hc : (cxOf (L2.CX P w) P w K mg base ["script", "lap"] "law" (defScope s_law) f cdv Ar outer s H E).calm = true := rfl
  exact (ssd_one (sd_ret (ed_B (cd_all hc) (by rfl) b_all (by decide +kernel) (ad_cons (FD.ed (fd_lc (own := [("lap", 1)]) hc nd (id_rng1 (by rfl) b_range (ad_cons ed_int ad_nil)) (blkOk_by (by kernel_rfl)) (fun _ _ _ _ _ => (gd_name 1 nd rfl (Or.inl rfl))) (fun _ _ _ _ _ => cd_nil) (fun _ _ _ _ _ => (ed_callU k__law_right hr Dn.passL (by rfl) (fd_call k__law_urn hr Dn.passL (by rfl) (ad_cons (ed_var 0 rfl (Or.inr (Or.inl rfl))) (ad_cons (ed_var 1 rfl (Or.inl rfl)) ad_nil))))))) ad_nil))))
theorem all_ok (hea : EaOk EA) {f_is_whole : Addr} {fd_is_whole : FuncData} {f_is_between : Addr} {fd_is_between : FuncData} {f_is_tuple_of : Addr} {fd_is_tuple_of : FuncData} {f_are_rising : Addr} {fd_are_rising : FuncData} {f_count_of : Addr} {fd_count_of : FuncData} {f_are_sizes : Addr} {fd_are_sizes : FuncData} {f_rows_of : Addr} {fd_rows_of : FuncData} {f_place_in : Addr} {fd_place_in : FuncData} {f_is_gain_row : Addr} {fd_is_gain_row : FuncData} {f_is_game_by : Addr} {fd_is_game_by : FuncData} {f_choosers_by : Addr} {fd_choosers_by : FuncData} {f_is_choice : Addr} {fd_is_choice : FuncData} {f_is_chooser : Addr} {fd_is_chooser : FuncData} {f_place_of : Addr} {fd_place_of : FuncData} {f_gain_by : Addr} {fd_gain_by : FuncData} {f_check_game : Addr} {fd_check_game : FuncData} {f_check_choice : Addr} {fd_check_choice : FuncData} {f_check_chooser : Addr} {fd_check_chooser : FuncData} {f_is_way : Addr} {fd_is_way : FuncData} {f_are_ways : Addr} {fd_are_ways : FuncData} {f_are_costs : Addr} {fd_are_costs : FuncData} {f_sizes_of_crowd : Addr} {fd_sizes_of_crowd : FuncData} {f_is_crowd_by : Addr} {fd_is_crowd_by : FuncData} {f_ways_taken : Addr} {fd_ways_taken : FuncData} {f_users_by : Addr} {fd_users_by : FuncData} {f_gain_of_way : Addr} {fd_gain_of_way : FuncData} {f_gains_in_crowd : Addr} {fd_gains_in_crowd : FuncData} {f_crowd_game_by : Addr} {fd_crowd_game_by : FuncData} {f_is_crowd_choice : Addr} {fd_is_crowd_choice : FuncData} {f_check_crowd : Addr} {fd_check_crowd : FuncData} {f_check_crowd_choice : Addr} {fd_check_crowd_choice : FuncData} {f_crowd_game : Addr} {fd_crowd_game : FuncData} {f_users : Addr} {fd_users : FuncData} {f_is_game : Addr} {fd_is_game : FuncData} {f_gain : Addr} {fd_gain : FuncData} {f__law_urn : Addr} {fd__law_urn : FuncData} {f__law_nip : Addr} {fd__law_nip : FuncData} {f__law_any_of : Addr} {fd__law_any_of : FuncData} {f__law_is_whole : Addr} {fd__law_is_whole : FuncData} {f__law_is_up_to : Addr} {fd__law_is_up_to : FuncData} {f__law_same : Addr} {fd__law_same : FuncData} {f__law_some : Addr} {fd__law_some : FuncData} {f__law_all : Addr} {fd__law_all : FuncData} {f__law_at : Addr} {fd__law_at : FuncData} {f__law_with : Addr} {fd__law_with : FuncData} {f__law_any_sizes : Addr} {fd__law_any_sizes : FuncData} {f__law_is_sizes : Addr} {fd__law_is_sizes : FuncData} {f__law_crowd_users : Addr} {fd__law_crowd_users : FuncData} {f__law_crowd_game : Addr} {fd__law_crowd_game : FuncData} {f__law_any_crowd : Addr} {fd__law_any_crowd : FuncData} {f__law_is_crowd : Addr} {fd__law_is_crowd : FuncData} {f__law_gain : Addr} {fd__law_gain : FuncData} {f__law_is_told : Addr} {fd__law_is_told : FuncData} {f__law_more_right : Addr} {fd__law_more_right : FuncData} {f__law_right : Addr} {fd__law_right : FuncData} {f_law : Addr} {fd_law : FuncData} {t_MOST_CHOOSERS : Tok} {t_MOST_DEEDS : Tok} {t_MOST_CHOICES : Tok} {t_SIZES : Tok} {t_GAINS : Tok} {t_MOST_ROADS : Tok} {t_WAYS : Tok} {t_COSTS : Tok}
    (F_is_whole' : Fun K "is_whole" "is_whole" s_is_whole f_is_whole fd_is_whole) (g_is_whole : mg "is_whole" = some (.ref f_is_whole))
    (F_is_between' : Fun K "is_between" "is_between" s_is_between f_is_between fd_is_between) (g_is_between : mg "is_between" = some (.ref f_is_between))
    (F_is_tuple_of' : Fun K "is_tuple_of" "is_tuple_of" s_is_tuple_of f_is_tuple_of fd_is_tuple_of) (g_is_tuple_of : mg "is_tuple_of" = some (.ref f_is_tuple_of))
    (F_are_rising' : Fun K "are_rising" "are_rising" s_are_rising f_are_rising fd_are_rising) (g_are_rising : mg "are_rising" = some (.ref f_are_rising))
    (F_count_of' : Fun K "count_of" "count_of" s_count_of f_count_of fd_count_of) (g_count_of : mg "count_of" = some (.ref f_count_of))
    (F_are_sizes' : Fun K "are_sizes" "are_sizes" s_are_sizes f_are_sizes fd_are_sizes) (g_are_sizes : mg "are_sizes" = some (.ref f_are_sizes))
    (F_rows_of' : Fun K "rows_of" "rows_of" s_rows_of f_rows_of fd_rows_of) (g_rows_of : mg "rows_of" = some (.ref f_rows_of))
    (F_place_in' : Fun K "place_in" "place_in" s_place_in f_place_in fd_place_in) (g_place_in : mg "place_in" = some (.ref f_place_in))
    (F_is_gain_row' : Fun K "is_gain_row" "is_gain_row" s_is_gain_row f_is_gain_row fd_is_gain_row) (g_is_gain_row : mg "is_gain_row" = some (.ref f_is_gain_row))
    (F_is_game_by' : Fun K "is_game_by" "is_game_by" s_is_game_by f_is_game_by fd_is_game_by) (g_is_game_by : mg "is_game_by" = some (.ref f_is_game_by))
    (F_choosers_by' : Fun K "choosers_by" "choosers_by" s_choosers_by f_choosers_by fd_choosers_by) (g_choosers_by : mg "choosers_by" = some (.ref f_choosers_by))
    (F_is_choice' : Fun K "is_choice" "is_choice" s_is_choice f_is_choice fd_is_choice) (g_is_choice : mg "is_choice" = some (.ref f_is_choice))
    (F_is_chooser' : Fun K "is_chooser" "is_chooser" s_is_chooser f_is_chooser fd_is_chooser) (g_is_chooser : mg "is_chooser" = some (.ref f_is_chooser))
    (F_place_of' : Fun K "place_of" "place_of" s_place_of f_place_of fd_place_of) (g_place_of : mg "place_of" = some (.ref f_place_of))
    (F_gain_by' : Fun K "gain_by" "gain_by" s_gain_by f_gain_by fd_gain_by) (g_gain_by : mg "gain_by" = some (.ref f_gain_by))
    (F_check_game' : Fun K "check_game" "check_game" s_check_game f_check_game fd_check_game) (g_check_game : mg "check_game" = some (.ref f_check_game))
    (F_check_choice' : Fun K "check_choice" "check_choice" s_check_choice f_check_choice fd_check_choice) (g_check_choice : mg "check_choice" = some (.ref f_check_choice))
    (F_check_chooser' : Fun K "check_chooser" "check_chooser" s_check_chooser f_check_chooser fd_check_chooser) (g_check_chooser : mg "check_chooser" = some (.ref f_check_chooser))
    (F_is_way' : Fun K "is_way" "is_way" s_is_way f_is_way fd_is_way) (g_is_way : mg "is_way" = some (.ref f_is_way))
    (F_are_ways' : Fun K "are_ways" "are_ways" s_are_ways f_are_ways fd_are_ways) (g_are_ways : mg "are_ways" = some (.ref f_are_ways))
    (F_are_costs' : Fun K "are_costs" "are_costs" s_are_costs f_are_costs fd_are_costs) (g_are_costs : mg "are_costs" = some (.ref f_are_costs))
    (F_sizes_of_crowd' : Fun K "sizes_of_crowd" "sizes_of_crowd" s_sizes_of_crowd f_sizes_of_crowd fd_sizes_of_crowd) (g_sizes_of_crowd : mg "sizes_of_crowd" = some (.ref f_sizes_of_crowd))
    (F_is_crowd_by' : Fun K "is_crowd_by" "is_crowd_by" s_is_crowd_by f_is_crowd_by fd_is_crowd_by) (g_is_crowd_by : mg "is_crowd_by" = some (.ref f_is_crowd_by))
    (F_ways_taken' : Fun K "ways_taken" "ways_taken" s_ways_taken f_ways_taken fd_ways_taken) (g_ways_taken : mg "ways_taken" = some (.ref f_ways_taken))
    (F_users_by' : Fun K "users_by" "users_by" s_users_by f_users_by fd_users_by) (g_users_by : mg "users_by" = some (.ref f_users_by))
    (F_gain_of_way' : Fun K "gain_of_way" "gain_of_way" s_gain_of_way f_gain_of_way fd_gain_of_way) (g_gain_of_way : mg "gain_of_way" = some (.ref f_gain_of_way))
    (F_gains_in_crowd' : Fun K "gains_in_crowd" "gains_in_crowd" s_gains_in_crowd f_gains_in_crowd fd_gains_in_crowd) (g_gains_in_crowd : mg "gains_in_crowd" = some (.ref f_gains_in_crowd))
    (F_crowd_game_by' : Fun K "crowd_game_by" "crowd_game_by" s_crowd_game_by f_crowd_game_by fd_crowd_game_by) (g_crowd_game_by : mg "crowd_game_by" = some (.ref f_crowd_game_by))
    (F_is_crowd_choice' : Fun K "is_crowd_choice" "is_crowd_choice" s_is_crowd_choice f_is_crowd_choice fd_is_crowd_choice) (g_is_crowd_choice : mg "is_crowd_choice" = some (.ref f_is_crowd_choice))
    (F_check_crowd' : Fun K "check_crowd" "check_crowd" s_check_crowd f_check_crowd fd_check_crowd) (g_check_crowd : mg "check_crowd" = some (.ref f_check_crowd))
    (F_check_crowd_choice' : Fun K "check_crowd_choice" "check_crowd_choice" s_check_crowd_choice f_check_crowd_choice fd_check_crowd_choice) (g_check_crowd_choice : mg "check_crowd_choice" = some (.ref f_check_crowd_choice))
    (F_crowd_game' : Fun K "crowd_game" "crowd_game" s_crowd_game f_crowd_game fd_crowd_game) (g_crowd_game : mg "crowd_game" = some (.ref f_crowd_game))
    (F_users' : Fun K "users" "users" s_users f_users fd_users) (g_users : mg "users" = some (.ref f_users))
    (F_is_game' : Fun K "is_game" "is_game" s_is_game f_is_game fd_is_game) (g_is_game : mg "is_game" = some (.ref f_is_game))
    (F_gain' : Fun K "gain" "gain" s_gain f_gain fd_gain) (g_gain : mg "gain" = some (.ref f_gain))
    (F__law_urn' : Fun K "_law_urn" "_law_urn" s__law_urn f__law_urn fd__law_urn) (g__law_urn : mg "_law_urn" = some (.ref f__law_urn))
    (F__law_nip' : Fun K "_law_nip" "_law_nip" s__law_nip f__law_nip fd__law_nip) (g__law_nip : mg "_law_nip" = some (.ref f__law_nip))
    (F__law_any_of' : Fun K "_law_any_of" "_law_any_of" s__law_any_of f__law_any_of fd__law_any_of) (g__law_any_of : mg "_law_any_of" = some (.ref f__law_any_of))
    (F__law_is_whole' : Fun K "_law_is_whole" "_law_is_whole" s__law_is_whole f__law_is_whole fd__law_is_whole) (g__law_is_whole : mg "_law_is_whole" = some (.ref f__law_is_whole))
    (F__law_is_up_to' : Fun K "_law_is_up_to" "_law_is_up_to" s__law_is_up_to f__law_is_up_to fd__law_is_up_to) (g__law_is_up_to : mg "_law_is_up_to" = some (.ref f__law_is_up_to))
    (F__law_same' : Fun K "_law_same" "_law_same" s__law_same f__law_same fd__law_same) (g__law_same : mg "_law_same" = some (.ref f__law_same))
    (F__law_some' : Fun K "_law_some" "_law_some" s__law_some f__law_some fd__law_some) (g__law_some : mg "_law_some" = some (.ref f__law_some))
    (F__law_all' : Fun K "_law_all" "_law_all" s__law_all f__law_all fd__law_all) (g__law_all : mg "_law_all" = some (.ref f__law_all))
    (F__law_at' : Fun K "_law_at" "_law_at" s__law_at f__law_at fd__law_at) (g__law_at : mg "_law_at" = some (.ref f__law_at))
    (F__law_with' : Fun K "_law_with" "_law_with" s__law_with f__law_with fd__law_with) (g__law_with : mg "_law_with" = some (.ref f__law_with))
    (F__law_any_sizes' : Fun K "_law_any_sizes" "_law_any_sizes" s__law_any_sizes f__law_any_sizes fd__law_any_sizes) (g__law_any_sizes : mg "_law_any_sizes" = some (.ref f__law_any_sizes))
    (F__law_is_sizes' : Fun K "_law_is_sizes" "_law_is_sizes" s__law_is_sizes f__law_is_sizes fd__law_is_sizes) (g__law_is_sizes : mg "_law_is_sizes" = some (.ref f__law_is_sizes))
    (F__law_crowd_users' : Fun K "_law_crowd_users" "_law_crowd_users" s__law_crowd_users f__law_crowd_users fd__law_crowd_users) (g__law_crowd_users : mg "_law_crowd_users" = some (.ref f__law_crowd_users))
    (F__law_crowd_game' : Fun K "_law_crowd_game" "_law_crowd_game" s__law_crowd_game f__law_crowd_game fd__law_crowd_game) (g__law_crowd_game : mg "_law_crowd_game" = some (.ref f__law_crowd_game))
    (F__law_any_crowd' : Fun K "_law_any_crowd" "_law_any_crowd" s__law_any_crowd f__law_any_crowd fd__law_any_crowd) (g__law_any_crowd : mg "_law_any_crowd" = some (.ref f__law_any_crowd))
    (F__law_is_crowd' : Fun K "_law_is_crowd" "_law_is_crowd" s__law_is_crowd f__law_is_crowd fd__law_is_crowd) (g__law_is_crowd : mg "_law_is_crowd" = some (.ref f__law_is_crowd))
    (F__law_gain' : Fun K "_law_gain" "_law_gain" s__law_gain f__law_gain fd__law_gain) (g__law_gain : mg "_law_gain" = some (.ref f__law_gain))
    (F__law_is_told' : Fun K "_law_is_told" "_law_is_told" s__law_is_told f__law_is_told fd__law_is_told) (g__law_is_told : mg "_law_is_told" = some (.ref f__law_is_told))
    (F__law_more_right' : Fun K "_law_more_right" "_law_more_right" s__law_more_right f__law_more_right fd__law_more_right) (g__law_more_right : mg "_law_more_right" = some (.ref f__law_more_right))
    (F__law_right' : Fun K "_law_right" "_law_right" s__law_right f__law_right fd__law_right) (g__law_right : mg "_law_right" = some (.ref f__law_right))
    (F_law' : Fun K "law" "law" s_law f_law fd_law) (g_law : mg "law" = some (.ref f_law))
    (b_isinstance : mg "isinstance" = none) (b_int : mg "int" = none) (b_bool : mg "bool" = none) (b_tuple : mg "tuple" = none) (b_len : mg "len" = none) (b_all : mg "all" = none) (b_range : mg "range" = none) (b_zip : mg "zip" = none) (b_enumerate : mg "enumerate" = none) (b_sum : mg "sum" = none) (b_abs : mg "abs" = none) (b_divmod : mg "divmod" = none) (b_list : mg "list" = none) (b_str : mg "str" = none) (c_MOST_CHOOSERS : mg "MOST_CHOOSERS" = some (.int 4 t_MOST_CHOOSERS)) (c_MOST_DEEDS : mg "MOST_DEEDS" = some (.int 6 t_MOST_DEEDS)) (c_MOST_CHOICES : mg "MOST_CHOICES" = some (.int 36 t_MOST_CHOICES)) (c_SIZES : mg "SIZES" = some (.int 0 t_SIZES)) (c_GAINS : mg "GAINS" = some (.int 1 t_GAINS)) (c_MOST_ROADS : mg "MOST_ROADS" = some (.int 200 t_MOST_ROADS)) (c_WAYS : mg "WAYS" = some (.int 0 t_WAYS)) (c_COSTS : mg "COSTS" = some (.int 1 t_COSTS)) :
    FnOk P w K mg base (L2.CX P w) 14 f_law fd_law ["script"] (spF K EA 1 F_law) := by
  have bi__law_nip : Binds K fd__law_nip ["urn", "many"] [] := F__law_nip'.binds (ps := ["urn", "many"]) fun _ _ _ _ _ _ us hl => match us, hl with | [_, _], _ => rfl
  have k__law_nip : Cal P w K mg base EA "_law_nip" ["urn", "many"] 1 F__law_nip := cal_of F__law_nip' g__law_nip bi__law_nip (ok__law_nip (k := 0) hea F__law_nip' b_divmod b_int)
  have bi__law_any_of : Binds K fd__law_any_of ["urn", "some"] [] := F__law_any_of'.binds (ps := ["urn", "some"]) fun _ _ _ _ _ _ us hl => match us, hl with | [_, _], _ => rfl
  have k__law_any_of : Cal P w K mg base EA "_law_any_of" ["urn", "some"] 2 F__law_any_of := cal_of F__law_any_of' g__law_any_of bi__law_any_of (ok__law_any_of (k := 1) hea F__law_any_of' (k__law_nip.mono (by decide)) b_len)
  have bi__law_any_sizes : Binds K fd__law_any_sizes ["urn"] [] := F__law_any_sizes'.binds (ps := ["urn"]) fun _ _ _ _ _ _ us hl => match us, hl with | [_], _ => rfl
  have k__law_any_sizes : Cal P w K mg base EA "_law_any_sizes" ["urn"] 3 F__law_any_sizes := cal_of F__law_any_sizes' g__law_any_sizes bi__law_any_sizes (ok__law_any_sizes (k := 2) hea F__law_any_sizes' (k__law_any_of.mono (by decide)))
  have bi__law_some : Binds K fd__law_some ["urn", "things", "share"] [] := F__law_some'.binds (ps := ["urn", "things", "share"]) fun _ _ _ _ _ _ us hl => match us, hl with | [_, _, _], _ => rfl
  have k__law_some : Cal P w K mg base EA "_law_some" ["urn", "things", "share"] 2 F__law_some := cal_of F__law_some' g__law_some bi__law_some (ok__law_some (k := 1) hea F__law_some' (k__law_nip.mono (by decide)) b_tuple)
  have bi__law_any_crowd : Binds K fd__law_any_crowd ["urn"] [] := F__law_any_crowd'.binds (ps := ["urn"]) fun _ _ _ _ _ _ us hl => match us, hl with | [_], _ => rfl
  have k__law_any_crowd : Cal P w K mg base EA "_law_any_crowd" ["urn"] 4 F__law_any_crowd := cal_of F__law_any_crowd' g__law_any_crowd bi__law_any_crowd (ok__law_any_crowd (k := 3) hea F__law_any_crowd' (k__law_any_of.mono (by decide)) (k__law_nip.mono (by decide)) (k__law_any_sizes.mono (by decide)) (k__law_some.mono (by decide)) b_tuple b_range b_list)
  have bi_is_tuple_of : Binds K fd_is_tuple_of ["value", "many"] [] := F_is_tuple_of'.binds (ps := ["value", "many"]) fun _ _ _ _ _ _ us hl => match us, hl with | [_, _], _ => rfl
  have k_is_tuple_of : Cal P w K mg base EA "is_tuple_of" ["value", "many"] 1 F_is_tuple_of := cal_of F_is_tuple_of' g_is_tuple_of bi_is_tuple_of (ok_is_tuple_of (k := 0) hea F_is_tuple_of' b_isinstance b_tuple b_len)
  have bi_is_whole : Binds K fd_is_whole ["value"] [] := F_is_whole'.binds (ps := ["value"]) fun _ _ _ _ _ _ us hl => match us, hl with | [_], _ => rfl
  have k_is_whole : Cal P w K mg base EA "is_whole" ["value"] 1 F_is_whole := cal_of F_is_whole' g_is_whole bi_is_whole (ok_is_whole (k := 0) hea F_is_whole' b_isinstance b_int b_bool)
  have bi_is_gain_row : Binds K fd_is_gain_row ["value", "many"] [] := F_is_gain_row'.binds (ps := ["value", "many"]) fun _ _ _ _ _ _ us hl => match us, hl with | [_, _], _ => rfl
  have k_is_gain_row : Cal P w K mg base EA "is_gain_row" ["value", "many"] 2 F_is_gain_row := cal_of F_is_gain_row' g_is_gain_row bi_is_gain_row (ok_is_gain_row (k := 1) hea F_is_gain_row' (k_is_tuple_of.mono (by decide)) (k_is_whole.mono (by decide)) b_all)
  have bi_are_costs : Binds K fd_are_costs ["value", "many"] [] := F_are_costs'.binds (ps := ["value", "many"]) fun _ _ _ _ _ _ us hl => match us, hl with | [_, _], _ => rfl
  have k_are_costs : Cal P w K mg base EA "are_costs" ["value", "many"] 3 F_are_costs := cal_of F_are_costs' g_are_costs bi_are_costs (ok_are_costs (k := 2) hea F_are_costs' (k_is_gain_row.mono (by decide)) b_isinstance b_tuple b_len b_all c_MOST_ROADS)
  have bi_is_between : Binds K fd_is_between ["value", "low", "high"] [] := F_is_between'.binds (ps := ["value", "low", "high"]) fun _ _ _ _ _ _ us hl => match us, hl with | [_, _, _], _ => rfl
  have k_is_between : Cal P w K mg base EA "is_between" ["value", "low", "high"] 2 F_is_between := cal_of F_is_between' g_is_between bi_is_between (ok_is_between (k := 1) hea F_is_between' (k_is_whole.mono (by decide)))
  have bi_are_rising : Binds K fd_are_rising ["value"] [] := F_are_rising'.binds (ps := ["value"]) fun _ _ _ _ _ _ us hl => match us, hl with | [_], _ => rfl
  have k_are_rising : Cal P w K mg base EA "are_rising" ["value"] 1 F_are_rising := cal_of F_are_rising' g_are_rising bi_are_rising (ok_are_rising (k := 0) hea F_are_rising' b_all b_range b_len)
  have bi_is_way : Binds K fd_is_way ["value", "roads"] [] := F_is_way'.binds (ps := ["value", "roads"]) fun _ _ _ _ _ _ us hl => match us, hl with | [_, _], _ => rfl
  have k_is_way : Cal P w K mg base EA "is_way" ["value", "roads"] 3 F_is_way := cal_of F_is_way' g_is_way bi_is_way (ok_is_way (k := 2) hea F_is_way' (k_is_between.mono (by decide)) (k_are_rising.mono (by decide)) b_isinstance b_tuple b_all)
  have bi_are_ways : Binds K fd_are_ways ["value", "roads"] [] := F_are_ways'.binds (ps := ["value", "roads"]) fun _ _ _ _ _ _ us hl => match us, hl with | [_, _], _ => rfl
  have k_are_ways : Cal P w K mg base EA "are_ways" ["value", "roads"] 4 F_are_ways := cal_of F_are_ways' g_are_ways bi_are_ways (ok_are_ways (k := 3) hea F_are_ways' (k_is_way.mono (by decide)) b_isinstance b_tuple b_len b_all c_MOST_DEEDS)
  have bi_count_of : Binds K fd_count_of ["sizes"] [] := F_count_of'.binds (ps := ["sizes"]) fun _ _ _ _ _ _ us hl => match us, hl with | [_], _ => rfl
  have k_count_of : Cal P w K mg base EA "count_of" ["sizes"] 1 F_count_of := cal_of F_count_of' g_count_of bi_count_of (ok_count_of (k := 0) hea F_count_of')
  have bi_sizes_of_crowd : Binds K fd_sizes_of_crowd ["crowd"] [] := F_sizes_of_crowd'.binds (ps := ["crowd"]) fun _ _ _ _ _ _ us hl => match us, hl with | [_], _ => rfl
  have k_sizes_of_crowd : Cal P w K mg base EA "sizes_of_crowd" ["crowd"] 1 F_sizes_of_crowd := cal_of F_sizes_of_crowd' g_sizes_of_crowd bi_sizes_of_crowd (ok_sizes_of_crowd (k := 0) hea F_sizes_of_crowd' b_tuple b_len c_WAYS)
  have bi_is_crowd_by : Binds K fd_is_crowd_by ["value"] [] := F_is_crowd_by'.binds (ps := ["value"]) fun _ _ _ _ _ _ us hl => match us, hl with | [_], _ => rfl
  have k_is_crowd_by : Cal P w K mg base EA "is_crowd_by" ["value"] 5 F_is_crowd_by := cal_of F_is_crowd_by' g_is_crowd_by bi_is_crowd_by (ok_is_crowd_by (k := 4) hea F_is_crowd_by' (k_is_tuple_of.mono (by decide)) (k_are_costs.mono (by decide)) (k_are_ways.mono (by decide)) (k_count_of.mono (by decide)) (k_sizes_of_crowd.mono (by decide)) b_isinstance b_tuple b_len b_all c_WAYS c_MOST_CHOOSERS c_COSTS c_MOST_CHOICES)
  have bi_check_crowd : Binds K fd_check_crowd ["value"] [] := F_check_crowd'.binds (ps := ["value"]) fun _ _ _ _ _ _ us hl => match us, hl with | [_], _ => rfl
  have k_check_crowd : Cal P w K mg base EA "check_crowd" ["value"] 6 F_check_crowd := cal_of F_check_crowd' g_check_crowd bi_check_crowd (ok_check_crowd (k := 5) hea F_check_crowd' (k_is_crowd_by.mono (by decide)))
  have bi_rows_of : Binds K fd_rows_of ["sizes"] [] := F_rows_of'.binds (ps := ["sizes"]) fun _ _ _ _ _ _ us hl => match us, hl with | [_], _ => rfl
  have k_rows_of : Cal P w K mg base EA "rows_of" ["sizes"] 1 F_rows_of := cal_of F_rows_of' g_rows_of bi_rows_of (ok_rows_of (k := 0) hea F_rows_of' b_range)
  have bi_ways_taken : Binds K fd_ways_taken ["crowd", "choice"] [] := F_ways_taken'.binds (ps := ["crowd", "choice"]) fun _ _ _ _ _ _ us hl => match us, hl with | [_, _], _ => rfl
  have k_ways_taken : Cal P w K mg base EA "ways_taken" ["crowd", "choice"] 1 F_ways_taken := cal_of F_ways_taken' g_ways_taken bi_ways_taken (ok_ways_taken (k := 0) hea F_ways_taken' b_enumerate c_WAYS)
  have bi_users_by : Binds K fd_users_by ["crowd", "choice"] [] := F_users_by'.binds (ps := ["crowd", "choice"]) fun _ _ _ _ _ _ us hl => match us, hl with | [_, _], _ => rfl
  have k_users_by : Cal P w K mg base EA "users_by" ["crowd", "choice"] 2 F_users_by := cal_of F_users_by' g_users_by bi_users_by (ok_users_by (k := 1) hea F_users_by' (k_ways_taken.mono (by decide)) b_tuple c_COSTS)
  have bi_gain_of_way : Binds K fd_gain_of_way ["crowd", "users", "way"] [] := F_gain_of_way'.binds (ps := ["crowd", "users", "way"]) fun _ _ _ _ _ _ us hl => match us, hl with | [_, _, _], _ => rfl
  have k_gain_of_way : Cal P w K mg base EA "gain_of_way" ["crowd", "users", "way"] 1 F_gain_of_way := cal_of F_gain_of_way' g_gain_of_way bi_gain_of_way (ok_gain_of_way (k := 0) hea F_gain_of_way' b_sum c_COSTS)
  have bi_gains_in_crowd : Binds K fd_gains_in_crowd ["crowd", "choice"] [] := F_gains_in_crowd'.binds (ps := ["crowd", "choice"]) fun _ _ _ _ _ _ us hl => match us, hl with | [_, _], _ => rfl
  have k_gains_in_crowd : Cal P w K mg base EA "gains_in_crowd" ["crowd", "choice"] 3 F_gains_in_crowd := cal_of F_gains_in_crowd' g_gains_in_crowd bi_gains_in_crowd (ok_gains_in_crowd (k := 2) hea F_gains_in_crowd' (k_users_by.mono (by decide)) (k_ways_taken.mono (by decide)) (k_gain_of_way.mono (by decide)))
  have bi_crowd_game_by : Binds K fd_crowd_game_by ["crowd"] [] := F_crowd_game_by'.binds (ps := ["crowd"]) fun _ _ _ _ _ _ us hl => match us, hl with | [_], _ => rfl
  have k_crowd_game_by : Cal P w K mg base EA "crowd_game_by" ["crowd"] 4 F_crowd_game_by := cal_of F_crowd_game_by' g_crowd_game_by bi_crowd_game_by (ok_crowd_game_by (k := 3) hea F_crowd_game_by' (k_sizes_of_crowd.mono (by decide)) (k_rows_of.mono (by decide)) (k_gains_in_crowd.mono (by decide)) b_tuple b_range b_len)
  have bi_crowd_game : Binds K fd_crowd_game ["crowd"] [] := F_crowd_game'.binds (ps := ["crowd"]) fun _ _ _ _ _ _ us hl => match us, hl with | [_], _ => rfl
  have k_crowd_game : Cal P w K mg base EA "crowd_game" ["crowd"] 7 F_crowd_game := cal_of F_crowd_game' g_crowd_game bi_crowd_game (ok_crowd_game (k := 6) hea F_crowd_game' (k_check_crowd.mono (by decide)) (k_crowd_game_by.mono (by decide)))
  have bi__law_same : Binds K fd__law_same ["one", "two"] [] := F__law_same'.binds (ps := ["one", "two"]) fun _ _ _ _ _ _ us hl => match us, hl with | [_, _], _ => rfl
  have k__law_same : Cal P w K mg base EA "_law_same" ["one", "two"] 11 F__law_same := by
    have h : ∀ j : Nat, Cal P w K mg base EA "_law_same" ["one", "two"] (1 + j) (R__law_same j) := fun j => by
      induction j with
      | zero => exact (cal_bad F__law_same' g__law_same bi__law_same).mono (Nat.zero_le _)
      | succ j ih => exact cal_of F__law_same' g__law_same bi__law_same (ok__law_same (k := 1 + j) hea F__law_same' ih b_isinstance b_tuple b_list b_len b_zip b_bool b_str)
    exact h 10
  have bi__law_all : Binds K fd__law_all ["sizes"] [] := F__law_all'.binds (ps := ["sizes"]) fun _ _ _ _ _ _ us hl => match us, hl with | [_], _ => rfl
  have k__law_all : Cal P w K mg base EA "_law_all" ["sizes"] 1 F__law_all := cal_of F__law_all' g__law_all bi__law_all (ok__law_all (k := 0) hea F__law_all' b_sum b_range)
  have bi__law_crowd_users : Binds K fd__law_crowd_users ["crowd", "choice"] [] := F__law_crowd_users'.binds (ps := ["crowd", "choice"]) fun _ _ _ _ _ _ us hl => match us, hl with | [_, _], _ => rfl
  have k__law_crowd_users : Cal P w K mg base EA "_law_crowd_users" ["crowd", "choice"] 1 F__law_crowd_users := cal_of F__law_crowd_users' g__law_crowd_users bi__law_crowd_users (ok__law_crowd_users (k := 0) hea F__law_crowd_users' b_len b_zip b_tuple)
  have bi__law_crowd_game : Binds K fd__law_crowd_game ["crowd"] [] := F__law_crowd_game'.binds (ps := ["crowd"]) fun _ _ _ _ _ _ us hl => match us, hl with | [_], _ => rfl
  have k__law_crowd_game : Cal P w K mg base EA "_law_crowd_game" ["crowd"] 2 F__law_crowd_game := cal_of F__law_crowd_game' g__law_crowd_game bi__law_crowd_game (ok__law_crowd_game (k := 1) hea F__law_crowd_game' (k__law_all.mono (by decide)) (k__law_crowd_users.mono (by decide)) b_tuple b_len b_enumerate b_sum)
  have bi_are_sizes : Binds K fd_are_sizes ["value"] [] := F_are_sizes'.binds (ps := ["value"]) fun _ _ _ _ _ _ us hl => match us, hl with | [_], _ => rfl
  have k_are_sizes : Cal P w K mg base EA "are_sizes" ["value"] 3 F_are_sizes := cal_of F_are_sizes' g_are_sizes bi_are_sizes (ok_are_sizes (k := 2) hea F_are_sizes' (k_is_between.mono (by decide)) (k_count_of.mono (by decide)) b_isinstance b_tuple b_len b_all c_MOST_CHOOSERS c_MOST_DEEDS c_MOST_CHOICES)
  have bi_is_game_by : Binds K fd_is_game_by ["value"] [] := F_is_game_by'.binds (ps := ["value"]) fun _ _ _ _ _ _ us hl => match us, hl with | [_], _ => rfl
  have k_is_game_by : Cal P w K mg base EA "is_game_by" ["value"] 4 F_is_game_by := cal_of F_is_game_by' g_is_game_by bi_is_game_by (ok_is_game_by (k := 3) hea F_is_game_by' (k_is_tuple_of.mono (by decide)) (k_are_sizes.mono (by decide)) (k_count_of.mono (by decide)) (k_is_gain_row.mono (by decide)) b_len b_all c_SIZES c_GAINS)
  have bi_is_game : Binds K fd_is_game ["value"] [] := F_is_game'.binds (ps := ["value"]) fun _ _ _ _ _ _ us hl => match us, hl with | [_], _ => rfl
  have k_is_game : Cal P w K mg base EA "is_game" ["value"] 5 F_is_game := cal_of F_is_game' g_is_game bi_is_game (ok_is_game (k := 4) hea F_is_game' (k_is_game_by.mono (by decide)))
  have bi_is_crowd_choice : Binds K fd_is_crowd_choice ["crowd", "value"] [] := F_is_crowd_choice'.binds (ps := ["crowd", "value"]) fun _ _ _ _ _ _ us hl => match us, hl with | [_, _], _ => rfl
  have k_is_crowd_choice : Cal P w K mg base EA "is_crowd_choice" ["crowd", "value"] 3 F_is_crowd_choice := cal_of F_is_crowd_choice' g_is_crowd_choice bi_is_crowd_choice (ok_is_crowd_choice (k := 2) hea F_is_crowd_choice' (k_sizes_of_crowd.mono (by decide)) (k_is_tuple_of.mono (by decide)) (k_is_between.mono (by decide)) b_len b_all b_zip)
  have bi_check_crowd_choice : Binds K fd_check_crowd_choice ["crowd", "value"] [] := F_check_crowd_choice'.binds (ps := ["crowd", "value"]) fun _ _ _ _ _ _ us hl => match us, hl with | [_, _], _ => rfl
  have k_check_crowd_choice : Cal P w K mg base EA "check_crowd_choice" ["crowd", "value"] 7 F_check_crowd_choice := cal_of F_check_crowd_choice' g_check_crowd_choice bi_check_crowd_choice (ok_check_crowd_choice (k := 6) hea F_check_crowd_choice' (k_check_crowd.mono (by decide)) (k_is_crowd_choice.mono (by decide)))
  have bi_users : Binds K fd_users ["crowd", "choice"] [] := F_users'.binds (ps := ["crowd", "choice"]) fun _ _ _ _ _ _ us hl => match us, hl with | [_, _], _ => rfl
  have k_users : Cal P w K mg base EA "users" ["crowd", "choice"] 8 F_users := cal_of F_users' g_users bi_users (ok_users (k := 7) hea F_users' (k_check_crowd_choice.mono (by decide)) (k_users_by.mono (by decide)))
  have bi__law_gain : Binds K fd__law_gain ["crowd", "choice", "chooser"] [] := F__law_gain'.binds (ps := ["crowd", "choice", "chooser"]) fun _ _ _ _ _ _ us hl => match us, hl with | [_, _, _], _ => rfl
  have k__law_gain : Cal P w K mg base EA "_law_gain" ["crowd", "choice", "chooser"] 1 F__law_gain := cal_of F__law_gain' g__law_gain bi__law_gain (ok__law_gain (k := 0) hea F__law_gain' b_len b_zip)
  have bi_check_game : Binds K fd_check_game ["value"] [] := F_check_game'.binds (ps := ["value"]) fun _ _ _ _ _ _ us hl => match us, hl with | [_], _ => rfl
  have k_check_game : Cal P w K mg base EA "check_game" ["value"] 5 F_check_game := cal_of F_check_game' g_check_game bi_check_game (ok_check_game (k := 4) hea F_check_game' (k_is_game_by.mono (by decide)))
  have bi_choosers_by : Binds K fd_choosers_by ["game"] [] := F_choosers_by'.binds (ps := ["game"]) fun _ _ _ _ _ _ us hl => match us, hl with | [_], _ => rfl
  have k_choosers_by : Cal P w K mg base EA "choosers_by" ["game"] 1 F_choosers_by := cal_of F_choosers_by' g_choosers_by bi_choosers_by (ok_choosers_by (k := 0) hea F_choosers_by' b_len c_SIZES)
  have bi_is_chooser : Binds K fd_is_chooser ["game", "value"] [] := F_is_chooser'.binds (ps := ["game", "value"]) fun _ _ _ _ _ _ us hl => match us, hl with | [_, _], _ => rfl
  have k_is_chooser : Cal P w K mg base EA "is_chooser" ["game", "value"] 3 F_is_chooser := cal_of F_is_chooser' g_is_chooser bi_is_chooser (ok_is_chooser (k := 2) hea F_is_chooser' (k_is_between.mono (by decide)) (k_choosers_by.mono (by decide)))
  have bi_check_chooser : Binds K fd_check_chooser ["game", "value"] [] := F_check_chooser'.binds (ps := ["game", "value"]) fun _ _ _ _ _ _ us hl => match us, hl with | [_, _], _ => rfl
  have k_check_chooser : Cal P w K mg base EA "check_chooser" ["game", "value"] 4 F_check_chooser := cal_of F_check_chooser' g_check_chooser bi_check_chooser (ok_check_chooser (k := 3) hea F_check_chooser' (k_is_chooser.mono (by decide)))
  have bi_is_choice : Binds K fd_is_choice ["game", "value"] [] := F_is_choice'.binds (ps := ["game", "value"]) fun _ _ _ _ _ _ us hl => match us, hl with | [_, _], _ => rfl
  have k_is_choice : Cal P w K mg base EA "is_choice" ["game", "value"] 3 F_is_choice := cal_of F_is_choice' g_is_choice bi_is_choice (ok_is_choice (k := 2) hea F_is_choice' (k_is_tuple_of.mono (by decide)) (k_choosers_by.mono (by decide)) (k_is_between.mono (by decide)) b_all b_zip c_SIZES)
  have bi_check_choice : Binds K fd_check_choice ["game", "value"] [] := F_check_choice'.binds (ps := ["game", "value"]) fun _ _ _ _ _ _ us hl => match us, hl with | [_, _], _ => rfl
  have k_check_choice : Cal P w K mg base EA "check_choice" ["game", "value"] 4 F_check_choice := cal_of F_check_choice' g_check_choice bi_check_choice (ok_check_choice (k := 3) hea F_check_choice' (k_is_choice.mono (by decide)))
  have bi_place_in : Binds K fd_place_in ["sizes", "row"] [] := F_place_in'.binds (ps := ["sizes", "row"]) fun _ _ _ _ _ _ us hl => match us, hl with | [_, _], _ => rfl
  have k_place_in : Cal P w K mg base EA "place_in" ["sizes", "row"] 1 F_place_in := cal_of F_place_in' g_place_in bi_place_in (ok_place_in (k := 0) hea F_place_in' b_zip)
  have bi_place_of : Binds K fd_place_of ["game", "choice"] [] := F_place_of'.binds (ps := ["game", "choice"]) fun _ _ _ _ _ _ us hl => match us, hl with | [_, _], _ => rfl
  have k_place_of : Cal P w K mg base EA "place_of" ["game", "choice"] 2 F_place_of := cal_of F_place_of' g_place_of bi_place_of (ok_place_of (k := 1) hea F_place_of' (k_place_in.mono (by decide)) c_SIZES)
  have bi_gain_by : Binds K fd_gain_by ["game", "chooser", "choice"] [] := F_gain_by'.binds (ps := ["game", "chooser", "choice"]) fun _ _ _ _ _ _ us hl => match us, hl with | [_, _, _], _ => rfl
  have k_gain_by : Cal P w K mg base EA "gain_by" ["game", "chooser", "choice"] 3 F_gain_by := cal_of F_gain_by' g_gain_by bi_gain_by (ok_gain_by (k := 2) hea F_gain_by' (k_place_of.mono (by decide)) c_GAINS)
  have bi_gain : Binds K fd_gain ["game", "chooser", "choice"] [] := F_gain'.binds (ps := ["game", "chooser", "choice"]) fun _ _ _ _ _ _ us hl => match us, hl with | [_, _, _], _ => rfl
  have k_gain : Cal P w K mg base EA "gain" ["game", "chooser", "choice"] 6 F_gain := cal_of F_gain' g_gain bi_gain (ok_gain (k := 5) hea F_gain' (k_check_game.mono (by decide)) (k_check_chooser.mono (by decide)) (k_check_choice.mono (by decide)) (k_gain_by.mono (by decide)))
  have bi__law_is_told : Binds K fd__law_is_told ["urn", "crowd"] [] := F__law_is_told'.binds (ps := ["urn", "crowd"]) fun _ _ _ _ _ _ us hl => match us, hl with | [_, _], _ => rfl
  have kb_crowd_game_0 := kb_of (ps := ["crowd"]) (ks := ["crowd"]) (q := [0]) F_crowd_game' g_crowd_game (by
    obtain ⟨_, _, _, _, _, _, _, _, _, rfl, _, _⟩ := F_crowd_game'.ex
    exact fun s ws hl => match ws, hl with | [_], _ => .of_eq rfl)
  have kb_users_1_0 := kb_of (ps := ["crowd", "choice"]) (ks := ["choice", "crowd"]) (q := [1, 0]) F_users' g_users (by
    obtain ⟨_, _, _, _, _, _, _, _, _, rfl, _, _⟩ := F_users'.ex
    exact fun s ws hl => match ws, hl with | [_, _], _ => .of_eq rfl)
  have k__law_is_told : Cal P w K mg base EA "_law_is_told" ["urn", "crowd"] 12 F__law_is_told := cal_of F__law_is_told' g__law_is_told bi__law_is_told (ok__law_is_told (k := 11) hea F__law_is_told' (k__law_nip.mono (by decide)) (k_crowd_game.mono (by decide)) (k__law_same.mono (by decide)) (k__law_crowd_game.mono (by decide)) (k_is_game.mono (by decide)) (k__law_any_of.mono (by decide)) (k__law_all.mono (by decide)) (k_users.mono (by decide)) (k__law_crowd_users.mono (by decide)) (k__law_gain.mono (by decide)) (k_gain.mono (by decide)) kb_crowd_game_0 kb_users_1_0 b_range b_len)
  have bi__law_is_whole : Binds K fd__law_is_whole ["value"] [] := F__law_is_whole'.binds (ps := ["value"]) fun _ _ _ _ _ _ us hl => match us, hl with | [_], _ => rfl
  have k__law_is_whole : Cal P w K mg base EA "_law_is_whole" ["value"] 1 F__law_is_whole := cal_of F__law_is_whole' g__law_is_whole bi__law_is_whole (ok__law_is_whole (k := 0) hea F__law_is_whole' b_isinstance b_int b_bool)
  have bi__law_is_up_to : Binds K fd__law_is_up_to ["value", "most"] [] := F__law_is_up_to'.binds (ps := ["value", "most"]) fun _ _ _ _ _ _ us hl => match us, hl with | [_, _], _ => rfl
  have k__law_is_up_to : Cal P w K mg base EA "_law_is_up_to" ["value", "most"] 2 F__law_is_up_to := cal_of F__law_is_up_to' g__law_is_up_to bi__law_is_up_to (ok__law_is_up_to (k := 1) hea F__law_is_up_to' (k__law_is_whole.mono (by decide)))
  have bi__law_is_sizes : Binds K fd__law_is_sizes ["value", "least"] [] := F__law_is_sizes'.binds (ps := ["value", "least"]) fun _ _ _ _ _ _ us hl => match us, hl with | [_, _], _ => rfl
  have k__law_is_sizes : Cal P w K mg base EA "_law_is_sizes" ["value", "least"] 3 F__law_is_sizes := cal_of F__law_is_sizes' g__law_is_sizes bi__law_is_sizes (ok__law_is_sizes (k := 2) hea F__law_is_sizes' (k__law_is_up_to.mono (by decide)) b_isinstance b_tuple b_len)
  have bi__law_is_crowd : Binds K fd__law_is_crowd ["value"] [] := F__law_is_crowd'.binds (ps := ["value"]) fun _ _ _ _ _ _ us hl => match us, hl with | [_], _ => rfl
  have k__law_is_crowd : Cal P w K mg base EA "_law_is_crowd" ["value"] 4 F__law_is_crowd := cal_of F__law_is_crowd' g__law_is_crowd bi__law_is_crowd (ok__law_is_crowd (k := 3) hea F__law_is_crowd' (k__law_is_sizes.mono (by decide)) (k__law_is_whole.mono (by decide)) (k__law_is_up_to.mono (by decide)) b_isinstance b_tuple b_len b_range)
  have bi__law_at : Binds K fd__law_at ["sizes", "choice"] [] := F__law_at'.binds (ps := ["sizes", "choice"]) fun _ _ _ _ _ _ us hl => match us, hl with | [_, _], _ => rfl
  have k__law_at : Cal P w K mg base EA "_law_at" ["sizes", "choice"] 1 F__law_at := cal_of F__law_at' g__law_at bi__law_at (ok__law_at (k := 0) hea F__law_at' b_zip)
  have bi__law_with : Binds K fd__law_with ["choice", "chooser", "deed"] [] := F__law_with'.binds (ps := ["choice", "chooser", "deed"]) fun _ _ _ _ _ _ us hl => match us, hl with | [_, _, _], _ => rfl
  have k__law_with : Cal P w K mg base EA "_law_with" ["choice", "chooser", "deed"] 1 F__law_with := cal_of F__law_with' g__law_with bi__law_with (ok__law_with (k := 0) hea F__law_with')
  have bi__law_more_right : Binds K fd__law_more_right ["urn", "crowd"] [] := F__law_more_right'.binds (ps := ["urn", "crowd"]) fun _ _ _ _ _ _ us hl => match us, hl with | [_, _], _ => rfl
  have k__law_more_right : Cal P w K mg base EA "_law_more_right" ["urn", "crowd"] 12 F__law_more_right := cal_of F__law_more_right' g__law_more_right bi__law_more_right (ok__law_more_right (k := 11) hea F__law_more_right' (k__law_nip.mono (by decide)) (k__law_same.mono (by decide)) (k_crowd_game.mono (by decide)) (k__law_is_crowd.mono (by decide)) (k__law_all.mono (by decide)) (k__law_at.mono (by decide)) (k__law_with.mono (by decide)) b_tuple b_len)
  have bi__law_right : Binds K fd__law_right ["urn"] [] := F__law_right'.binds (ps := ["urn"]) fun _ _ _ _ _ _ us hl => match us, hl with | [_], _ => rfl
  have k__law_right : Cal P w K mg base EA "_law_right" ["urn"] 13 F__law_right := cal_of F__law_right' g__law_right bi__law_right (ok__law_right (k := 12) hea F__law_right' (k__law_any_crowd.mono (by decide)) (k__law_is_told.mono (by decide)) (k__law_more_right.mono (by decide)) (k__law_same.mono (by decide)) (k_users.mono (by decide)) (k_crowd_game.mono (by decide)) b_range)
  have bi__law_urn : Binds K fd__law_urn ["script", "lap"] [] := F__law_urn'.binds (ps := ["script", "lap"]) fun _ _ _ _ _ _ us hl => match us, hl with | [_, _], _ => rfl
  have k__law_urn : CalF P w K mg base EA "_law_urn" ["script", "lap"] 1 F__law_urn := ⟨f__law_urn, fd__law_urn, ok__law_urn (k := 0) hea F__law_urn' b_len b_int b_sum b_abs, g__law_urn, F__law_urn'.kp, bi__law_urn⟩
  have bi_law : Binds K fd_law ["script"] [] := F_law'.binds (ps := ["script"]) fun _ _ _ _ _ _ us hl => match us, hl with | [_], _ => rfl
  exact ok_law (k := 13) hea F_law' (k__law_right.mono (by decide)) (k__law_urn.mono (by decide)) b_all b_range
theorem all_mk {h : Heap} {fa : Addr} (KX : K.In h) (G : h.Ns mainGlobals mg) (hfa : mg "law" = some (.ref fa))
    (d_0 : DefAt K "is_whole" s_is_whole)
    (d_1 : DefAt K "is_between" s_is_between)
    (d_2 : DefAt K "is_tuple_of" s_is_tuple_of)
    (d_3 : DefAt K "are_rising" s_are_rising)
    (d_4 : DefAt K "count_of" s_count_of)
    (d_5 : DefAt K "are_sizes" s_are_sizes)
    (d_6 : DefAt K "rows_of" s_rows_of)
    (d_7 : DefAt K "place_in" s_place_in)
    (d_8 : DefAt K "is_gain_row" s_is_gain_row)
    (d_9 : DefAt K "is_game_by" s_is_game_by)
    (d_10 : DefAt K "choosers_by" s_choosers_by)
    (d_11 : DefAt K "is_choice" s_is_choice)
    (d_12 : DefAt K "is_chooser" s_is_chooser)
    (d_13 : DefAt K "place_of" s_place_of)
    (d_14 : DefAt K "gain_by" s_gain_by)
    (d_15 : DefAt K "check_game" s_check_game)
    (d_16 : DefAt K "check_choice" s_check_choice)
    (d_17 : DefAt K "check_chooser" s_check_chooser)
    (d_18 : DefAt K "is_way" s_is_way)
    (d_19 : DefAt K "are_ways" s_are_ways)
    (d_20 : DefAt K "are_costs" s_are_costs)
    (d_21 : DefAt K "sizes_of_crowd" s_sizes_of_crowd)
    (d_22 : DefAt K "is_crowd_by" s_is_crowd_by)
    (d_23 : DefAt K "ways_taken" s_ways_taken)
    (d_24 : DefAt K "users_by" s_users_by)
    (d_25 : DefAt K "gain_of_way" s_gain_of_way)
    (d_26 : DefAt K "gains_in_crowd" s_gains_in_crowd)
    (d_27 : DefAt K "crowd_game_by" s_crowd_game_by)
    (d_28 : DefAt K "is_crowd_choice" s_is_crowd_choice)
    (d_29 : DefAt K "check_crowd" s_check_crowd)
    (d_30 : DefAt K "check_crowd_choice" s_check_crowd_choice)
    (d_31 : DefAt K "crowd_game" s_crowd_game)
    (d_32 : DefAt K "users" s_users)
    (d_33 : DefAt K "is_game" s_is_game)
    (d_34 : DefAt K "gain" s_gain)
    (d_35 : DefAt K "_law_urn" s__law_urn)
    (d_36 : DefAt K "_law_nip" s__law_nip)
    (d_37 : DefAt K "_law_any_of" s__law_any_of)
    (d_38 : DefAt K "_law_is_whole" s__law_is_whole)
    (d_39 : DefAt K "_law_is_up_to" s__law_is_up_to)
    (d_40 : DefAt K "_law_same" s__law_same)
    (d_41 : DefAt K "_law_some" s__law_some)
    (d_42 : DefAt K "_law_all" s__law_all)
    (d_43 : DefAt K "_law_at" s__law_at)
    (d_44 : DefAt K "_law_with" s__law_with)
    (d_45 : DefAt K "_law_any_sizes" s__law_any_sizes)
    (d_46 : DefAt K "_law_is_sizes" s__law_is_sizes)
    (d_47 : DefAt K "_law_crowd_users" s__law_crowd_users)
    (d_48 : DefAt K "_law_crowd_game" s__law_crowd_game)
    (d_49 : DefAt K "_law_any_crowd" s__law_any_crowd)
    (d_50 : DefAt K "_law_is_crowd" s__law_is_crowd)
    (d_51 : DefAt K "_law_gain" s__law_gain)
    (d_52 : DefAt K "_law_is_told" s__law_is_told)
    (d_53 : DefAt K "_law_more_right" s__law_more_right)
    (d_54 : DefAt K "_law_right" s__law_right)
    (d_55 : DefAt K "law" s_law)
    (z_isinstance : PySem.W.nsIn K mainGlobals "isinstance" = some none) (z_int : PySem.W.nsIn K mainGlobals "int" = some none) (z_bool : PySem.W.nsIn K mainGlobals "bool" = some none) (z_tuple : PySem.W.nsIn K mainGlobals "tuple" = some none) (z_len : PySem.W.nsIn K mainGlobals "len" = some none) (z_all : PySem.W.nsIn K mainGlobals "all" = some none) (z_range : PySem.W.nsIn K mainGlobals "range" = some none) (z_zip : PySem.W.nsIn K mainGlobals "zip" = some none) (z_enumerate : PySem.W.nsIn K mainGlobals "enumerate" = some none) (z_sum : PySem.W.nsIn K mainGlobals "sum" = some none) (z_abs : PySem.W.nsIn K mainGlobals "abs" = some none) (z_divmod : PySem.W.nsIn K mainGlobals "divmod" = some none) (z_list : PySem.W.nsIn K mainGlobals "list" = some none) (z_str : PySem.W.nsIn K mainGlobals "str" = some none) {t_MOST_CHOOSERS : Tok} (n_MOST_CHOOSERS : PySem.W.nsIn K mainGlobals "MOST_CHOOSERS" = some (some (.int 4 t_MOST_CHOOSERS))) {t_MOST_DEEDS : Tok} (n_MOST_DEEDS : PySem.W.nsIn K mainGlobals "MOST_DEEDS" = some (some (.int 6 t_MOST_DEEDS))) {t_MOST_CHOICES : Tok} (n_MOST_CHOICES : PySem.W.nsIn K mainGlobals "MOST_CHOICES" = some (some (.int 36 t_MOST_CHOICES))) {t_SIZES : Tok} (n_SIZES : PySem.W.nsIn K mainGlobals "SIZES" = some (some (.int 0 t_SIZES))) {t_GAINS : Tok} (n_GAINS : PySem.W.nsIn K mainGlobals "GAINS" = some (some (.int 1 t_GAINS))) {t_MOST_ROADS : Tok} (n_MOST_ROADS : PySem.W.nsIn K mainGlobals "MOST_ROADS" = some (some (.int 200 t_MOST_ROADS))) {t_WAYS : Tok} (n_WAYS : PySem.W.nsIn K mainGlobals "WAYS" = some (some (.int 0 t_WAYS))) {t_COSTS : Tok} (n_COSTS : PySem.W.nsIn K mainGlobals "COSTS" = some (some (.int 1 t_COSTS))) :
    ∃ fd : FuncData, (∀ (s : Shared) (v : Value), BindsTo s fd ⟨[v], []⟩ [("script", v)]) ∧ ∀ base : Heap, K.In base → base.Ns mainGlobals mg → FnOk P w K mg base (L2.CX P w) 14 fa fd ["script"] (spF K EA0 1 F_law) := by
  obtain ⟨f_0, fd_0, a_0, F_0⟩ := d_0
  obtain ⟨f_1, fd_1, a_1, F_1⟩ := d_1
  obtain ⟨f_2, fd_2, a_2, F_2⟩ := d_2
  obtain ⟨f_3, fd_3, a_3, F_3⟩ := d_3
  obtain ⟨f_4, fd_4, a_4, F_4⟩ := d_4
  obtain ⟨f_5, fd_5, a_5, F_5⟩ := d_5
  obtain ⟨f_6, fd_6, a_6, F_6⟩ := d_6
  obtain ⟨f_7, fd_7, a_7, F_7⟩ := d_7
  obtain ⟨f_8, fd_8, a_8, F_8⟩ := d_8
  obtain ⟨f_9, fd_9, a_9, F_9⟩ := d_9
  obtain ⟨f_10, fd_10, a_10, F_10⟩ := d_10
  obtain ⟨f_11, fd_11, a_11, F_11⟩ := d_11
  obtain ⟨f_12, fd_12, a_12, F_12⟩ := d_12
  obtain ⟨f_13, fd_13, a_13, F_13⟩ := d_13
  obtain ⟨f_14, fd_14, a_14, F_14⟩ := d_14
  obtain ⟨f_15, fd_15, a_15, F_15⟩ := d_15
  obtain ⟨f_16, fd_16, a_16, F_16⟩ := d_16
  obtain ⟨f_17, fd_17, a_17, F_17⟩ := d_17
  obtain ⟨f_18, fd_18, a_18, F_18⟩ := d_18
  obtain ⟨f_19, fd_19, a_19, F_19⟩ := d_19
  obtain ⟨f_20, fd_20, a_20, F_20⟩ := d_20
  obtain ⟨f_21, fd_21, a_21, F_21⟩ := d_21
  obtain ⟨f_22, fd_22, a_22, F_22⟩ := d_22
  obtain ⟨f_23, fd_23, a_23, F_23⟩ := d_23
  obtain ⟨f_24, fd_24, a_24, F_24⟩ := d_24
  obtain ⟨f_25, fd_25, a_25, F_25⟩ := d_25
  obtain ⟨f_26, fd_26, a_26, F_26⟩ := d_26
  obtain ⟨f_27, fd_27, a_27, F_27⟩ := d_27
  obtain ⟨f_28, fd_28, a_28, F_28⟩ := d_28
  obtain ⟨f_29, fd_29, a_29, F_29⟩ := d_29
  obtain ⟨f_30, fd_30, a_30, F_30⟩ := d_30
  obtain ⟨f_31, fd_31, a_31, F_31⟩ := d_31
  obtain ⟨f_32, fd_32, a_32, F_32⟩ := d_32
  obtain ⟨f_33, fd_33, a_33, F_33⟩ := d_33
  obtain ⟨f_34, fd_34, a_34, F_34⟩ := d_34
  obtain ⟨f_35, fd_35, a_35, F_35⟩ := d_35
  obtain ⟨f_36, fd_36, a_36, F_36⟩ := d_36
  obtain ⟨f_37, fd_37, a_37, F_37⟩ := d_37
  obtain ⟨f_38, fd_38, a_38, F_38⟩ := d_38
  obtain ⟨f_39, fd_39, a_39, F_39⟩ := d_39
  obtain ⟨f_40, fd_40, a_40, F_40⟩ := d_40
  obtain ⟨f_41, fd_41, a_41, F_41⟩ := d_41
  obtain ⟨f_42, fd_42, a_42, F_42⟩ := d_42
  obtain ⟨f_43, fd_43, a_43, F_43⟩ := d_43
  obtain ⟨f_44, fd_44, a_44, F_44⟩ := d_44
  obtain ⟨f_45, fd_45, a_45, F_45⟩ := d_45
  obtain ⟨f_46, fd_46, a_46, F_46⟩ := d_46
  obtain ⟨f_47, fd_47, a_47, F_47⟩ := d_47
  obtain ⟨f_48, fd_48, a_48, F_48⟩ := d_48
  obtain ⟨f_49, fd_49, a_49, F_49⟩ := d_49
  obtain ⟨f_50, fd_50, a_50, F_50⟩ := d_50
  obtain ⟨f_51, fd_51, a_51, F_51⟩ := d_51
  obtain ⟨f_52, fd_52, a_52, F_52⟩ := d_52
  obtain ⟨f_53, fd_53, a_53, F_53⟩ := d_53
  obtain ⟨f_54, fd_54, a_54, F_54⟩ := d_54
  obtain ⟨f_55, fd_55, a_55, F_55⟩ := d_55
  have e := hfa.symm.trans (PySem.W.mg_of KX G a_55)
  cases e
  refine ⟨fd_55, ?_, fun base _ _ => all_ok eaOk0 F_0 (PySem.W.mg_of KX G a_0) F_1 (PySem.W.mg_of KX G a_1) F_2 (PySem.W.mg_of KX G a_2) F_3 (PySem.W.mg_of KX G a_3) F_4 (PySem.W.mg_of KX G a_4) F_5 (PySem.W.mg_of KX G a_5) F_6 (PySem.W.mg_of KX G a_6) F_7 (PySem.W.mg_of KX G a_7) F_8 (PySem.W.mg_of KX G a_8) F_9 (PySem.W.mg_of KX G a_9) F_10 (PySem.W.mg_of KX G a_10) F_11 (PySem.W.mg_of KX G a_11) F_12 (PySem.W.mg_of KX G a_12) F_13 (PySem.W.mg_of KX G a_13) F_14 (PySem.W.mg_of KX G a_14) F_15 (PySem.W.mg_of KX G a_15) F_16 (PySem.W.mg_of KX G a_16) F_17 (PySem.W.mg_of KX G a_17) F_18 (PySem.W.mg_of KX G a_18) F_19 (PySem.W.mg_of KX G a_19) F_20 (PySem.W.mg_of KX G a_20) F_21 (PySem.W.mg_of KX G a_21) F_22 (PySem.W.mg_of KX G a_22) F_23 (PySem.W.mg_of KX G a_23) F_24 (PySem.W.mg_of KX G a_24) F_25 (PySem.W.mg_of KX G a_25) F_26 (PySem.W.mg_of KX G a_26) F_27 (PySem.W.mg_of KX G a_27) F_28 (PySem.W.mg_of KX G a_28) F_29 (PySem.W.mg_of KX G a_29) F_30 (PySem.W.mg_of KX G a_30) F_31 (PySem.W.mg_of KX G a_31) F_32 (PySem.W.mg_of KX G a_32) F_33 (PySem.W.mg_of KX G a_33) F_34 (PySem.W.mg_of KX G a_34) F_35 (PySem.W.mg_of KX G a_35) F_36 (PySem.W.mg_of KX G a_36) F_37 (PySem.W.mg_of KX G a_37) F_38 (PySem.W.mg_of KX G a_38) F_39 (PySem.W.mg_of KX G a_39) F_40 (PySem.W.mg_of KX G a_40) F_41 (PySem.W.mg_of KX G a_41) F_42 (PySem.W.mg_of KX G a_42) F_43 (PySem.W.mg_of KX G a_43) F_44 (PySem.W.mg_of KX G a_44) F_45 (PySem.W.mg_of KX G a_45) F_46 (PySem.W.mg_of KX G a_46) F_47 (PySem.W.mg_of KX G a_47) F_48 (PySem.W.mg_of KX G a_48) F_49 (PySem.W.mg_of KX G a_49) F_50 (PySem.W.mg_of KX G a_50) F_51 (PySem.W.mg_of KX G a_51) F_52 (PySem.W.mg_of KX G a_52) F_53 (PySem.W.mg_of KX G a_53) F_54 (PySem.W.mg_of KX G a_54) F_55 (PySem.W.mg_of KX G a_55) (PySem.W.mg_none_of KX G z_isinstance) (PySem.W.mg_none_of KX G z_int) (PySem.W.mg_none_of KX G z_bool) (PySem.W.mg_none_of KX G z_tuple) (PySem.W.mg_none_of KX G z_len) (PySem.W.mg_none_of KX G z_all) (PySem.W.mg_none_of KX G z_range) (PySem.W.mg_none_of KX G z_zip) (PySem.W.mg_none_of KX G z_enumerate) (PySem.W.mg_none_of KX G z_sum) (PySem.W.mg_none_of KX G z_abs) (PySem.W.mg_none_of KX G z_divmod) (PySem.W.mg_none_of KX G z_list) (PySem.W.mg_none_of KX G z_str) (PySem.W.mg_of KX G n_MOST_CHOOSERS) (PySem.W.mg_of KX G n_MOST_DEEDS) (PySem.W.mg_of KX G n_MOST_CHOICES) (PySem.W.mg_of KX G n_SIZES) (PySem.W.mg_of KX G n_GAINS) (PySem.W.mg_of KX G n_MOST_ROADS) (PySem.W.mg_of KX G n_WAYS) (PySem.W.mg_of KX G n_COSTS)⟩
  obtain ⟨_, _, _, _, _, _, _, _, _, rfl, _, _⟩ := F_55.ex
  exact fun s v => .of_eq rfl
end
end K51
open PySem PySem.W PyProof.Rows
set_option maxHeartbeats 0 in
theorem PySem.Challenge.cw_restchoices_k51_whole_games_of_crowds_holds : PySem.Challenge.rw_restchoices_k51_whole_games_of_crowds.Holds := by
  w_on; o_law; k_head; (case hw => w_witness2)
  k_fill
  refine L2.walk_ofB (l := PySem.Challenge.rw_restchoices_k51_whole_games_of_crowds) (n := 63) (k := 14) (x := "script") (CX := fun w => L2.CX (PySem.Challenge.rw_restchoices_k51_whole_games_of_crowds).prog w) (sp := fun w => Dn.spF _ Dn.EA0 1 K51.F_law) rfl (by decide) rfl ⟨rfl, by decide, by decide⟩ (fun w h Y => PySem.W.kIn_of Y) ?F (fun _ H a ns hl hb hO hS => Dn.law_sp (fun ns h1 _ => K51.law_true ns h1 fun _ _ => trivial) hl hb hO hS) (fun _ _ _ _ _ h => Dn.law_cx h)
  case F =>
    intro w mg fa h KX G hmg
    refine' K51.all_mk KX G hmg ?d0 ?d1 ?d2 ?d3 ?d4 ?d5 ?d6 ?d7 ?d8 ?d9 ?d10 ?d11 ?d12 ?d13 ?d14 ?d15 ?d16 ?d17 ?d18 ?d19 ?d20 ?d21 ?d22 ?d23 ?d24 ?d25 ?d26 ?d27 ?d28 ?d29 ?d30 ?d31 ?d32 ?d33 ?d34 ?d35 ?d36 ?d37 ?d38 ?d39 ?d40 ?d41 ?d42 ?d43 ?d44 ?d45 ?d46 ?d47 ?d48 ?d49 ?d50 ?d51 ?d52 ?d53 ?d54 ?d55 ?z0 ?z1 ?z2 ?z3 ?z4 ?z5 ?z6 ?z7 ?z8 ?z9 ?z10 ?z11 ?z12 ?z13 ?n0 ?n1 ?n2 ?n3 ?n4 ?n5 ?n6 ?n7
    (case d0 =>
      refine' Dn.defAt ?a ?l ?c ?k
      (case a => k_is); (case l => k_is); (case c => k_is); (case k => k_is))
    (case d1 =>
      refine' Dn.defAt ?a ?l ?c ?k
      (case a => k_is); (case l => k_is); (case c => k_is); (case k => k_is))
    (case d2 =>
      refine' Dn.defAt ?a ?l ?c ?k
      (case a => k_is); (case l => k_is); (case c => k_is); (case k => k_is))
    (case d3 =>
      refine' Dn.defAt ?a ?l ?c ?k
      (case a => k_is); (case l => k_is); (case c => k_is); (case k => k_is))
    (case d4 =>
      refine' Dn.defAt ?a ?l ?c ?k
      (case a => k_is); (case l => k_is); (case c => k_is); (case k => k_is))
    (case d5 =>
      refine' Dn.defAt ?a ?l ?c ?k
      (case a => k_is); (case l => k_is); (case c => k_is); (case k => k_is))
    (case d6 =>
      refine' Dn.defAt ?a ?l ?c ?k
      (case a => k_is); (case l => k_is); (case c => k_is); (case k => k_is))
    (case d7 =>
      refine' Dn.defAt ?a ?l ?c ?k
      (case a => k_is); (case l => k_is); (case c => k_is); (case k => k_is))
    (case d8 =>
      refine' Dn.defAt ?a ?l ?c ?k
      (case a => k_is); (case l => k_is); (case c => k_is); (case k => k_is))
    (case d9 =>
      refine' Dn.defAt ?a ?l ?c ?k
      (case a => k_is); (case l => k_is); (case c => k_is); (case k => k_is))
    (case d10 =>
      refine' Dn.defAt ?a ?l ?c ?k
      (case a => k_is); (case l => k_is); (case c => k_is); (case k => k_is))
    (case d11 =>
      refine' Dn.defAt ?a ?l ?c ?k
      (case a => k_is); (case l => k_is); (case c => k_is); (case k => k_is))
    (case d12 =>
      refine' Dn.defAt ?a ?l ?c ?k
      (case a => k_is); (case l => k_is); (case c => k_is); (case k => k_is))
    (case d13 =>
      refine' Dn.defAt ?a ?l ?c ?k
      (case a => k_is); (case l => k_is); (case c => k_is); (case k => k_is))
    (case d14 =>
      refine' Dn.defAt ?a ?l ?c ?k
      (case a => k_is); (case l => k_is); (case c => k_is); (case k => k_is))
    (case d15 =>
      refine' Dn.defAt ?a ?l ?c ?k
      (case a => k_is); (case l => k_is); (case c => k_is); (case k => k_is))
    (case d16 =>
      refine' Dn.defAt ?a ?l ?c ?k
      (case a => k_is); (case l => k_is); (case c => k_is); (case k => k_is))
    (case d17 =>
      refine' Dn.defAt ?a ?l ?c ?k
      (case a => k_is); (case l => k_is); (case c => k_is); (case k => k_is))
    (case d18 =>
      refine' Dn.defAt ?a ?l ?c ?k
      (case a => k_is); (case l => k_is); (case c => k_is); (case k => k_is))
    (case d19 =>
      refine' Dn.defAt ?a ?l ?c ?k
      (case a => k_is); (case l => k_is); (case c => k_is); (case k => k_is))
    (case d20 =>
      refine' Dn.defAt ?a ?l ?c ?k
      (case a => k_is); (case l => k_is); (case c => k_is); (case k => k_is))
    (case d21 =>
      refine' Dn.defAt ?a ?l ?c ?k
      (case a => k_is); (case l => k_is); (case c => k_is); (case k => k_is))
    (case d22 =>
      refine' Dn.defAt ?a ?l ?c ?k
      (case a => k_is); (case l => k_is); (case c => k_is); (case k => k_is))
    (case d23 =>
      refine' Dn.defAt ?a ?l ?c ?k
      (case a => k_is); (case l => k_is); (case c => k_is); (case k => k_is))
    (case d24 =>
      refine' Dn.defAt ?a ?l ?c ?k
      (case a => k_is); (case l => k_is); (case c => k_is); (case k => k_is))
    (case d25 =>
      refine' Dn.defAt ?a ?l ?c ?k
      (case a => k_is); (case l => k_is); (case c => k_is); (case k => k_is))
    (case d26 =>
      refine' Dn.defAt ?a ?l ?c ?k
      (case a => k_is); (case l => k_is); (case c => k_is); (case k => k_is))
    (case d27 =>
      refine' Dn.defAt ?a ?l ?c ?k
      (case a => k_is); (case l => k_is); (case c => k_is); (case k => k_is))
    (case d28 =>
      refine' Dn.defAt ?a ?l ?c ?k
      (case a => k_is); (case l => k_is); (case c => k_is); (case k => k_is))
    (case d29 =>
      refine' Dn.defAt ?a ?l ?c ?k
      (case a => k_is); (case l => k_is); (case c => k_is); (case k => k_is))
    (case d30 =>
      refine' Dn.defAt ?a ?l ?c ?k
      (case a => k_is); (case l => k_is); (case c => k_is); (case k => k_is))
    (case d31 =>
      refine' Dn.defAt ?a ?l ?c ?k
      (case a => k_is); (case l => k_is); (case c => k_is); (case k => k_is))
    (case d32 =>
      refine' Dn.defAt ?a ?l ?c ?k
      (case a => k_is); (case l => k_is); (case c => k_is); (case k => k_is))
    (case d33 =>
      refine' Dn.defAt ?a ?l ?c ?k
      (case a => k_is); (case l => k_is); (case c => k_is); (case k => k_is))
    (case d34 =>
      refine' Dn.defAt ?a ?l ?c ?k
      (case a => k_is); (case l => k_is); (case c => k_is); (case k => k_is))
    (case d35 =>
      refine' Dn.defAt ?a ?l ?c ?k
      (case a => k_is); (case l => k_is); (case c => k_is); (case k => k_is))
    (case d36 =>
      refine' Dn.defAt ?a ?l ?c ?k
      (case a => k_is); (case l => k_is); (case c => k_is); (case k => k_is))
    (case d37 =>
      refine' Dn.defAt ?a ?l ?c ?k
      (case a => k_is); (case l => k_is); (case c => k_is); (case k => k_is))
    (case d38 =>
      refine' Dn.defAt ?a ?l ?c ?k
      (case a => k_is); (case l => k_is); (case c => k_is); (case k => k_is))
    (case d39 =>
      refine' Dn.defAt ?a ?l ?c ?k
      (case a => k_is); (case l => k_is); (case c => k_is); (case k => k_is))
    (case d40 =>
      refine' Dn.defAt ?a ?l ?c ?k
      (case a => k_is); (case l => k_is); (case c => k_is); (case k => k_is))
    (case d41 =>
      refine' Dn.defAt ?a ?l ?c ?k
      (case a => k_is); (case l => k_is); (case c => k_is); (case k => k_is))
    (case d42 =>
      refine' Dn.defAt ?a ?l ?c ?k
      (case a => k_is); (case l => k_is); (case c => k_is); (case k => k_is))
    (case d43 =>
      refine' Dn.defAt ?a ?l ?c ?k
      (case a => k_is); (case l => k_is); (case c => k_is); (case k => k_is))
    (case d44 =>
      refine' Dn.defAt ?a ?l ?c ?k
      (case a => k_is); (case l => k_is); (case c => k_is); (case k => k_is))
    (case d45 =>
      refine' Dn.defAt ?a ?l ?c ?k
      (case a => k_is); (case l => k_is); (case c => k_is); (case k => k_is))
    (case d46 =>
      refine' Dn.defAt ?a ?l ?c ?k
      (case a => k_is); (case l => k_is); (case c => k_is); (case k => k_is))
    (case d47 =>
      refine' Dn.defAt ?a ?l ?c ?k
      (case a => k_is); (case l => k_is); (case c => k_is); (case k => k_is))
    (case d48 =>
      refine' Dn.defAt ?a ?l ?c ?k
      (case a => k_is); (case l => k_is); (case c => k_is); (case k => k_is))
    (case d49 =>
      refine' Dn.defAt ?a ?l ?c ?k
      (case a => k_is); (case l => k_is); (case c => k_is); (case k => k_is))
    (case d50 =>
      refine' Dn.defAt ?a ?l ?c ?k
      (case a => k_is); (case l => k_is); (case c => k_is); (case k => k_is))
    (case d51 =>
      refine' Dn.defAt ?a ?l ?c ?k
      (case a => k_is); (case l => k_is); (case c => k_is); (case k => k_is))
    (case d52 =>
      refine' Dn.defAt ?a ?l ?c ?k
      (case a => k_is); (case l => k_is); (case c => k_is); (case k => k_is))
    (case d53 =>
      refine' Dn.defAt ?a ?l ?c ?k
      (case a => k_is); (case l => k_is); (case c => k_is); (case k => k_is))
    (case d54 =>
      refine' Dn.defAt ?a ?l ?c ?k
      (case a => k_is); (case l => k_is); (case c => k_is); (case k => k_is))
    (case d55 =>
      refine' Dn.defAt ?a ?l ?c ?k
      (case a => k_is); (case l => k_is); (case c => k_is); (case k => k_is))
    (case z0 => k_is)
    (case z1 => k_is)
    (case z2 => k_is)
    (case z3 => k_is)
    (case z4 => k_is)
    (case z5 => k_is)
    (case z6 => k_is)
    (case z7 => k_is)
    (case z8 => k_is)
    (case z9 => k_is)
    (case z10 => k_is)
    (case z11 => k_is)
    (case z12 => k_is)
    (case z13 => k_is)
    (case n0 => k_is)
    (case n1 => k_is)
    (case n2 => k_is)
    (case n3 => k_is)
    (case n4 => k_is)
    (case n5 => k_is)
    (case n6 => k_is)
    (case n7 => k_is)
