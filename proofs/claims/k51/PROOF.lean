import PyProof.Rows.All
import Wide.All
import OpenK.AllK
import Wide.FinOn
import HandS.ForMost
import HandS.IsInst
import HandS.TupAny
import HandS.Style
import HandS.Rev
import HandS.More
import HandS.Conv
import HandS.WordsDict
import HandS.Flow
import HandS.Words
import HandS.Zip
import KE.GoesMore
import KE.GoesEnum
import HandS.Defaults
import KE.KStateDown
import Lean
import HandS.Ends
import HandS.WordsExc
import HandS.Head0
import HandS.Head1
import HandS.Head2
import HandS.HeadEnd
import HandS.HeadHook1
import HandS.HeadHook2
import HandS.HeadHook3
import PySem.Challenge.RW_groundterm_k51_what_leans_on_what
import PyProof.TableCode
section
namespace Gt

/-- a text: its code points -/
abbrev S := List Nat
/-- a key of a dict -/
inductive Ky where
  | i (n : Int) | s (x : S)
  deriving DecidableEq
/-- a value; scr: the script; lst, dic: a list, a dict that no one changes any more; ref: a heap cell; fn: a def; ty: a built-in class -/
inductive T where
  | non | bl (b : Bool) | int (i : Int) | str (s : S) | tup (l : List T) | lst (l : List T) | scr (l : List T) | dic (l : List (Ky × T)) | ref (n : Nat) | fn (n : Nat) | ty (n : Nat)
/-- what a list, a dict holds while it may be changed -/
inductive Cell where
  | lst (l : List T) | dic (l : List (Ky × T))
def Cell.toT : Cell → T
  | .lst l => .lst l
  | .dic l => .dic l
/-- a name's place: nothing yet; a value; a list of its own -/
inductive Slot where
  | un | val (t : T) | own (c : Cell)
/-- what is handed back -/
inductive RV where
  | val (t : T) | own (c : Cell)
def RV.toT : RV → T
  | .val t => t
  | .own c => c.toT
def RV.toSlot : RV → Slot
  | .val t => .val t
  | .own c => .own c
abbrev Hs := List Cell
inductive R (α : Type) where
  | ok (a : α) (h : Hs) | exc (c : Nat) (v : T) (h : Hs) | bad
def R.bind {α β : Type} (r : R α) (f : α → Hs → R β) : R β := match r with
  | .ok a h => f a h
  | .exc c v h => .exc c v h
  | .bad => .bad
inductive SR where
  | next (e : List Slot) (h : Hs) | ret (v : RV) (h : Hs) | brk (e : List Slot) (h : Hs) | cnt (e : List Slot) (h : Hs) | exc (c : Nat) (v : T) (h : Hs) | bad
def R.bindS {α : Type} (r : R α) (f : α → Hs → SR) : SR := match r with
  | .ok a h => f a h
  | .exc c v h => .exc c v h
  | .bad => .bad
abbrev Call := Nat → List T → Hs → R RV
abbrev EC := Call → List Slot → Hs → R T
abbrev OC := Call → List Slot → Hs → R RV
abbrev TC := Call → List Slot → Hs → R Bool
abbrev AC := Call → List Slot → Hs → R (List T)
abbrev SC := Call → List Slot → Hs → SR
def R.opt {α : Type} (o : Option α) (h : Hs) : R α := match o with
  | some a => .ok a h
  | none => .bad

/-- the most items of a list, a text -/
def LIM : Nat := 16777216
/-- the most turns of a while -/
def FUEL : Nat := 1208925819614629174706176

theorem R.bind_ok {α β : Type} {r : R α} {f : α → Hs → R β} {b : β} {h : Hs} (e : r.bind f = .ok b h) : ∃ a h1, r = .ok a h1 ∧ f a h1 = .ok b h := by
  cases r with
  | ok a h1 => exact ⟨a, h1, rfl, e⟩
  | exc => cases e
  | bad => cases e
theorem R.opt_ok {α : Type} {o : Option α} {a : α} {h h1 : Hs} (e : R.opt o h = .ok a h1) : o = some a ∧ h = h1 := by
  cases o with
  | none => cases e
  | some b => cases e; exact ⟨rfl, rfl⟩

/-- a heap cell as a value -/
def deref (h : Hs) (t : T) : T := match t with
  | .ref n => match h[n]? with
    | some c => c.toT
    | none => .ref n
  | t => t
/-- no part is a heap cell (n: fuel) -/
def noRef : Nat → T → Bool
  | 0, _ => false
  | n + 1, t => match t with
    | .ref _ => false
    | .tup l => l.all (noRef n)
    | .lst l => l.all (noRef n)
    | .scr _ => false
    | .dic l => l.all fun p => noRef n p.2
    | _ => true
def flat : T → Bool
  | .non => true | .bl _ => true | .int _ => true | .str _ => true
  | _ => false
def eqL {α : Type} (f : α → α → Option Bool) : List α → List α → Option Bool
  | [], [] => some true
  | x :: xs, y :: ys => match f x y with
    | some p => match eqL f xs ys with
      | some q => some (p && q)
      | none => none
    | none => none
  | _, _ => some false
/-- ==; boolsT beside intsT are not served -/
def eqT : Nat → T → T → Option Bool
  | 0, _, _ => none
  | n + 1, a, b => match a with
    | .non => (match b with
      | .non => some true | .bl _ => some false | .int _ => some false | .str _ => some false | .tup _ => some false | .lst _ => some false
      | _ => none)
    | .bl x => (match b with
      | .bl y => some (x == y)
      | .non => some false | .str _ => some false | .tup _ => some false | .lst _ => some false
      | _ => none)
    | .int x => (match b with
      | .int y => some (decide (x = y))
      | .non => some false | .str _ => some false | .tup _ => some false | .lst _ => some false
      | _ => none)
    | .str x => (match b with
      | .str y => some (decide (x = y))
      | .non => some false | .bl _ => some false | .int _ => some false | .tup _ => some false | .lst _ => some false
      | _ => none)
    | .tup x => (match b with
      | .tup y => eqL (eqT n) x y
      | .non => some false | .bl _ => some false | .int _ => some false | .str _ => some false | .lst _ => some false
      | _ => none)
    | .lst x => (match b with
      | .lst y => if x.length = y.length then eqL (eqT n) x y else some false
      | .non => some false | .bl _ => some false | .int _ => some false | .str _ => some false | .tup _ => some false
      | _ => none)
    | _ => none
/-- how deep two values may be compared -/
def DEEP : Nat := 150
def eqV (a b : T) : Option Bool := eqT DEEP a b
def isIn (x : T) : List T → Option Bool
  | [] => some false
  | y :: ys => match eqV y x with
    | some p => match isIn x ys with
      | some q => some (p || q)
      | none => none
    | none => none
/-- an index, from either end -/
def ixOf (n : Nat) (i : Int) : Option Nat := if 0 ≤ i then (if i < n then some i.toNat else none) else if -(n : Int) ≤ i then some (i + n).toNat else none
def atIx {α : Type} (l : List α) (i : Int) : Option α := (ixOf l.length i).bind fun j => l[j]?
/-- a bound of a slice -/
def cutAt (n d : Nat) : Option Int → Nat
  | none => d
  | some v => if v < 0 then (v + (n : Int)).toNat else min v.toNat n
def cutL {α : Type} (l : List α) (lo hi : Option Int) : List α := (l.drop (cutAt l.length 0 lo)).take (cutAt l.length l.length hi - cutAt l.length 0 lo)
def lookK {α : Type} (l : List (Ky × α)) (k : Ky) : Option α := match l with
  | [] => none
  | p :: r => if p.1 = k then some p.2 else lookK r k
def putK {α : Type} (l : List (Ky × α)) (k : Ky) (v : α) : List (Ky × α) := match lookK l k with
  | some _ => l.map fun p => if p.1 = k then (p.1, v) else p
  | none => l ++ [(k, v)]
def keyOf : T → Option Ky
  | .int i => some (.i i)
  | .str x => some (.s x)
  | _ => none
def Ky.toT : Ky → T
  | .i n => .int n
  | .s x => .str x
def truth (h : Hs) (t : T) : Option Bool := match deref h t with
  | .non => some false
  | .bl b => some b
  | .int i => some (decide (i ≠ 0))
  | .str x => if x.length ≤ LIM then some (!x.isEmpty) else none
  | .tup l => some (!l.isEmpty)
  | .scr l => some (!l.isEmpty)
  | .lst l => some (!l.isEmpty)
  | .dic l => some (!l.isEmpty)
  | _ => none

def two64 : Int := 18446744073709551616
def small64 (i : Int) : Bool := Nat.ble i.natAbs 18446744073709551615
theorem small64_of {i : Int} (h : small64 i = true) : -two64 < i ∧ i < two64 := by
  have e : two64 = 18446744073709551616 := rfl
  have := Nat.le_of_ble_eq_true h
  rw [e]; omega
theorem small64_mk {i : Int} (h : i.natAbs ≤ 18446744073709551615) : small64 i = true := Nat.ble_eq_true_of_le h
def fAdd (h : Hs) (x y : T) : Option RV := match deref h x with
  | .int i => (match y with
    | .int j => some (.val (.int (i + j)))
    | _ => none)
  | .str a => (match y with
    | .str b => if a.length + b.length ≤ LIM then some (.val (.str (a ++ b))) else none
    | _ => none)
  | .tup a => (match y with
    | .tup b => if a.length + b.length ≤ LIM then some (.val (.tup (a ++ b))) else none
    | _ => none)
  | .lst a => (match deref h y with
    | .lst b => if a.length + b.length ≤ LIM then some (.own (.lst (a ++ b))) else none
    | _ => none)
  | _ => none
def fAddI : Hs → T → T → Option T := fun _ x y => match x with
  | .int i => (match y with
    | .int j => some (.int (i + j))
    | _ => none)
  | _ => none
def fSub (_ : Hs) (x y : T) : Option T := match x with
  | .int i => (match y with
    | .int j => some (.int (i - j))
    | _ => none)
  | _ => none
def fMul (_ : Hs) (x y : T) : Option T := match x with
  | .int i => (match y with
    | .int j => if (small64 i || small64 j) = true then some (.int (i * j)) else none
    | _ => none)
  | _ => none
def fMod (_ : Hs) (x y : T) : Option T := match x with
  | .int i => (match y with
    | .int j => if 0 < j then some (.int (i % j)) else none
    | _ => none)
  | _ => none
def fDiv (_ : Hs) (x y : T) : Option T := match x with
  | .int i => (match y with
    | .int j => if 0 < j ∧ j < 1073741824 then some (.int (i / j)) else none
    | _ => none)
  | _ => none
def fPow (_ : Hs) (x y : T) : Option T := match x with
  | .int i => (match y with
    | .int j => if 0 ≤ j ∧ j ≤ 1000000 ∧ small64 i = true then some (.int (i ^ j.toNat)) else none
    | _ => none)
  | _ => none
def fEq (h : Hs) (x y : T) : Option T := (eqV (deref h x) (deref h y)).map .bl
def fNe (h : Hs) (x y : T) : Option T := (eqV (deref h x) (deref h y)).map fun k => .bl (!k)
def fCmp (p : Int → Int → Bool) (_ : Hs) (x y : T) : Option T := match x with
  | .int i => (match y with
    | .int j => some (.bl (p i j))
    | _ => none)
  | _ => none
def fLt := fCmp fun i j => decide (i < j)
def fLe := fCmp fun i j => decide (i ≤ j)
def fGt := fCmp fun i j => decide (j < i)
def fGe := fCmp fun i j => decide (j ≤ i)
def isNon : T → Bool
  | .non => true
  | _ => false
/-- is, is not: of None; of two boolsT -/
def fIs (_ : Hs) (x y : T) : Option T := match y with
  | .non => some (.bl (isNon x))
  | .bl b => (match x with
    | .bl a => some (.bl (a == b))
    | _ => none)
  | _ => none
def fIsNot (_ : Hs) (x y : T) : Option T := match y with
  | .non => some (.bl (!isNon x))
  | .bl b => (match x with
    | .bl a => some (.bl (!(a == b)))
    | _ => none)
  | _ => none
def inT (h : Hs) (x y : T) : Option Bool := match deref h y with
  | .tup l => isIn x l
  | .lst l => isIn x l
  | .str l => (match x with
    | .str [c] => some (decide (c ∈ l))
    | _ => none)
  | _ => none
def fIn (h : Hs) (x y : T) : Option T := (inT h x y).map .bl
def fNotIn (h : Hs) (x y : T) : Option T := (inT h x y).map fun k => .bl (!k)
/-- o[i] but of a dict -/
def fIxS (h : Hs) (x y : T) : Option T := match deref h x with
  | .tup l => (match y with
    | .int i => atIx l i
    | _ => none)
  | .lst l => (match y with
    | .int i => atIx l i
    | _ => none)
  | .scr l => (match y with
    | .int i => atIx l i
    | _ => none)
  | .str l => (match y with
    | .int i => if l.length ≤ LIM then (atIx l i).map fun c => .str [c] else none
    | _ => none)
  | _ => none
def fIx (h : Hs) (x y : T) : Option T := match deref h x with
  | .dic l => (match keyOf y with
    | some k => lookK l k
    | none => none)
  | _ => fIxS h x y
def fSl (h : Hs) (x : T) (lo hi : Option Int) : Option RV := match deref h x with
  | .tup l => some (.val (.tup (cutL l lo hi)))
  | .lst l => some (.own (.lst (cutL l lo hi)))
  | .str l => if l.length ≤ LIM then some (.val (.str (cutL l lo hi))) else none
  | _ => none
def fLen (h : Hs) (x : T) : Option T := match deref h x with
  | .tup l => some (.int l.length)
  | .scr l => some (.int l.length)
  | .lst l => some (.int l.length)
  | .str l => if l.length ≤ LIM then some (.int l.length) else none
  | .dic l => some (.int l.length)
  | _ => none
/-- the built-in classes of isinstance -/
inductive Ty where
  | int | bool | str | tuple | list
def Ty.has (h : Hs) (x : T) : Ty → Option Bool
  | .int => match deref h x with
    | .int _ => some true | .bl _ => some true
    | .non => some false | .str _ => some false | .tup _ => some false | .lst _ => some false | .dic _ => some false
    | _ => none
  | .bool => match deref h x with
    | .bl _ => some true
    | .int _ => some false | .non => some false | .str _ => some false | .tup _ => some false | .lst _ => some false | .dic _ => some false
    | _ => none
  | .str => match deref h x with
    | .str _ => some true
    | .bl _ => some false | .int _ => some false | .non => some false | .tup _ => some false | .lst _ => some false | .dic _ => some false
    | _ => none
  | .tuple => match deref h x with
    | .tup _ => some true
    | .bl _ => some false | .int _ => some false | .non => some false | .str _ => some false | .lst _ => some false | .dic _ => some false
    | _ => none
  | .list => match deref h x with
    | .lst _ => some true
    | .bl _ => some false | .int _ => some false | .non => some false | .str _ => some false | .tup _ => some false | .dic _ => some false
    | _ => none
def anyTy (h : Hs) (x : T) : List Ty → Option Bool
  | [] => some false
  | t :: ts => match Ty.has h x t with
    | some p => match anyTy h x ts with
      | some q => some (p || q)
      | none => none
    | none => none
def fIsi (ts : List Ty) (h : Hs) (x : T) : Option T := (anyTy h x ts).map .bl
def fTuple (h : Hs) (x : T) : Option T := match deref h x with
  | .tup l => some (.tup l)
  | .lst l => some (.tup l)
  | _ => none
def fList (h : Hs) (x : T) : Option RV := match deref h x with
  | .tup l => some (.own (.lst l))
  | .lst l => some (.own (.lst l))
  | _ => none
def fInt (_ : Hs) (x : T) : Option T := match x with
  | .int i => some (.int i)
  | .bl b => some (.int (if b then 1 else 0))
  | _ => none
def boolsT : List T → Option (List Bool)
  | [] => some []
  | .bl b :: r => (boolsT r).map (b :: ·)
  | _ => none
def intsT : List T → Option (List Int)
  | [] => some []
  | .int b :: r => (intsT r).map (b :: ·)
  | _ => none
def strsT : List T → Option (List S)
  | [] => some []
  | .str b :: r => (strsT r).map (b :: ·)
  | _ => none
def fAll (h : Hs) (x : T) : Option T := match deref h x with
  | .lst l => (boolsT l).map fun bs => .bl (bs.all id)
  | _ => none
def fAny (h : Hs) (x : T) : Option T := match deref h x with
  | .lst l => (boolsT l).map fun bs => .bl (bs.any id)
  | _ => none
def fSum (h : Hs) (x : T) : Option T := match deref h x with
  | .lst l => (intsT l).map fun ns => .int ns.sum
  | _ => none
def fMax2 (_ : Hs) (x y : T) : Option T := match x with
  | .int i => (match y with
    | .int j => some (.int (if j > i then j else i))
    | _ => none)
  | _ => none
def fMin2 (_ : Hs) (x y : T) : Option T := match x with
  | .int i => (match y with
    | .int j => some (.int (if j < i then j else i))
    | _ => none)
  | _ => none

/-- a number as a text -/
def strI (i : Int) : S := (toString i).toList.map Char.toNat
def fStr (_ : Hs) (x : T) : Option T := match x with
  | .int i => if i.natAbs.log2 < 1920 then some (.str (strI i)) else none
  | _ => none
def insI (x : Int) : List Int → List Int
  | [] => [x]
  | y :: r => if y < x then y :: insI x r else x :: y :: r
def sortI : List Int → List Int
  | [] => []
  | x :: r => insI x (sortI r)
def ltS : S → S → Bool
  | [], [] => false
  | [], _ :: _ => true
  | _ :: _, [] => false
  | a :: r, b :: t => decide (a < b) || (a == b && ltS r t)
def insS (x : S) : List S → List S
  | [] => [x]
  | y :: r => if ltS y x = true then y :: insS x r else x :: y :: r
def sortS : List S → List S
  | [] => []
  | x :: r => insS x (sortS r)
def keysS : List (Ky × T) → Option (List S)
  | [] => some []
  | (.s x, _) :: r => (keysS r).map (x :: ·)
  | _ => none
def keysI : List (Ky × T) → Option (List Int)
  | [] => some []
  | (.i x, _) :: r => (keysI r).map (x :: ·)
  | _ => none
/-- sorted(x), below 64 -/
def fSorted (h : Hs) (x : T) : Option RV := match deref h x with
  | .lst l => (match intsT l with
    | some ns => if ns.length < 64 then some (.own (.lst ((sortI ns).map .int))) else none
    | none => (match strsT l with
      | some ns => if ns.length < 64 then some (.own (.lst ((sortS ns).map .str))) else none
      | none => none))
  | .dic l => (match keysS l with
    | some ns => if ns.length < 64 then some (.own (.lst ((sortS ns).map .str))) else none
    | none => (match keysI l with
      | some ns => if ns.length < 64 then some (.own (.lst ((sortI ns).map .int))) else none
      | none => none))
  | _ => none

def eVar (i : Nat) : EC := fun _ e h => match e[i]? with
  | some (.val t) => .ok t h
  | _ => .bad
/-- a name that is looked at, and not kept -/
def eBor (i : Nat) : EC := fun _ e h => match e[i]? with
  | some (.val t) => .ok t h
  | some (.own c) => .ok c.toT h
  | _ => .bad
def eK (t : T) : EC := fun _ _ h => .ok t h
def aNil : AC := fun _ _ h => .ok [] h
def aCons (a : EC) (r : AC) : AC := fun c e h => (a c e h).bind fun t h1 => (r c e h1).bind fun ts h2 => .ok (t :: ts) h2
def eTup (a : AC) : EC := fun c e h => (a c e h).bind fun ts h1 => .ok (.tup ts) h1
def oLst (a : AC) : OC := fun c e h => (a c e h).bind fun ts h1 => .ok (.own (.lst ts)) h1
/-- kept as a value -/
def eOwn (o : OC) : EC := fun c e h => (o c e h).bind fun r h1 => .ok r.toT h1
def oVal (a : EC) : OC := fun c e h => (a c e h).bind fun t h1 => .ok (.val t) h1
def eOp1 (f : Hs → T → Option T) (a : EC) : EC := fun c e h => (a c e h).bind fun x h1 => .opt (f h1 x) h1
def eOp2 (f : Hs → T → T → Option T) (a b : EC) : EC := fun c e h => (a c e h).bind fun x h1 => (b c e h1).bind fun y h2 => .opt (f h2 x y) h2
def oOp1 (f : Hs → T → Option RV) (a : EC) : OC := fun c e h => (a c e h).bind fun x h1 => .opt (f h1 x) h1
def oOp2 (f : Hs → T → T → Option RV) (a b : EC) : OC := fun c e h => (a c e h).bind fun x h1 => (b c e h1).bind fun y h2 => .opt (f h2 x y) h2
def part (a : Option EC) : Call → List Slot → Hs → R (Option Int) := fun c e h => match a with
  | none => .ok none h
  | some a => (a c e h).bind fun x h1 => match x with
    | .int i => .ok (some i) h1
    | _ => .bad
def oSl (a : EC) (lo hi : Option EC) : OC := fun c e h => (a c e h).bind fun x h1 => (part lo c e h1).bind fun l h2 => (part hi c e h2).bind fun u h3 => .opt (fSl h3 x l u) h3
/-- a[::-1] -/
def eBack (a : EC) : OC := fun c e h => (a c e h).bind fun x h1 => match deref h1 x with
  | .lst l => .ok (.own (.lst l.reverse)) h1
  | .tup l => .ok (.val (.tup l.reverse)) h1
  | _ => .bad
def eCall (f : Nat) (a : AC) : OC := fun c e h => (a c e h).bind fun ts h1 => c f ts h1
/-- some arguments are lists that the callee looks at alone: it hands back a scalar -/
def eCallB (f : Nat) (a : AC) : EC := fun c e h => (a c e h).bind fun ts h1 => (c f ts h1).bind fun r _ => match r with
  | .val t => if flat t = true then .ok t h1 else .bad
  | .own _ => .bad
def eIf (t : TC) (a b : EC) : EC := fun c e h => (t c e h).bind fun k h1 => if k = true then a c e h1 else b c e h1
def oIf (t : TC) (a b : OC) : OC := fun c e h => (t c e h).bind fun k h1 => if k = true then a c e h1 else b c e h1
def eAnd (a b : EC) : EC := fun c e h => (a c e h).bind fun x h1 => match truth h1 x with
  | some true => b c e h1
  | some false => .ok x h1
  | none => .bad
def eOr (a b : EC) : EC := fun c e h => (a c e h).bind fun x h1 => match truth h1 x with
  | some false => b c e h1
  | some true => .ok x h1
  | none => .bad
def eNot (a : EC) : EC := fun c e h => (a c e h).bind fun x h1 => match truth h1 x with
  | some k => .ok (.bl (!k)) h1
  | none => .bad
/-- a op b op' d -/
def eChain (f g : Hs → T → T → Option T) (a b d : EC) : EC := fun c e h => (a c e h).bind fun x h1 => (b c e h1).bind fun y h2 => match f h2 x y with
  | some (.bl true) => (d c e h2).bind fun z h3 => match g h3 y z with
    | some (.bl k) => .ok (.bl k) h3
    | _ => .bad
  | some (.bl false) => .ok (.bl false) h2
  | _ => .bad

def tTru (a : EC) : TC := fun c e h => (a c e h).bind fun x h1 => .opt (truth h1 x) h1
def tBl (a : EC) : TC := fun c e h => (a c e h).bind fun x h1 => match x with
  | .bl k => .ok k h1
  | _ => .bad
def tNot (a : TC) : TC := fun c e h => (a c e h).bind fun k h1 => .ok (!k) h1
def tAnd (a b : TC) : TC := fun c e h => (a c e h).bind fun k h1 => if k = true then b c e h1 else .ok false h1
def tOr (a b : TC) : TC := fun c e h => (a c e h).bind fun k h1 => if k = true then .ok true h1 else b c e h1

def tYes : TC := fun _ _ h => .ok true h

def sSkip : SC := fun _ e h => .next e h
def SR.then (r : SR) (f : List Slot → Hs → SR) : SR := match r with
  | .next e h => f e h
  | r => r
def sSeq (a b : SC) : SC := fun c e h => (a c e h).then fun e1 h1 => b c e1 h1
def sBad : SC := fun _ _ _ => .bad
def sBreak : SC := fun _ e h => .brk e h
def sCont : SC := fun _ e h => .cnt e h
def sRet (a : EC) : SC := fun c e h => (a c e h).bindS fun t h1 => .ret (.val t) h1
def sRetO (a : OC) : SC := fun c e h => (a c e h).bindS fun t h1 => .ret t h1
/-- return x: a list of its own is handed on -/
def sRetN (i : Nat) : SC := fun _ e h => match e[i]? with
  | some (.val t) => .ret (.val t) h
  | some (.own c) => .ret (.own c) h
  | _ => .bad
def sIf (t : TC) (a b : SC) : SC := fun c e h => (t c e h).bindS fun k h1 => if k = true then a c e h1 else b c e h1
def sDrop (a : OC) : SC := fun c e h => (a c e h).bindS fun _ h1 => .next e h1
def sSet (i : Nat) (a : EC) : SC := fun c e h => (a c e h).bindS fun t h1 => .next (e.set i (.val t)) h1
def sSetO (i : Nat) (a : OC) : SC := fun c e h => (a c e h).bindS fun t h1 => .next (e.set i t.toSlot) h1
/-- lists of one's own become values -/
def freeze1 (e : List Slot) (i : Nat) : List Slot := match e[i]? with
  | some (.own c) => e.set i (.val c.toT)
  | _ => e
def sFreeze (is : List Nat) (s : SC) : SC := fun c e h => s c (is.foldl freeze1 e) h
/-- targets: names -/
def setAll (e : List Slot) : List Nat → List T → Option (List Slot)
  | [], [] => some e
  | i :: is, t :: ts => setAll (e.set i (.val t)) is ts
  | _, _ => none
inductive Tg where
  | one (i : Nat) | many (is : List Nat)
def Tg.ix : Tg → List Nat
  | .one i => [i]
  | .many is => is
def Tg.put (g : Tg) (e : List Slot) (t : T) : Option (List Slot) := match g with
  | .one i => some (e.set i (.val t))
  | .many is => match t with
    | .tup ts => setAll e is ts
    | _ => none
def sUnp (is : List Nat) (a : EC) : SC := fun c e h => (a c e h).bindS fun t h1 => match (Tg.many is).put e t with
  | some e1 => .next e1 h1
  | none => .bad
/-- x op= e, x a value -/
def sAug (i : Nat) (f : Hs → T → T → Option T) (a : EC) : SC := fun c e h => match e[i]? with
  | some (.val x) => (a c e h).bindS fun y h1 => match f h1 x y with
    | some t => .next (e.set i (.val t)) h1
    | none => .bad
  | _ => .bad
/-- what a for walks: its items -/
abbrev IC := Call → List Slot → Hs → R (List T)
def forL (g : Tg) (b : List Slot → Hs → SR) : List T → List Slot → Hs → SR
  | [], e, h => .next e h
  | t :: ts, e, h => match g.put e t with
    | none => .bad
    | some e1 => match b e1 h with
      | .next e2 h2 => forL g b ts e2 h2
      | .cnt e2 h2 => forL g b ts e2 h2
      | .brk e2 h2 => .next e2 h2
      | r => r
/-- a list, a tuple, the script, a text -/
def iSeq (a : EC) : IC := fun c e h => (a c e h).bind fun x h1 => match x with
  | .tup l => .ok l h1
  | .lst l => .ok l h1
  | .scr l => .ok l h1
  | .str s => .ok (s.map fun n => .str [n]) h1
  | _ => .bad
def in62 (i : Int) : Bool := Nat.ble i.natAbs 4611686018427387903
theorem in62_mk {i : Int} (h : i.natAbs ≤ 4611686018427387903) : in62 i = true := Nat.ble_eq_true_of_le h
/-- lo, lo + d, .. -/
def upL (d : Int) : Nat → Int → List T
  | 0, _ => []
  | n + 1, lo => .int lo :: upL d n (lo + d)
def iR1 (a : EC) : IC := fun c e h => (a c e h).bind fun x h1 => match x with
  | .int j => if in62 j = true then .ok (upL 1 j.toNat 0) h1 else .bad
  | _ => .bad
def iR2 (a b : EC) : IC := fun c e h => (a c e h).bind fun x h1 => (b c e h1).bind fun y h2 => match x with
  | .int i => (match y with
    | .int j => if (in62 i && in62 j) = true then .ok (upL 1 (j - i).toNat i) h2 else .bad
    | _ => .bad)
  | _ => .bad
/-- i, i - 1, .. -/
def iR3 (a b : EC) : IC := fun c e h => (a c e h).bind fun x h1 => (b c e h1).bind fun y h2 => match x with
  | .int i => (match y with
    | .int j => if (in62 i && in62 j) = true then .ok (upL (-1) (i - j).toNat i) h2 else .bad
    | _ => .bad)
  | _ => .bad
def iRev (a : EC) : IC := fun c e h => (a c e h).bind fun x h1 => match x with
  | .tup l => .ok l.reverse h1
  | .lst l => .ok l.reverse h1
  | _ => .bad
def numL : Int → List T → List T
  | _, [] => []
  | i, x :: r => .tup [.int i, x] :: numL (i + 1) r
def iNum (a : EC) : IC := fun c e h => (a c e h).bind fun x h1 => match x with
  | .tup l => .ok (numL 0 l) h1
  | .lst l => .ok (numL 0 l) h1
  | _ => .bad
def zipL : List T → List T → List T
  | x :: r, y :: t => .tup [x, y] :: zipL r t
  | _, _ => []
def iZip (a b : EC) : IC := fun c e h => (a c e h).bind fun x h1 => (b c e h1).bind fun y h2 => match x with
  | .tup l => (match y with
    | .tup m => .ok (zipL l m) h2
    | _ => .bad)
  | .lst l => (match y with
    | .lst m => .ok (zipL l m) h2
    | _ => .bad)
  | _ => .bad
def sFor (g : Tg) (ic : IC) (b : SC) : SC := fun c e h => (ic c e h).bindS fun ts h1 => forL g (b c) ts e h1
def whileN (t : List Slot → Hs → R Bool) (b : List Slot → Hs → SR) : Nat → List Slot → Hs → SR
  | 0, _, _ => .bad
  | n + 1, e, h => (t e h).bindS fun k h1 => if k = true then match b e h1 with
      | .next e2 h2 => whileN t b n e2 h2
      | .cnt e2 h2 => whileN t b n e2 h2
      | .brk e2 h2 => .next e2 h2
      | r => r
    else .next e h1
def sWhile (t : TC) (b : SC) : SC := fun c e h => whileN (t c) (b c) FUEL e h
/-- the comprehension's names are its own -/
def wipeE (e : List Slot) (is : List Nat) : List Slot := is.foldr (fun i e => e.set i .un) e
def compL (g : Tg) (t : List Slot → Hs → R Bool) (b : List Slot → Hs → R T) (e : List Slot) : List T → List T → Hs → R (List T)
  | [], acc, h => .ok acc h
  | x :: xs, acc, h => match g.put e x with
    | none => .bad
    | some e1 => (t e1 h).bind fun k h1 => if k = true then (b e1 h1).bind fun y h2 => if acc.length < LIM then compL g t b e xs (acc ++ [y]) h2 else .bad else compL g t b e xs acc h1
def oComp (is : List Nat) (g : Tg) (ic : IC) (t : TC) (b : EC) : OC := fun c e h => (ic c e h).bind fun ts h1 => (compL g (t c) (b c) (wipeE e is) ts [] h1).bind fun l h2 => .ok (.own (.lst l)) h2

def sOwn (i : Nat) (f : Hs → Cell → T → Option Cell) (a : EC) : SC := fun c e h => (a c e h).bindS fun t h1 => match e[i]? with
  | some (.own x) => match f h1 x t with
    | some y => .next (e.set i (.own y)) h1
    | none => .bad
  | _ => .bad
def fAppend : Hs → Cell → T → Option Cell := fun _ x t => match x with
  | .lst l => if l.length < LIM then some (.lst (l ++ [t])) else none
  | _ => none
def fExtend : Hs → Cell → T → Option Cell := fun h x t => match x with
  | .lst l => match deref h t with
    | .lst m => if l.length + m.length ≤ LIM then some (.lst (l ++ m)) else none
    | _ => none
  | _ => none
def popE (g : Option Tg) (e : List Slot) (t : T) (h : Hs) : SR := match g with
  | none => .next e h
  | some g => match g.put e t with
    | some e1 => .next e1 h
    | none => .bad
/-- target = x.pop() -/
def sPop (g : Option Tg) (i : Nat) : SC := fun _ e h => match e[i]? with
  | some (.own (.lst l)) => match l.getLast? with
    | some t => popE g (e.set i (.own (.lst l.dropLast))) t h
    | none => .bad
  | _ => .bad
/-- x[k] = v -/
def sPut (i : Nat) (k : EC) (a : EC) : SC := fun c e h => (a c e h).bindS fun t h1 => (k c e h1).bindS fun y h2 => match e[i]? with
  | some (.own (.lst l)) => match y with
    | .int n => match ixOf l.length n with
      | some j => .next (e.set i (.own (.lst (l.set j t)))) h2
      | none => .bad
    | _ => .bad
  | some (.own (.dic l)) => match keyOf y with
    | some ky => if l.length < LIM then .next (e.set i (.own (.dic (putK l ky t)))) h2 else .bad
    | none => .bad
  | _ => .bad
/-- del x[a:] -/
def sDelFrom (i : Nat) (a : EC) : SC := fun c e h => (a c e h).bindS fun t h1 => match e[i]? with
  | some (.own (.lst l)) => match t with
    | .int n => if 0 ≤ n ∧ n ≤ l.length then .next (e.set i (.own (.lst (l.take n.toNat)))) h1 else .bad
    | _ => .bad
  | _ => .bad

def lookS : List (S × T) → S → Option T
  | [], _ => none
  | p :: r, k => if p.1 = k then some p.2 else lookS r k
def fKdIx (d : List (S × T)) (_ : Hs) (x : T) : Option T := match x with
  | .str s => lookS d s
  | _ => none
def fKdIn (d : List (S × T)) (_ : Hs) (x : T) : Option T := match x with
  | .str s => some (.bl (lookS d s).isSome)
  | _ => none
def fKdNotIn (d : List (S × T)) (_ : Hs) (x : T) : Option T := match x with
  | .str s => some (.bl (!(lookS d s).isSome))
  | _ => none
/-- a new list, a new dict in the heap -/
def eNew (o : OC) : EC := fun c e h => (o c e h).bind fun r h1 => match r with
  | .own x => .ok (.ref h1.length) (h1 ++ [x])
  | .val _ => .bad
/-- o[k] = v of a heap cell -/
def sHput (o k a : EC) : SC := fun c e h => (a c e h).bindS fun t h1 => (o c e h1).bindS fun x h2 => (k c e h2).bindS fun y h3 => match x with
  | .ref n => match h3[n]? with
    | some (.lst l) => match y with
      | .int z => match ixOf l.length z with
        | some j => .next e (h3.set n (.lst (l.set j t)))
        | none => .bad
      | _ => .bad
    | some (.dic l) => match keyOf y with
      | some ky => if l.length < LIM then .next e (h3.set n (.dic (putK l ky t))) else .bad
      | none => .bad
    | none => .bad
  | _ => .bad

def lookN {α : Type} : List (Nat × α) → Nat → Option α
  | [], _ => none
  | p :: r, i => if p.1 = i then some p.2 else lookN r i
theorem lookN_mem {α : Type} : ∀ {l : List (Nat × α)} {i : Nat} {a : α}, lookN l i = some a → (i, a) ∈ l
  | [], _, _, e => by cases e
  | p :: r, i, a, e => by
    unfold lookN at e
    by_cases h : p.1 = i
    · rw [if_pos h] at e; cases e; subst h; exact List.mem_cons_self
    · rw [if_neg h] at e; exact List.mem_cons_of_mem _ (lookN_mem e)
inductive Kind where
  /-- pure: no heap cell is changed; opens: from outside pure, with heap cells of its own -/
  | pure | opens | impure
  deriving DecidableEq
structure Fn where
  np : Nat
  ns : Nat
  kind : Kind
  body : SC
def mkEnv (args : List T) (ns : Nat) : List Slot := args.map .val ++ List.replicate (ns - args.length) .un
def fin (r : SR) : R RV := match r with
  | .next _ h => .ok (.val .non) h
  | .ret v h => .ok v h
  | .exc c v h => .exc c v h
  | _ => .bad
/-- fuel for noRef -/
def WIDE : Nat := 1000
def run (ft : Nat → Option Fn) : Nat → Call
  | 0 => fun _ _ _ => .bad
  | k + 1 => fun f args h => match ft f with
    | none => .bad
    | some F => if args.length = F.np then (match F.kind with
      | .opens => if args.all (noRef WIDE) = true then (match fin (F.body (run ft k) (mkEnv args F.ns) []) with
          | .ok (.val t) _ => if noRef WIDE t = true then .ok (.val t) h else .bad
          | .ok (.own _) _ => .bad
          | .exc c v _ => if noRef WIDE v = true then .exc c v h else .bad
          | .bad => .bad) else .bad
      | _ => fin (F.body (run ft k) (mkEnv args F.ns) h)) else .bad
end Gt
end
section
set_option Elab.async false
set_option linter.all false
namespace Gt
open PySem L2
/-- frozen lists and dicts; the heap cells' addresses -/
structure G where
  F : Addr → Prop
  ρ : List Addr
inductive RKy : Ky → Key → Prop
  | i (n : Int) : RKy (.i n) (Sum.inl n)
  | s (x : Str) : RKy (.s x.cps.toList) (Sum.inr x)
mutual
inductive RT (K : PySem.W.Frag) (g : G) (H : Hp) : T → V → Prop
  | non : RT K g H .non .non
  | bl (b : Bool) : RT K g H (.bl b) (.bl b)
  | int (i : Int) : RT K g H (.int i) (.int i)
  | str (x : Str) : RT K g H (.str x.cps.toList) (.str x)
  | tup {a : Addr} {vs : List V} {ts : List T} : SqT K H a vs → RTs K g H ts vs → RT K g H (.tup ts) (.ref a)
  | lst {a : Addr} {vs : List V} {ts : List T} : g.F a → H a = some (.lst vs) → RTs K g H ts vs → RT K g H (.lst ts) (.ref a)
  | scr {a : Addr} {o : Obj} {vs : List V} {ts : List T} : H a = some (.frz o (.lst vs)) → RTs K g H ts vs → RT K g H (.scr ts) (.ref a)
  | dic {a : Addr} {kvs : List (Key × V)} {ps : List (Ky × T)} : g.F a → H a = some (.dK kvs) → RKs K g H ps kvs → RT K g H (.dic ps) (.ref a)
  | ref {n : Nat} {a : Addr} : g.ρ[n]? = some a → RT K g H (.ref n) (.ref a)
inductive RTs (K : PySem.W.Frag) (g : G) (H : Hp) : List T → List V → Prop
  | nil : RTs K g H [] []
  | cons {t : T} {v : V} {ts : List T} {vs : List V} : RT K g H t v → RTs K g H ts vs → RTs K g H (t :: ts) (v :: vs)
inductive RKs (K : PySem.W.Frag) (g : G) (H : Hp) : List (Ky × T) → List (Key × V) → Prop
  | nil : RKs K g H [] []
  | cons {k : Ky} {q : Key} {t : T} {v : V} {ps : List (Ky × T)} {kvs : List (Key × V)} : RKy k q → RT K g H t v → RKs K g H ps kvs → RKs K g H ((k, t) :: ps) ((q, v) :: kvs)
end
/-- a cell's content at an address -/
inductive RC (K : PySem.W.Frag) (g : G) (H : Hp) : Cell → Addr → Prop
  | lst {a : Addr} {vs : List V} {ts : List T} : H a = some (.lst vs) → RTs K g H ts vs → RC K g H (.lst ts) a
  | dic {a : Addr} {kvs : List (Key × V)} {ps : List (Ky × T)} : H a = some (.dK kvs) → RKs K g H ps kvs → RC K g H (.dic ps) a
/-- the heap's cells -/
structure RH (K : PySem.W.Frag) (g : G) (H : Hp) (h : Hs) : Prop where
  len : h.length = g.ρ.length
  nd : g.ρ.Nodup
  no : ∀ a ∈ g.ρ, ¬ g.F a
  th : ∀ a, g.F a → H a ≠ none
  at_ : ∀ (n : Nat) (c : Cell) (a : Addr), h[n]? = some c → g.ρ[n]? = some a → RC K g H c a
/-- what goes on being so while a value is held -/
structure Sp (g : G) (H : Hp) (g' : G) (H' : Hp) : Prop where
  F : ∀ a, g.F a → g'.F a
  ρ : ∃ m, g'.ρ = g.ρ ++ m
  at_ : ∀ a, g.F a → H' a = H a
  tup : ∀ a xs, H a = some (.tup xs) → H' a = some (.tup xs)
  frz : ∀ a o u, H a = some (.frz o u) → H' a = some (.frz o u)
/-- from an entry on: p: no cell is changed -/
structure En (p : Bool) (g : G) (H : Hp) (g' : G) (H' : Hp) : Prop where
  F : ∀ a, g.F a → g'.F a
  F2 : ∀ a, g'.F a → ¬ g.F a → H a = none
  ρ : ∃ m, g'.ρ = g.ρ ++ m ∧ (∀ a ∈ m, H a = none) ∧ (p = true → m = [])
  keep : ∀ a o, H a = some o → (p = true ∨ a ∉ g.ρ) → H' a = some o
  th : ∀ a, H a ≠ none → H' a ≠ none
section
variable {K : PySem.W.Frag} {g g' g'' : G} {H H' H'' : Hp}
theorem RTs.length : ∀ {ts : List T} {vs : List V}, RTs K g H ts vs → ts.length = vs.length
  | _, _, .nil => rfl
  | _, _, .cons _ r => congrArg Nat.succ r.length
theorem RTs.get : ∀ {ts : List T} {vs : List V} {i : Nat} {t : T}, RTs K g H ts vs → ts[i]? = some t → ∃ v, vs[i]? = some v ∧ RT K g H t v
  | _, _, _, _, .nil, e => by simp at e
  | _, _, 0, _, .cons r _, e => by simp at e; subst e; exact ⟨_, rfl, r⟩
  | _, _, i + 1, t, .cons _ q, e => by
    obtain ⟨u, h1, h2⟩ := RTs.get (i := i) (t := t) q (by simpa using e)
    exact ⟨u, by simpa using h1, h2⟩
theorem RTs.get' : ∀ {ts : List T} {vs : List V} {i : Nat} {v : V}, RTs K g H ts vs → vs[i]? = some v → ∃ t, ts[i]? = some t ∧ RT K g H t v
  | _, _, _, _, .nil, e => by simp at e
  | _, _, 0, _, .cons r _, e => by simp at e; subst e; exact ⟨_, rfl, r⟩
  | _, _, i + 1, t, .cons _ q, e => by
    obtain ⟨u, h1, h2⟩ := RTs.get' (i := i) (v := t) q (by simpa using e)
    exact ⟨u, by simpa using h1, h2⟩
theorem RTs.append : ∀ {ts us : List T} {vs ws : List V}, RTs K g H ts vs → RTs K g H us ws → RTs K g H (ts ++ us) (vs ++ ws)
  | _, _, _, _, .nil, q => q
  | _, _, _, _, .cons r s, q => .cons r (RTs.append s q)
theorem RTs.take : ∀ {ts : List T} {vs : List V} (n : Nat), RTs K g H ts vs → RTs K g H (ts.take n) (vs.take n)
  | _, _, 0, _ => .nil
  | _, _, _ + 1, .nil => .nil
  | _, _, n + 1, .cons r s => .cons r (RTs.take n s)
theorem RTs.drop : ∀ {ts : List T} {vs : List V} (n : Nat), RTs K g H ts vs → RTs K g H (ts.drop n) (vs.drop n)
  | _, _, 0, r => r
  | _, _, _ + 1, .nil => .nil
  | _, _, n + 1, .cons _ s => RTs.drop n s
theorem RTs.set {t : T} {v : V} (r : RT K g H t v) : ∀ {ts : List T} {vs : List V} (i : Nat), RTs K g H ts vs → RTs K g H (ts.set i t) (vs.set i v)
  | _, _, _, .nil => .nil
  | _, _, 0, .cons _ s => .cons r s
  | _, _, i + 1, .cons q s => .cons q (RTs.set r i s)
theorem RTs.dropLast : ∀ {ts : List T} {vs : List V}, RTs K g H ts vs → RTs K g H ts.dropLast vs.dropLast
  | _, _, .nil => .nil
  | _, _, .cons _ .nil => .nil
  | _, _, .cons r (.cons r' s) => .cons r (RTs.dropLast (.cons r' s))
theorem RTs.reverse {ts : List T} {vs : List V} (h : RTs K g H ts vs) : RTs K g H ts.reverse vs.reverse := by
  induction ts generalizing vs with
  | nil => cases h; exact .nil
  | cons t ts ih =>
    cases h with
    | cons r s =>
      rw [List.reverse_cons, List.reverse_cons]
      exact (ih s).append (.cons r .nil)
theorem SqT.step {a : Addr} {vs : List V} (s : Sp g H g' H') (r : SqT K H a vs) : SqT K H' a vs := by
  rcases r with (r | ⟨o, r⟩) | r
  · exact .inl (.inl (s.tup a vs r))
  · exact .inl (.inr ⟨o, s.frz a o _ r⟩)
  · exact .inr r
mutual
theorem RT.step (s : Sp g H g' H') : ∀ {t : T} {v : V}, RT K g H t v → RT K g' H' t v
  | _, _, .non => .non
  | _, _, .bl b => .bl b
  | _, _, .int i => .int i
  | _, _, .str x => .str x
  | _, _, .tup h r => .tup (SqT.step s h) (RTs.step s r)
  | _, _, .lst f h r => .lst (s.F _ f) ((s.at_ _ f).trans h) (RTs.step s r)
  | _, _, .scr h r => .scr (s.frz _ _ _ h) (RTs.step s r)
  | _, _, .dic f h r => .dic (s.F _ f) ((s.at_ _ f).trans h) (RKs.step s r)
  | _, _, .ref e => .ref (by
      obtain ⟨m, q⟩ := s.ρ
      rw [q]
      exact (List.getElem?_append_left (List.getElem?_eq_some_iff.mp e).1).trans e)
theorem RTs.step (s : Sp g H g' H') : ∀ {ts : List T} {vs : List V}, RTs K g H ts vs → RTs K g' H' ts vs
  | _, _, .nil => .nil
  | _, _, .cons r q => .cons (RT.step s r) (RTs.step s q)
theorem RKs.step (s : Sp g H g' H') : ∀ {ps : List (Ky × T)} {kvs : List (Key × V)}, RKs K g H ps kvs → RKs K g' H' ps kvs
  | _, _, .nil => .nil
  | _, _, .cons k r q => .cons k (RT.step s r) (RKs.step s q)
end
theorem Sp.refl : Sp g H g H := ⟨fun _ h => h, ⟨[], by simp⟩, fun _ _ => rfl, fun _ _ h => h, fun _ _ _ h => h⟩
theorem Sp.trans (a : Sp g H g' H') (b : Sp g' H' g'' H'') : Sp g H g'' H'' := by
  obtain ⟨m1, e1⟩ := a.ρ
  obtain ⟨m2, e2⟩ := b.ρ
  exact ⟨fun x h => b.F x (a.F x h), ⟨m1 ++ m2, by rw [e2, e1, List.append_assoc]⟩, fun x h => (b.at_ x (a.F x h)).trans (a.at_ x h), fun x xs h => b.tup x xs (a.tup x xs h), fun x o u h => b.frz x o u (a.frz x o u h)⟩
theorem En.refl {p : Bool} : En p g H g H := ⟨fun _ h => h, fun _ h n => absurd h n, ⟨[], by simp, by simp, fun _ => rfl⟩, fun _ _ h _ => h, fun _ h => h⟩
/-- a cell stands at each of ρ -/
theorem RH.cell {h : Hs} (r : RH K g H h) {a : Addr} (m : a ∈ g.ρ) : ∃ c, RC K g H c a := by
  obtain ⟨n, e⟩ := List.getElem?_of_mem m
  have hn : n < h.length := by rw [r.len]; exact (List.getElem?_eq_some_iff.mp e).1
  exact ⟨h[n], r.at_ n _ a (by simp [hn]) e⟩
theorem RC.not_tup {c : Cell} {a : Addr} (r : RC K g H c a) : ∀ xs, H a ≠ some (.tup xs) := by
  cases r with
  | lst e _ => intro xs q; rw [e] at q; cases q
  | dic e _ => intro xs q; rw [e] at q; cases q
theorem RC.not_frz {c : Cell} {a : Addr} (r : RC K g H c a) : ∀ o u, H a ≠ some (.frz o u) := by
  cases r with
  | lst e _ => intro o u q; rw [e] at q; cases q
  | dic e _ => intro o u q; rw [e] at q; cases q
theorem RC.some {c : Cell} {a : Addr} (r : RC K g H c a) : ∃ o, H a = some o := by
  cases r with
  | lst e _ => exact ⟨_, e⟩
  | dic e _ => exact ⟨_, e⟩
/-- an entry's relation is a step -/
theorem En.sp {p : Bool} {h : Hs} (e : En p g H g' H') (r : RH K g H h) : Sp g H g' H' := by
  obtain ⟨m, e1, _, _⟩ := e.ρ
  refine ⟨e.F, ⟨m, e1⟩, fun a f => ?_, fun a xs q => ?_, fun a o u q => ?_⟩
  · cases q : H a with
    | none => exact absurd q (r.th a f)
    | some o => exact e.keep a o q (.inr fun z => r.no a z f)
  · exact e.keep a _ q (.inr fun z => by obtain ⟨c, rc⟩ := r.cell z; exact rc.not_tup xs q)
  · exact e.keep a _ q (.inr fun z => by obtain ⟨c, rc⟩ := r.cell z; exact rc.not_frz o u q)
theorem En.trans {p p' : Bool} (a : En p g H g' H') (b : En p' g' H' g'' H'') (hp : p = true → p' = true) : En p g H g'' H'' := by
  obtain ⟨m1, e1, n1, z1⟩ := a.ρ
  obtain ⟨m2, e2, n2, z2⟩ := b.ρ
  have back : ∀ x, H' x = none → H x = none := fun x e => by
    cases z : H x with
    | none => rfl
    | some o => exact absurd e (a.th x (by rw [z]; exact fun q => nomatch q))
  refine ⟨fun x h => b.F x (a.F x h), fun x h n => ?_, ⟨m1 ++ m2, by rw [e2, e1, List.append_assoc], fun x hx => ?_, fun q => by rw [z1 q, z2 (hp q)]; rfl⟩, fun x o q c => ?_, fun x h => b.th x (a.th x h)⟩
  · by_cases f : g'.F x
    · exact a.F2 x f n
    · exact back x (b.F2 x h f)
  · rcases List.mem_append.mp hx with hx | hx
    · exact n1 x hx
    · exact back x (n2 x hx)
  · refine b.keep x o (a.keep x o q c) ?_
    rcases c with c | c
    · exact .inl (hp c)
    · refine .inr fun z => ?_
      rw [e1] at z
      rcases List.mem_append.mp z with z | z
      · exact c z
      · rw [n1 x z] at q; cases q
end

/-- what stays through a body: the written part, whether it is pure, the entry -/
structure Fx where
  K : PySem.W.Frag
  p : Bool
  g0 : G
  H0 : Hp
/-- a list of one's own -/
structure Own (fx : Fx) (g : G) (H : Hp) (c : Cell) (a : Addr) : Prop where
  rc : RC fx.K g H c a
  nF : ¬ g.F a
  nρ : a ∉ g.ρ
  new : fx.H0 a = none
structure Rl (fx : Fx) (g : G) (H : Hp) (τ : List Slot) (σ : St) (h : Hs) : Prop where
  len : τ.length = σ.length
  val : ∀ (i : Nat) t, τ[i]? = some (.val t) → ∃ v, σ[i]? = some (some v) ∧ RT fx.K g H t v
  own : ∀ (i : Nat) c, τ[i]? = some (.own c) → ∃ a, σ[i]? = some (some (.ref a)) ∧ Own fx g H c a
  apart : ∀ (i j : Nat) c d a, τ[i]? = some (.own c) → τ[j]? = some (.own d) → σ[i]? = some (some (.ref a)) → σ[j]? = some (some (.ref a)) → i = j
  heap : RH fx.K g H h
  en : En fx.p fx.g0 fx.H0 g H
/-- a value that is held, or (b) just looked at -/
def RB (fx : Fx) (b : Bool) (g : G) (H : Hp) (τ : List Slot) (σ : St) (t : T) (v : V) : Prop :=
  RT fx.K g H t v ∨ (b = true ∧ ∃ (i : Nat) (c : Cell) (a : Addr), τ[i]? = some (.own c) ∧ σ[i]? = some (some (.ref a)) ∧ v = .ref a ∧ t = c.toT)
inductive RBs (fx : Fx) (b : Bool) (g : G) (H : Hp) (τ : List Slot) (σ : St) : List T → List V → Prop
  | nil : RBs fx b g H τ σ [] []
  | cons {t : T} {v : V} {ts : List T} {vs : List V} : RB fx b g H τ σ t v → RBs fx b g H τ σ ts vs → RBs fx b g H τ σ (t :: ts) (v :: vs)
section
variable {fx : Fx} {g g' : G} {H H' : Hp} {τ : List Slot} {σ : St} {h h' : Hs} {b : Bool} {t : T} {v : V} {ts : List T} {vs : List V}
theorem RB.step (s : Sp g H g' H') (r : RB fx b g H τ σ t v) : RB fx b g' H' τ σ t v := r.imp (RT.step s) id
theorem RBs.step (s : Sp g H g' H') : ∀ {ts : List T} {vs : List V}, RBs fx b g H τ σ ts vs → RBs fx b g' H' τ σ ts vs
  | _, _, .nil => .nil
  | _, _, .cons r q => .cons (r.step s) (RBs.step s q)
theorem RB.rt (r : RB fx false g H τ σ t v) : RT fx.K g H t v := r.elim id fun q => nomatch q.1
theorem RB.up (r : RB fx false g H τ σ t v) : RB fx b g H τ σ t v := .inl r.rt
theorem RBs.rt : ∀ {ts : List T} {vs : List V}, RBs fx false g H τ σ ts vs → RTs fx.K g H ts vs
  | _, _, .nil => .nil
  | _, _, .cons r q => .cons r.rt (RBs.rt q)
theorem RBs.length : ∀ {ts : List T} {vs : List V}, RBs fx b g H τ σ ts vs → ts.length = vs.length
  | _, _, .nil => rfl
  | _, _, .cons _ r => congrArg Nat.succ r.length
theorem RTs.rb : ∀ {ts : List T} {vs : List V}, RTs fx.K g H ts vs → RBs fx b g H τ σ ts vs
  | _, _, .nil => .nil
  | _, _, .cons r q => .cons (.inl r) (RTs.rb q)
theorem deref_some {n : Nat} {c : Cell} (z : h[n]? = some c) : deref h (.ref n) = c.toT := by
  show (match h[n]? with | some c => c.toT | none => T.ref n) = _
  rw [z]
theorem deref_none {n : Nat} (z : h[n]? = none) : deref h (.ref n) = .ref n := by
  show (match h[n]? with | some c => c.toT | none => T.ref n) = _
  rw [z]
/-- what a list, a tuple, a dict is read as -/
theorem Rl.lst (l : Rl fx g H τ σ h) (r : RB fx b g H τ σ t v) (e : deref h t = .lst ts) : ∃ a vs, v = .ref a ∧ H a = some (.lst vs) ∧ RTs fx.K g H ts vs := by
  have cell : ∀ {c : Cell} {a : Addr}, RC fx.K g H c a → c.toT = .lst ts → ∃ vs, H a = some (.lst vs) ∧ RTs fx.K g H ts vs := fun {c a} rc ec => by
    cases rc with
    | lst hH q => cases ec; exact ⟨_, hH, q⟩
    | dic hH q => cases ec
  rcases r with r | ⟨_, i, c, a, e1, e2, rfl, rfl⟩
  · cases r with
    | lst f hH q => cases e; exact ⟨_, _, rfl, hH, q⟩
    | @ref n a q =>
      cases z : h[n]? with
      | none => rw [deref_none z] at e; cases e
      | some c =>
        rw [deref_some z] at e
        obtain ⟨vs, h1, h2⟩ := cell (l.heap.at_ n c a z q) e
        exact ⟨a, vs, rfl, h1, h2⟩
    | _ => cases e
  · obtain ⟨a', e3, O⟩ := l.own i c e1
    rw [e2] at e3; cases e3
    have e : c.toT = .lst ts := by cases c <;> exact e
    obtain ⟨vs, h1, h2⟩ := cell O.rc e
    exact ⟨a, vs, rfl, h1, h2⟩
theorem Rl.dic {ps : List (Ky × T)} (l : Rl fx g H τ σ h) (r : RB fx b g H τ σ t v) (e : deref h t = .dic ps) : ∃ a kvs, v = .ref a ∧ H a = some (.dK kvs) ∧ RKs fx.K g H ps kvs := by
  have cell : ∀ {c : Cell} {a : Addr}, RC fx.K g H c a → c.toT = .dic ps → ∃ kvs, H a = some (.dK kvs) ∧ RKs fx.K g H ps kvs := fun {c a} rc ec => by
    cases rc with
    | lst hH q => cases ec
    | dic hH q => cases ec; exact ⟨_, hH, q⟩
  rcases r with r | ⟨_, i, c, a, e1, e2, rfl, rfl⟩
  · cases r with
    | dic f hH q => cases e; exact ⟨_, _, rfl, hH, q⟩
    | @ref n a q =>
      cases z : h[n]? with
      | none => rw [deref_none z] at e; cases e
      | some c =>
        rw [deref_some z] at e
        obtain ⟨vs, h1, h2⟩ := cell (l.heap.at_ n c a z q) e
        exact ⟨a, vs, rfl, h1, h2⟩
    | _ => cases e
  · obtain ⟨a', e3, O⟩ := l.own i c e1
    rw [e2] at e3; cases e3
    have e : c.toT = .dic ps := by cases c <;> exact e
    obtain ⟨vs, h1, h2⟩ := cell O.rc e
    exact ⟨a, vs, rfl, h1, h2⟩
theorem Cell.not_tup {c : Cell} : c.toT ≠ .tup ts := by cases c <;> exact fun q => nomatch q
theorem Rl.tup (l : Rl fx g H τ σ h) (r : RB fx b g H τ σ t v) (e : deref h t = .tup ts) : ∃ a vs, v = .ref a ∧ SqT fx.K H a vs ∧ RTs fx.K g H ts vs := by
  rcases r with r | ⟨_, i, c, a, e1, e2, rfl, rfl⟩
  · cases r with
    | tup hH q => cases e; exact ⟨_, _, rfl, hH, q⟩
    | @ref n a q =>
      cases z : h[n]? with
      | none => rw [deref_none z] at e; cases e
      | some c => rw [deref_some z] at e; exact absurd e Cell.not_tup
    | _ => cases e
  · exact absurd (show c.toT = .tup ts by cases c <;> exact e) Cell.not_tup
/-- the scalars -/
theorem RB.int {i : Int} (r : RB fx b g H τ σ (.int i) v) : v = .int i := by
  rcases r with r | ⟨_, _, c, _, _, _, _, q⟩
  · cases r; rfl
  · cases c <;> cases q
theorem RB.bl {i : Bool} (r : RB fx b g H τ σ (.bl i) v) : v = .bl i := by
  rcases r with r | ⟨_, _, c, _, _, _, _, q⟩
  · cases r; rfl
  · cases c <;> cases q
theorem RB.non (r : RB fx b g H τ σ .non v) : v = .non := by
  rcases r with r | ⟨_, _, c, _, _, _, _, q⟩
  · cases r; rfl
  · cases c <;> cases q
theorem RB.str {x : S} (r : RB fx b g H τ σ (.str x) v) : ∃ y : Str, v = .str y ∧ y.cps.toList = x := by
  rcases r with r | ⟨_, _, c, _, _, _, _, q⟩
  · cases r; exact ⟨_, rfl, rfl⟩
  · cases c <;> cases q
/-- behind a call, or any other run that keeps the entry's relation -/
theorem Rl.go {p : Bool} (l : Rl fx g H τ σ h) (e : En p g H g' H') (hp : fx.p = true → p = true) (r : RH fx.K g' H' h') : Rl fx g' H' τ σ h' := by
  have s := e.sp l.heap
  have keep : ∀ {c : Cell} {a : Addr}, Own fx g H c a → Own fx g' H' c a := fun {c a} O => by
    obtain ⟨o, q⟩ := O.rc.some
    have q' := e.keep a o q (.inr O.nρ)
    refine ⟨?_, fun f => ?_, fun m => ?_, O.new⟩
    · cases O.rc with
      | lst hH z => rw [hH] at q; cases q; exact .lst q' (z.step s)
      | dic hH z => rw [hH] at q; cases q; exact .dic q' (RKs.step s z)
    · have z := e.F2 a f O.nF
      rw [z] at q; cases q
    · obtain ⟨m', e1, n1, _⟩ := e.ρ
      rw [e1] at m
      rcases List.mem_append.mp m with m | m
      · exact O.nρ m
      · rw [n1 a m] at q; cases q
  refine ⟨l.len, fun i t q => ?_, fun i c q => ?_, l.apart, r, l.en.trans e hp⟩
  · obtain ⟨v, q1, q2⟩ := l.val i t q
    exact ⟨v, q1, q2.step s⟩
  · obtain ⟨a, q1, q2⟩ := l.own i c q
    exact ⟨a, q1, keep q2⟩
/-- something new is laid: a tuple, a thing of its own -/
theorem En.laid {p : Bool} {a : Addr} {o : HO} (n : H a = none) : En p g H g (upd H a o) := by
  refine ⟨fun _ q => q, fun x f q => absurd f q, ⟨[], by simp, by simp, fun _ => rfl⟩, fun x u q _ => ?_, fun x q => ?_⟩
  · rw [upd_ne (fun z => by rw [z, n] at q; cases q)]; exact q
  · by_cases z : x = a
    · rw [z, upd_same]; exact fun q => nomatch q
    · rw [upd_ne z]; exact q
/-- .. and frozen -/
def G.and (g : G) (a : Addr) : G := ⟨fun x => x = a ∨ g.F x, g.ρ⟩
theorem En.laidF {p : Bool} {a : Addr} {o : HO} (n : H a = none) : En p g H (g.and a) (upd H a o) := by
  have e : En p g H g (upd H a o) := En.laid n
  refine ⟨fun x q => .inr q, fun x f q => ?_, e.ρ, e.keep, e.th⟩
  rcases f with rfl | f
  · exact n
  · exact absurd f q
theorem RH.go {K : PySem.W.Frag} (r : RH K g H h) (s : Sp g H g' H') (e : g'.ρ = g.ρ) (nF : ∀ a ∈ g.ρ, ¬ g'.F a) (th : ∀ a, g'.F a → H' a ≠ none) (kp : ∀ a ∈ g.ρ, H' a = H a) : RH K g' H' h := by
  refine ⟨by rw [e]; exact r.len, by rw [e]; exact r.nd, by rw [e]; exact nF, th, fun n c a q1 q2 => ?_⟩
  rw [e] at q2
  have q := r.at_ n c a q1 q2
  have k := kp a (List.mem_of_getElem? q2)
  cases q with
  | lst hH z => exact .lst (k.trans hH) (z.step s)
  | dic hH z => exact .dic (k.trans hH) (RKs.step s z)
theorem RH.laid {K : PySem.W.Frag} {a : Addr} {o : HO} (r : RH K g H h) (n : H a = none) : RH K g (upd H a o) h := by
  have ne : ∀ x, H x ≠ none → x ≠ a := fun x q z => q (by rw [z]; exact n)
  refine r.go (En.sp (p := true) (En.laid n) r) rfl r.no (fun x f => (En.laid (p := true) (g := g) n).th x (r.th x f)) fun x m => ?_
  obtain ⟨c, rc⟩ := r.cell m
  obtain ⟨u, q⟩ := rc.some
  exact upd_ne (ne x (by rw [q]; exact fun z => nomatch z))
theorem RH.laidF {K : PySem.W.Frag} {a : Addr} {o : HO} (r : RH K g H h) (n : H a = none) : RH K (g.and a) (upd H a o) h := by
  have ne : ∀ x, H x ≠ none → x ≠ a := fun x q z => q (by rw [z]; exact n)
  have ne2 : ∀ x ∈ g.ρ, x ≠ a := fun x m => by
    obtain ⟨c, rc⟩ := r.cell m
    obtain ⟨u, q⟩ := rc.some
    exact ne x (by rw [q]; exact fun z => nomatch z)
  refine r.go (En.sp (p := true) (En.laidF n) r) rfl (fun x m f => ?_) (fun x f => ?_) fun x m => upd_ne (ne2 x m)
  · rcases f with f | f
    · exact ne2 x m f
    · exact r.no x m f
  · rcases f with rfl | f
    · rw [upd_same]; exact fun q => nomatch q
    · exact (En.laid (p := true) (g := g) n).th x (r.th x f)
end
end Gt
end
section
set_option Elab.async false
set_option linter.all false
set_option maxRecDepth 20000
namespace Gt
open PySem L2
open PySem.Spec PyProof.Rows
theorem LIM_eq : LIM = sizeLine := by rw [sizeLine_eq]; rfl
section
variable {X : Cx} {pins : List (Addr × Obj)} {σ : L2.St} {H : Hp} {s : Shared} {a b : Addr} {xs ys : List V} {kvs : List (Key × V)}
theorem no_tup_lst (I : Inv X pins σ H s) (h : SqT X.K H a xs) (h' : SqL X.K H a ys) : False := by
  obtain ⟨_, _, ⟨o, e, c, _⟩, _⟩ := I.tuple h
  obtain ⟨_, _, ⟨o', n, e', c', _⟩, _⟩ := I.list h'
  rw [e] at e'; cases e'
  rw [c] at c'
  injection c' with c'
  exact absurd c' (by decide)
theorem no_tup_dic (I : Inv X pins σ H s) (h : SqT X.K H a xs) (h' : H a = some (.dK kvs)) : False := by
  obtain ⟨_, _, ⟨o, e, c, _⟩, _⟩ := I.tuple h
  obtain ⟨_, _, _, _, o', es, ep, e', x, _⟩ := I.hok a _ h'
  rw [e] at e'; cases e'
  have c' := x.1
  rw [c] at c'
  injection c' with c'
  exact absurd c' (by decide)
theorem RKy.inj {k k' : Ky} {q : Key} (h : RKy k q) (h' : RKy k' q) : k = k' := by
  cases h <;> cases h' <;> rfl
theorem RKy.inj' {k : Ky} {q q' : Key} (h : RKy k q) (h' : RKy k q') : q = q' := by
  cases h with
  | i n => cases h'; rfl
  | s x =>
    generalize e : x.cps.toList = y at h'
    cases h' with
    | s z =>
      have : x = z := by
        cases x; cases z
        exact congrArg Str.mk (Array.toList_inj.mp e)
      rw [this]
theorem Str_ext {x z : Str} (e : x.cps.toList = z.cps.toList) : x = z := by
  cases x; cases z
  exact congrArg Str.mk (Array.toList_inj.mp e)
variable {g : G} {h : Hs}
theorem ρ_inj (r : RH X.K g H h) {n m : Nat} (e : g.ρ[n]? = some a) (e' : g.ρ[m]? = some a) : n = m := by
  obtain ⟨h1, e1⟩ := List.getElem?_eq_some_iff.mp e
  obtain ⟨h2, e2⟩ := List.getElem?_eq_some_iff.mp e'
  exact (List.getElem_inj r.nd).mp (e1.trans e2.symm)
theorem ref_no_F (r : RH X.K g H h) {n : Nat} (e : g.ρ[n]? = some a) : ¬ g.F a := r.no a (List.mem_of_getElem? e)
theorem ref_no_tup (I : Inv X pins σ H s) (r : RH X.K g H h) {n : Nat} (e : g.ρ[n]? = some a) (q : SqT X.K H a xs) : False := by
  obtain ⟨c, rc⟩ := r.cell (List.mem_of_getElem? e)
  cases rc with
  | lst z _ => exact no_tup_lst I q (SqL.of z)
  | dic z _ => exact no_tup_dic I q z
mutual
theorem RT.uniq (I : Inv X pins σ H s) (r : RH X.K g H h) : ∀ {t u : T} {v : V}, RT X.K g H t v → RT X.K g H u v → t = u
  | _, _, _, .non, h' => by cases h'; rfl
  | _, _, _, .bl b, h' => by cases h'; rfl
  | _, _, _, .int i, h' => by cases h'; rfl
  | _, _, _, .str x, h' => by cases h'; rfl
  | _, _, _, .tup q m, h' => by
    cases h' with
    | tup q' m' =>
      have e := I.tuple_inj q q'
      subst e
      rw [RTs.uniq I r m m']
    | lst f q' m' => exact (no_tup_lst I q (SqL.of q')).elim
    | scr q' m' => exact (no_tup_lst I q (.inl (.inr ⟨_, q'⟩))).elim
    | dic f q' m' => exact (no_tup_dic I q q').elim
    | ref e => exact (ref_no_tup I r e q).elim
  | _, _, _, .lst f q m, h' => by
    cases h' with
    | tup q' m' => exact (no_tup_lst I q' (SqL.of q)).elim
    | lst f' q' m' =>
      rw [q] at q'; cases q'
      rw [RTs.uniq I r m m']
    | scr q' m' => rw [q] at q'; cases q'
    | dic f' q' m' => rw [q] at q'; cases q'
    | ref e => exact (ref_no_F r e f).elim
  | _, _, _, .scr q m, h' => by
    cases h' with
    | tup q' m' => exact (no_tup_lst I q' (.inl (.inr ⟨_, q⟩))).elim
    | lst f' q' m' => rw [q] at q'; cases q'
    | scr q' m' =>
      rw [q] at q'; cases q'
      rw [RTs.uniq I r m m']
    | dic f' q' m' => rw [q] at q'; cases q'
    | ref e =>
      obtain ⟨c, rc⟩ := r.cell (List.mem_of_getElem? e)
      exact (rc.not_frz _ _ q).elim
  | _, _, _, .dic f q m, h' => by
    cases h' with
    | tup q' m' => exact (no_tup_dic I q' q).elim
    | lst f' q' m' => rw [q] at q'; cases q'
    | scr q' m' => rw [q] at q'; cases q'
    | dic f' q' m' =>
      rw [q] at q'; cases q'
      rw [RKs.uniq I r m m']
    | ref e => exact (ref_no_F r e f).elim
  | _, _, _, .ref e, h' => by
    cases h' with
    | tup q' m' => exact (ref_no_tup I r e q').elim
    | lst f' q' m' => exact (ref_no_F r e f').elim
    | scr q' m' =>
      obtain ⟨c, rc⟩ := r.cell (List.mem_of_getElem? e)
      exact (rc.not_frz _ _ q').elim
    | dic f' q' m' => exact (ref_no_F r e f').elim
    | ref e' => rw [ρ_inj r e e']
theorem RTs.uniq (I : Inv X pins σ H s) (r : RH X.K g H h) : ∀ {ts us : List T} {vs : List V}, RTs X.K g H ts vs → RTs X.K g H us vs → ts = us
  | _, _, _, .nil, h' => by cases h'; rfl
  | _, _, _, .cons q m, h' => by
    cases h' with
    | cons q' m' => rw [RT.uniq I r q q', RTs.uniq I r m m']
theorem RKs.uniq (I : Inv X pins σ H s) (r : RH X.K g H h) : ∀ {ts us : List (Ky × T)} {vs : List (Key × V)}, RKs X.K g H ts vs → RKs X.K g H us vs → ts = us
  | _, _, _, .nil, h' => by cases h'; rfl
  | _, _, _, .cons k q m, h' => by
    cases h' with
    | cons k' q' m' => rw [k.inj k', RT.uniq I r q q', RKs.uniq I r m m']
end
end

theorem eqL_self {f : T → T → Option Bool} (hf : ∀ t k, f t t = some k → k = true) : ∀ (l : List T) (k : Bool), eqL f l l = some k → k = true
  | [], k, h => by cases h; rfl
  | t :: l, k, h => by
    unfold eqL at h
    cases e : f t t with
    | none => rw [e] at h; cases h
    | some p =>
      rw [e] at h
      cases e2 : eqL f l l with
      | none => rw [e2] at h; cases h
      | some q =>
        rw [e2] at h
        have := hf t p e
        have := eqL_self hf l q e2
        subst p q
        cases h; rfl
theorem eqT_self : ∀ (n : Nat) (t : T) (k : Bool), eqT n t t = some k → k = true
  | 0, _, _, h => by cases h
  | n + 1, t, k, h => by
    cases t with
    | non => cases h; rfl
    | bl b => have h : some (b == b) = some k := h; simpa using h.symm
    | int b => have h : some (decide (b = b)) = some k := h; simpa using h.symm
    | str b => have h : some (decide (b = b)) = some k := h; simpa using h.symm
    | tup l => exact eqL_self (eqT_self n) l k h
    | lst l =>
      have h : (if l.length = l.length then eqL (eqT n) l l else some false) = some k := h
      rw [if_pos rfl] at h
      exact eqL_self (eqT_self n) l k h
    | _ => cases h
/-- each place's answer -/
def eqAtIx (f : T → T → Option Bool) (ts us : List T) (j : Nat) : Bool := match ts[j]?, us[j]? with
  | some t, some u => (f t u).getD false
  | _, _ => false
theorem eqL_all {f : T → T → Option Bool} : ∀ (ts us : List T) (k : Bool), eqL f ts us = some k → ((List.range (min ts.length us.length)).all (eqAtIx f ts us) && ts.length == us.length) = k
  | [], [], k, h => by cases h; rfl
  | [], _ :: _, k, h => by cases h; simp
  | _ :: _, [], k, h => by cases h; simp
  | t :: ts, u :: us, k, h => by
    unfold eqL at h
    cases e : f t u with
    | none => rw [e] at h; cases h
    | some p =>
      rw [e] at h
      cases e2 : eqL f ts us with
      | none => rw [e2] at h; cases h
      | some q =>
        rw [e2] at h
        have ih := eqL_all ts us q e2
        cases h
        have e3 : min (t :: ts).length (u :: us).length = min ts.length us.length + 1 := by simp only [List.length_cons]; omega
        rw [e3, List.range_succ_eq_map, List.all_cons, List.all_map, ← ih]
        have e4 : eqAtIx f (t :: ts) (u :: us) 0 = p := by
          show (f t u).getD false = p
          rw [e]; rfl
        rw [e4, Bool.and_assoc]
        congr 1
        congr 1
        simp
theorem eqL_ix {f : T → T → Option Bool} : ∀ (ts us : List T) (k : Bool), eqL f ts us = some k → ∀ (j : Nat) t u, ts[j]? = some t → us[j]? = some u → f t u = some (eqAtIx f ts us j)
  | [], _, _, _, j, t, u, h1, _ => by simp at h1
  | _ :: _, [], _, _, j, t, u, _, h2 => by simp at h2
  | t :: ts, u :: us, k, h, j, t', u', h1, h2 => by
    unfold eqL at h
    cases e : f t u with
    | none => rw [e] at h; cases h
    | some p =>
      rw [e] at h
      cases e2 : eqL f ts us with
      | none => rw [e2] at h; cases h
      | some q =>
        cases j with
        | zero =>
          simp only [List.getElem?_cons_zero, Option.some.injEq] at h1 h2
          subst h1 h2
          show f t u = some ((f t u).getD false)
          rw [e]; rfl
        | succ j => exact eqL_ix ts us q e2 j t' u' (by simpa using h1) (by simpa using h2)
section
variable {X : Cx} {pins : List (Addr × Obj)} {σ : L2.St} {H : Hp} {s : Shared} {g : G} {h : Hs}
/-- a value's form -/
inductive Sh (K : PySem.W.Frag) (g : G) (H : Hp) : T → V → Prop
  | non : Sh K g H .non .non
  | bl (b : Bool) : Sh K g H (.bl b) (.bl b)
  | int (i : Int) : Sh K g H (.int i) (.int i)
  | str (x : Str) : Sh K g H (.str x.cps.toList) (.str x)
  | tup {a : Addr} {vs : List V} {ts : List T} : SqT K H a vs → RTs K g H ts vs → Sh K g H (.tup ts) (.ref a)
  | lst {a : Addr} {vs : List V} {ts : List T} : H a = some (.lst vs) → RTs K g H ts vs → Sh K g H (.lst ts) (.ref a)
  | scr {a : Addr} {vs : List V} {ts : List T} : SqL K H a vs → RTs K g H ts vs → Sh K g H (.scr ts) (.ref a)
  | dic {a : Addr} {kvs : List (Key × V)} {ps : List (Ky × T)} : H a = some (.dK kvs) → RKs K g H ps kvs → Sh K g H (.dic ps) (.ref a)
theorem RT.sh {K : PySem.W.Frag} {t : T} {v : V} (r : RT K g H t v) (n : ∀ m, t ≠ .ref m) : Sh K g H t v := by
  cases r with
  | non => exact .non
  | bl b => exact .bl b
  | int i => exact .int i
  | str x => exact .str x
  | tup q m => exact .tup q m
  | lst f q m => exact .lst q m
  | scr q m => exact .scr (.inl (.inr ⟨_, q⟩)) m
  | dic f q m => exact .dic q m
  | ref e => exact absurd rfl (n _)
theorem RC.sh {K : PySem.W.Frag} {c : Cell} {a : Addr} (r : RC K g H c a) : Sh K g H c.toT (.ref a) := by
  cases r with
  | lst q m => exact .lst q m
  | dic q m => exact .dic q m
theorem Rl.sh {fx : Fx} {τ : List Slot} {b : Bool} {t : T} {v : V} (l : Rl fx g H τ σ h) (r : RB fx b g H τ σ t v) (n : ∀ m, deref h t ≠ .ref m) : Sh fx.K g H (deref h t) v := by
  rcases r with r | ⟨_, i, c, a, e1, e2, rfl, rfl⟩
  · cases r with
    | @ref m a q =>
      cases z : h[m]? with
      | none => exact absurd (deref_none z) (n m)
      | some c =>
        rw [deref_some z]
        exact (l.heap.at_ m c a z q).sh
    | non => exact .non
    | bl b => exact .bl b
    | int i => exact .int i
    | str x => exact .str x
    | tup q m => exact .tup q m
    | lst f q m => exact .lst q m
    | scr q m => exact .scr (.inl (.inr ⟨_, q⟩)) m
    | dic f q m => exact .dic q m
  · obtain ⟨a', e3, O⟩ := l.own i c e1
    rw [e2] at e3; cases e3
    have e : deref h c.toT = c.toT := by cases c <;> rfl
    rw [e]
    exact O.rc.sh
theorem eqT_noref {n : Nat} {a b : T} {k : Bool} (e : eqT n a b = some k) : (∀ m, a ≠ .ref m) ∧ ∀ m, b ≠ .ref m := by
  cases n with
  | zero => cases e
  | succ n =>
    constructor
    · rintro m rfl; cases e
    · rintro m rfl
      cases a <;> cases e
theorem eq_items {A : Around} {k : Bool} {f : T → T → Option Bool} {ts us : List T} {vs ws : List V} {x y : List Value} (e : eqL f ts us = some k) (h1 : RTs X.K g H ts vs) (h2 : RTs X.K g H us ws) (r1 : Vals vs x) (r2 : Vals ws y)
    (ih : ∀ t u v w m n (b : Bool), f t u = some b → RT X.K g H t v → RT X.K g H u w → RelV v m → RelV w n → SeqAt.EqAt A s m n b) (j : Nat) (j1 : j < x.toArray.size) (j2 : j < y.toArray.size) : SeqAt.EqAt A s x.toArray[j] y.toArray[j] (eqAtIx f ts us j) := by
  have l1 := r1.length
  have l2 := r2.length
  have l3 := h1.length
  have l4 := h2.length
  rw [List.size_toArray] at j1 j2
  obtain ⟨v, v1, v2⟩ := h1.get (i := j) (t := ts[j]'(by omega)) (by simp)
  obtain ⟨w, w1, w2⟩ := h2.get (i := j) (t := us[j]'(by omega)) (by simp)
  obtain ⟨m, m1, m2⟩ := r1.get v1
  obtain ⟨n, n1, n2⟩ := r2.get w1
  have q := eqL_ix ts us k e j _ _ (by simp : ts[j]? = some (ts[j]'(by omega))) (by simp : us[j]? = some (us[j]'(by omega)))
  have := ih _ _ _ _ _ _ _ q v2 w2 m2 n2
  have em : x.toArray[j] = m := by
    have : x[j]? = some x[j] := by simp
    rw [this] at m1
    simpa using m1
  have en : y.toArray[j] = n := by
    have : y[j]? = some y[j] := by simp
    rw [this] at n1
    simpa using n1
  rw [em, en]
  exact this
theorem eqAt_Sh (I : Inv X pins σ H s) (r : RH X.K g H h) : ∀ (n : Nat) (A : Around) (a b : T) (x y : V) (u v : Value) (k : Bool), eqT n a b = some k → A.units + n < cLine → Sh X.K g H a x → Sh X.K g H b y → RelV x u → RelV y v →
    (∀ p, x = .ref p → y = .ref p → a = b) → SeqAt.RcAt A s u v k ∧ SeqAt.RcNeAt A s u v (!k) ∧ SeqAt.EqAt A s u v k
  | 0, _, _, _, _, _, _, _, _, e, _, _, _, _, _, _ => by cases e
  | n + 1, A, a, b, x, y, u, v, k, e, hu, ha, hb, rx, ry, same => by
    have hA : A.units < cLine := by omega
    have ih : ∀ t u v w m n' (b : Bool), eqT n t u = some b → RT X.K g H t v → RT X.K g H u w → RelV v m → RelV w n' → SeqAt.EqAt A.in1 s m n' b := fun t u v w m n' b e r1 r2 q1 q2 =>
      (eqAt_Sh I r n A.in1 t u v w m n' b e (by show A.units + 1 + n < cLine; omega) (r1.sh (eqT_noref e).1) (r2.sh (eqT_noref e).2) q1 q2 fun p e1 e2 => by subst e1 e2; exact RT.uniq I r r1 r2).2.2
    cases ha with
    | non =>
      cases (show u = Value.none from rx)
      cases hb with
      | non => cases (show v = Value.none from ry); cases e; exact ⟨.none_none, .none_none, .same _⟩
      | bl c => cases (show v = Value.bool c from ry); cases e; exact ⟨.none_bool c, .none_bool c, .none_bool c⟩
      | int i => obtain ⟨t, rfl⟩ := (show ∃ t, v = Value.int i t from ry); cases e; exact ⟨.none_int i t, .none_int i t, .none_int i t⟩
      | str z => obtain ⟨t, rfl⟩ := (show ∃ t, v = Value.str z t from ry); cases e; exact ⟨.none_str z t, .none_str z t, .none_str z t⟩
      | tup q m => cases (show v = Value.ref _ from ry); cases e; obtain ⟨_, _, p, _⟩ := I.tuple q; exact ⟨.none_tuple p hA, .none_tuple p hA, .none_tuple p hA⟩
      | lst q m => cases (show v = Value.ref _ from ry); cases e; obtain ⟨_, _, p, _⟩ := I.list (SqL.of q); exact ⟨.none_list p.isList hA, .none_list p.isList hA, .none_list p.isList hA⟩
      | dic q m => cases e
      | scr q m => cases e
    | bl d =>
      cases (show u = Value.bool d from rx)
      cases hb with
      | non => cases (show v = Value.none from ry); cases e; exact ⟨.bool_none d, .bool_none d, .bool_none d⟩
      | bl c => cases (show v = Value.bool c from ry); cases e; exact ⟨.bool_bool d c, .bool_bool d c, .bool_bool d c⟩
      | int i => cases e
      | str z => obtain ⟨t, rfl⟩ := (show ∃ t, v = Value.str z t from ry); cases e; exact ⟨.bool_str d z t, .bool_str d z t, .bool_str d z t⟩
      | tup q m => cases (show v = Value.ref _ from ry); cases e; obtain ⟨_, _, p, _⟩ := I.tuple q; exact ⟨.bool_tuple d p hA, .bool_tuple d p hA, .bool_tuple d p hA⟩
      | lst q m => cases (show v = Value.ref _ from ry); cases e; obtain ⟨_, _, p, _⟩ := I.list (SqL.of q); exact ⟨.bool_list d p.isList hA, .bool_list d p.isList hA, .bool_list d p.isList hA⟩
      | dic q m => cases e
      | scr q m => cases e
    | int d =>
      obtain ⟨tk, rfl⟩ := (show ∃ t, u = Value.int d t from rx)
      cases hb with
      | non => cases (show v = Value.none from ry); cases e; exact ⟨.int_none d tk, .int_none d tk, .int_none d tk⟩
      | bl c => cases e
      | int i =>
        obtain ⟨t, rfl⟩ := (show ∃ t, v = Value.int i t from ry)
        have e : some (decide (d = i)) = some k := e
        cases e
        rw [show decide (d = i) = (d == i) from rfl]
        exact ⟨.int_int d tk i t, .int_int d tk i t, .int_int d tk i t⟩
      | str z => obtain ⟨t, rfl⟩ := (show ∃ t, v = Value.str z t from ry); cases e; exact ⟨.int_str d tk z t, .int_str d tk z t, .int_str d tk z t⟩
      | tup q m => cases (show v = Value.ref _ from ry); cases e; obtain ⟨_, _, p, _⟩ := I.tuple q; exact ⟨.int_tuple d tk p hA, .int_tuple d tk p hA, .int_tuple d tk p hA⟩
      | lst q m => cases (show v = Value.ref _ from ry); cases e; obtain ⟨_, _, p, _⟩ := I.list (SqL.of q); exact ⟨.int_list d tk p.isList hA, .int_list d tk p.isList hA, .int_list d tk p.isList hA⟩
      | dic q m => cases e
      | scr q m => cases e
    | str d =>
      obtain ⟨tk, rfl⟩ := (show ∃ t, u = Value.str d t from rx)
      cases hb with
      | non => cases (show v = Value.none from ry); cases e; exact ⟨.str_none d tk, .str_none d tk, .str_none d tk⟩
      | bl c => cases (show v = Value.bool c from ry); cases e; exact ⟨.str_bool d tk c, .str_bool d tk c, .str_bool d tk c⟩
      | int i => obtain ⟨t, rfl⟩ := (show ∃ t, v = Value.int i t from ry); cases e; exact ⟨.str_int d tk i t, .str_int d tk i t, .str_int d tk i t⟩
      | str z =>
        obtain ⟨t, rfl⟩ := (show ∃ t, v = Value.str z t from ry)
        have e : some (decide (d.cps.toList = z.cps.toList)) = some k := e
        cases e
        have e2 : decide (d.cps.toList = z.cps.toList) = (d == z) := by
          by_cases q : d = z
          · subst q; simp
          · rw [decide_eq_false (fun w => q (Str_ext w))]
            exact (beq_eq_false_iff_ne.mpr q).symm
        rw [e2]
        exact ⟨.str_str d tk z t, .str_str d tk z t, .str_str d tk z t⟩
      | tup q m => cases (show v = Value.ref _ from ry); cases e; obtain ⟨_, _, p, _⟩ := I.tuple q; exact ⟨.str_tuple d tk p hA, .str_tuple d tk p hA, .str_tuple d tk p hA⟩
      | lst q m => cases (show v = Value.ref _ from ry); cases e; obtain ⟨_, _, p, _⟩ := I.list (SqL.of q); exact ⟨.str_list d tk p.isList hA, .str_list d tk p.isList hA, .str_list d tk p.isList hA⟩
      | dic q m => cases e
      | scr q m => cases e
    | @tup la vs ts q m =>
      cases (show u = Value.ref _ from rx)
      obtain ⟨us, ru, p, _⟩ := I.tuple q
      cases hb with
      | non => cases (show v = Value.none from ry); cases e; exact ⟨.tuple_none p hA, .tuple_none p hA, .tuple_none p hA⟩
      | bl c => cases (show v = Value.bool c from ry); cases e; exact ⟨.tuple_bool c p hA, .tuple_bool c p hA, .tuple_bool c p hA⟩
      | int i => obtain ⟨t, rfl⟩ := (show ∃ t, v = Value.int i t from ry); cases e; exact ⟨.tuple_int i t p hA, .tuple_int i t p hA, .tuple_int i t p hA⟩
      | str z => obtain ⟨t, rfl⟩ := (show ∃ t, v = Value.str z t from ry); cases e; exact ⟨.tuple_str z t p hA, .tuple_str z t p hA, .tuple_str z t p hA⟩
      | lst q' m' => cases (show v = Value.ref _ from ry); cases e; obtain ⟨_, _, p', _⟩ := I.list (SqL.of q'); exact ⟨.tuple_list p p'.isList hA, .tuple_list p p'.isList hA, .tuple_list p p'.isList hA⟩
      | dic q m => cases e
      | scr q m => cases e
      | @tup lb ws ts' q' m' =>
        cases (show v = Value.ref _ from ry)
        obtain ⟨us', ru', p', _⟩ := I.tuple q'
        have e : eqL (eqT n) ts ts' = some k := e
        have n1 : us.toArray.size = ts.length := by rw [List.size_toArray, m.length, ru.length]
        have n2 : us'.toArray.size = ts'.length := by rw [List.size_toArray, m'.length, ru'.length]
        have R : SeqAt.RcAt A s (.ref la) (.ref lb) k := by
          rw [← eqL_all ts ts' k e, ← n1, ← n2]
          exact SeqAt.RcAt.tuples p p' hA fun j j1 j2 => eq_items e m m' ru ru' ih j j1 j2
        have R2 : SeqAt.RcNeAt A s (.ref la) (.ref lb) (!k) := by
          rw [← eqL_all ts ts' k e, ← n1, ← n2]
          exact SeqAt.RcNeAt.tuples p p' hA fun j j1 j2 => eq_items e m m' ru ru' ih j j1 j2
        refine ⟨R, R2, ?_⟩
        by_cases hl : la = lb
        · subst hl
          have et := same la rfl rfl
          cases et
          rw [eqL_self (eqT_self n) ts k e]
          exact SeqAt.EqAt.same _
        · exact SeqAt.EqAt.of_refs hl R
    | @lst la vs ts q m =>
      cases (show u = Value.ref _ from rx)
      obtain ⟨us, ru, p, _⟩ := I.list (SqL.of q)
      cases hb with
      | non => cases (show v = Value.none from ry); cases e; exact ⟨.list_none p.isList hA, .list_none p.isList hA, .list_none p.isList hA⟩
      | bl c => cases (show v = Value.bool c from ry); cases e; exact ⟨.list_bool c p.isList hA, .list_bool c p.isList hA, .list_bool c p.isList hA⟩
      | int i => obtain ⟨t, rfl⟩ := (show ∃ t, v = Value.int i t from ry); cases e; exact ⟨.list_int i t p.isList hA, .list_int i t p.isList hA, .list_int i t p.isList hA⟩
      | str z => obtain ⟨t, rfl⟩ := (show ∃ t, v = Value.str z t from ry); cases e; exact ⟨.list_str z t p.isList hA, .list_str z t p.isList hA, .list_str z t p.isList hA⟩
      | tup q' m' => cases (show v = Value.ref _ from ry); cases e; obtain ⟨_, _, p', _⟩ := I.tuple q'; exact ⟨.list_tuple p.isList p' hA, .list_tuple p.isList p' hA, .list_tuple p.isList p' hA⟩
      | dic q m => cases e
      | scr q m => cases e
      | @lst lb ws ts' q' m' =>
        cases (show v = Value.ref _ from ry)
        obtain ⟨us', ru', p', _⟩ := I.list (SqL.of q')
        have e : (if ts.length = ts'.length then eqL (eqT n) ts ts' else some false) = some k := e
        have n1 : us.toArray.size = ts.length := by rw [List.size_toArray, m.length, ru.length]
        have n2 : us'.toArray.size = ts'.length := by rw [List.size_toArray, m'.length, ru'.length]
        have R : SeqAt.RcAt A s (.ref la) (.ref lb) k := by
          by_cases hs : ts.length = ts'.length
          · rw [if_pos hs] at e
            have q2 := eqL_all ts ts' k e
            rw [← hs, Nat.min_self, beq_self_eq_true, Bool.and_true, ← n1] at q2
            rw [← q2]
            exact SeqAt.RcAt.lists p.isList p'.isList (by omega) hA fun j j1 j2 => eq_items e m m' ru ru' ih j j1 j2
          · rw [if_neg hs] at e
            cases e
            exact SeqAt.RcAt.lists_lengths p.isList p'.isList (by simpa using (by omega : us.toArray.size ≠ us'.toArray.size)) hA
        have R2 : SeqAt.RcNeAt A s (.ref la) (.ref lb) (!k) := by
          by_cases hs : ts.length = ts'.length
          · rw [if_pos hs] at e
            have q2 := eqL_all ts ts' k e
            rw [← hs, Nat.min_self, beq_self_eq_true, Bool.and_true, ← n1] at q2
            rw [← q2]
            exact SeqAt.RcNeAt.lists p.isList p'.isList (by omega) hA fun j j1 j2 => eq_items e m m' ru ru' ih j j1 j2
          · rw [if_neg hs] at e
            cases e
            exact SeqAt.RcNeAt.lists_lengths p.isList p'.isList (by simpa using (by omega : us.toArray.size ≠ us'.toArray.size)) hA
        refine ⟨R, R2, ?_⟩
        by_cases hl : la = lb
        · subst hl
          have et := same la rfl rfl
          cases et
          have e2 : eqT (n + 1) (.lst ts) (.lst ts) = some k := e
          rw [eqT_self (n + 1) (.lst ts) k e2]
          exact SeqAt.EqAt.same _
        · exact SeqAt.EqAt.of_refs hl R
    | dic q m => cases e
    | scr q m => cases e
end
end Gt
end
section
set_option Elab.async false
set_option linter.all false
set_option maxRecDepth 20000
namespace Gt
open PySem L2
section
variable {fx : Fx} {g g' : G} {H H' : Hp} {τ : List Slot} {σ : L2.St} {h h' : Hs} {p : Addr} {o : HO}
/-- a new address stands nowhere -/
theorem Rl.new (l : Rl fx g H τ σ h) (n : H p = none) : ¬ g.F p ∧ p ∉ g.ρ ∧ fx.H0 p = none ∧ ∀ (i : Nat) d, τ[i]? = some (.own d) → σ[i]? ≠ some (some (.ref p)) := by
  refine ⟨fun f => l.heap.th p f n, fun m => ?_, ?_, fun i d e q => ?_⟩
  · obtain ⟨c, rc⟩ := l.heap.cell m
    obtain ⟨u, q⟩ := rc.some
    rw [n] at q; cases q
  · cases z : fx.H0 p with
    | none => rfl
    | some u => exact absurd n (l.en.th p (by rw [z]; exact fun q => nomatch q))
  · obtain ⟨a, e1, O⟩ := l.own i d e
    rw [q] at e1; cases e1
    obtain ⟨u, q⟩ := O.rc.some
    rw [n] at q; cases q
theorem Rl.laid (l : Rl fx g H τ σ h) (n : H p = none) : Rl fx g (upd H p o) τ σ h := l.go (En.laid (p := true) n) (fun _ => rfl) (l.heap.laid n)
theorem Rl.laidF (l : Rl fx g H τ σ h) (n : H p = none) : Rl fx (g.and p) (upd H p o) τ σ h := l.go (En.laidF (p := true) n) (fun _ => rfl) (l.heap.laidF n)
theorem Rl.sp_laid (l : Rl fx g H τ σ h) (n : H p = none) : Sp g H g (upd H p o) := (En.laid (p := true) n).sp l.heap
theorem Rl.sp_laidF (l : Rl fx g H τ σ h) (n : H p = none) : Sp g H (g.and p) (upd H p o) := (En.laidF (p := true) n).sp l.heap
/-- a value that a run from H on gives: held, or a new list -/
def RR (K : PySem.W.Frag) (H0 : Hp) (g : G) (H : Hp) (r : RV) (v : V) : Prop := match r with
  | .val t => RT K g H t v
  | .own c => ∃ a, v = .ref a ∧ RC K g H c a ∧ ¬ g.F a ∧ a ∉ g.ρ ∧ H0 a = none
def K1 (fx : Fx) (Q : VK) (g : G) (H : Hp) (τ : List Slot) (σ : L2.St) (h : Hs) (t : T) : Prop := ∀ g' H' v, Rl fx g' H' τ σ h → En fx.p g H g' H' → RT fx.K g' H' t v → Q v H'
def KR (fx : Fx) (Q : VK) (g : G) (H : Hp) (τ : List Slot) (σ : L2.St) (h : Hs) (r : RV) : Prop := ∀ g' H' v, Rl fx g' H' τ σ h → En fx.p g H g' H' → RR fx.K H g' H' r v → Q v H'
theorem KR.val {Q : VK} {t : T} (k : KR fx Q g H τ σ h (.val t)) : K1 fx Q g H τ σ h t := fun g' H' v l s r => k g' H' v l s r
theorem K1.now {Q : VK} {t : T} {v : V} (k : K1 fx Q g H τ σ h t) (l : Rl fx g H τ σ h) (r : RT fx.K g H t v) : Q v H := k g H v l En.refl r
theorem K1.tup {Q : VK} {ts : List T} {vs : List V} (k : K1 fx Q g H τ σ h (.tup ts)) (l : Rl fx g H τ σ h) (r : RTs fx.K g H ts vs) : ∀ p, H p = none → Q (.ref p) (upd H p (.tup vs)) := fun p n =>
  k g _ _ (l.laid n) (En.laid n) (.tup (SqT.of upd_same) (r.step (l.sp_laid n)))
theorem KR.lst {Q : VK} {ts : List T} {vs : List V} (k : KR fx Q g H τ σ h (.own (.lst ts))) (l : Rl fx g H τ σ h) (r : RTs fx.K g H ts vs) : ∀ p, H p = none → Q (.ref p) (upd H p (.lst vs)) := fun p n => by
  obtain ⟨n1, n2, n3, n4⟩ := l.new n
  exact k g _ _ (l.laid n) (En.laid n) ⟨p, rfl, .lst upd_same (r.step (l.sp_laid n)), n1, n2, n⟩
theorem KR.dic {Q : VK} {ps : List (Ky × T)} {kvs : List (Key × V)} (k : KR fx Q g H τ σ h (.own (.dic ps))) (l : Rl fx g H τ σ h) (r : RKs fx.K g H ps kvs) : ∀ p, H p = none → Q (.ref p) (upd H p (.dK kvs)) := fun p n => by
  obtain ⟨n1, n2, n3, n4⟩ := l.new n
  exact k g _ _ (l.laid n) (En.laid n) ⟨p, rfl, .dic upd_same (RKs.step (l.sp_laid n) r), n1, n2, n⟩
theorem En.tr {p : Bool} {g g' g'' : G} {H H' H'' : Hp} (a : En p g H g' H') (b : En p g' H' g'' H'') : En p g H g'' H'' := a.trans b id
theorem En.back {p : Bool} {g g' : G} {H H' : Hp} (e : En p g H g' H') {a : Addr} (n : H' a = none) : H a = none := by
  cases z : H a with
  | none => rfl
  | some o => exact absurd n (e.th a (by rw [z]; exact fun q => nomatch q))
theorem RR.back {p : Bool} {K : PySem.W.Frag} {g0 g1 g' : G} {H0 H1 H' : Hp} {r : RV} {v : V} (e : En p g0 H0 g1 H1) (q : RR K H1 g' H' r v) : RR K H0 g' H' r v := by
  cases r with
  | val t => exact q
  | own c =>
    obtain ⟨a, h1, h2, h3, h4, h5⟩ := q
    exact ⟨a, h1, h2, h3, h4, e.back h5⟩
/-- a list of one's own is frozen -/
theorem Sp.and (r : RH fx.K g H h) (p : Addr) : Sp g H (g.and p) H := ⟨fun _ f => .inr f, ⟨[], by simp [G.and]⟩, fun _ _ => rfl, fun _ _ q => q, fun _ _ _ q => q⟩
theorem RH.and {K : PySem.W.Frag} {c : Cell} (r : RH K g H h) (rc : RC K g H c p) (nρ : p ∉ g.ρ) : RH K (g.and p) H h := by
  refine r.go ⟨fun _ f => .inr f, ⟨[], by simp [G.and]⟩, fun _ _ => rfl, fun _ _ q => q, fun _ _ _ q => q⟩ rfl (fun a m f => ?_) (fun a f => ?_) fun _ _ => rfl
  · rcases f with rfl | f
    · exact nρ m
    · exact r.no a m f
  · rcases f with rfl | f
    · obtain ⟨u, q⟩ := rc.some
      rw [q]; exact fun z => nomatch z
    · exact r.th a f
theorem RC.rt {K : PySem.W.Frag} {c : Cell} (r : RC K g H c p) (f : g.F p) : RT K g H c.toT (.ref p) := by
  cases r with
  | lst q m => exact .lst f q m
  | dic q m => exact .dic f q m
theorem RC.step {K : PySem.W.Frag} {c : Cell} (r : RC K g H c p) (s : Sp g H g' H') (e : H' p = H p) : RC K g' H' c p := by
  cases r with
  | lst q m => exact .lst (e.trans q) (m.step s)
  | dic q m => exact .dic (e.trans q) (RKs.step s m)
theorem Rl.and {c : Cell} (l : Rl fx g H τ σ h) (O : Own fx g H c p) (n : ∀ (i : Nat) d, τ[i]? = some (.own d) → σ[i]? ≠ some (some (.ref p))) : Rl fx (g.and p) H τ σ h := by
  have s : Sp g H (g.and p) H := Sp.and (fx := fx) l.heap p
  refine ⟨l.len, fun i t q => ?_, fun i c q => ?_, l.apart, l.heap.and O.rc O.nρ, ?_⟩
  · obtain ⟨v, q1, q2⟩ := l.val i t q
    exact ⟨v, q1, q2.step s⟩
  · obtain ⟨a, q1, q2⟩ := l.own i c q
    refine ⟨a, q1, q2.rc.step s rfl, fun f => ?_, q2.nρ, q2.new⟩
    rcases f with rfl | f
    · exact n i c q q1
    · exact q2.nF f
  · refine ⟨fun a f => .inr (l.en.F a f), fun a f q => ?_, l.en.ρ, l.en.keep, l.en.th⟩
    rcases f with rfl | f
    · exact O.new
    · exact l.en.F2 a f q
theorem En.and {p : Bool} {g0 : G} {H0 : Hp} {a : Addr} (e : En p g0 H0 g H) (n : H0 a = none) : En p g0 H0 (g.and a) H := by
  refine ⟨fun x f => .inr (e.F x f), fun x f q => ?_, e.ρ, e.keep, e.th⟩
  rcases f with rfl | f
  · exact n
  · exact e.F2 x f q
/-- a new list is not in a slot -/
theorem Rl.no_slot {g0 : G} {H0 : Hp} {h0 : Hs} (l0 : Rl fx g0 H0 τ σ h0) {a : Addr} (n : H0 a = none) : ∀ (i : Nat) d, τ[i]? = some (.own d) → σ[i]? ≠ some (some (.ref a)) := (l0.new n).2.2.2
theorem RR.keep {r : RV} {v : V} {g0 : G} {H0 : Hp} {h0 : Hs} (l0 : Rl fx g0 H0 τ σ h0) (l : Rl fx g H τ σ h) (e : En fx.p g0 H0 g H) (q : RR fx.K H0 g H r v) : ∃ g', Rl fx g' H τ σ h ∧ En fx.p g0 H0 g' H ∧ RT fx.K g' H r.toT v := by
  cases r with
  | val t => exact ⟨g, l, e, q⟩
  | own c =>
    obtain ⟨a, rfl, rc, nF, nρ, n⟩ := q
    have s : Sp g H (g.and a) H := Sp.and (fx := fx) l.heap a
    exact ⟨g.and a, l.and ⟨rc, nF, nρ, (l0.new n).2.2.1⟩ (l0.no_slot n), e.and n, (rc.step s rfl).rt (.inl rfl)⟩
end

/-- a two-place operator on values that are looked at -/
def r2 (fx : Fx) (f : Hs → T → T → Option T) : R2 := fun x y H Q => ∃ g τ σ h tx ty t, Rl fx g H τ σ h ∧ RB fx true g H τ σ tx x ∧ RB fx true g H τ σ ty y ∧ f h tx ty = some t ∧ K1 fx Q g H τ σ h t
def r2R (fx : Fx) (f : Hs → T → T → Option RV) : R2 := fun x y H Q => ∃ g τ σ h tx ty t, Rl fx g H τ σ h ∧ RB fx true g H τ σ tx x ∧ RB fx true g H τ σ ty y ∧ f h tx ty = some t ∧ KR fx Q g H τ σ h t
def r1 (fx : Fx) (f : Hs → T → Option T) : V → Hp → VK → Prop := fun x H Q => ∃ g τ σ h tx t, Rl fx g H τ σ h ∧ RB fx true g H τ σ tx x ∧ f h tx = some t ∧ K1 fx Q g H τ σ h t
def r1R (fx : Fx) (f : Hs → T → Option RV) : V → Hp → VK → Prop := fun x H Q => ∃ g τ σ h tx t, Rl fx g H τ σ h ∧ RB fx true g H τ σ tx x ∧ f h tx = some t ∧ KR fx Q g H τ σ h t
theorem OpR.imp {X : Cx} {f : Value → Value → Sem Value} {r r' : R2} (h : OpR X f r) (k : ∀ x y H Q, r' x y H Q → r x y H Q) : OpR X f r' := fun pins s σ H x y v u Q I rx ry q => h pins s σ H x y v u Q I rx ry (k x y H Q q)
theorem deref_int {h : Hs} {t : T} {i : Int} (e : deref h t = .int i) : t = .int i := by
  cases t with
  | ref n =>
    cases z : h[n]? with
    | none => rw [deref_none z] at e; cases e
    | some c => rw [deref_some z] at e; cases c <;> cases e
  | _ => exact e
theorem deref_str {h : Hs} {t : T} {i : S} (e : deref h t = .str i) : t = .str i := by
  cases t with
  | ref n =>
    cases z : h[n]? with
    | none => rw [deref_none z] at e; cases e
    | some c => rw [deref_some z] at e; cases c <;> cases e
  | _ => exact e
theorem deref_tup {h : Hs} {t : T} {l : List T} (e : deref h t = .tup l) : t = .tup l := by
  cases t with
  | ref n =>
    cases z : h[n]? with
    | none => rw [deref_none z] at e; cases e
    | some c => rw [deref_some z] at e; cases c <;> cases e
  | _ => exact e
theorem deref_scr {h : Hs} {t : T} {l : List T} (e : deref h t = .scr l) : t = .scr l := by
  cases t with
  | ref n =>
    cases z : h[n]? with
    | none => rw [deref_none z] at e; cases e
    | some c => rw [deref_some z] at e; cases c <;> cases e
  | _ => exact e
theorem Str_len {x : Str} : x.length = x.cps.toList.length := by simp [Str.length]
end Gt
end
section
set_option Elab.async false
set_option linter.all false
set_option maxRecDepth 20000
namespace Gt
open PySem L2
/-- a body's fixed part, of a reading's context -/
abbrev Fix (X : Cx) (p : Bool) (g0 : G) (H0 : Hp) : Fx := ⟨X.K, p, g0, H0⟩
theorem Str_app {a b : Str} : (a ++ b).cps.toList = a.cps.toList ++ b.cps.toList := by
  show (a.cps ++ b.cps).toList = _
  simp
section
variable {X : Cx} {p : Bool} {g0 : G} {H0 : Hp}
theorem o_add : OpR X (binaryOp .Add) (r2R (Fix X p g0 H0) fAdd) := by
  rintro pins s σ0 H x y v u Q I rx ry ⟨g, τ, σ, h, tx, ty, t, l, bx, bY, e, k⟩
  unfold fAdd at e
  split at e
  · rename_i i ei
    split at e
    · cases e
      cases deref_int ei
      exact op_add pins s σ0 H _ _ v u Q I rx ry ⟨_, _, bx.int, bY.int, k.val.now l (.int _)⟩
    · cases e
  · rename_i a ei
    split at e
    · split at e
      · rename_i hl
        cases e
        cases deref_str ei
        obtain ⟨z, e1, e2⟩ := bx.str
        obtain ⟨w, e3, e4⟩ := bY.str
        subst e2 e4
        refine op_add_str pins s σ0 H _ _ v u Q I rx ry ⟨z, w, e1, e3, ?_, k.val.now l ?_⟩
        · rw [Str_len, Str_len, ← LIM_eq]; exact hl
        · rw [← Str_app]; exact .str _
      · cases e
    · cases e
  · rename_i a ei
    split at e
    · split at e
      · rename_i hl
        cases e
        cases deref_tup ei
        obtain ⟨z, vs, e1, q1, m1⟩ := l.tup bx ei
        obtain ⟨w, ws, e2, q2, m2⟩ := l.tup bY rfl
        have n1 := m1.length
        have n2 := m2.length
        refine op_catA pins s σ0 H _ _ v u Q I rx ry ⟨z, w, vs, ws, e1, e2, q1, q2, by rw [← LIM_eq, ← n1, ← n2]; exact hl, fun z0 => ?_, fun _ z0 => ?_, fun _ _ => k.val.tup l (m1.append m2)⟩
        · subst z0
          cases m1
          exact k.val.now l (.tup q2 m2)
        · subst z0
          cases m2
          refine k.val.now l ?_
          rw [List.append_nil]
          exact .tup q1 m1
      · cases e
    · cases e
  · rename_i a ei
    split at e
    · rename_i b ej
      split at e
      · rename_i hl
        cases e
        obtain ⟨z, vs, e1, q1, m1⟩ := l.lst bx ei
        obtain ⟨w, ws, e2, q2, m2⟩ := l.lst bY ej
        have n1 := m1.length
        have n2 := m2.length
        exact op_cat pins s σ0 H _ _ v u Q I rx ry ⟨z, w, vs, ws, e1, e2, q1, q2, by rw [← LIM_eq, ← n1, ← n2]; exact hl, k.lst l (m1.append m2)⟩
      · cases e
    · cases e
  · cases e
theorem o_sub : OpR X (binaryOp .Sub) (r2 (Fix X p g0 H0) fSub) := by
  rintro pins s σ0 H x y v u Q I rx ry ⟨g, τ, σ, h, tx, ty, t, l, bx, bY, e, k⟩
  unfold fSub at e
  split at e
  · split at e
    · cases e
      exact op_sub pins s σ0 H _ _ v u Q I rx ry ⟨_, _, bx.int, bY.int, k.now l (.int _)⟩
    · cases e
  · cases e
theorem o_mul : OpR X (binaryOp .Mult) (r2 (Fix X p g0 H0) fMul) := by
  rintro pins s σ0 H x y v u Q I rx ry ⟨g, τ, σ, h, tx, ty, t, l, bx, bY, e, k⟩
  unfold fMul at e
  split at e
  · split at e
    · split at e
      · rename_i hs
        cases e
        refine op_mul pins s σ0 H _ _ v u Q I rx ry ⟨_, _, bx.int, bY.int, ?_, k.now l (.int _)⟩
        rw [Bool.or_eq_true] at hs
        rcases hs with hs | hs
        · exact .inl (small64_of hs)
        · exact .inr (small64_of hs)
      · cases e
    · cases e
  · cases e
theorem o_mod : OpR X (binaryOp .Mod) (r2 (Fix X p g0 H0) fMod) := by
  rintro pins s σ0 H x y v u Q I rx ry ⟨g, τ, σ, h, tx, ty, t, l, bx, bY, e, k⟩
  unfold fMod at e
  split at e
  · split at e
    · split at e
      · rename_i hs
        cases e
        exact op_mod pins s σ0 H _ _ v u Q I rx ry ⟨_, _, bx.int, bY.int, hs, k.now l (.int _)⟩
      · cases e
    · cases e
  · cases e
theorem o_div : OpR X (binaryOp .FloorDiv) (r2 (Fix X p g0 H0) fDiv) := by
  rintro pins s σ0 H x y v u Q I rx ry ⟨g, τ, σ, h, tx, ty, t, l, bx, bY, e, k⟩
  unfold fDiv at e
  split at e
  · split at e
    · split at e
      · rename_i hs
        cases e
        exact op_fdiv pins s σ0 H _ _ v u Q I rx ry ⟨_, _, bx.int, bY.int, hs, k.now l (.int _)⟩
      · cases e
    · cases e
  · cases e
theorem o_pow : OpR X (binaryOp .Pow) (r2 (Fix X p g0 H0) fPow) := by
  rintro pins s σ0 H x y v u Q I rx ry ⟨g, τ, σ, h, tx, ty, t, l, bx, bY, e, k⟩
  unfold fPow at e
  split at e
  · split at e
    · split at e
      · rename_i hs
        cases e
        obtain ⟨h1, h2, h3⟩ := hs
        replace h3 := small64_of h3
        refine op_pow pins s σ0 H _ _ v u Q I rx ry ⟨_, _, bx.int, bY.int, ⟨h1, h2, ?_⟩, k.now l (.int _)⟩
        have : two64 = 2 ^ 64 := rfl
        rw [this] at h3
        omega
      · cases e
    · cases e
  · cases e
theorem o_cmp {q : Int → Int → Bool} {op : CmpOp} (ho : OpR X (compareOp op) (rI0 fun i j => .bl (q i j))) : OpR X (compareOp op) (r2 (Fix X p g0 H0) (fCmp q)) := by
  rintro pins s σ0 H x y v u Q I rx ry ⟨g, τ, σ, h, tx, ty, t, l, bx, bY, e, k⟩
  unfold fCmp at e
  split at e
  · split at e
    · cases e
      exact ho pins s σ0 H _ _ v u Q I rx ry ⟨_, _, bx.int, bY.int, k.now l (.bl _)⟩
    · cases e
  · cases e
theorem o_lt : OpR X (compareOp .Lt) (r2 (Fix X p g0 H0) fLt) := o_cmp op_lt
theorem o_le : OpR X (compareOp .LtE) (r2 (Fix X p g0 H0) fLe) := o_cmp op_le
theorem o_gt : OpR X (compareOp .Gt) (r2 (Fix X p g0 H0) fGt) := o_cmp op_gt
theorem o_ge : OpR X (compareOp .GtE) (r2 (Fix X p g0 H0) fGe) := o_cmp op_ge
theorem Cell.not_non {c : Cell} : c.toT ≠ .non := by cases c <;> exact fun q => nomatch q
theorem Cell.not_bl {c : Cell} {b : Bool} : c.toT ≠ .bl b := by cases c <;> exact fun q => nomatch q
theorem RB.isNon {fx : Fx} {b : Bool} {g : G} {H : Hp} {τ : List Slot} {σ : L2.St} {t : T} {v : V} (r : RB fx b g H τ σ t v) : isNon t = decide (v = .non) := by
  rcases r with r | ⟨_, i, c, a, _, _, rfl, rfl⟩
  · cases r <;> simp [Gt.isNon]
  · cases c <;> simp [Gt.isNon, Cell.toT]
theorem o_is : OpR X (compareOp .Is) (r2 (Fix X p g0 H0) fIs) := by
  rintro pins s σ0 H x y v u Q I rx ry ⟨g, τ, σ, h, tx, ty, t, l, bx, bY, e, k⟩
  unfold fIs at e
  split at e
  · cases e
    refine op_isN pins s σ0 H _ _ v u Q I rx ry ⟨bY.non, ?_⟩
    rw [← bx.isNon]
    exact k.now l (.bl _)
  · split at e
    · cases e
      refine op_isBl pins s σ0 H _ _ v u Q I rx ry ⟨_, _, bx.bl, bY.bl, ?_⟩
      rw [← Bool.beq_eq_decide_eq]
      exact k.now l (.bl _)
    · cases e
  · cases e
theorem o_isNot : OpR X (compareOp .IsNot) (r2 (Fix X p g0 H0) fIsNot) := by
  rintro pins s σ0 H x y v u Q I rx ry ⟨g, τ, σ, h, tx, ty, t, l, bx, bY, e, k⟩
  unfold fIsNot at e
  split at e
  · cases e
    refine op_notN pins s σ0 H _ _ v u Q I rx ry ⟨bY.non, ?_⟩
    rw [← bx.isNon]
    exact k.now l (.bl _)
  · split at e
    · cases e
      refine op_notBl pins s σ0 H _ _ v u Q I rx ry ⟨_, _, bx.bl, bY.bl, ?_⟩
      rw [← Bool.beq_eq_decide_eq]
      exact k.now l (.bl _)
    · cases e
  · cases e
/-- one address, one value -/
theorem RB.uniq {pins : List (Addr × Obj)} {σ0 : L2.St} {s : Shared} {fx : Fx} (hK : fx.K = X.K) {g : G} {H : Hp} {τ : List Slot} {σ : L2.St} {h : Hs} {tx ty : T} {a : Addr} (I : Inv X pins σ0 H s) (l : Rl fx g H τ σ h)
    (bx : RB fx true g H τ σ tx (.ref a)) (bY : RB fx true g H τ σ ty (.ref a)) : tx = ty := by
  obtain ⟨K, p, g0, H0⟩ := fx
  cases (show K = X.K from hK)
  rcases bx with rx | ⟨_, i, c, b, e1, e2, e3, rfl⟩
  · rcases bY with ry | ⟨_, j, d, b, f1, f2, f3, rfl⟩
    · exact RT.uniq I l.heap rx ry
    · cases f3
      obtain ⟨b', f4, O⟩ := l.own j d f1
      rw [f2] at f4; cases f4
      exact absurd rx (fun r => by
        cases r with
        | tup q m =>
          cases O.rc with
          | lst z _ => exact no_tup_lst I q (SqL.of z)
          | dic z _ => exact no_tup_dic I q z
        | lst f q m => exact O.nF f
        | scr q m => exact O.rc.not_frz _ _ q
        | dic f q m => exact O.nF f
        | ref e => exact O.nρ (List.mem_of_getElem? e))
  · cases e3
    obtain ⟨b', e4, O⟩ := l.own i c e1
    rw [e2] at e4; cases e4
    rcases bY with ry | ⟨_, j, d, b, f1, f2, f3, rfl⟩
    · exact absurd ry (fun r => by
        cases r with
        | tup q m =>
          cases O.rc with
          | lst z _ => exact no_tup_lst I q (SqL.of z)
          | dic z _ => exact no_tup_dic I q z
        | lst f q m => exact O.nF f
        | scr q m => exact O.rc.not_frz _ _ q
        | dic f q m => exact O.nF f
        | ref e => exact O.nρ (List.mem_of_getElem? e))
    · cases f3
      have := l.apart i j c d _ e1 f1 e2 f2
      subst this
      rw [e1] at f1; cases f1; rfl
theorem deref_same {h : Hs} {tx ty : T} (e : tx = ty) : deref h tx = deref h ty := by rw [e]
theorem o_eq (hu : X.A.units + DEEP < cLine) : OpR X (compareOp .Eq) (r2 (Fix X p g0 H0) fEq) := by
  rintro pins s σ0 H x y v u Q I rx ry ⟨g, τ, σ, h, tx, ty, t, l, bx, bY, e, k⟩
  unfold fEq at e
  cases z : eqV (deref h tx) (deref h ty) with
  | none => rw [z] at e; cases e
  | some b =>
    rw [z] at e; cases e
    have n := eqT_noref z
    exact (eqAt_Sh I l.heap DEEP X.A _ _ x y v u b z hu (l.sh bx n.1) (l.sh bY n.2) rx ry fun a e1 e2 => by
      subst e1 e2; exact deref_same (RB.uniq rfl I l bx bY)).1 X.prog X.w _ _ ⟨.bl b, H, I, rfl, k.now l (.bl b)⟩
theorem o_ne (hu : X.A.units + DEEP < cLine) : OpR X (compareOp .NotEq) (r2 (Fix X p g0 H0) fNe) := by
  rintro pins s σ0 H x y v u Q I rx ry ⟨g, τ, σ, h, tx, ty, t, l, bx, bY, e, k⟩
  unfold fNe at e
  cases z : eqV (deref h tx) (deref h ty) with
  | none => rw [z] at e; cases e
  | some b =>
    rw [z] at e; cases e
    have n := eqT_noref z
    exact (eqAt_Sh I l.heap DEEP X.A _ _ x y v u b z hu (l.sh bx n.1) (l.sh bY n.2) rx ry fun a e1 e2 => by
      subst e1 e2; exact deref_same (RB.uniq rfl I l bx bY)).2.1 X.prog X.w _ _ ⟨.bl (!b), H, I, rfl, k.now l (.bl (!b))⟩
section
variable {pins : List (Addr × Obj)} {σ0 : L2.St} {H : Hp} {s : Shared} {g : G} {h : Hs}
noncomputable def isAt (K : PySem.W.Frag) (g : G) (H : Hp) (tx : T) (u : Value) : Bool := @decide (∃ t v, RT K g H t v ∧ RelV v u ∧ eqV t tx = some true) (Classical.propDecidable _)
theorem isAt_of (I : Inv X pins σ0 H s) (r : RH X.K g H h) {t tx : T} {v : V} {u : Value} {b : Bool} (m : RT X.K g H t v) (ru : RelV v u) (e : eqV t tx = some b) : isAt X.K g H tx u = b := by
  unfold isAt
  cases b with
  | true => exact @decide_eq_true _ (Classical.propDecidable _) ⟨t, v, m, ru, e⟩
  | false =>
    refine @decide_eq_false _ (Classical.propDecidable _) ?_
    rintro ⟨t', v', m', ru', e'⟩
    cases ru.inj ru'
    cases RT.uniq I r m m'
    rw [e] at e'; cases e'
theorem isIn_any (I : Inv X pins σ0 H s) (r : RH X.K g H h) {tx : T} : ∀ {ts : List T} {vs : List V} {us : List Value} {b : Bool}, RTs X.K g H ts vs → Vals vs us → isIn tx ts = some b → us.any (isAt X.K g H tx) = b
  | [], _, _, b, .nil, .nil, e => by cases e; rfl
  | t :: ts, _, _, b, .cons m ms, .cons ru rus, e => by
    unfold isIn at e
    cases e1 : eqV t tx with
    | none => rw [e1] at e; cases e
    | some c =>
      rw [e1] at e
      cases e2 : isIn tx ts with
      | none => rw [e2] at e; cases e
      | some d =>
        rw [e2] at e
        cases e
        rw [List.any_cons, isAt_of I r m ru e1, isIn_any I r ms rus e2]
theorem isIn_some {tx : T} : ∀ {ts : List T} {b : Bool}, isIn tx ts = some b → ∀ t ∈ ts, ∃ c, eqV t tx = some c
  | [], _, _, _, m => by cases m
  | t :: ts, b, e, t', m => by
    unfold isIn at e
    cases e1 : eqV t tx with
    | none => rw [e1] at e; cases e
    | some c =>
      rw [e1] at e
      cases e2 : isIn tx ts with
      | none => rw [e2] at e; cases e
      | some d =>
        rcases List.mem_cons.mp m with rfl | m
        · exact ⟨c, e1⟩
        · exact isIn_some e2 t' m
theorem RTs.mem_back {K : PySem.W.Frag} : ∀ {ts : List T} {vs : List V} {us : List Value}, RTs K g H ts vs → Vals vs us → ∀ u ∈ us, ∃ t v, t ∈ ts ∧ RT K g H t v ∧ RelV v u
  | _, _, _, .nil, .nil, u, m => by cases m
  | _, _, _, .cons a as, .cons b bs, u, m => by
    rcases List.mem_cons.mp m with rfl | m
    · exact ⟨_, _, List.mem_cons_self, a, b⟩
    · obtain ⟨t, v, h1, h2, h3⟩ := RTs.mem_back as bs u m
      exact ⟨t, v, List.mem_cons_of_mem _ h1, h2, h3⟩
theorem isIn_at {fx : Fx} (hK : fx.K = X.K) {τ : List Slot} {σ : L2.St} (hu : X.A.units + 1 + DEEP < cLine) (I : Inv X pins σ0 H s) (l : Rl fx g H τ σ h) {tx : T} {x : V} {v : Value} (bx : RB fx true g H τ σ tx x) (rx : RelV x v)
    {ts : List T} {vs : List V} {us : List Value} {b : Bool} (m : RTs X.K g H ts vs) (r : Vals vs us) (e : isIn tx ts = some b) : ∀ u ∈ us, SeqAt.EqAt X.A.in1 s u v (isAt X.K g H tx u) := fun u hu' => by
  obtain ⟨t, w, h1, h2, h3⟩ := m.mem_back r u hu'
  obtain ⟨c, hc⟩ := isIn_some e t h1
  obtain ⟨K, p', g0', H0'⟩ := fx
  cases (show K = X.K from hK)
  rw [isAt_of I l.heap h2 h3 hc]
  have hd : ∀ m, tx ≠ .ref m := (eqT_noref hc).2
  have nd : deref h tx = tx := by
    cases tx with
    | ref n => exact absurd rfl (hd n)
    | _ => rfl
  have sx := l.sh bx (by rw [nd]; exact hd)
  rw [nd] at sx
  exact (eqAt_Sh I l.heap DEEP X.A.in1 _ _ w x u v c hc (by show X.A.units + 1 + DEEP < cLine; exact hu) (h2.sh (eqT_noref hc).1) sx h3 rx fun a e1 e2 => by
    subst e1 e2; exact RB.uniq (fx := ⟨X.K, p', g0', H0'⟩) rfl I l (.inl h2) bx).2.2
end
theorem Str_one {z : Str} {c : Nat} (e : z.cps.toList = [c]) : z = ⟨#[c]⟩ := by
  obtain ⟨z⟩ := z
  congr 1
  exact Array.toList_inj.mp e
theorem o_in (hu : X.A.units + 1 + DEEP < cLine) : OpR X (compareOp .In) (r2 (Fix X p g0 H0) fIn) := by
  rintro pins s σ0 H x y v u Q I rx ry ⟨g, τ, σ, h, tx, ty, t, l, bx, bY, e, k⟩
  unfold fIn inT at e
  split at e
  · rename_i ts ei
    cases z : isIn tx ts with
    | none => rw [z] at e; cases e
    | some b =>
      rw [z] at e; cases e
      obtain ⟨a, vs, rfl, q, m⟩ := l.tup bY ei
      cases ry
      obtain ⟨its, r, pl, hz⟩ := I.tuple q
      refine SeqAt.in_tupleAt (isAt X.K g H tx) pl (fun w hw => isIn_at rfl hu I l bx rx m r z w (by simpa using hw)) ⟨.bl b, H, I, ?_, k.now l (.bl b)⟩
      rw [show its.toArray.any (isAt X.K g H tx) = its.any (isAt X.K g H tx) by simp, isIn_any I l.heap m r z]
      rfl
  · rename_i ts ei
    cases z : isIn tx ts with
    | none => rw [z] at e; cases e
    | some b =>
      rw [z] at e; cases e
      obtain ⟨a, vs, rfl, q, m⟩ := l.lst bY ei
      cases ry
      obtain ⟨its, r, pl, hz⟩ := I.list (SqL.of q)
      refine SeqAt.in_listAt (isAt X.K g H tx) pl.isList (fun w hw => isIn_at rfl hu I l bx rx m r z w (by simpa using hw)) ⟨.bl b, H, I, ?_, k.now l (.bl b)⟩
      rw [show its.toArray.any (isAt X.K g H tx) = its.any (isAt X.K g H tx) by simp, isIn_any I l.heap m r z]
      rfl
  · rename_i ei
    split at e
    · cases e
      cases deref_str ei
      obtain ⟨z, rfl, e2⟩ := bx.str
      obtain ⟨w, rfl, e4⟩ := bY.str
      subst e4
      cases Str_one e2
      exact op_in_sign pins s σ0 H _ _ v u Q I rx ry ⟨_, w, rfl, rfl, k.now l (.bl _)⟩
    · cases e
  · cases e
theorem o_notIn (hu : X.A.units + 1 + DEEP < cLine) : OpR X (compareOp .NotIn) (r2 (Fix X p g0 H0) fNotIn) := by
  rintro pins s σ0 H x y v u Q I rx ry ⟨g, τ, σ, h, tx, ty, t, l, bx, bY, e, k⟩
  unfold fNotIn inT at e
  split at e
  · rename_i ts ei
    cases z : isIn tx ts with
    | none => rw [z] at e; cases e
    | some b =>
      rw [z] at e; cases e
      obtain ⟨a, vs, rfl, q, m⟩ := l.tup bY ei
      cases ry
      obtain ⟨its, r, pl, hz⟩ := I.tuple q
      refine SeqAt.notIn_tupleAt (isAt X.K g H tx) pl (fun w hw => isIn_at rfl hu I l bx rx m r z w (by simpa using hw)) ⟨.bl (!b), H, I, ?_, k.now l (.bl _)⟩
      rw [show its.toArray.any (isAt X.K g H tx) = its.any (isAt X.K g H tx) by simp, isIn_any I l.heap m r z]
      rfl
  · rename_i ts ei
    cases z : isIn tx ts with
    | none => rw [z] at e; cases e
    | some b =>
      rw [z] at e; cases e
      obtain ⟨a, vs, rfl, q, m⟩ := l.lst bY ei
      cases ry
      obtain ⟨its, r, pl, hz⟩ := I.list (SqL.of q)
      refine SeqAt.notIn_listAt (isAt X.K g H tx) pl.isList (fun w hw => isIn_at rfl hu I l bx rx m r z w (by simpa using hw)) ⟨.bl (!b), H, I, ?_, k.now l (.bl _)⟩
      rw [show its.toArray.any (isAt X.K g H tx) = its.any (isAt X.K g H tx) by simp, isIn_any I l.heap m r z]
      rfl
  · rename_i ei
    split at e
    · cases e
      cases deref_str ei
      obtain ⟨z, rfl, e2⟩ := bx.str
      obtain ⟨w, rfl, e4⟩ := bY.str
      subst e4
      cases Str_one e2
      exact op_notIn_sign pins s σ0 H _ _ v u Q I rx ry ⟨_, w, rfl, rfl, k.now l (.bl _)⟩
    · cases e
  · cases e
theorem atIx_eq {α : Type} (l : List α) (i : Int) : atIx l i = atI l i := rfl
theorem RTs.atI {K : PySem.W.Frag} {g : G} {H : Hp} {ts : List T} {vs : List V} {i : Int} {t : T} (m : RTs K g H ts vs) (e : atIx ts i = some t) : ∃ v, L2.atI vs i = some v ∧ RT K g H t v := by
  rw [atIx_eq] at e
  unfold L2.atI at e ⊢
  rw [← m.length]
  cases z : ixN ts.length i with
  | none => rw [z] at e; cases e
  | some j =>
    rw [z] at e
    exact m.get e
theorem Rl.scr {fx : Fx} {g : G} {H : Hp} {τ : List Slot} {σ : L2.St} {h : Hs} {b : Bool} {t : T} {v : V} {ts : List T} (l : Rl fx g H τ σ h) (r : RB fx b g H τ σ t v) (e : deref h t = .scr ts) : ∃ a vs, v = .ref a ∧ SqL fx.K H a vs ∧ RTs fx.K g H ts vs := by
  cases deref_scr e
  rcases r with r | ⟨_, _, c, _, _, _, _, q⟩
  · cases r with
    | scr q m => exact ⟨_, _, rfl, .inl (.inr ⟨_, q⟩), m⟩
  · cases c <;> cases q
theorem RKs.look {K : PySem.W.Frag} {g : G} {H : Hp} : ∀ {ps : List (Ky × T)} {kvs : List (Key × V)} {k : Ky} {q : Key}, RKs K g H ps kvs → RKy k q →
    (∃ t v, lookK ps k = some t ∧ valV kvs q = some v ∧ RT K g H t v) ∨ (lookK ps k = none ∧ valV kvs q = none)
  | _, _, _, _, .nil, _ => .inr ⟨rfl, rfl⟩
  | _, _, k, q, .cons (k := k') (q := q') kk r m, kq => by
    unfold lookK
    by_cases h : k' = k
    · subst h
      rw [if_pos rfl]
      cases kk.inj' kq
      exact .inl ⟨_, _, rfl, valV_pos rfl, r⟩
    · rw [if_neg h, valV_neg (p := (q', _)) fun z => h (kk.inj (by cases z; exact kq))]
      exact m.look kq
theorem RKs.map {K : PySem.W.Frag} {g : G} {H : Hp} {k : Ky} {q : Key} {t : T} {v : V} (kq : RKy k q) (r : RT K g H t v) : ∀ {ps : List (Ky × T)} {kvs : List (Key × V)}, RKs K g H ps kvs →
    RKs K g H (ps.map fun p => if p.1 = k then (p.1, t) else p) (kvs.map fun kv => if kv.1 = q then (kv.1, v) else kv)
  | _, _, .nil => .nil
  | _, _, .cons (k := k') (q := q') kk r' m => by
    rw [List.map_cons, List.map_cons]
    by_cases h : k' = k
    · subst h
      cases kk.inj' kq
      rw [if_pos rfl, if_pos rfl]
      exact .cons kk r (m.map kq r)
    · rw [if_neg h, if_neg (fun z => h (kk.inj (by cases z; exact kq)))]
      exact .cons kk r' (m.map kq r)
theorem RKs.snoc {K : PySem.W.Frag} {g : G} {H : Hp} {k : Ky} {q : Key} {t : T} {v : V} (kq : RKy k q) (r : RT K g H t v) : ∀ {ps : List (Ky × T)} {kvs : List (Key × V)}, RKs K g H ps kvs → RKs K g H (ps ++ [(k, t)]) (kvs ++ [(q, v)])
  | _, _, .nil => .cons kq r .nil
  | _, _, .cons kk r' m => .cons kk r' (m.snoc kq r)
theorem RKs.put {K : PySem.W.Frag} {g : G} {H : Hp} {k : Ky} {q : Key} {t : T} {v : V} (kq : RKy k q) (r : RT K g H t v) {ps : List (Ky × T)} {kvs : List (Key × V)} (m : RKs K g H ps kvs) : RKs K g H (putK ps k t) (L2.putK kvs q v) := by
  unfold putK L2.putK
  rw [valV_any]
  rcases m.look kq with ⟨t', v', e1, e2, _⟩ | ⟨e1, e2⟩
  · rw [e1, e2]
    exact m.map kq r
  · rw [e1, e2]
    exact m.snoc kq r
theorem RKs.length {K : PySem.W.Frag} {g : G} {H : Hp} : ∀ {ps : List (Ky × T)} {kvs : List (Key × V)}, RKs K g H ps kvs → ps.length = kvs.length
  | _, _, .nil => rfl
  | _, _, .cons _ _ m => congrArg Nat.succ m.length
theorem RB.key {fx : Fx} {b : Bool} {g : G} {H : Hp} {τ : List Slot} {σ : L2.St} {t : T} {v : V} {k : Ky} (r : RB fx b g H τ σ t v) (e : keyOf t = some k) : ∃ q, RKy k q ∧ v = kV q := by
  cases t with
  | int i => cases e; rw [r.int]; exact ⟨_, .i i, rfl⟩
  | str x =>
    cases e
    obtain ⟨y, rfl, rfl⟩ := r.str
    exact ⟨_, .s y, rfl⟩
  | _ => cases e
end
end Gt
end
section
set_option Elab.async false
set_option linter.all false
set_option maxRecDepth 20000
namespace Gt
open PySem L2
open PySem.Spec (ltCps)
open PyProof.Rows (sortedS risingS)
section
variable {X : Cx} {p : Bool} {g0 : G} {H0 : Hp}
theorem o_ix : IxR X (r2 (Fix X p g0 H0) fIxS) := by
  rintro value slice pins s σ0 H x y v u Q I rx ry ⟨g, τ, σ, h, tx, ty, t, l, bx, bY, e, k⟩ hs
  unfold fIxS at e
  split at e
  · rename_i ts ei
    split at e
    · obtain ⟨a, vs, rfl, q, m⟩ := l.tup bx ei
      obtain ⟨w, e1, e2⟩ := m.atI e
      exact ix_seq value slice pins s σ0 H _ _ v u Q I rx ry (.inr (.inl ⟨a, vs, _, w, rfl, bY.int, q, e1, k.now l e2⟩)) hs
    · cases e
  · rename_i ts ei
    split at e
    · obtain ⟨a, vs, rfl, q, m⟩ := l.lst bx ei
      obtain ⟨w, e1, e2⟩ := m.atI e
      exact ix_seq value slice pins s σ0 H _ _ v u Q I rx ry (.inl ⟨a, vs, _, w, rfl, bY.int, SqL.of q, e1, k.now l e2⟩) hs
    · cases e
  · rename_i ts ei
    split at e
    · obtain ⟨a, vs, rfl, q, m⟩ := l.scr bx ei
      obtain ⟨w, e1, e2⟩ := m.atI e
      exact ix_seq value slice pins s σ0 H _ _ v u Q I rx ry (.inl ⟨a, vs, _, w, rfl, bY.int, q, e1, k.now l e2⟩) hs
    · cases e
  · rename_i ts ei
    split at e
    · split at e
      · rename_i hl
        obtain ⟨c, e1, e2⟩ := Option.map_eq_some_iff.mp e
        subst e2
        cases deref_str ei
        obtain ⟨z, e3, e4⟩ := bx.str
        subst e4
        refine ix_seq value slice pins s σ0 H _ _ v u Q I rx ry (.inr (.inr ⟨z, _, c, e3, bY.int, by rw [Str_len, ← LIM_eq]; exact hl, e1, k.now l ?_⟩)) hs
        exact .str ⟨#[c]⟩
      · cases e
    · cases e
  · cases e
def r3 (fx : Fx) (f : Hs → T → Option Int → Option Int → Option RV) : V → Option Int → Option Int → Hp → VK → Prop := fun x lo hi H Q => ∃ g τ σ h tx t, Rl fx g H τ σ h ∧ RB fx true g H τ σ tx x ∧ f h tx lo hi = some t ∧ KR fx Q g H τ σ h t
theorem cutAt_eq (n d : Nat) (o : Option Int) : cutAt n d o = HT.sIx n d o := by cases o <;> rfl
theorem RTs.cut {K : PySem.W.Frag} {g : G} {H : Hp} {ts : List T} {vs : List V} {lo hi : Option Int} (m : RTs K g H ts vs) : RTs K g H (cutL ts lo hi) (cutV vs lo hi) := by
  unfold cutL cutV
  rw [cutAt_eq, cutAt_eq, m.length]
  exact (m.drop _).take _
theorem cut_all {α : Type} {ts : List α} {lo hi : Option Int} (h : HT.sIx ts.length 0 lo = 0 ∧ HT.sIx ts.length ts.length hi = ts.length) : cutL ts lo hi = ts := by
  unfold cutL
  rw [cutAt_eq, cutAt_eq, h.1, h.2]
  simp
theorem o_sl : SlR X (r3 (Fix X p g0 H0) fSl) := by
  rintro pins s σ0 H x v vl vu lo hi sl Q I rx hs pl pu ⟨g, τ, σ, h, tx, t, l, bx, e, k⟩
  unfold fSl at e
  split at e
  · rename_i ts ei
    cases e
    obtain ⟨a, vs, rfl, q, m⟩ := l.tup bx ei
    refine sl_tupA pins s σ0 H _ v vl vu lo hi sl Q I rx hs pl pu ⟨a, vs, rfl, q, fun hw => ?_, fun _ => k.val.tup l m.cut⟩
    refine k.val.now l ?_
    rw [← m.length] at hw
    rw [cut_all hw]
    exact .tup q m
  · rename_i ts ei
    cases e
    obtain ⟨a, vs, rfl, q, m⟩ := l.lst bx ei
    exact sl_list pins s σ0 H _ v vl vu lo hi sl Q I rx hs pl pu ⟨a, vs, rfl, SqL.of q, k.lst l m.cut⟩
  · rename_i ts ei
    split at e
    · rename_i hl
      cases e
      cases deref_str ei
      obtain ⟨z, e3, e4⟩ := bx.str
      subst e4
      refine sl_str pins s σ0 H _ v vl vu lo hi sl Q I rx hs pl pu ⟨z, e3, by rw [Str_len, ← LIM_eq]; exact hl, k.val.now l ?_⟩
      have : cutL z.cps.toList lo hi = (cutS z lo hi).cps.toList := by
        unfold cutL cutS
        simp [cutAt_eq, Str.length]
      rw [this]
      exact .str _
    · cases e
  · cases e
def c1 (fx : Fx) (f : Hs → T → Option T) : List V → Hp → VK → Prop := fun xs H Q => ∃ x, xs = [x] ∧ r1 fx f x H Q
def c1R (fx : Fx) (f : Hs → T → Option RV) : List V → Hp → VK → Prop := fun xs H Q => ∃ x, xs = [x] ∧ r1R fx f x H Q
def c2 (fx : Fx) (f : Hs → T → T → Option T) : List V → Hp → VK → Prop := fun xs H Q => ∃ x y, xs = [x, y] ∧ r2 fx f x y H Q
theorem c_len : CallR X (.builtin "len") (c1 (Fix X p g0 H0) fLen) := by
  rintro pins s σ0 H xs us Q I r ⟨x, rfl, g, τ, σ, h, tx, t, l, bx, e, k⟩
  unfold fLen at e
  split at e
  · rename_i ts ei
    cases e
    obtain ⟨a, vs, rfl, q, m⟩ := l.tup bx ei
    refine call_len_seq pins s σ0 H _ us Q I r ⟨a, vs, rfl, .inr q, ?_⟩
    rw [← m.length]
    exact k.now l (.int _)
  · rename_i ts ei
    cases e
    obtain ⟨a, vs, rfl, q, m⟩ := l.scr bx ei
    refine call_len_seq pins s σ0 H _ us Q I r ⟨a, vs, rfl, .inl q, ?_⟩
    rw [← m.length]
    exact k.now l (.int _)
  · rename_i ts ei
    cases e
    obtain ⟨a, vs, rfl, q, m⟩ := l.lst bx ei
    refine call_len_seq pins s σ0 H _ us Q I r ⟨a, vs, rfl, .inl (SqL.of q), ?_⟩
    rw [← m.length]
    exact k.now l (.int _)
  · rename_i ts ei
    split at e
    · rename_i hl
      cases e
      cases deref_str ei
      obtain ⟨z, e3, e4⟩ := bx.str
      subst e4 e3
      refine call_len_str pins s σ0 H _ us Q I r ⟨z, rfl, by rw [Str_len, ← LIM_eq]; exact hl, ?_⟩
      rw [Str_len]
      exact k.now l (.int _)
    · cases e
  · rename_i ts ei
    cases e
    obtain ⟨a, kvs, rfl, q, m⟩ := l.dic bx ei
    refine call_lenD pins s σ0 H _ us Q I r ⟨a, kvs, rfl, q, ?_⟩
    rw [← m.length]
    exact k.now l (.int _)
  · cases e
theorem c_tuple : CallR X (.type "tuple") (c1 (Fix X p g0 H0) fTuple) := by
  rintro pins s σ0 H xs us Q I r ⟨x, rfl, g, τ, σ, h, tx, t, l, bx, e, k⟩
  unfold fTuple at e
  split at e
  · rename_i ts ei
    cases e
    obtain ⟨a, vs, rfl, q, m⟩ := l.tup bx ei
    exact call_tuple_of pins s σ0 H _ us Q I r ⟨a, vs, rfl, .inr ⟨q, k.now l (.tup q m)⟩⟩
  · rename_i ts ei
    cases e
    obtain ⟨a, vs, rfl, q, m⟩ := l.lst bx ei
    exact call_tuple_of pins s σ0 H _ us Q I r ⟨a, vs, rfl, .inl ⟨SqL.of q, k.tup l m⟩⟩
  · cases e
theorem c_list : CallR X (.type "list") (c1R (Fix X p g0 H0) fList) := by
  rintro pins s σ0 H xs us Q I r ⟨x, rfl, g, τ, σ, h, tx, t, l, bx, e, k⟩
  unfold fList at e
  split at e
  · rename_i ts ei
    cases e
    obtain ⟨a, vs, rfl, q, m⟩ := l.tup bx ei
    exact call_list_of pins s σ0 H _ us Q I r ⟨a, vs, rfl, .inr q, k.lst l m⟩
  · rename_i ts ei
    cases e
    obtain ⟨a, vs, rfl, q, m⟩ := l.lst bx ei
    exact call_list_of pins s σ0 H _ us Q I r ⟨a, vs, rfl, .inl (SqL.of q), k.lst l m⟩
  · cases e
theorem c_int : CallR X (.type "int") (c1 (Fix X p g0 H0) fInt) := by
  rintro pins s σ0 H xs us Q I r ⟨x, rfl, g, τ, σ, h, tx, t, l, bx, e, k⟩
  unfold fInt at e
  split at e
  · cases e
    exact call_int1 pins s σ0 H _ us Q I r (.inl ⟨_, by rw [bx.int], k.now l (.int _)⟩)
  · cases e
    exact call_int1 pins s σ0 H _ us Q I r (.inr ⟨_, by rw [bx.bl], k.now l (.int _)⟩)
  · cases e
theorem strI_eq (i : Int) : strI i = (Str.ofString (toString i)).cps.toList := by
  rw [Str.ofString_eq_toList]
  rfl
theorem c_str : CallR X (.type "str") (c1 (Fix X p g0 H0) fStr) := by
  rintro pins s σ0 H xs us Q I r ⟨x, rfl, g, τ, σ, h, tx, t, l, bx, e, k⟩
  unfold fStr at e
  split at e
  · split at e
    · rename_i hi
      cases e
      refine call_str_int pins s σ0 H _ us Q I r ⟨_, by rw [bx.int], hi, k.now l ?_⟩
      rw [strI_eq]
      exact .str _
    · cases e
  · cases e
theorem RTs.boolsT {K : PySem.W.Frag} {g : G} {H : Hp} : ∀ {ts : List T} {vs : List V} {bs : List Bool}, RTs K g H ts vs → boolsT ts = some bs → vs = bs.map V.bl
  | [], _, bs, .nil, e => by cases e; rfl
  | t :: ts, _, bs, .cons r m, e => by
    unfold Gt.boolsT at e
    split at e
    · rename_i eq; cases eq
    · rename_i b ts' eq
      cases eq
      obtain ⟨cs, e1, rfl⟩ := Option.map_eq_some_iff.mp e
      cases r
      rw [m.boolsT e1]; rfl
    · cases e
theorem RTs.intsT {K : PySem.W.Frag} {g : G} {H : Hp} : ∀ {ts : List T} {vs : List V} {bs : List Int}, RTs K g H ts vs → intsT ts = some bs → vs = bs.map V.int
  | [], _, bs, .nil, e => by cases e; rfl
  | t :: ts, _, bs, .cons r m, e => by
    unfold Gt.intsT at e
    split at e
    · rename_i eq; cases eq
    · rename_i b ts' eq
      cases eq
      obtain ⟨cs, e1, rfl⟩ := Option.map_eq_some_iff.mp e
      cases r
      rw [m.intsT e1]; rfl
    · cases e
theorem RTs.strsT {K : PySem.W.Frag} {g : G} {H : Hp} : ∀ {ts : List T} {vs : List V} {bs : List S}, RTs K g H ts vs → strsT ts = some bs → ∃ xs : List Str, vs = xs.map V.str ∧ bs = xs.map fun x => x.cps.toList
  | [], _, bs, .nil, e => by cases e; exact ⟨[], rfl, rfl⟩
  | t :: ts, _, bs, .cons r m, e => by
    unfold Gt.strsT at e
    split at e
    · rename_i eq; cases eq
    · rename_i b ts' eq
      cases eq
      obtain ⟨cs, e1, rfl⟩ := Option.map_eq_some_iff.mp e
      obtain ⟨xs, rfl, rfl⟩ := m.strsT e1
      cases r with
      | str x => exact ⟨x :: xs, rfl, rfl⟩
    · cases e
theorem RKs.keysS {K : PySem.W.Frag} {g : G} {H : Hp} : ∀ {ts : List (Ky × T)} {vs : List (Key × V)} {bs : List S}, RKs K g H ts vs → keysS ts = some bs → ∃ xs : List Str, vs.map (·.1) = xs.map Sum.inr ∧ bs = xs.map fun x => x.cps.toList
  | [], _, bs, .nil, e => by cases e; exact ⟨[], rfl, rfl⟩
  | (k, t) :: ts, _, bs, .cons kk r m, e => by
    cases kk with
    | i n => cases e
    | s x =>
      obtain ⟨cs, e1, rfl⟩ := Option.map_eq_some_iff.mp e
      obtain ⟨xs, e2, rfl⟩ := m.keysS e1
      exact ⟨x :: xs, by rw [List.map_cons, e2]; rfl, rfl⟩
theorem RKs.keysI {K : PySem.W.Frag} {g : G} {H : Hp} : ∀ {ts : List (Ky × T)} {vs : List (Key × V)} {bs : List Int}, RKs K g H ts vs → keysI ts = some bs → vs.map (·.1) = bs.map Sum.inl
  | [], _, bs, .nil, e => by cases e; rfl
  | (k, t) :: ts, _, bs, .cons kk r m, e => by
    cases kk with
    | s x => cases e
    | i n =>
      obtain ⟨cs, e1, rfl⟩ := Option.map_eq_some_iff.mp e
      rw [List.map_cons, m.keysI e1]; rfl
theorem c_all (hc : X.calm = true) : CallR X (.builtin "all") (c1 (Fix X p g0 H0) fAll) := by
  rintro pins s σ0 H xs us Q I r ⟨x, rfl, g, τ, σ, h, tx, t, l, bx, e, k⟩
  unfold fAll at e
  split at e
  · rename_i ts ei
    obtain ⟨bs, e1, rfl⟩ := Option.map_eq_some_iff.mp e
    obtain ⟨a, vs, rfl, q, m⟩ := l.lst bx ei
    cases m.boolsT e1
    exact cr_all hc pins s σ0 H _ us Q I r ⟨a, bs, rfl, SqL.of q, k.now l (.bl _)⟩
  · cases e
theorem c_any (hc : X.calm = true) : CallR X (.builtin "any") (c1 (Fix X p g0 H0) fAny) := by
  rintro pins s σ0 H xs us Q I r ⟨x, rfl, g, τ, σ, h, tx, t, l, bx, e, k⟩
  unfold fAny at e
  split at e
  · rename_i ts ei
    obtain ⟨bs, e1, rfl⟩ := Option.map_eq_some_iff.mp e
    obtain ⟨a, vs, rfl, q, m⟩ := l.lst bx ei
    cases m.boolsT e1
    exact cr_any hc pins s σ0 H _ us Q I r ⟨a, bs, rfl, SqL.of q, k.now l (.bl _)⟩
  · cases e
theorem c_sum (hc : X.calm = true) : CallR X (.builtin "sum") (c1 (Fix X p g0 H0) fSum) := by
  rintro pins s σ0 H xs us Q I r ⟨x, rfl, g, τ, σ, h, tx, t, l, bx, e, k⟩
  unfold fSum at e
  split at e
  · rename_i ts ei
    obtain ⟨bs, e1, rfl⟩ := Option.map_eq_some_iff.mp e
    obtain ⟨a, vs, rfl, q, m⟩ := l.lst bx ei
    cases m.intsT e1
    exact cr_sum hc pins s σ0 H _ us Q I r ⟨a, bs, rfl, SqL.of q, k.now l (.int _)⟩
  · cases e
theorem c_max2 (hc : X.calm = true) : CallR X (.builtin "max") (c2 (Fix X p g0 H0) fMax2) := by
  rintro pins s σ0 H xs us Q I r ⟨x, y, rfl, g, τ, σ, h, tx, ty, t, l, bx, bY, e, k⟩
  unfold fMax2 at e
  split at e
  · split at e
    · cases e
      exact call_max2 hc pins s σ0 H _ us Q I r ⟨_, _, by rw [bx.int, bY.int], k.now l (.int _)⟩
    · cases e
  · cases e
theorem c_min2 (hc : X.calm = true) : CallR X (.builtin "min") (c2 (Fix X p g0 H0) fMin2) := by
  rintro pins s σ0 H xs us Q I r ⟨x, y, rfl, g, τ, σ, h, tx, ty, t, l, bx, bY, e, k⟩
  unfold fMin2 at e
  split at e
  · split at e
    · cases e
      exact call_min2 hc pins s σ0 H _ us Q I r ⟨_, _, by rw [bx.int, bY.int], k.now l (.int _)⟩
    · cases e
  · cases e
theorem insI_perm (x : Int) : ∀ l, (insI x l).Perm (x :: l)
  | [] => .refl _
  | y :: r => by
    unfold insI; split
    · exact ((insI_perm x r).cons y).trans (.swap _ _ _)
    · exact .refl _
theorem sortI_perm : ∀ ns, (sortI ns).Perm ns
  | [] => .refl _
  | x :: r => (insI_perm x _).trans ((sortI_perm r).cons x)
theorem insI_rises (x : Int) : ∀ l : List Int, l.Pairwise (· ≤ ·) → (insI x l).Pairwise (· ≤ ·)
  | [], _ => by simp [insI]
  | y :: r, h => by
    obtain ⟨h1, h2⟩ := List.pairwise_cons.mp h
    unfold insI; split
    · refine List.pairwise_cons.mpr ⟨fun z hz => ?_, insI_rises x r h2⟩
      rcases List.mem_cons.mp ((insI_perm x r).mem_iff.mp hz) with rfl | hz
      · omega
      · exact h1 z hz
    · refine List.pairwise_cons.mpr ⟨fun z hz => ?_, h⟩
      rcases List.mem_cons.mp hz with rfl | hz
      · omega
      · have := h1 z hz; omega
theorem sortI_rises : ∀ ns, (sortI ns).Pairwise (· ≤ ·)
  | [] => .nil
  | x :: r => insI_rises x _ (sortI_rises r)
theorem eq_sortI {ns ns' : List Int} (hp : ns'.Perm ns) (hs : ns'.Pairwise (· ≤ ·)) : ns' = sortI ns :=
  List.Perm.eq_of_pairwise (fun _ _ _ _ a b => Int.le_antisymm a b) hs (sortI_rises ns) (hp.trans (sortI_perm ns).symm)
theorem ltS_eq : ∀ a b : S, ltS a b = ltCps a b
  | [], [] => rfl
  | [], _ :: _ => rfl
  | _ :: _, [] => rfl
  | a :: r, b :: t => by unfold ltS ltCps; rw [ltS_eq r t]
theorem ltS_irr : ∀ a : S, ltS a a = false
  | [] => rfl
  | a :: r => by simp [ltS, ltS_irr r]
theorem ltS_tot : ∀ a b : S, ltS a b = false → ltS b a = false → a = b
  | [], [], _, _ => rfl
  | [], _ :: _, h, _ => by cases h
  | _ :: _, [], _, h => by cases h
  | a :: r, b :: t, h1, h2 => by
    simp only [ltS, Bool.or_eq_false_iff, decide_eq_false_iff_not, Bool.and_eq_false_iff, beq_eq_false_iff_ne] at h1 h2
    have : a = b := by omega
    subst this
    rw [ltS_tot r t (by simpa using h1.2) (by simpa using h2.2)]
theorem ltS_trans : ∀ a b c : S, ltS b a = false → ltS c b = false → ltS c a = false
  | [], _, [], _, _ => rfl
  | [], [], _ :: _, _, h => by cases h; rfl
  | [], _ :: _, _ :: _, _, _ => rfl
  | _ :: _, [], _, h, _ => by cases h
  | _ :: _, _ :: _, [], _, h => by cases h
  | a :: r, b :: t, c :: u, h1, h2 => by
    simp only [ltS, Bool.or_eq_false_iff, decide_eq_false_iff_not, Bool.and_eq_false_iff, beq_eq_false_iff_ne] at h1 h2 ⊢
    refine ⟨by omega, ?_⟩
    by_cases e : c = a
    · have e1 : b = a := by omega
      subst e e1
      exact .inr (ltS_trans r t u (by simpa using h1.2) (by simpa using h2.2))
    · exact .inl e
abbrev leS (a b : S) : Prop := ltS b a = false
theorem insS_perm (x : S) : ∀ l, (insS x l).Perm (x :: l)
  | [] => .refl _
  | y :: r => by
    unfold insS; split
    · exact ((insS_perm x r).cons y).trans (.swap _ _ _)
    · exact .refl _
theorem sortS_perm : ∀ ns, (sortS ns).Perm ns
  | [] => .refl _
  | x :: r => (insS_perm x _).trans ((sortS_perm r).cons x)
theorem ltS_asym {a b : S} (h : ltS a b = true) : ltS b a = false := by
  cases z : ltS b a with
  | false => rfl
  | true =>
    have := ltS_trans
    exact absurd h (by
      rw [Bool.not_eq_true]
      induction a generalizing b with
      | nil => cases b <;> simp_all [ltS]
      | cons x r ih =>
        cases b with
        | nil => simp [ltS]
        | cons y t =>
          simp only [ltS, Bool.or_eq_true, decide_eq_true_eq, Bool.and_eq_true, beq_iff_eq] at h z
          simp only [ltS, Bool.or_eq_false_iff, decide_eq_false_iff_not, Bool.and_eq_false_iff, beq_eq_false_iff_ne]
          rcases h with h | h
          · rcases z with z | z <;> omega
          · rcases z with z | z
            · omega
            · exact ⟨by omega, .inr (ih h.2 z.2)⟩)
theorem insS_rises (x : S) : ∀ l : List S, l.Pairwise leS → (insS x l).Pairwise leS
  | [], _ => by simp [insS]
  | y :: r, h => by
    obtain ⟨h1, h2⟩ := List.pairwise_cons.mp h
    unfold insS; split
    · rename_i hl
      refine List.pairwise_cons.mpr ⟨fun z hz => ?_, insS_rises x r h2⟩
      rcases List.mem_cons.mp ((insS_perm x r).mem_iff.mp hz) with rfl | hz
      · exact ltS_asym hl
      · exact h1 z hz
    · rename_i hl
      rw [Bool.not_eq_true] at hl
      refine List.pairwise_cons.mpr ⟨fun z hz => ?_, h⟩
      rcases List.mem_cons.mp hz with rfl | hz
      · exact hl
      · exact ltS_trans x y z hl (h1 z hz)
theorem sortS_rises : ∀ ns, (sortS ns).Pairwise leS
  | [] => .nil
  | x :: r => insS_rises x _ (sortS_rises r)
theorem rising_pw : ∀ (l : List Str) (p : Str), risingS p l = true → ((p :: l).map fun x => x.cps.toList).Pairwise leS
  | [], p, _ => by simp
  | x :: r, p, h => by
    simp only [risingS, Bool.and_eq_true, Bool.not_eq_true'] at h
    have ih := rising_pw r x h.2
    have h1 : leS p.cps.toList x.cps.toList := by rw [leS, ltS_eq]; exact h.1
    rw [List.map_cons]
    refine List.pairwise_cons.mpr ⟨fun z hz => ?_, ih⟩
    rw [List.map_cons] at hz ih
    rcases List.mem_cons.mp hz with rfl | hz
    · exact h1
    · exact ltS_trans _ _ _ h1 ((List.pairwise_cons.mp ih).1 z hz)
theorem eq_sortS {ns ns' : List Str} (hp : ns'.Perm ns) (hs : sortedS ns' = true) : (ns'.map fun x => x.cps.toList) = sortS (ns.map fun x => x.cps.toList) := by
  refine List.Perm.eq_of_pairwise (le := leS) (fun _ _ _ _ a b => ltS_tot _ _ b a) ?_ (sortS_rises _) ((hp.map _).trans (sortS_perm _).symm)
  cases ns' with
  | nil => exact .nil
  | cons x r => exact rising_pw r x hs
theorem RTs.of_ints {K : PySem.W.Frag} {g : G} {H : Hp} : ∀ ns : List Int, RTs K g H (ns.map .int) (ns.map V.int)
  | [] => .nil
  | n :: ns => .cons (.int n) (RTs.of_ints ns)
theorem RTs.of_strs {K : PySem.W.Frag} {g : G} {H : Hp} : ∀ ns : List Str, RTs K g H ((ns.map fun x => x.cps.toList).map .str) (ns.map V.str)
  | [] => .nil
  | n :: ns => .cons (.str n) (RTs.of_strs ns)
theorem c_sorted (hc : X.calm = true) : CallR X (.builtin "sorted") (c1R (Fix X p g0 H0) fSorted) := by
  rintro pins s σ0 H xs us Q I r ⟨x, rfl, g, τ, σ, h, tx, t, l, bx, e, k⟩
  unfold fSorted at e
  split at e
  · rename_i ts ei
    obtain ⟨a, vs, rfl, q, m⟩ := l.lst bx ei
    split at e
    · rename_i ns en
      split at e
      · rename_i hl
        cases e
        cases m.intsT en
        refine cr_sorted pins s σ0 H _ us Q I r ⟨a, ns, rfl, SqL.of q, hl, fun ns' p' hp hs hn => ?_⟩
        rw [eq_sortI hp hs]
        exact k.lst l (.of_ints _) p' hn
      · cases e
    · split at e
      · rename_i ns en
        split at e
        · rename_i hl
          cases e
          obtain ⟨xs, rfl, rfl⟩ := m.strsT en
          refine cr_sortedS pins s σ0 H _ us Q I r ⟨a, xs, rfl, SqL.of q, by simpa using hl, fun ns' p' hp hs hn => ?_⟩
          rw [← eq_sortS hp hs] at k
          exact k.lst l (.of_strs _) p' hn
        · cases e
      · cases e
  · rename_i ts ei
    obtain ⟨a, vs, rfl, q, m⟩ := l.dic bx ei
    split at e
    · rename_i ns en
      split at e
      · rename_i hl
        cases e
        obtain ⟨xs, e1, rfl⟩ := m.keysS en
        refine call_sortedD hc pins s σ0 H _ us Q I r ⟨a, vs, xs, rfl, .inl q, e1, by simpa using hl, fun ns' p' hp hs hn => ?_⟩
        rw [← eq_sortS hp hs] at k
        exact k.lst l (.of_strs _) p' hn
      · cases e
    · split at e
      · rename_i ns en
        split at e
        · rename_i hl
          cases e
          refine call_sortedDI hc pins s σ0 H _ us Q I r ⟨a, vs, ns, rfl, .inl q, m.keysI en, hl, fun ns' p' hp hs hn => ?_⟩
          rw [eq_sortI hp hs]
          exact k.lst l (.of_ints _) p' hn
        · cases e
      · cases e
  · cases e
end
end Gt
end
section
set_option Elab.async false
set_option linter.all false
set_option maxRecDepth 20000
namespace Gt
open PySem L2
section
variable {X : Cx} {e : Expr} {es : List Expr} {t t' u : TE} {tt tt' : TT} {ta ta' : TA}
theorem _root_.L2.PE.imp (h : PE X e t) (k : ∀ σ H Q, t' σ H Q → t σ H Q) : PE X e t' := ⟨fun pins s σ H Q I q => h.run pins s σ H Q I (k σ H Q q)⟩
theorem _root_.L2.PE.or (h : PE X e t) (h' : PE X e t') (k : ∀ σ H Q, u σ H Q → t σ H Q ∨ t' σ H Q) : PE X e u := ⟨fun pins s σ H Q I q => (k σ H Q q).elim (h.run pins s σ H Q I) (h'.run pins s σ H Q I)⟩
theorem _root_.L2.PT.imp (h : PT X e tt) (k : ∀ σ H Q, tt' σ H Q → tt σ H Q) : PT X e tt' := ⟨fun pins s σ H Q I q => h.run pins s σ H Q I (k σ H Q q)⟩
theorem _root_.L2.PW.imp (h : PW X e tt) (k : ∀ σ H Q, tt' σ H Q → tt σ H Q) : PW X e tt' := ⟨fun w pins s σ H Q I q => h.run w pins s σ H Q I (k σ H Q q)⟩
theorem _root_.L2.PA.imp (h : PA X es ta) (k : ∀ σ H Q, ta' σ H Q → ta σ H Q) : PA X es ta' := ⟨fun pos pins s σ H Q I q => h.run pos pins s σ H Q I (k σ H Q q)⟩
end
def tE (fx : Fx) (b : Bool) (c : Call) (ec : EC) : TE := fun σ H Q => ∃ g τ h t h', Rl fx g H τ σ h ∧ ec c τ h = .ok t h' ∧ ∀ g' H' v, Rl fx g' H' τ σ h' → En fx.p g H g' H' → RB fx b g' H' τ σ t v → Q v H'
def tO (fx : Fx) (c : Call) (ec : OC) : TE := fun σ H Q => ∃ g τ h t h', Rl fx g H τ σ h ∧ ec c τ h = .ok t h' ∧ ∀ g' H' v, Rl fx g' H' τ σ h' → En fx.p g H g' H' → RR fx.K H g' H' t v → Q v H'
def tT (fx : Fx) (c : Call) (tc : TC) : TT := fun σ H Q => ∃ g τ h t h', Rl fx g H τ σ h ∧ tc c τ h = .ok t h' ∧ ∀ g' H', Rl fx g' H' τ σ h' → En fx.p g H g' H' → Q t H'
def tA (fx : Fx) (b : Bool) (c : Call) (ac : AC) : TA := fun σ H Q => ∃ g τ h ts h', Rl fx g H τ σ h ∧ ac c τ h = .ok ts h' ∧ ∀ g' H' vs, Rl fx g' H' τ σ h' → En fx.p g H g' H' → RBs fx b g' H' τ σ ts vs → Q vs H'
section
variable {X : Cx} {p b : Bool} {g0 : G} {H0 : Hp} {c : Call} {e e1 e2 e3 : Expr} {es : List Expr} {ea eb ed : EC} {oa ob : OC} {tc td : TC} {ac : AC} {n i : Nat} {x : Str} {pos px : Pos}
theorem pVar (hN : X.N[i]? = some x) (hv : Vis X.env.scope x) (hd : (x == ("__debug__" : Str)) = false := by decide) (hcd : (x == ("__classdict__" : Str)) = false := by decide) : PE X (.Name x pos) (tE (Fix X p g0 H0) b c (eVar i)) :=
  (pe_var hN hv hd hcd).imp fun σ H Q ⟨g, τ, h, t, h', l, ee, k⟩ => by
    unfold eVar at ee
    split at ee
    · rename_i t' eq
      cases ee
      obtain ⟨v, q1, q2⟩ := l.val i _ eq
      exact ⟨v, q1, k g H v l En.refl (.inl q2)⟩
    · cases ee
theorem pBor (hN : X.N[i]? = some x) (hv : Vis X.env.scope x) (hd : (x == ("__debug__" : Str)) = false := by decide) (hcd : (x == ("__classdict__" : Str)) = false := by decide) : PE X (.Name x pos) (tE (Fix X p g0 H0) true c (eBor i)) :=
  (pe_var hN hv hd hcd).imp fun σ H Q ⟨g, τ, h, t, h', l, ee, k⟩ => by
    unfold eBor at ee
    split at ee
    · rename_i t' eq
      cases ee
      obtain ⟨v, q1, q2⟩ := l.val i _ eq
      exact ⟨v, q1, k g H v l En.refl (.inl q2)⟩
    · rename_i t' eq
      cases ee
      obtain ⟨a, q1, q2⟩ := l.own i _ eq
      exact ⟨.ref a, q1, k g H _ l En.refl (.inr ⟨rfl, i, t', a, eq, q1, rfl, rfl⟩)⟩
    · cases ee
theorem pK {v : V} {t : T} (h : PE X e (tC v)) (r : ∀ g H, RT X.K g H t v) : PE X e (tE (Fix X p g0 H0) b c (eK t)) :=
  h.imp fun σ H Q ⟨g, τ, h, t, h', l, ee, k⟩ => by
    cases ee
    exact k g H v l En.refl (.inl (r g H))
theorem pInt {z : Int} {j} : PE X (.Constant (.int z) j pos) (tE (Fix X p g0 H0) b c (eK (.int z))) := pK pe_int fun _ _ => .int z
theorem pBl {z : Bool} {j} : PE X (.Constant (.bool z) j pos) (tE (Fix X p g0 H0) b c (eK (.bl z))) := pK pe_bl fun _ _ => .bl z
theorem pNon {j} : PE X (.Constant .none j pos) (tE (Fix X p g0 H0) b c (eK .non)) := pK pe_non fun _ _ => .non
theorem pStr {z : Str} {y : S} {j} (hy : z.cps.toList = y := by rfl) : PE X (.Constant (.str z) j pos) (tE (Fix X p g0 H0) b c (eK (.str y))) := pK pe_str fun _ _ => by subst hy; exact .str z
theorem pGlob {v : V} {w : Value} {t : T} (hg : Gl X x) (hm : X.mg x = some w) (r : RelV v w) (rt : ∀ g H, RT X.K g H t v) (hd : (x == ("__debug__" : Str)) = false := by decide) : PE X (.Name x pos) (tE (Fix X p g0 H0) b c (eK t)) := pK (pe_glob hg hm r hd) rt
/-- held is also looked at -/
theorem pUp (h : PE X e (tE (Fix X p g0 H0) false c ea)) : PE X e (tE (Fix X p g0 H0) b c ea) := h.imp fun σ H Q ⟨g, τ, h, t, h', l, ee, k⟩ => ⟨g, τ, h, t, h', l, ee, fun g' H' v l' s r => k g' H' v l' s r.up⟩
theorem pOwn (h : PE X e (tO (Fix X p g0 H0) c oa)) : PE X e (tE (Fix X p g0 H0) b c (eOwn oa)) := h.imp fun σ H Q ⟨g, τ, h, t, h', l, ee, k⟩ => by
  obtain ⟨r, h1, e1, e2⟩ := R.bind_ok ee
  cases e2
  refine ⟨g, τ, h, r, _, l, e1, fun g' H' v l' s q => ?_⟩
  obtain ⟨g2, l2, s2, q2⟩ := q.keep l l' s
  exact k g2 H' v l2 s2 (.inl q2)
theorem pVal (h : PE X e (tE (Fix X p g0 H0) false c ea)) : PE X e (tO (Fix X p g0 H0) c (oVal ea)) := h.imp fun σ H Q ⟨g, τ, h, t, h', l, ee, k⟩ => by
  obtain ⟨r, h1, e1, e2⟩ := R.bind_ok ee
  cases e2
  exact ⟨g, τ, h, r, _, l, e1, fun g' H' v l' s q => k g' H' v l' s q.rt⟩
/-- arguments: their reading, their number -/
structure PAs (X : Cx) (fx : Fx) (b : Bool) (c : Call) (n : Nat) (es : List Expr) (ac : AC) : Prop where
  pa : PA X es (tA fx b c ac)
  len : ∀ c e h ts h', ac c e h = .ok ts h' → ts.length = n
theorem pNil : PAs X (Fix X p g0 H0) b c 0 [] aNil := ⟨pa_nil.imp fun σ H Q ⟨g, τ, h, ts, h', l, ee, k⟩ => by
  cases ee
  exact k g H [] l En.refl .nil, fun _ _ _ _ _ ee => by cases ee; rfl⟩
theorem pCons (he : PE X e (tE (Fix X p g0 H0) b c ea)) (hr : PAs X (Fix X p g0 H0) b c n es ac) (hs : starEach (e :: es) X.env = (false, eval e X.env) :: starEach es X.env := by rfl) :
    PAs X (Fix X p g0 H0) b c (n + 1) (e :: es) (aCons ea ac) := ⟨(pa_cons he hr.pa hs).imp fun σ H Q ⟨g, τ, h, ts, h', l, ee, k⟩ => by
  obtain ⟨t, h1, e1, e2⟩ := R.bind_ok ee
  obtain ⟨us, h2, e3, e4⟩ := R.bind_ok e2
  cases e4
  refine ⟨g, τ, h, t, h1, l, e1, fun g1 H1 v l1 s1 r1 => ⟨g1, τ, h1, us, _, l1, e3, fun g2 H2 vs l2 s2 r2 => k g2 H2 _ l2 (s1.tr s2) (.cons (r1.step (s2.sp l1.heap)) r2)⟩⟩,
  fun c e h ts h' ee => by
    obtain ⟨t, h1, e1, e2⟩ := R.bind_ok ee
    obtain ⟨us, h2, e3, e4⟩ := R.bind_ok e2
    cases e4
    exact congrArg Nat.succ (hr.len _ _ _ _ _ e3)⟩
theorem pTup {x1} (h : PAs X (Fix X p g0 H0) false c n es ac) (hn : Nat.ble n LIM = true := by rfl) : PE X (.Tuple es x1 pos) (tE (Fix X p g0 H0) b c (eTup ac)) := (pe_tup h.pa).imp fun σ H Q ⟨g, τ, h', t, h2, l, ee, k⟩ => by
  obtain ⟨ts, h1, e1, e2⟩ := R.bind_ok ee
  cases e2
  refine ⟨g, τ, h', ts, _, l, e1, fun g1 H1 vs l1 s1 r1 => ⟨by rw [← LIM_eq, ← r1.rt.length, h.len _ _ _ _ _ e1]; exact Nat.le_of_ble_eq_true hn, fun q hq => ?_⟩⟩
  exact k _ _ _ (l1.laid hq) (s1.tr (En.laid hq)) (.inl (.tup (SqT.of upd_same) (r1.rt.step (l1.sp_laid hq))))
theorem pLst (h : PAs X (Fix X p g0 H0) false c n es ac) (hn : Nat.ble n LIM = true := by rfl) : PE X (.List es pos) (tO (Fix X p g0 H0) c (oLst ac)) := (pe_lst h.pa).imp fun σ H Q ⟨g, τ, h', t, h2, l, ee, k⟩ => by
  obtain ⟨ts, h1, e1, e2⟩ := R.bind_ok ee
  cases e2
  refine ⟨g, τ, h', ts, _, l, e1, fun g1 H1 vs l1 s1 r1 => ⟨by rw [← LIM_eq, ← r1.rt.length, h.len _ _ _ _ _ e1]; exact Nat.le_of_ble_eq_true hn, fun q hq => ?_⟩⟩
  obtain ⟨n1, n2, n3, n4⟩ := l1.new hq
  exact k _ _ _ (l1.laid hq) (s1.tr (En.laid hq)) ⟨q, rfl, .lst upd_same (r1.rt.step (l1.sp_laid hq)), n1, n2, s1.back hq⟩
theorem pDic : PE X (.Dict [] [] pos) (tO (Fix X p g0 H0) c (fun _ _ h => .ok (.own (.dic [])) h)) := pe_dnewK.imp fun σ H Q ⟨g, τ, h', t, h2, l, ee, k⟩ => by
  cases ee
  intro q hq
  obtain ⟨n1, n2, n3, n4⟩ := l.new hq
  exact k _ _ _ (l.laid hq) (En.laid hq) ⟨q, rfl, .dic upd_same .nil, n1, n2, hq⟩
theorem two_in {f : Hs → T → T → Option T} {σ : L2.St} {H : Hp} {Q : VK} (q : tE (Fix X p g0 H0) b c (eOp2 f ea eb) σ H Q) : tOp (r2 (Fix X p g0 H0) f) (tE (Fix X p g0 H0) true c ea) (tE (Fix X p g0 H0) true c eb) σ H Q := by
  obtain ⟨g, τ, h, t, h', l, ee, k⟩ := q
  obtain ⟨t1, h1, e1, e2⟩ := R.bind_ok ee
  obtain ⟨t2, h2, e3, e4⟩ := R.bind_ok e2
  obtain ⟨e5, rfl⟩ := R.opt_ok e4
  exact ⟨g, τ, h, t1, h1, l, e1, fun g1 H1 v l1 s1 r1 => ⟨g1, τ, h1, t2, h2, l1, e3, fun g2 H2 w l2 s2 r2 => ⟨g2, τ, σ, h2, t1, t2, t, l2, r1.step (s2.sp l1.heap), r2, e5, fun g3 H3 z l3 s3 r3 => k g3 H3 z l3 ((s1.tr s2).tr s3) (.inl r3)⟩⟩⟩
theorem two_inR {f : Hs → T → T → Option RV} {σ : L2.St} {H : Hp} {Q : VK} (q : tO (Fix X p g0 H0) c (oOp2 f ea eb) σ H Q) : tOp (r2R (Fix X p g0 H0) f) (tE (Fix X p g0 H0) true c ea) (tE (Fix X p g0 H0) true c eb) σ H Q := by
  obtain ⟨g, τ, h, t, h', l, ee, k⟩ := q
  obtain ⟨t1, h1, e1, e2⟩ := R.bind_ok ee
  obtain ⟨t2, h2, e3, e4⟩ := R.bind_ok e2
  obtain ⟨e5, rfl⟩ := R.opt_ok e4
  exact ⟨g, τ, h, t1, h1, l, e1, fun g1 H1 v l1 s1 r1 => ⟨g1, τ, h1, t2, h2, l1, e3, fun g2 H2 w l2 s2 r2 => ⟨g2, τ, σ, h2, t1, t2, t, l2, r1.step (s2.sp l1.heap), r2, e5, fun g3 H3 z l3 s3 r3 => k g3 H3 z l3 ((s1.tr s2).tr s3) (r3.back (s1.tr s2))⟩⟩⟩
theorem pOp {op : Operator} {f : Hs → T → T → Option T} (ho : OpR X (binaryOp op) (r2 (Fix X p g0 H0) f)) (ha : PE X e1 (tE (Fix X p g0 H0) true c ea)) (hb : PE X e2 (tE (Fix X p g0 H0) true c eb)) : PE X (.BinOp e1 op e2 pos) (tE (Fix X p g0 H0) b c (eOp2 f ea eb)) :=
  (pe_op ho ha hb).imp fun _ _ _ => two_in
theorem pOpR {op : Operator} {f : Hs → T → T → Option RV} (ho : OpR X (binaryOp op) (r2R (Fix X p g0 H0) f)) (ha : PE X e1 (tE (Fix X p g0 H0) true c ea)) (hb : PE X e2 (tE (Fix X p g0 H0) true c eb)) : PE X (.BinOp e1 op e2 pos) (tO (Fix X p g0 H0) c (oOp2 f ea eb)) :=
  (pe_op ho ha hb).imp fun _ _ _ => two_inR
theorem pCmp {op : CmpOp} {f : Hs → T → T → Option T} (ho : OpR X (compareOp op) (r2 (Fix X p g0 H0) f)) (ha : PE X e1 (tE (Fix X p g0 H0) true c ea)) (hb : PE X e2 (tE (Fix X p g0 H0) true c eb)) (hm : behindInMarks op e2 = false := by with_unfolding_all rfl) :
    PE X (.Compare e1 [op] [e2] pos) (tE (Fix X p g0 H0) b c (eOp2 f ea eb)) := (pe_cmpR ho ha hb hm).imp fun _ _ _ => two_in
theorem tCmp {op : CmpOp} {f : Hs → T → T → Option T} (ho : OpR X (compareOp op) (r2 (Fix X p g0 H0) f)) (ha : PE X e1 (tE (Fix X p g0 H0) true c ea)) (hb : PE X e2 (tE (Fix X p g0 H0) true c eb)) (hm : behindInMarks op e2 = false := by with_unfolding_all rfl) :
    PT X (.Compare e1 [op] [e2] pos) (tT (Fix X p g0 H0) c (tBl (eOp2 f ea eb))) := (pt_cmpR ho ha hb hm).imp fun σ H Q ⟨g, τ, h, t, h', l, ee, k⟩ => by
  obtain ⟨t1, h1, e1, e2⟩ := R.bind_ok ee
  cases t1 with
  | bl z =>
    cases e2
    exact two_in (b := false) ⟨g, τ, h, .bl t, h', l, e1, fun g' H' v l' s' r' => ⟨t, r'.bl, k g' H' l' s'⟩⟩
  | _ => cases e2
theorem truth_ok {fx : Fx} {g : G} {H : Hp} {τ : List Slot} {σ : L2.St} {h : Hs} {t : T} {v : V} {k : Bool} (l : Rl fx g H τ σ h) (r : RB fx b g H τ σ t v) (e : truth h t = some k) : TruV fx.K v H k := by
  unfold truth at e
  split at e
  · rename_i ei
    cases e
    have et : t = .non := by
      cases t with
      | ref n =>
        cases z : h[n]? with
        | none => rw [deref_none z] at ei; cases ei
        | some c => rw [deref_some z] at ei; cases c <;> cases ei
      | _ => exact ei
    cases et
    rw [r.non]; rfl
  · rename_i ei
    cases e
    have et : t = .bl k := by
      cases t with
      | ref n =>
        cases z : h[n]? with
        | none => rw [deref_none z] at ei; cases ei
        | some c => rw [deref_some z] at ei; cases c <;> cases ei
      | _ => exact ei
    cases et
    rw [r.bl]; rfl
  · rename_i i ei
    cases e
    cases deref_int ei
    rw [r.int]
    show decide (i ≠ 0) = (i != 0)
    by_cases z : i = 0 <;> simp [z]
  · rename_i x ei
    split at e
    · rename_i hl
      cases e
      cases deref_str ei
      obtain ⟨y, rfl, rfl⟩ := r.str
      refine ⟨by rw [Str_len, ← LIM_eq]; exact hl, ?_⟩
      rw [Str_len]
      cases y.cps.toList with
      | nil => rfl
      | cons a l => simp; omega
    · cases e
  · rename_i ei
    cases e
    obtain ⟨a, vs, rfl, q, m⟩ := l.tup r ei
    refine .inr (.inl ⟨vs, q, ?_⟩)
    cases m <;> rfl
  · rename_i ei
    cases e
    obtain ⟨a, vs, rfl, q, m⟩ := l.scr r ei
    refine .inl ⟨vs, q, ?_⟩
    cases m <;> rfl
  · rename_i ei
    cases e
    obtain ⟨a, vs, rfl, q, m⟩ := l.lst r ei
    refine .inl ⟨vs, SqL.of q, ?_⟩
    cases m <;> rfl
  · rename_i ei
    cases e
    obtain ⟨a, vs, rfl, q, m⟩ := l.dic r ei
    refine .inr (.inr ⟨vs, q, ?_⟩)
    cases m <;> rfl
  · cases e
theorem tTruth (ha : PE X e (tE (Fix X p g0 H0) true c ea)) (he : ∀ whole, isTrue e X.env whole = (do let v ← whole; standAt e.pos; holding [v] (truthy v)) := by exact fun _ => rfl) : PT X e (tT (Fix X p g0 H0) c (tTru ea)) := (pt_truth ha he).imp fun σ H Q ⟨g, τ, h, t, h', l, ee, k⟩ => by
  obtain ⟨t1, h1, e1, e2⟩ := R.bind_ok ee
  obtain ⟨e3, rfl⟩ := R.opt_ok e2
  exact ⟨g, τ, h, t1, h1, l, e1, fun g' H' v l' s' r' => ⟨t, truth_ok l' r' e3, k g' H' l' s'⟩⟩
theorem tNot' (h : PT X e (tT (Fix X p g0 H0) c tc)) : PT X (.UnaryOp .Not e pos) (tT (Fix X p g0 H0) c (tNot tc)) := (pt_not h).imp fun σ H Q ⟨g, τ, h, t, h', l, ee, k⟩ => by
  obtain ⟨t1, h1, e1, e2⟩ := R.bind_ok ee
  cases e2
  exact ⟨g, τ, h, t1, _, l, e1, k⟩
theorem wAnd1 (h : PT X e (tT (Fix X p g0 H0) c tc)) : PW X (.BoolOp .And [e] pos) (tT (Fix X p g0 H0) c tc) := pw_and1 h
theorem wOr1 (h : PT X e (tT (Fix X p g0 H0) c tc)) : PW X (.BoolOp .Or [e] pos) (tT (Fix X p g0 H0) c tc) := pw_or1 h
theorem wAnd (h1 : PT X e (tT (Fix X p g0 H0) c tc)) (h2 : PW X (.BoolOp .And (e2 :: es) pos) (tT (Fix X p g0 H0) c td)) : PW X (.BoolOp .And (e :: e2 :: es) pos) (tT (Fix X p g0 H0) c (tAnd tc td)) := (pw_and h1 h2).imp fun σ H Q ⟨g, τ, h, t, h', l, ee, k⟩ => by
  obtain ⟨t1, h1, e1, e2⟩ := R.bind_ok ee
  refine ⟨g, τ, h, t1, h1, l, e1, fun g' H' l' s' => ?_⟩
  cases t1 with
  | true => exact ⟨g', τ, h1, t, h', l', e2, fun g2 H2 l2 s2 => k g2 H2 l2 (s'.tr s2)⟩
  | false => cases e2; exact k g' H' l' s'
theorem wOr (h1 : PT X e (tT (Fix X p g0 H0) c tc)) (h2 : PW X (.BoolOp .Or (e2 :: es) pos) (tT (Fix X p g0 H0) c td)) : PW X (.BoolOp .Or (e :: e2 :: es) pos) (tT (Fix X p g0 H0) c (tOr tc td)) := (pw_or h1 h2).imp fun σ H Q ⟨g, τ, h, t, h', l, ee, k⟩ => by
  obtain ⟨t1, h1, e1, e2⟩ := R.bind_ok ee
  refine ⟨g, τ, h, t1, h1, l, e1, fun g' H' l' s' => ?_⟩
  cases t1 with
  | false => exact ⟨g', τ, h1, t, h', l', e2, fun g2 H2 l2 s2 => k g2 H2 l2 (s'.tr s2)⟩
  | true => cases e2; exact k g' H' l' s'
theorem pOne {op} {t : TE} (h : PE X e t) : PE X (.BoolOp op [e] pos) t := pe_one h
theorem pAnd (h1 : PE X e (tE (Fix X p g0 H0) b c ea)) (h2 : PE X (.BoolOp .And (e2 :: es) pos) (tE (Fix X p g0 H0) b c eb)) : PE X (.BoolOp .And (e :: e2 :: es) pos) (tE (Fix X p g0 H0) b c (eAnd ea eb)) := (pe_andT h1 h2).imp fun σ H Q ⟨g, τ, h, t, h', l, ee, k⟩ => by
  obtain ⟨t1, h1, e1, e2⟩ := R.bind_ok ee
  refine ⟨g, τ, h, t1, h1, l, e1, fun g' H' v l' s' r' => ?_⟩
  split at e2
  · rename_i z
    exact ⟨true, truth_ok l' r' z, g', τ, h1, t, h', l', e2, fun g2 H2 v2 l2 s2 r2 => k g2 H2 v2 l2 (s'.tr s2) r2⟩
  · rename_i z
    cases e2
    exact ⟨false, truth_ok l' r' z, k g' H' v l' s' r'⟩
  · cases e2
theorem pOr (h1 : PE X e (tE (Fix X p g0 H0) b c ea)) (h2 : PE X (.BoolOp .Or (e2 :: es) pos) (tE (Fix X p g0 H0) b c eb)) : PE X (.BoolOp .Or (e :: e2 :: es) pos) (tE (Fix X p g0 H0) b c (eOr ea eb)) := (pe_orT h1 h2).imp fun σ H Q ⟨g, τ, h, t, h', l, ee, k⟩ => by
  obtain ⟨t1, h1, e1, e2⟩ := R.bind_ok ee
  refine ⟨g, τ, h, t1, h1, l, e1, fun g' H' v l' s' r' => ?_⟩
  split at e2
  · rename_i z
    exact ⟨false, truth_ok l' r' z, g', τ, h1, t, h', l', e2, fun g2 H2 v2 l2 s2 r2 => k g2 H2 v2 l2 (s'.tr s2) r2⟩
  · rename_i z
    cases e2
    exact ⟨true, truth_ok l' r' z, k g' H' v l' s' r'⟩
  · cases e2
theorem pNot (h : PE X e (tE (Fix X p g0 H0) true c ea)) : PE X (.UnaryOp .Not e pos) (tE (Fix X p g0 H0) b c (eNot ea)) := (pe_notT h).imp fun σ H Q ⟨g, τ, h, t, h', l, ee, k⟩ => by
  obtain ⟨t1, h1, e1, e2⟩ := R.bind_ok ee
  refine ⟨g, τ, h, t1, h1, l, e1, fun g' H' v l' s' r' => ?_⟩
  split at e2
  · rename_i z q
    cases e2
    exact ⟨z, truth_ok l' r' q, k g' H' _ l' s' (.inl (.bl _))⟩
  · cases e2
theorem pIf (h : PT X e (tT (Fix X p g0 H0) c tc)) (h1 : PE X e1 (tE (Fix X p g0 H0) b c ea)) (h2 : PE X e2 (tE (Fix X p g0 H0) b c eb)) : PE X (.IfExp e e1 e2 pos) (tE (Fix X p g0 H0) b c (eIf tc ea eb)) := (pe_ifExp h h1 h2).imp fun σ H Q ⟨g, τ, h, t, h', l, ee, k⟩ => by
  obtain ⟨t1, h1, e1, e2⟩ := R.bind_ok ee
  refine ⟨g, τ, h, t1, h1, l, e1, fun g' H' l' s' => ?_⟩
  cases t1 with
  | true => exact ⟨g', τ, h1, t, h', l', e2, fun g2 H2 v2 l2 s2 r2 => k g2 H2 v2 l2 (s'.tr s2) r2⟩
  | false => exact ⟨g', τ, h1, t, h', l', e2, fun g2 H2 v2 l2 s2 r2 => k g2 H2 v2 l2 (s'.tr s2) r2⟩
theorem pIfO (h : PT X e (tT (Fix X p g0 H0) c tc)) (h1 : PE X e1 (tO (Fix X p g0 H0) c oa)) (h2 : PE X e2 (tO (Fix X p g0 H0) c ob)) : PE X (.IfExp e e1 e2 pos) (tO (Fix X p g0 H0) c (oIf tc oa ob)) := (pe_ifExp h h1 h2).imp fun σ H Q ⟨g, τ, h, t, h', l, ee, k⟩ => by
  obtain ⟨t1, h1, e1, e2⟩ := R.bind_ok ee
  refine ⟨g, τ, h, t1, h1, l, e1, fun g' H' l' s' => ?_⟩
  cases t1 with
  | true => exact ⟨g', τ, h1, t, h', l', e2, fun g2 H2 v2 l2 s2 r2 => k g2 H2 v2 l2 (s'.tr s2) (r2.back s')⟩
  | false => exact ⟨g', τ, h1, t, h', l', e2, fun g2 H2 v2 l2 s2 r2 => k g2 H2 v2 l2 (s'.tr s2) (r2.back s')⟩
theorem chain_in {f f' : Hs → T → T → Option T} {σ : L2.St} {H : Hp} {Q : VK} (q : tE (Fix X p g0 H0) b c (eChain f f' ea eb ed) σ H Q) :
    tChain (r2 (Fix X p g0 H0) f) (r2 (Fix X p g0 H0) f') (tE (Fix X p g0 H0) true c ea) (tE (Fix X p g0 H0) true c eb) (tE (Fix X p g0 H0) true c ed) σ H Q := by
  obtain ⟨g, τ, h, t, h', l, ee, k⟩ := q
  obtain ⟨t1, h1, e1, e2⟩ := R.bind_ok ee
  obtain ⟨t2, h2, e3, e4⟩ := R.bind_ok e2
  refine ⟨g, τ, h, t1, h1, l, e1, fun g1 H1 v l1 s1 r1 => ⟨g1, τ, h1, t2, h2, l1, e3, fun g2 H2 w l2 s2 r2 => ?_⟩⟩
  split at e4
  · rename_i z
    refine ⟨g2, τ, σ, h2, t1, t2, _, l2, r1.step (s2.sp l1.heap), r2, z, fun g3 H3 y l3 s3 r3 => ?_⟩
    cases r3
    obtain ⟨t3, h3, e5, e6⟩ := R.bind_ok e4
    split at e6
    · rename_i k2 z2
      cases e6
      exact ⟨true, rfl, g3, τ, h2, t3, h', l3, e5, fun g4 H4 y4 l4 s4 r4 => ⟨g4, τ, σ, h', t2, t3, _, l4, r2.step ((s3.tr s4).sp l2.heap), r4, z2, fun g5 H5 y5 l5 s5 r5 => k g5 H5 y5 l5 ((((s1.tr s2).tr s3).tr s4).tr s5) (.inl r5)⟩⟩
    · cases e6
  · rename_i z
    cases e4
    refine ⟨g2, τ, σ, _, t1, t2, _, l2, r1.step (s2.sp l1.heap), r2, z, fun g3 H3 y l3 s3 r3 => ?_⟩
    cases r3
    exact ⟨false, rfl, k g3 H3 _ l3 ((s1.tr s2).tr s3) (.inl (.bl _))⟩
  · cases e4
theorem pChain {op op' : CmpOp} {f f' : Hs → T → T → Option T} (ho : OpR X (compareOp op) (r2 (Fix X p g0 H0) f)) (ho' : OpR X (compareOp op') (r2 (Fix X p g0 H0) f'))
    (h1 : PE X e1 (tE (Fix X p g0 H0) true c ea)) (h2 : PE X e2 (tE (Fix X p g0 H0) true c eb)) (h3 : PE X e3 (tE (Fix X p g0 H0) true c ed)) (hm : lastMarks [op, op'] [e2, e3] = false := by with_unfolding_all rfl) :
    PE X (.Compare e1 [op, op'] [e2, e3] pos) (tE (Fix X p g0 H0) b c (eChain f f' ea eb ed)) := (pe_chain ho ho' h1 h2 h3 hm).imp fun _ _ _ => chain_in
theorem tChain' {op op' : CmpOp} {f f' : Hs → T → T → Option T} (ho : OpR X (compareOp op) (r2 (Fix X p g0 H0) f)) (ho' : OpR X (compareOp op') (r2 (Fix X p g0 H0) f'))
    (h1 : PE X e1 (tE (Fix X p g0 H0) true c ea)) (h2 : PE X e2 (tE (Fix X p g0 H0) true c eb)) (h3 : PE X e3 (tE (Fix X p g0 H0) true c ed)) (hm : lastMarks [op, op'] [e2, e3] = false := by with_unfolding_all rfl) :
    PT X (.Compare e1 [op, op'] [e2, e3] pos) (tT (Fix X p g0 H0) c (tBl (eChain f f' ea eb ed))) := (pt_chain ho ho' h1 h2 h3 hm).imp fun σ H Q ⟨g, τ, h, t, h', l, ee, k⟩ => by
  obtain ⟨t1, h1, e1, e2⟩ := R.bind_ok ee
  cases t1 with
  | bl z =>
    cases e2
    exact chain_in (b := false) ⟨g, τ, h, .bl t, h', l, e1, fun g' H' v l' s' r' => ⟨t, r'.bl, k g' H' l' s'⟩⟩
  | _ => cases e2
theorem pIxS (ha : PE X e1 (tE (Fix X p g0 H0) true c ea)) (hb : PE X e2 (tE (Fix X p g0 H0) true c eb)) (hs : PlainIx e2 := by exact fun _ _ => rfl) : PE X (.Subscript e1 e2 pos) (tE (Fix X p g0 H0) b c (eOp2 fIxS ea eb)) := (pe_ix o_ix ha hb hs).imp fun _ _ _ => two_in
theorem pIx (hu : X.A.units + 1 < cLine) (ha : PE X e1 (tE (Fix X p g0 H0) true c ea)) (hb : PE X e2 (tE (Fix X p g0 H0) true c eb)) (hs : PlainIx e2 := by exact fun _ _ => rfl) (hs2 : NoSl e2 := by exact fun _ _ => rfl) : PE X (.Subscript e1 e2 pos) (tE (Fix X p g0 H0) b c (eOp2 fIx ea eb)) :=
  PE.or (pIxS (b := b) ha hb hs) (pe_dget hu ha hb hs2) fun σ H Q ⟨g, τ, h, t, h', l, ee, k⟩ => by
    obtain ⟨t1, h1, e1, e2⟩ := R.bind_ok ee
    obtain ⟨t2, h2, e3, e4⟩ := R.bind_ok e2
    obtain ⟨e5, rfl⟩ := R.opt_ok e4
    unfold fIx at e5
    split at e5
    · rename_i ps ei
      split at e5
      · rename_i ky ek
        refine .inr ⟨g, τ, h, t1, h1, l, e1, fun g1 H1 v l1 s1 r1 => ⟨g1, τ, h1, t2, h2, l1, e3, fun g2 H2 w l2 s2 r2 => ?_⟩⟩
        obtain ⟨a, kvs, rfl, q, m⟩ := l2.dic (r1.step (s2.sp l1.heap)) ei
        obtain ⟨q', kq, rfl⟩ := r2.key ek
        rcases m.look kq with ⟨t', v', z1, z2, z3⟩ | ⟨z1, _⟩
        · rw [e5] at z1; cases z1
          exact ⟨a, v', rfl, by rw [← z2]; exact DGet.k q, k g2 H2 v' l2 (s1.tr s2) (.inl z3)⟩
        · rw [e5] at z1; cases z1
      · cases e5
    · refine .inl ⟨g, τ, h, t, h2, l, ?_, k⟩
      unfold eOp2
      rw [e1]
      show (eb c τ h1).bind _ = _
      rw [e3]
      show R.opt _ _ = _
      rw [e5]; rfl
end
end Gt
end
section
set_option Elab.async false
set_option linter.all false
set_option maxRecDepth 20000
namespace Gt
open PySem L2
/-- R's continuation, of a part -/
def tP (fx : Fx) (c : Call) (a : Option EC) : TO := fun σ H Q => ∃ g τ h o h', Rl fx g H τ σ h ∧ part a c τ h = .ok o h' ∧ ∀ g' H', Rl fx g' H' τ σ h' → En fx.p g H g' H' → Q o H'
section
variable {X : Cx} {p b : Bool} {g0 : G} {H0 : Hp} {c : Call} {e e1 e2 e3 : Expr} {es : List Expr} {lo hi : Option Expr} {ea eb ed : EC} {oa ob : OC} {pl pu : Option EC} {ac : AC} {n i : Nat} {x : Str} {pos px p2 : Pos} {id Tn : String}
theorem pPart0 : PO X none (tP (Fix X p g0 H0) c none) := ⟨fun pins s σ H Q I ⟨g, τ, h, o, h', l, ee, k⟩ => po_none.run pins s σ H Q I (by cases ee; exact k g H l En.refl)⟩
theorem pPart1 (ha : PE X e (tE (Fix X p g0 H0) false c ea)) : PO X (some e) (tP (Fix X p g0 H0) c (some ea)) := ⟨fun pins s σ H Q I ⟨g, τ, h, o, h', l, ee, k⟩ => (po_some ha).run pins s σ H Q I (by
  obtain ⟨t1, h1, e1, e2⟩ := R.bind_ok ee
  split at e2
  · cases e2
    exact ⟨g, τ, h, _, _, l, e1, fun g1 H1 v l1 s1 r1 => ⟨_, r1.int, k g1 H1 l1 s1⟩⟩
  · cases e2)⟩
theorem pSl (ha : PE X e (tE (Fix X p g0 H0) true c ea)) (hl : PO X lo (tP (Fix X p g0 H0) c pl)) (hu : PO X hi (tP (Fix X p g0 H0) c pu)) : PE X (.Subscript e (.Slice lo hi none p2) pos) (tO (Fix X p g0 H0) c (oSl ea pl pu)) := (pe_slice o_sl ha hl hu).imp fun σ H Q ⟨g, τ, h, t, h', l, ee, k⟩ => by
  obtain ⟨t1, h1, e1, e2⟩ := R.bind_ok ee
  obtain ⟨t2, h2, e3, e4⟩ := R.bind_ok e2
  obtain ⟨t3, h3, e5, e6⟩ := R.bind_ok e4
  obtain ⟨e7, rfl⟩ := R.opt_ok e6
  exact ⟨g, τ, h, t1, h1, l, e1, fun g1 H1 v l1 s1 r1 => ⟨g1, τ, h1, t2, h2, l1, e3, fun g2 H2 l2 s2 => ⟨g2, τ, h2, t3, h3, l2, e5, fun g3 H3 l3 s3 => ⟨g3, τ, σ, h3, t1, t, l3, r1.step ((s2.tr s3).sp l1.heap), e7, fun g4 H4 z l4 s4 r4 => k g4 H4 z l4 (((s1.tr s2).tr s3).tr s4) (r4.back ((s1.tr s2).tr s3))⟩⟩⟩⟩
theorem c1_in {f : Hs → T → Option T} {σ : L2.St} {H : Hp} {Q : VK} (q : tE (Fix X p g0 H0) b c (eOp1 f ea) σ H Q) : tCB (c1 (Fix X p g0 H0) f) (tCons (tE (Fix X p g0 H0) true c ea) tNil) σ H Q := by
  obtain ⟨g, τ, h, t, h', l, ee, k⟩ := q
  obtain ⟨t1, h1, e1, e2⟩ := R.bind_ok ee
  obtain ⟨e3, rfl⟩ := R.opt_ok e2
  exact ⟨g, τ, h, t1, h1, l, e1, fun g1 H1 v l1 s1 r1 => ⟨v, rfl, g1, τ, σ, h1, t1, t, l1, r1, e3, fun g2 H2 z l2 s2 r2 => k g2 H2 z l2 (s1.tr s2) (.inl r2)⟩⟩
theorem c1R_in {f : Hs → T → Option RV} {σ : L2.St} {H : Hp} {Q : VK} (q : tO (Fix X p g0 H0) c (oOp1 f ea) σ H Q) : tCB (c1R (Fix X p g0 H0) f) (tCons (tE (Fix X p g0 H0) true c ea) tNil) σ H Q := by
  obtain ⟨g, τ, h, t, h', l, ee, k⟩ := q
  obtain ⟨t1, h1, e1, e2⟩ := R.bind_ok ee
  obtain ⟨e3, rfl⟩ := R.opt_ok e2
  exact ⟨g, τ, h, t1, h1, l, e1, fun g1 H1 v l1 s1 r1 => ⟨v, rfl, g1, τ, σ, h1, t1, t, l1, r1, e3, fun g2 H2 z l2 s2 r2 => k g2 H2 z l2 (s1.tr s2) (r2.back s1)⟩⟩
theorem c2_in {f : Hs → T → T → Option T} {σ : L2.St} {H : Hp} {Q : VK} (q : tE (Fix X p g0 H0) b c (eOp2 f ea eb) σ H Q) : tCB (c2 (Fix X p g0 H0) f) (tCons (tE (Fix X p g0 H0) true c ea) (tCons (tE (Fix X p g0 H0) true c eb) tNil)) σ H Q := by
  obtain ⟨g, τ, h, t1, h1, l, e1, k⟩ := two_in q
  exact ⟨g, τ, h, t1, h1, l, e1, fun g1 H1 v l1 s1 r1 => by
    obtain ⟨g', τ', h', t2, h2, l', e2, k2⟩ := k g1 H1 v l1 s1 r1
    exact ⟨g', τ', h', t2, h2, l', e2, fun g2 H2 w l2 s2 r2 => ⟨v, w, rfl, k2 g2 H2 w l2 s2 r2⟩⟩⟩
theorem pB1 {f : Hs → T → Option T} (hc : CallR X (.builtin id) (c1 (Fix X p g0 H0) f)) (hg : Gl X x) (hm : X.mg x = none) (hv : bootBuiltins x = some (.builtin id)) (ha : PE X e (tE (Fix X p g0 H0) true c ea)) (hn : x ≠ "__name__" := by decide) (hdb : (x == ("__debug__" : Str)) = false := by decide)
    (he : starEach [e] X.env = (false, eval e X.env) :: starEach [] X.env := by rfl) : PE X (.Call (.Name x px) [e] [] pos) (tE (Fix X p g0 H0) b c (eOp1 f ea)) := (pe_callB hc hg hm hv (pa_cons ha pa_nil he) hn hdb he rfl).imp fun _ _ _ => c1_in
theorem pB1R {f : Hs → T → Option RV} (hc : CallR X (.builtin id) (c1R (Fix X p g0 H0) f)) (hg : Gl X x) (hm : X.mg x = none) (hv : bootBuiltins x = some (.builtin id)) (ha : PE X e (tE (Fix X p g0 H0) true c ea)) (hn : x ≠ "__name__" := by decide) (hdb : (x == ("__debug__" : Str)) = false := by decide)
    (he : starEach [e] X.env = (false, eval e X.env) :: starEach [] X.env := by rfl) : PE X (.Call (.Name x px) [e] [] pos) (tO (Fix X p g0 H0) c (oOp1 f ea)) := (pe_callB hc hg hm hv (pa_cons ha pa_nil he) hn hdb he rfl).imp fun _ _ _ => c1R_in
theorem pT1 {f : Hs → T → Option T} (hc : CallR X (.type Tn) (c1 (Fix X p g0 H0) f)) (hg : Gl X x) (hm : X.mg x = none) (hv : bootBuiltins x = some (.type Tn)) (ha : PE X e (tE (Fix X p g0 H0) true c ea)) (hn : x ≠ "__name__" := by decide) (hdb : (x == ("__debug__" : Str)) = false := by decide)
    (he : starEach [e] X.env = (false, eval e X.env) :: starEach [] X.env := by rfl) : PE X (.Call (.Name x px) [e] [] pos) (tE (Fix X p g0 H0) b c (eOp1 f ea)) := (pe_callTy hc hg hm hv (pa_cons ha pa_nil he) hn hdb he rfl).imp fun _ _ _ => c1_in
theorem pT1R {f : Hs → T → Option RV} (hc : CallR X (.type Tn) (c1R (Fix X p g0 H0) f)) (hg : Gl X x) (hm : X.mg x = none) (hv : bootBuiltins x = some (.type Tn)) (ha : PE X e (tE (Fix X p g0 H0) true c ea)) (hn : x ≠ "__name__" := by decide) (hdb : (x == ("__debug__" : Str)) = false := by decide)
    (he : starEach [e] X.env = (false, eval e X.env) :: starEach [] X.env := by rfl) : PE X (.Call (.Name x px) [e] [] pos) (tO (Fix X p g0 H0) c (oOp1 f ea)) := (pe_callTy hc hg hm hv (pa_cons ha pa_nil he) hn hdb he rfl).imp fun _ _ _ => c1R_in
theorem pB2 {f : Hs → T → T → Option T} (hc : CallR X (.builtin id) (c2 (Fix X p g0 H0) f)) (hg : Gl X x) (hm : X.mg x = none) (hv : bootBuiltins x = some (.builtin id)) (ha : PE X e1 (tE (Fix X p g0 H0) true c ea)) (hb : PE X e2 (tE (Fix X p g0 H0) true c eb)) (hn : x ≠ "__name__" := by decide) (hdb : (x == ("__debug__" : Str)) = false := by decide)
    (he : starEach [e1, e2] X.env = (false, eval e1 X.env) :: starEach [e2] X.env := by rfl) (he2 : starEach [e2] X.env = (false, eval e2 X.env) :: starEach [] X.env := by rfl) (hpl : (backTo pos (starEach [e2] X.env)).any (·.1) = false := by rfl) :
    PE X (.Call (.Name x px) [e1, e2] [] pos) (tE (Fix X p g0 H0) b c (eOp2 f ea eb)) := (pe_callB hc hg hm hv (pa_cons ha (pa_cons hb pa_nil he2) he) hn hdb he hpl).imp fun _ _ _ => c2_in
def Ty.nm : Ty → String
  | .int => "int" | .bool => "bool" | .str => "str" | .tuple => "tuple" | .list => "list"
theorem ty_has {fx : Fx} {g : G} {H : Hp} {τ : List Slot} {σ : L2.St} {h : Hs} {t : Gt.T} {v : V} (l : Rl fx g H τ σ h) (r : RB fx true g H τ σ t v) : ∀ (y : Ty) (k : Bool), Ty.has h t y = some k → ∃ z, TyX fx.K H v (.type z) ∧ ∀ (y : Ty) (k : Bool), Ty.has h t y = some k → PySem.W.kitOne fx.K (.type z) (.type y.nm) = some k := by
  intro y k e
  have base : (∃ s, deref h t = s ∧ s = .non) ∨ (∃ z, deref h t = .bl z) ∨ (∃ z, deref h t = .int z) ∨ (∃ z, deref h t = .str z) ∨ (∃ z, deref h t = .tup z) ∨ (∃ z, deref h t = .lst z) ∨ (∃ z, deref h t = .dic z) := by
    unfold Ty.has at e
    cases y <;> (cases d : deref h t <;> rw [d] at e <;> first | (cases e; done) | simp)
  rcases base with ⟨s, d, rfl⟩ | ⟨z, d⟩ | ⟨z, d⟩ | ⟨z, d⟩ | ⟨z, d⟩ | ⟨z, d⟩ | ⟨z, d⟩
  · have et : t = .non := by
      cases t with
      | ref n =>
        cases z : h[n]? with
        | none => rw [deref_none z] at d; cases d
        | some c => rw [deref_some z] at d; cases c <;> cases d
      | _ => exact d
    subst et
    rw [r.non]
    refine ⟨"NoneType", .base .non, fun y k e => ?_⟩
    unfold Ty.has at e
    cases y <;> (rw [d] at e; cases e; rfl)
  · have et : t = .bl z := by
      cases t with
      | ref n =>
        cases z : h[n]? with
        | none => rw [deref_none z] at d; cases d
        | some c => rw [deref_some z] at d; cases c <;> cases d
      | _ => exact d
    subst et
    rw [r.bl]
    refine ⟨"bool", .base (.bl z), fun y k e => ?_⟩
    unfold Ty.has at e
    cases y <;> (rw [d] at e; cases e; rfl)
  · cases deref_int d
    rw [r.int]
    refine ⟨"int", .base (.int z), fun y k e => ?_⟩
    unfold Ty.has at e
    cases y <;> (rw [d] at e; cases e; rfl)
  · cases deref_str d
    obtain ⟨w, rfl, rfl⟩ := r.str
    refine ⟨"str", .base (.str w), fun y k e => ?_⟩
    unfold Ty.has at e
    cases y <;> (rw [d] at e; cases e; rfl)
  · obtain ⟨a, vs, rfl, q, m⟩ := l.tup r d
    refine ⟨"tuple", ?_, fun y k e => ?_⟩
    · rcases q with (q | ⟨o, q⟩) | ⟨o, its, n, q, q2, _⟩
      · exact .base (.tup q)
      · exact .fTuple q
      · exact .kTuple q q2
    · unfold Ty.has at e
      cases y <;> (rw [d] at e; cases e; rfl)
  · obtain ⟨a, vs, rfl, q, m⟩ := l.lst r d
    refine ⟨"list", .base (.lst q), fun y k e => ?_⟩
    unfold Ty.has at e
    cases y <;> (rw [d] at e; cases e; rfl)
  · obtain ⟨a, vs, rfl, q, m⟩ := l.dic r d
    refine ⟨"dict", .base (.dK q), fun y k e => ?_⟩
    unfold Ty.has at e
    cases y <;> (rw [d] at e; cases e; rfl)
theorem any_has {fx : Fx} {h : Hs} {t : Gt.T} {z : String} (hz : ∀ (y : Ty) (k : Bool), Ty.has h t y = some k → PySem.W.kitOne fx.K (.type z) (.type y.nm) = some k) : ∀ (ts : List Ty) (k : Bool), anyTy h t ts = some k → PySem.W.kitAny fx.K (.type z) (ts.map fun (y : Ty) => Value.type y.nm) = some k
  | [], k, e => by cases e; rfl
  | y :: ts, k, e => by
    unfold anyTy at e
    split at e
    · rename_i q eq
      split at e
      · rename_i q' eq'
        cases e
        show (match PySem.W.kitOne fx.K (.type z) (.type y.nm) with | some true => some true | some false => PySem.W.kitAny fx.K (.type z) (ts.map fun (y : Ty) => Value.type y.nm) | none => none) = _
        rw [hz y q eq]
        cases q with
        | true => rfl
        | false => exact any_has hz ts q' eq'
      · cases e
    · cases e
/-- isinstance(a, T) -/
theorem pIsi {y : Ty} {pt : Pos} {xt : Str} (hg : Gl X x) (hm : X.mg x = none) (hv : bootBuiltins x = some (.builtin "isinstance")) (ha : PE X e (tE (Fix X p g0 H0) true c ea)) (hg2 : Gl X xt) (hm2 : X.mg xt = none) (hv2 : bootBuiltins xt = some (.type y.nm)) (hn : x ≠ "__name__" := by decide) (hdb : (x == ("__debug__" : Str)) = false := by decide) (hn2 : xt ≠ "__name__" := by decide) (hdb2 : (xt == ("__debug__" : Str)) = false := by decide)
    (he : starEach [e, .Name xt pt] X.env = (false, eval e X.env) :: starEach [.Name xt pt] X.env := by rfl) :
    PE X (.Call (.Name x px) [e, .Name xt pt] [] pos) (tE (Fix X p g0 H0) b c (eOp1 (fIsi [y]) ea)) := (pe_callB call_isi hg hm hv (pa_cons ha (pa_cons (pe_bltn (v := .ty y.nm) hg2 hm2 hv2 rfl hn2 hdb2) pa_nil rfl) he) hn hdb he rfl).imp fun σ H Q ⟨g, τ, h, t, h', l, ee, k⟩ => by
  obtain ⟨t1, h1, e1, e2⟩ := R.bind_ok ee
  obtain ⟨e3, rfl⟩ := R.opt_ok e2
  obtain ⟨q, e4, rfl⟩ := Option.map_eq_some_iff.mp e3
  refine ⟨g, τ, h, t1, h1, l, e1, fun g1 H1 v l1 s1 r1 => ?_⟩
  unfold anyTy at e4
  split at e4
  · rename_i k1 eq
    cases e4
    obtain ⟨z, z1, z2⟩ := ty_has l1 r1 y k1 eq
    refine ⟨v, .ty y.nm, .type z, .type y.nm, k1, rfl, .ty _, z1, z2 y k1 eq, ?_⟩
    have := k g1 H1 (.bl k1) l1 s1 (.inl (by rw [Bool.or_false]; exact .bl k1))
    exact this
  · cases e4
/-- .. of a tuple of classes -/
inductive Cls' (X : Cx) : List Expr → List Ty → Prop where
  | nil : Cls' X [] []
  | cons {xt : Str} {pt : Pos} {y : Ty} {es : List Expr} {ts : List Ty} (hg : Gl X xt) (hm : X.mg xt = none) (hv : bootBuiltins xt = some (.type y.nm)) (r : Cls' X es ts) (hn : xt ≠ "__name__" := by decide) (hdb : (xt == ("__debug__" : Str)) = false := by decide) : Cls' X (.Name xt pt :: es) (y :: ts)
def tCls : List Ty → TA
  | [] => tNil
  | y :: ts => tCons (tC (.ty y.nm)) (tCls ts)
theorem Cls'.pa {ts : List Ty} (h : Cls' X es ts) : PA X es (tCls ts) := by
  induction h with
  | nil => exact pa_nil
  | cons hg hm hv r hn hdb ih => exact pa_cons (pe_bltn (v := .ty _) hg hm hv rfl hn hdb) ih rfl
theorem tCls_in {σ : L2.St} {H : Hp} : ∀ {ts : List Ty} {Q : List V → Hp → Prop}, Q (ts.map fun y => V.ty y.nm) H → tCls ts σ H Q
  | [], _, q => q
  | _ :: ts, Q, q => tCls_in (ts := ts) q
theorem paired_cls : ∀ ts : List Ty, Paired ClsV (ts.map fun y => V.ty y.nm) (ts.map fun y => Value.type y.nm)
  | [] => .nil
  | _ :: ts => .cons (.ty _) (paired_cls ts)
theorem pIsiT {y : Ty} {ts : List Ty} {x1} {pt : Pos} (hg : Gl X x) (hm : X.mg x = none) (hv : bootBuiltins x = some (.builtin "isinstance")) (ha : PE X e (tE (Fix X p g0 H0) true c ea)) (hc : Cls' X es (y :: ts)) (hl : (y :: ts).length ≤ 100 := by decide) (hn : x ≠ "__name__" := by decide) (hdb : (x == ("__debug__" : Str)) = false := by decide)
    (he : starEach [e, .Tuple es x1 pt] X.env = (false, eval e X.env) :: starEach [.Tuple es x1 pt] X.env := by rfl) :
    PE X (.Call (.Name x px) [e, .Tuple es x1 pt] [] pos) (tE (Fix X p g0 H0) b c (eOp1 (fIsi (y :: ts)) ea)) := (pe_callB call_isiT hg hm hv (pa_cons ha (pa_cons (pe_tup hc.pa) pa_nil rfl) he) hn hdb he rfl).imp fun σ H Q ⟨g, τ, h, t, h', l, ee, k⟩ => by
  obtain ⟨t1, h1, e1, e2⟩ := R.bind_ok ee
  obtain ⟨e3, rfl⟩ := R.opt_ok e2
  obtain ⟨q, e4, rfl⟩ := Option.map_eq_some_iff.mp e3
  refine ⟨g, τ, h, t1, h1, l, e1, fun g1 H1 v l1 s1 r1 => ?_⟩
  refine tCls_in ⟨by rw [List.length_map, ← LIM_eq]; exact Nat.le_trans hl (by decide), fun a ha => ?_⟩
  have l2 := l1.laid (o := .tup ((y :: ts).map fun y => V.ty y.nm)) ha
  have r2 := r1.step (l1.sp_laid (o := .tup ((y :: ts).map fun y => V.ty y.nm)) ha)
  have : ∃ k1, Ty.has h1 t1 y = some k1 := by
    unfold anyTy at e4
    split at e4
    · exact ⟨_, by assumption⟩
    · cases e4
  obtain ⟨k1, ek⟩ := this
  obtain ⟨z, z1, z2⟩ := ty_has l2 r2 y k1 ek
  exact ⟨v, a, _, .type z, _, q, rfl, upd_same, paired_cls _, z1, any_has z2 _ q e4, k g1 _ (.bl q) l2 (s1.tr (En.laid ha)) (.inl (.bl q))⟩
end
end Gt
end
section
set_option Elab.async false
set_option linter.all false
set_option maxRecDepth 20000
namespace Gt
open PySem L2
/-- what a def keeps: q: nothing that stood is changed -/
def spF (K : PySem.W.Frag) (c : Call) (f : Nat) (q : Bool) (np : Nat) : L2.Sp := fun vs H Q _ => vs.length = np ∧ ∃ g ts h r h', RH K g H h ∧ RTs K g H ts vs ∧ c f ts h = .ok r h' ∧ ∀ g' H' v, RH K g' H' h' → En q g H g' H' → RR K H g' H' r v → Q v H'
theorem spF_len {K : PySem.W.Frag} {c : Call} {f np : Nat} {q : Bool} {vs : List V} {H : Hp} {Q : VK} {E : XK} (h : spF K c f q np vs H Q E) : vs.length = np := h.1
section
variable {X : Cx} {p b : Bool} {g0 : G} {H0 : Hp} {c : Call} {e : Expr} {es : List Expr} {ac : AC} {n i k np : Nat} {x : Str} {pos px : Pos} {q : Bool} {f : Addr} {fd : FuncData} {ps : List Str}
theorem call_in {σ : L2.St} {H : Hp} {Q : VK} (hpq : p = true → q = true) (ha : PAs X (Fix X p g0 H0) false c np es ac) (z : tO (Fix X p g0 H0) c (eCall i ac) σ H Q) : tCall (spF X.K c i q np) [] E0 (tA (Fix X p g0 H0) false c ac) σ H Q := by
  obtain ⟨g, τ, h, t, h', l, ee, k⟩ := z
  obtain ⟨ts, h1, e1, e2⟩ := R.bind_ok ee
  refine ⟨g, τ, h, ts, h1, l, e1, fun g1 H1 vs l1 s1 r1 => ?_⟩
  show spF X.K c i q np (vs ++ []) H1 Q E0
  rw [List.append_nil]
  refine ⟨by rw [← r1.rt.length]; exact ha.len _ _ _ _ _ e1, g1, ts, h1, t, h', l1.heap, r1.rt, e2, fun g2 H2 v rh en rr => k g2 H2 v (l1.go en hpq rh) (s1.tr (?_ : En p g1 H1 g2 H2)) (rr.back s1)⟩
  cases p with
  | true => rw [hpq rfl] at en; exact en
  | false =>
    obtain ⟨m, e3, e4, _⟩ := en.ρ
    exact ⟨en.F, en.F2, ⟨m, e3, e4, fun z => nomatch z⟩, fun a o z w => en.keep a o z (.inr (w.elim (fun y => nomatch y) id)), en.th⟩
theorem pCall (F : FnOk X.prog X.w X.K X.mg X.base CX0 k f fd ps (spF X.K c i q np)) (hr : Room k X.A) (hpq : p = true → q = true) (hg : Gl X x) (hm : X.mg x = some (.ref f)) (hk : PySem.W.keepIn X.K (.ref f) = true) (hb : Binds X.K fd ps [])
    (ha : PAs X (Fix X p g0 H0) false c np (e :: es) ac) (hdb : (x == ("__debug__" : Str)) = false := by decide) (he : starEach (e :: es) X.env = (false, eval e X.env) :: starEach es X.env := by rfl) (hpl : (backTo pos (starEach es X.env)).any (·.1) = false := by rfl) :
    PE X (.Call (.Name x px) (e :: es) [] pos) (tO (Fix X p g0 H0) c (eCall i ac)) := (pe_call F hr hg hm hk hb .nil pass0 ha.pa hdb he hpl).imp fun σ H Q z => call_in hpq ha z
theorem pCall0 (F : FnOk X.prog X.w X.K X.mg X.base CX0 k f fd ps (spF X.K c i q 0)) (hr : Room k X.A) (hpq : p = true → q = true) (hg : Gl X x) (hm : X.mg x = some (.ref f)) (hk : PySem.W.keepIn X.K (.ref f) = true) (hb : Binds X.K fd ps [])
    (hdb : (x == ("__debug__" : Str)) = false := by decide) : PE X (.Call (.Name x px) [] [] pos) (tO (Fix X p g0 H0) c (eCall i aNil)) := (pe_call0 F hr hg hm hk hb .nil pass0 hdb).imp fun σ H Q z => by
  have z' := call_in hpq pNil z
  obtain ⟨g, τ, h, ts, h1, l, e1, k⟩ := z'
  cases e1
  exact k g H [] l En.refl .nil
/-- a value without parts -/
theorem flat_step {K : PySem.W.Frag} {g g' : G} {H H' : Hp} {t : T} {v : V} (ft : flat t = true) (r : RT K g H t v) : RT K g' H' t v := by
  cases r with
  | non => exact .non
  | bl b => exact .bl b
  | int z => exact .int z
  | str z => exact .str z
  | _ => cases ft
/-- lists of one's own are looked at as frozen ones -/
def lent (g : G) (τ : List Slot) (σ : L2.St) : G := ⟨fun a => g.F a ∨ ∃ (i : Nat) (c : Cell), τ[i]? = some (.own c) ∧ σ[i]? = some (some (.ref a)), g.ρ⟩
theorem lent_sp {fx : Fx} {g : G} {H : Hp} {τ : List Slot} {σ : L2.St} : Sp g H (lent g τ σ) H := ⟨fun _ f => .inl f, ⟨[], by simp [lent]⟩, fun _ _ => rfl, fun _ _ q => q, fun _ _ _ q => q⟩
theorem lent_rh {fx : Fx} {g : G} {H : Hp} {τ : List Slot} {σ : L2.St} {h : Hs} (l : Rl fx g H τ σ h) : RH fx.K (lent g τ σ) H h := by
  refine l.heap.go (lent_sp (fx := fx)) rfl (fun a m f => ?_) (fun a f => ?_) fun _ _ => rfl
  · rcases f with f | ⟨i, c, e1, e2⟩
    · exact l.heap.no a m f
    · obtain ⟨a', e3, O⟩ := l.own i c e1
      rw [e2] at e3; cases e3
      exact O.nρ m
  · rcases f with f | ⟨i, c, e1, e2⟩
    · exact l.heap.th a f
    · obtain ⟨a', e3, O⟩ := l.own i c e1
      rw [e2] at e3; cases e3
      obtain ⟨u, q⟩ := O.rc.some
      rw [q]; exact fun z => nomatch z
theorem lent_rt {fx : Fx} {g : G} {H : Hp} {τ : List Slot} {σ : L2.St} {h : Hs} (l : Rl fx g H τ σ h) : ∀ {ts : List T} {vs : List V}, RBs fx true g H τ σ ts vs → RTs fx.K (lent g τ σ) H ts vs
  | _, _, .nil => .nil
  | _, _, .cons r q => .cons (by
      rcases r with r | ⟨_, i, c, a, e1, e2, rfl, rfl⟩
      · exact r.step (lent_sp (fx := fx))
      · obtain ⟨a', e3, O⟩ := l.own i c e1
        rw [e2] at e3; cases e3
        exact (O.rc.step (lent_sp (fx := fx)) rfl).rt (.inr ⟨i, c, e1, e2⟩)) (lent_rt l q)
theorem pCallB (F : FnOk X.prog X.w X.K X.mg X.base CX0 k f fd ps (spF X.K c i true np)) (hr : Room k X.A) (hg : Gl X x) (hm : X.mg x = some (.ref f)) (hk : PySem.W.keepIn X.K (.ref f) = true) (hb : Binds X.K fd ps [])
    (ha : PAs X (Fix X p g0 H0) true c np (e :: es) ac) (hdb : (x == ("__debug__" : Str)) = false := by decide) (he : starEach (e :: es) X.env = (false, eval e X.env) :: starEach es X.env := by rfl) (hpl : (backTo pos (starEach es X.env)).any (·.1) = false := by rfl) :
    PE X (.Call (.Name x px) (e :: es) [] pos) (tE (Fix X p g0 H0) b c (eCallB i ac)) := (pe_call F hr hg hm hk hb .nil pass0 ha.pa hdb he hpl).imp fun σ H Q z => by
  obtain ⟨g, τ, h, t, h', l, ee, k⟩ := z
  obtain ⟨ts, h1, e1, e2⟩ := R.bind_ok ee
  obtain ⟨r, h2, e3, e4⟩ := R.bind_ok e2
  refine ⟨g, τ, h, ts, h1, l, e1, fun g1 H1 vs l1 s1 r1 => ?_⟩
  show spF X.K c i true np (vs ++ []) H1 Q E0
  rw [List.append_nil]
  have r2 := lent_rt l1 r1
  refine ⟨by rw [← r2.length]; exact ha.len _ _ _ _ _ e1, lent g1 τ σ, ts, h1, r, h2, lent_rh l1, r2, e3, fun g2 H2 v rh en rr => ?_⟩
  split at e4
  · split at e4
    · rename_i t' hf
      cases e4
      have en2 : En true g1 H1 g1 H2 := ⟨fun _ f => f, fun a f q => absurd f q, ⟨[], by simp, by simp, fun _ => rfl⟩, fun a o z w => en.keep a o z (.inl rfl), en.th⟩
      have kp : ∀ a o, H1 a = some o → H2 a = some o := fun a o z => en.keep a o z (.inl rfl)
      have rh2 : RH X.K g1 H2 h' := by
        refine l1.heap.go (en2.sp l1.heap) rfl l1.heap.no (fun a f => en.th a (l1.heap.th a f)) fun a m => ?_
        obtain ⟨c', rc⟩ := l1.heap.cell m
        obtain ⟨u, q⟩ := rc.some
        rw [q]; exact kp a u q
      have enp : En p g1 H1 g1 H2 := ⟨en2.F, en2.F2, ⟨[], by simp, by simp, fun _ => rfl⟩, fun a o z _ => kp a o z, en2.th⟩
      exact k g1 H2 v (l1.go en2 (fun _ => rfl) rh2) (s1.tr enp) (.inl (flat_step hf rr))
    · cases e4
  · cases e4
end
end Gt
end
section
set_option Elab.async false
set_option linter.all false
set_option maxRecDepth 20000
namespace Gt
open PySem L2
/-- J gives just these items -/
def Yd (K : PySem.W.Frag) (J : It) (ts : List T) (P : G → Hp → Prop) : Prop := ∀ g H, P g H → ∀ i : Nat, (ts.length ≤ i → J.stop i H) ∧ ∀ t, ts[i]? = some t → J.go i H ∧ ∀ x H', J.yld i H x H' → (H' = H ∨ ∃ p vs, H p = none ∧ H' = upd H p (.tup vs)) ∧ RT K g H' t x
/-- where it goes on giving them -/
structure Pit (fx : Fx) (b : Bool) (τ : List Slot) (σ : L2.St) (g1 : G) (H1 : Hp) (g2 : G) (H2 : Hp) : Prop where
  sp : Sp g1 H1 g2 H2
  rh : ∃ h2, RH fx.K g2 H2 h2
  rl : b = true → ∃ h2, Rl fx g2 H2 τ σ h2
def tI (fx : Fx) (b : Bool) (c : Call) (ic : IC) : TI := fun σ H R => ∃ g τ h ts h', Rl fx g H τ σ h ∧ ic c τ h = .ok ts h' ∧ ∀ g' H' J, Rl fx g' H' τ σ h' → En fx.p g H g' H' → Yd fx.K J ts (Pit fx b τ σ g' H') → R J H'
section
variable {fx : Fx} {b : Bool} {τ : List Slot} {σ : L2.St} {g g1 : G} {H H1 : Hp} {h h1 : Hs} {t : T} {ts us : List T} {v : V}
theorem Pit.refl (l : Rl fx g1 H1 τ σ h1) : Pit fx b τ σ g1 H1 g1 H1 := ⟨Sp.refl, ⟨h1, l.heap⟩, fun _ => ⟨h1, l⟩⟩
theorem it_lst (l : Rl fx g1 H1 τ σ h1) (r : RB fx b g1 H1 τ σ t v) (e : t = .lst ts ∨ t = .scr ts) : ∃ a, v = .ref a ∧ ∀ g2 H2, Pit fx b τ σ g1 H1 g2 H2 → ∃ vs, SqL fx.K H2 a vs ∧ RTs fx.K g2 H2 ts vs := by
  rcases r with r | ⟨hb, i, c, a, e1, e2, rfl, rfl⟩
  · cases r with
    | lst f q m =>
      rcases e with e | e
      · cases e; exact ⟨_, rfl, fun g2 H2 P => ⟨_, SqL.of ((P.sp.at_ _ f).trans q), m.step P.sp⟩⟩
      · cases e
    | scr q m =>
      rcases e with e | e
      · cases e
      · cases e; exact ⟨_, rfl, fun g2 H2 P => ⟨_, .inl (.inr ⟨_, P.sp.frz _ _ _ q⟩), m.step P.sp⟩⟩
    | _ => rcases e with e | e <;> cases e
  · refine ⟨a, rfl, fun g2 H2 P => ?_⟩
    obtain ⟨h2, l2⟩ := P.rl hb
    obtain ⟨a', e3, O⟩ := l2.own i c e1
    rw [e2] at e3; cases e3
    cases O.rc with
    | lst q m => rcases e with e | e <;> cases e; exact ⟨_, SqL.of q, m⟩
    | dic q m => rcases e with e | e <;> cases e
theorem it_tup (l : Rl fx g1 H1 τ σ h1) (r : RB fx b g1 H1 τ σ (.tup ts) v) : ∃ a, v = .ref a ∧ ∀ g2 H2, Pit fx b τ σ g1 H1 g2 H2 → ∃ vs, SqT fx.K H2 a vs ∧ RTs fx.K g2 H2 ts vs := by
  obtain ⟨a, vs, rfl, q, m⟩ := l.tup r rfl
  exact ⟨a, rfl, fun g2 H2 P => ⟨vs, SqT.step P.sp q, m.step P.sp⟩⟩
end
section
variable {X : Cx} {p b : Bool} {g0 : G} {H0 : Hp} {c : Call} {tg e e1 e2 e3 : Expr} {es : List Expr} {ea eb ed : EC} {n i : Nat} {x : Str} {pos px : Pos} {wi wi' wj : TI}
theorem _root_.L2.PI.imp (h : PI X tg e wi) (k : ∀ σ H R, wi' σ H R → wi σ H R) : PI X tg e wi' := ⟨fun pins s σ H R I q => h.run pins s σ H R I (k σ H R q)⟩
theorem _root_.L2.PI.or (h : PI X tg e wi) (h' : PI X tg e wi') (k : ∀ σ H R, wj σ H R → wi σ H R ∨ wi' σ H R) : PI X tg e wj := ⟨fun pins s σ H R I q => (k σ H R q).elim (h.run pins s σ H R I) (h'.run pins s σ H R I)⟩
theorem pSeq (he : PE X e (tE (Fix X p g0 H0) b c ea)) : PI X tg e (tI (Fix X p g0 H0) b c (iSeq ea)) :=
  PI.or (wi := iList X.K (tE (Fix X p g0 H0) b c ea)) (wi' := fun σ H R => iTup X.K (tE (Fix X p g0 H0) b c ea) σ H R ∨ iStr (tE (Fix X p g0 H0) b c ea) σ H R) (pi_list he) (PI.or (pi_tup he) (pi_str he) fun _ _ _ q => q) fun σ H Rk ⟨g, τ, h, ts, h', l, ee, k⟩ => by
    obtain ⟨t, h1, e1, e2⟩ := R.bind_ok ee
    have lst : (t = .lst ts ∨ t = .scr ts) → h1 = h' → iList X.K (tE (Fix X p g0 H0) b c ea) σ H Rk := fun z zh => by
      subst zh
      refine ⟨g, τ, h, t, h1, l, e1, fun g1 H1 v l1 s1 r1 => ?_⟩
      obtain ⟨a, rfl, q⟩ := it_lst l1 r1 z
      obtain ⟨vs, q1, q2⟩ := q g1 H1 (.refl l1)
      refine ⟨a, rfl, ⟨vs, q1⟩, k g1 H1 _ l1 s1 fun g2 H2 P i => ?_⟩
      obtain ⟨ws, q3, q4⟩ := q g2 H2 P
      refine ⟨fun hi => ⟨ws, q3, by rw [← q4.length]; exact hi⟩, fun t ht => ?_⟩
      obtain ⟨w, z1, z2⟩ := q4.get ht
      refine ⟨⟨ws, w, q3, z1⟩, fun x H' ⟨y1, y2⟩ => ?_⟩
      have y3 := y2 ws q3
      rw [z1] at y3; cases y3
      rw [y1]
      exact ⟨.inl rfl, z2⟩
    split at e2
    · rename_i l'
      cases e2
      refine .inr (.inl ⟨g, τ, h, _, _, l, e1, fun g1 H1 v l1 s1 r1 => ?_⟩)
      obtain ⟨a, rfl, q⟩ := it_tup l1 r1
      obtain ⟨vs, q1, q2⟩ := q g1 H1 (.refl l1)
      refine ⟨a, rfl, ⟨vs, q1⟩, k g1 H1 _ l1 s1 fun g2 H2 P i => ?_⟩
      obtain ⟨ws, q3, q4⟩ := q g2 H2 P
      refine ⟨fun hi => ⟨ws, q3, by rw [← q4.length]; exact hi⟩, fun t ht => ?_⟩
      obtain ⟨w, z1, z2⟩ := q4.get ht
      refine ⟨⟨ws, w, q3, z1⟩, fun x H' ⟨y1, y2⟩ => ?_⟩
      have y3 := y2 ws q3
      rw [z1] at y3; cases y3
      rw [y1]
      exact ⟨.inl rfl, z2⟩
    · cases e2; exact .inl (lst (.inl rfl) rfl)
    · cases e2; exact .inl (lst (.inr rfl) rfl)
    · rename_i s
      cases e2
      refine .inr (.inr ⟨g, τ, h, _, _, l, e1, fun g1 H1 v l1 s1 r1 => ?_⟩)
      obtain ⟨z, rfl, rfl⟩ := r1.str
      refine ⟨z, rfl, k g1 H1 _ l1 s1 fun g2 H2 P i => ⟨fun hi => ?_, fun t ht => ?_⟩⟩
      · show z.cps.size ≤ i
        simpa using hi
      · rw [List.getElem?_map] at ht
        obtain ⟨n, n1, rfl⟩ := Option.map_eq_some_iff.mp ht
        have n2 : z.cps[i]? = some n := by simpa using n1
        refine ⟨(Array.getElem?_eq_some_iff.mp n2).1, fun x H' ⟨y1, n', y2, y3⟩ => ?_⟩
        rw [n2] at y2; cases y2
        rw [y1, y3]
        exact ⟨.inl rfl, .str ⟨#[n]⟩⟩
    · cases e2
theorem upL_len (d : Int) : ∀ (n : Nat) (lo : Int), (upL d n lo).length = n
  | 0, _ => rfl
  | n + 1, lo => congrArg Nat.succ (upL_len d n _)
theorem upL_get (d : Int) : ∀ (n : Nat) (lo : Int) (i : Nat) (t : T), (upL d n lo)[i]? = some t → i < n ∧ t = .int (lo + (i : Nat) * d)
  | 0, _, _, _, e => by cases e
  | n + 1, lo, 0, t, e => by cases e; exact ⟨Nat.succ_pos _, by simp⟩
  | n + 1, lo, i + 1, t, e => by
    obtain ⟨h1, h2⟩ := upL_get d n (lo + d) i t e
    refine ⟨Nat.succ_lt_succ h1, h2.trans ?_⟩
    congr 1
    have : ((i + 1 : Nat) : Int) * d = (i : Nat) * d + d := by rw [Int.natCast_add, Int.add_mul]; simp
    rw [this]; omega
theorem in62_of {i : Int} (h : in62 i = true) : -(2 ^ 62) ≤ i ∧ i < 2 ^ 62 := by
  have := Nat.le_of_ble_eq_true h
  omega
theorem yd_up {K : PySem.W.Frag} {n : Nat} {lo d : Int} {P : G → Hp → Prop} : Yd K (Itc lo d n) (upL d n lo) P := fun g H _ i => ⟨fun hi => by rw [upL_len] at hi; exact hi, fun t ht => by
  obtain ⟨h1, rfl⟩ := upL_get d n lo i t ht
  refine ⟨h1, fun x H' ⟨y1, y2⟩ => ?_⟩
  rw [y1, y2]
  exact ⟨.inl rfl, .int _⟩⟩
theorem yd_up1 {K : PySem.W.Frag} {n : Nat} {lo : Int} {P : G → Hp → Prop} : Yd K (Itr lo n) (upL 1 n lo) P := fun g H _ i => ⟨fun hi => by rw [upL_len] at hi; exact hi, fun t ht => by
  obtain ⟨h1, rfl⟩ := upL_get 1 n lo i t ht
  refine ⟨h1, fun x H' ⟨y1, y2⟩ => ?_⟩
  rw [y1, y2, Int.mul_one]
  exact ⟨.inl rfl, .int _⟩⟩
theorem pR1 (hg : Gl X "range") (hm : X.mg "range" = none) (ha : PE X e (tE (Fix X p g0 H0) false c ea)) (hs : starEach [e] X.env = (false, eval e X.env) :: starEach [] X.env := by rfl) : PI X tg (.Call (.Name "range" px) [e] [] pos) (tI (Fix X p g0 H0) b c (iR1 ea)) :=
  (pi_range1 hg hm (pa_cons ha pa_nil hs) hs).imp fun σ H Rk ⟨g, τ, h, ts, h', l, ee, k⟩ => by
    obtain ⟨t, h1, e1, e2⟩ := R.bind_ok ee
    split at e2
    · split at e2
      · rename_i j hj
        cases e2
        refine ⟨g, τ, h, _, _, l, e1, fun g1 H1 v l1 s1 r1 => ⟨j, by rw [r1.int], (in62_of hj).1, (in62_of hj).2, k g1 H1 _ l1 s1 yd_up1⟩⟩
      · cases e2
    · cases e2
theorem pR2 (hg : Gl X "range") (hm : X.mg "range" = none) (ha : PE X e1 (tE (Fix X p g0 H0) false c ea)) (hb : PE X e2 (tE (Fix X p g0 H0) false c eb)) (hs : starEach [e1, e2] X.env = [(false, eval e1 X.env), (false, eval e2 X.env)] := by rfl) (hs2 : starEach [e2] X.env = [(false, eval e2 X.env)] := by rfl) :
    PI X tg (.Call (.Name "range" px) [e1, e2] [] pos) (tI (Fix X p g0 H0) b c (iR2 ea eb)) :=
  (pi_range2 hg hm (pa_cons ha (pa_cons hb pa_nil hs2) (by rw [hs, hs2])) hs hs2).imp fun σ H Rk ⟨g, τ, h, ts, h', l, ee, k⟩ => by
    obtain ⟨t, h1, e1, e2⟩ := R.bind_ok ee
    obtain ⟨u, h2, e3, e4⟩ := R.bind_ok e2
    split at e4
    · split at e4
      · split at e4
        · rename_i z i j hj
          cases e4
          rw [Bool.and_eq_true] at hj
          refine ⟨g, τ, h, _, _, l, e1, fun g1 H1 v l1 s1 r1 => ⟨g1, τ, h1, _, _, l1, e3, fun g2 H2 w l2 s2 r2 => ⟨_, _, by rw [r1.int, r2.int], ⟨(in62_of hj.1).1, (in62_of hj.1).2, (in62_of hj.2).1, (in62_of hj.2).2⟩, k g2 H2 _ l2 (s1.tr s2) yd_up1⟩⟩⟩
        · cases e4
      · cases e4
    · cases e4
theorem pR3 (hg : Gl X "range") (hm : X.mg "range" = none) (ha : PE X e1 (tE (Fix X p g0 H0) false c ea)) (hb : PE X e2 (tE (Fix X p g0 H0) false c eb)) (hc : PE X e3 (tC (.int (-1)))) (hs : starEach [e1, e2, e3] X.env = (false, eval e1 X.env) :: starEach [e2, e3] X.env := by rfl) (hs2 : starEach [e2, e3] X.env = (false, eval e2 X.env) :: starEach [e3] X.env := by rfl) (hs3 : starEach [e3] X.env = (false, eval e3 X.env) :: starEach [] X.env := by rfl)
    (hpl : (backTo pos (starEach [e2, e3] X.env)).any (·.1) = false := by rfl) : PI X tg (.Call (.Name "range" px) [e1, e2, e3] [] pos) (tI (Fix X p g0 H0) b c (iR3 ea eb)) :=
  (pi_range3 hg hm (pa_cons ha (pa_cons hb (pa_cons hc pa_nil hs3) hs2) hs) hs hpl).imp fun σ H Rk ⟨g, τ, h, ts, h', l, ee, k⟩ => by
    obtain ⟨t, h1, e1, e2⟩ := R.bind_ok ee
    obtain ⟨u, h2, e3, e4⟩ := R.bind_ok e2
    split at e4
    · split at e4
      · split at e4
        · rename_i z i j hj
          cases e4
          rw [Bool.and_eq_true] at hj
          refine ⟨g, τ, h, _, _, l, e1, fun g1 H1 v l1 s1 r1 => ⟨g1, τ, h1, _, _, l1, e3, fun g2 H2 w l2 s2 r2 => ⟨_, _, -1, _, by rw [r1.int, r2.int], RgC.neg (in62_of hj.1).1 (in62_of hj.1).2 (in62_of hj.2).1 (in62_of hj.2).2, k g2 H2 _ l2 (s1.tr s2) yd_up⟩⟩⟩
        · cases e4
      · cases e4
    · cases e4
theorem pRev (hg : Gl X "reversed") (hm : X.mg "reversed" = none) (ha : PE X e (tE (Fix X p g0 H0) b c ea)) (hs : starEach [e] X.env = (false, eval e X.env) :: starEach [] X.env := by rfl) : PI X tg (.Call (.Name "reversed" px) [e] [] pos) (tI (Fix X p g0 H0) b c (Gt.iRev ea)) :=
  (_root_.RT.pi_revA hg hm ha hs).imp fun σ H Rk ⟨g, τ, h, ts, h', l, ee, k⟩ => by
    obtain ⟨t, h1, e1, e2⟩ := R.bind_ok ee
    split at e2
    · rename_i l'
      cases e2
      refine ⟨g, τ, h, _, _, l, e1, fun g1 H1 v l1 s1 r1 => ?_⟩
      obtain ⟨a, rfl, q⟩ := it_tup l1 r1
      obtain ⟨vs, q1, q2⟩ := q g1 H1 (.refl l1)
      refine ⟨a, vs, rfl, .inr ⟨q1, k g1 H1 _ l1 s1 fun g2 H2 P i => ?_⟩⟩
      obtain ⟨ws, q3, q4⟩ := q g2 H2 P
      have n1 := q2.length
      have n2 := q4.length
      refine ⟨fun hi => ?_, fun t ht => ?_⟩
      · show vs.length ≤ i
        rw [List.length_reverse] at hi; omega
      · have hi : i < l'.length := by
          have := (List.getElem?_eq_some_iff.mp ht).1
          rwa [List.length_reverse] at this
        rw [List.getElem?_reverse hi] at ht
        obtain ⟨w, z1, z2⟩ := q4.get ht
        rw [n1] at z1
        refine ⟨⟨by omega, ws, w, q3, z1⟩, fun x H' ⟨y1, y2⟩ => ?_⟩
        have y3 := y2 ws q3
        rw [z1] at y3; cases y3
        rw [y1]
        exact ⟨.inl rfl, z2⟩
    · rename_i l'
      cases e2
      refine ⟨g, τ, h, _, _, l, e1, fun g1 H1 v l1 s1 r1 => ?_⟩
      obtain ⟨a, rfl, q⟩ := it_lst l1 r1 (.inl rfl)
      obtain ⟨vs, q1, q2⟩ := q g1 H1 (.refl l1)
      refine ⟨a, vs, rfl, .inl ⟨q1, k g1 H1 _ l1 s1 fun g2 H2 P i => ?_⟩⟩
      obtain ⟨ws, q3, q4⟩ := q g2 H2 P
      have n1 := q2.length
      have n2 := q4.length
      refine ⟨fun hi => ?_, fun t ht => ?_⟩
      · show vs.length ≤ i
        rw [List.length_reverse] at hi; omega
      · have hi : i < l'.length := by
          have := (List.getElem?_eq_some_iff.mp ht).1
          rwa [List.length_reverse] at this
        rw [List.getElem?_reverse hi] at ht
        obtain ⟨w, z1, z2⟩ := q4.get ht
        rw [n1] at z1
        refine ⟨⟨by omega, ws, w, q3, z1⟩, fun x H' ⟨y1, y2⟩ => ?_⟩
        have y3 := y2 ws q3
        rw [z1] at y3; cases y3
        rw [y1]
        exact ⟨.inl rfl, z2⟩
    · cases e2
end
end Gt
end
section
set_option Elab.async false
set_option linter.all false
set_option maxRecDepth 100000
namespace Gt
open PySem L2
open PySem.Spec PyProof.Rows
section
set_option maxHeartbeats 1000000
theorem meets_numT (l : Addr) (items : Array Value) :
    Meets (Builtin.«enumerate.__new__» ⟨[.type "enumerate", .ref l], []⟩) (fun _ Rz s => s.heap.IsTuple l items ∧
      Rz (.ok (.ret (.ref (s.heap.push { cls := .type "tuple_iterator", data := .fields #[.ref l, .int 0 0] }).objs.size)))
        { s with heap := (s.heap.push { cls := .type "tuple_iterator", data := .fields #[.ref l, .int 0 0] }).push { cls := .type "enumerate", data := .fields #[.none, .bool false, .ref s.heap.objs.size, rawInt 0, .none, .none] } }) :=
  .of_wp fun prog w A Rz s h => by
    obtain ⟨hp, g, d, tk, os⟩ := s; obtain ⟨hT, h⟩ := h
    have hsub := sub_enumerate
    replace hT : Heap.IsTuple (Shared.heap ⟨hp, g, d, tk, os⟩) l items := hT
    wp_walk using wpAny_pyIter_tuple hT
    refine wpAny_stack_any fun st => wpAny_pure ?_
    split
    · rename_i c _ _ _ _ _
      cases (c == Value.type "enumerate") <;> (wp_walk using wpAny_pyIter_tuple hT; exact ⟨_, rfl, h⟩)
    · wp_walk using wpAny_pyIter_tuple hT
      exact ⟨_, rfl, h⟩
theorem call_numT {prog : Program} {w : World} {A : Around} {E : Value → Shared → Prop} {s : Shared} {l : Addr} {items : Array Value} {Q : Value → Shared → Prop} (hT : s.heap.IsTuple l items)
    (k : ∀ h', IsEnum h' (s.heap.objs.size + 1) s.heap.objs.size 0 .none → h'.IsTupleIter s.heap.objs.size l 0 → (∀ b o, s.heap.get? b = some o → h'.get? b = some o) → Q (.ref (s.heap.objs.size + 1)) { s with heap := h' }) :
    wpAny (model prog w) A (call (.type "enumerate") [.ref l]) Q E s := by
  refine callType_new F.called_enumerate (by decide) (F.typeCall_enumerate_1 _) (F.newCall_enumerate_1 _) (fun obj => F.args_object_init_2 obj _) F.entry_enumerate_new (meets_numT l items) ⟨hT, ?_⟩
  have hz : (s.heap.push { cls := .type "tuple_iterator", data := .fields #[.ref l, .int 0 0] }).objs.size = s.heap.objs.size + 1 := Heap.size_push ..
  have he : IsEnum ((s.heap.push { cls := .type "tuple_iterator", data := .fields #[.ref l, .int 0 0] }).push { cls := .type "enumerate", data := .fields #[.none, .bool false, .ref s.heap.objs.size, rawInt 0, .none, .none] }) (s.heap.objs.size + 1) s.heap.objs.size 0 .none := by
    have z := Heap.get?_push_size (s.heap.push { cls := .type "tuple_iterator", data := .fields #[.ref l, .int 0 0] }) (o := { cls := .type "enumerate", data := .fields #[.none, .bool false, .ref s.heap.objs.size, rawInt 0, .none, .none] }) rfl
    rw [hz] at z; exact z
  show _ ∧ _
  rw [hz]
  exact ⟨⟨_, he, rfl⟩, k _ he ⟨_, Heap.get?_push_of_some _ (Heap.get?_push_size _ rfl), rfl, rfl⟩ fun b o x => Heap.get?_push_of_some _ (Heap.get?_push_of_some _ x)⟩
/-- the tuple at a, each item in a new pair -/
def ItnT (K : PySem.W.Frag) (a : Addr) : It :=
  ⟨fun i H => ∃ (xs : List V) (x : V), SqT K H a xs ∧ xs[i]? = some x, fun i H v H' => ∃ q x, v = .ref q ∧ H q = none ∧ H' = upd H q (.tup [.int (i : Nat), x]) ∧ ∀ xs, SqT K H a xs → xs[i]? = some x, fun i H => ∃ xs : List V, SqT K H a xs ∧ xs.length ≤ i⟩
theorem turn_numT {P : Program} {w : World} {K : PySem.W.Frag} {elts : List Expr} {kk : Nat} {tpos : Pos} (a e it : Addr) (hae : a ≠ e) (hai : a ≠ it) :
    Turn P w K (.Tuple elts kk tpos) (ItnT K a) [e, it] e (fun i h => (∃ old, IsEnum h e it ((i : Nat) : Int) old) ∧ h.IsTupleIter it a i ∧ e ≠ it) where
  mem := by simp
  obj := fun i h st b hb => by
    obtain ⟨⟨old, he⟩, ⟨o, ho, _, hd⟩, _⟩ := st
    rcases (by simpa using hb : b = e ∨ b = it) with z | z
    · subst z; exact ⟨_, he, fun v q => nomatch q⟩
    · subst z; exact ⟨o, ho, fun v q => by rw [hd] at q; cases q⟩
  keep := fun i h h' st k => by
    obtain ⟨⟨old, he⟩, hi, hne⟩ := st
    exact ⟨⟨old, k e (by simp) _ he⟩, hi.at fun o q => k it (by simp) o q, hne⟩
  item := by
    intro X hP hw hK hc i pins s σ H E I hf st hg
    subst hP hw hK
    obtain ⟨⟨old, he⟩, hit, hne⟩ := st
    obtain ⟨xs, x, hq, hx⟩ := hg
    obtain ⟨its, rv, pl, hz⟩ := I.tuple hq
    obtain ⟨u, hu, ru⟩ := rv.get hx
    have hel : e < s.heap.objs.size := Heap.lt_size he
    have hil : it < s.heap.objs.size := by obtain ⟨_, q, _⟩ := hit; exact Heap.lt_size q
    have hin : i < its.toArray.size := by
      have := (List.getElem?_eq_some_iff.mp hu).1
      simpa using this
    refine wpAny_pyNext_enum_itemD (Draws.tuple (A := X.A.in1) (show X.A.in1.handled = none from I.ok.hd hc) it a hai its.toArray) he ⟨hit, pl⟩ hin hne (by simp [hne, Ne.symm hae]) fun y h' tk hy ho st' hT hsz hk => ?_
    have ey : u = y := by
      have : its[i]? = some y := by simpa using hy
      rw [hu] at this; cases this; rfl
    subst ey
    refine ⟨_, rfl, wpAny_letOwnedTupleGo_enum (s := { s with heap := h', toks := tk + 1 }) ho fun h'' he' sb => ?_⟩
    have hT2 : h''.get? s.heap.objs.size = some { cls := .type "tuple", data := .seq #[.int i tk, u] } := (sb.2 _ (Nat.ne_of_gt hel)).trans hT
    have new : ObjOk X.prog X.w (upd H s.heap.objs.size (.tup [.int (i : Nat), x])) h'' s.heap.objs.size (.tup [.int (i : Nat), x]) :=
      ⟨by show 2 ≤ sizeLine; decide, [.int i tk, u], .cons ⟨_, rfl⟩ (.cons ru .nil), ⟨_, hT2, rfl, _, rfl⟩⟩
    have I1 : Inv X pins σ (upd H s.heap.objs.size (.tup [.int (i : Nat), x])) { s with heap := h'', toks := tk + 1 } :=
      I.turnedNew (ch := [e, it]) (fun b o hb q => (sb.2 b (fun z => hb (by simp [z]))).trans (hk b o (fun z => hb (by simp [z])) (fun z => hb (by simp [z])) q)) hf (Nat.le_refl _) new
    refine ⟨.ref s.heap.objs.size, _, I1, rfl, ⟨_, x, rfl, I.hok.fresh (Nat.le_refl _), rfl, fun ys hy => by rw [I.tuple_inj hy hq]; exact hx⟩, ⟨⟨u, ?_⟩, st'.1.at fun o q => (sb.2 it (Ne.symm hne)).trans q, hne⟩, fun b hb => ?_⟩
    · rw [show ((i + 1 : Nat) : Int) = (i : Int) + 1 by omega]
      exact he'
    · have hb' : b < s.heap.objs.size := by
        rcases (by simpa using hb : b = e ∨ b = it) with z | z
        · rw [z]; exact hel
        · rw [z]; exact hil
      rw [upd_ne (Nat.ne_of_lt hb')]
      exact (hf b hb).1
  done := by
    intro X hP hw hK hc i pins s σ H E I hf st hg
    subst hP hw hK
    obtain ⟨⟨old, he⟩, hit, hne⟩ := st
    obtain ⟨xs, hq, hx⟩ := hg
    obtain ⟨its, rv, pl, hz⟩ := I.tuple hq
    obtain ⟨f0, f1, f2, f3, f4, f5⟩ := hf it (by simp)
    have hl := rv.length
    have D' : Draws X.prog X.w X.A.in1 it [it, a] 0 (fun _ _ => False) (fun j h => h.IsTupleIter it a i ∧ h.IsTuple a its.toArray) :=
      ⟨fun j h st => let ⟨o, ho, _⟩ := st.1; ⟨o, ho⟩, fun j h h' st hk => ⟨st.1.at fun o e => hk it (by simp) o e, st.2.at fun o e => hk a (by simp) o e⟩, fun j s Q E hj st hQ => ?_, fun s Q E st hE => ?_⟩
    · exact wpAny_pyNext_enum_endD D' he ⟨hit, pl⟩ fun h' eb => ⟨rfl, I.turned (t' := s.toks) (fun b o hb q => eb b o hb q) f0 f1 f3 f4 f5⟩
    · exact absurd hj (Nat.not_lt_zero _)
    · exact wpAny_nextOf_tuple_end (I.ok.hd hc) st.1 st.2 (by simp; omega) hE
  self := fun A i s Q E st h => by
    obtain ⟨⟨_, he⟩, _⟩ := st
    exact wpAny_pyIter_enum he h
def iNumT (K : PySem.W.Frag) (te : TE) : TI := fun σ H Rk => te σ H fun v H1 => ∃ (a : Addr) (xs : List V), v = .ref a ∧ SqT K H1 a xs ∧ Rk (ItnT K a) H1
section
variable {X : Cx} {p b : Bool} {g0 : G} {H0 : Hp} {c : Call} {e e1 e2 : Expr} {ea eb : EC} {pos px tpos : Pos} {elts : List Expr} {kk : Nat}
theorem pi_numT {te : TE} (hg : Gl X "enumerate") (hm : X.mg "enumerate" = none) (he : PE X e te) (hs : starEach [e] X.env = (false, eval e X.env) :: starEach [] X.env := by rfl) :
    PI X (.Tuple elts kk tpos) (.Call (.Name "enumerate" px) [e] [] pos) (iNumT X.K te) := ⟨fun pins s σ H Rk I h => by
      refine Call_ (ld_blt I hg hm boot_enumerate (PyProof.Rows.callWith_type1 (args_cons (thn (he.run pins s σ H _ I h) fun u s1 ⟨v, H1, I1, r1, q1⟩ => args_nil ?_) hs) hs rfl))
      obtain ⟨a, xs, rfl, hq, q⟩ := q1
      obtain rfl : u = Value.ref a := r1
      obtain ⟨its, rv, pl, hz⟩ := I1.tuple hq
      refine call_numT pl fun h' he hit hk => wpAny_pyIter_enum he ?_
      have I2 : Inv X pins σ H1 { s1 with heap := h' } := I1.kept (t' := s1.toks) hk
      have hlt : a < s1.heap.objs.size := by obtain ⟨o, z, _⟩ := pl; exact Heap.lt_size z
      refine ⟨s1.heap.objs.size + 1, [s1.heap.objs.size + 1, s1.heap.objs.size], _, _, H1, rfl, I2, turn_numT a _ s1.heap.objs.size (Nat.ne_of_lt (Nat.lt_succ_of_lt hlt)) (Nat.ne_of_lt hlt), ⟨⟨.none, he⟩, hit, Nat.succ_ne_self _⟩, fun b hb => ?_, q⟩
      have hle : s1.heap.objs.size ≤ b := by
        rcases (by simpa using hb : b = s1.heap.objs.size + 1 ∨ b = s1.heap.objs.size) with z | z
        · rw [z]; exact Nat.le_succ _
        · rw [z]; exact Nat.le_refl _
      exact I1.fpOk hle (I1.hok.fresh hle)⟩
theorem numL_len : ∀ (ts : List T) (i : Int), (numL i ts).length = ts.length
  | [], _ => rfl
  | _ :: ts, i => congrArg Nat.succ (numL_len ts _)
theorem numL_get : ∀ (ts : List T) (lo : Int) (i : Nat) (t : T), (numL lo ts)[i]? = some t → ∃ u, ts[i]? = some u ∧ t = .tup [.int (lo + (i : Nat)), u]
  | [], _, _, _, e => by cases e
  | u :: ts, lo, 0, t, e => by cases e; exact ⟨u, rfl, by simp⟩
  | u :: ts, lo, i + 1, t, e => by
    obtain ⟨w, h1, h2⟩ := numL_get ts (lo + 1) i t e
    refine ⟨w, by simpa using h1, h2.trans ?_⟩
    congr 3
    omega
theorem pNum (hg : Gl X "enumerate") (hm : X.mg "enumerate" = none) (he : PE X e (tE (Fix X p g0 H0) b c ea)) (hs : starEach [e] X.env = (false, eval e X.env) :: starEach [] X.env := by rfl) :
    PI X (.Tuple elts kk tpos) (.Call (.Name "enumerate" px) [e] [] pos) (tI (Fix X p g0 H0) b c (iNum ea)) := PI.or (pi_enum hg hm (pa_cons he pa_nil hs) hs) (pi_numT hg hm he hs) fun σ H Rk ⟨g, τ, h, ts, h', l, ee, k⟩ => by
  obtain ⟨t, h1, e1, e2⟩ := R.bind_ok ee
  split at e2
  · rename_i l'
    cases e2
    refine .inr ⟨g, τ, h, _, _, l, e1, fun g1 H1 v l1 s1 r1 => ?_⟩
    obtain ⟨a, rfl, q⟩ := it_tup l1 r1
    obtain ⟨vs, q1, q2⟩ := q g1 H1 (.refl l1)
    refine ⟨a, vs, rfl, q1, k g1 H1 _ l1 s1 fun g2 H2 P i => ?_⟩
    obtain ⟨ws, q3, q4⟩ := q g2 H2 P
    refine ⟨fun hi => ⟨ws, q3, by rw [← q4.length]; rwa [numL_len] at hi⟩, fun t ht => ?_⟩
    obtain ⟨u, hu, rfl⟩ := numL_get _ _ _ _ ht
    obtain ⟨w, z1, z2⟩ := q4.get hu
    refine ⟨⟨ws, w, q3, z1⟩, fun x H' ⟨o, y, y0, y1, y2, y3⟩ => ?_⟩
    have y4 := y3 ws q3
    rw [z1] at y4; cases y4
    subst y0 y2
    obtain ⟨h2, rh⟩ := P.rh
    refine ⟨.inr ⟨o, _, y1, rfl⟩, .tup (SqT.of upd_same) (.cons ?_ (.cons (z2.step (En.sp (p := true) (En.laid y1) rh)) .nil))⟩
    rw [Int.zero_add]
    exact .int _
  · rename_i l'
    cases e2
    refine .inl ⟨g, τ, h, _, _, l, e1, fun g1 H1 v l1 s1 r1 => ?_⟩
    obtain ⟨a, rfl, q⟩ := it_lst l1 r1 (.inl rfl)
    obtain ⟨vs, q1, q2⟩ := q g1 H1 (.refl l1)
    refine ⟨a, vs, rfl, q1, k g1 H1 _ l1 s1 fun g2 H2 P i => ?_⟩
    obtain ⟨ws, q3, q4⟩ := q g2 H2 P
    refine ⟨fun hi => ⟨ws, q3, by rw [← q4.length]; rwa [numL_len] at hi⟩, fun t ht => ?_⟩
    obtain ⟨u, hu, rfl⟩ := numL_get _ _ _ _ ht
    obtain ⟨w, z1, z2⟩ := q4.get hu
    refine ⟨⟨ws, w, q3, z1⟩, fun x H' ⟨o, y, y0, y1, y2, y3⟩ => ?_⟩
    have y4 := y3 ws q3
    rw [z1] at y4; cases y4
    subst y0 y2
    obtain ⟨h2, rh⟩ := P.rh
    refine ⟨.inr ⟨o, _, y1, rfl⟩, .tup (SqT.of upd_same) (.cons ?_ (.cons (z2.step (En.sp (p := true) (En.laid y1) rh)) .nil))⟩
    rw [Int.zero_add]
    exact .int _
  · cases e2
theorem zipL_get : ∀ (ts us : List T) (i : Nat) (t : T), (zipL ts us)[i]? = some t → ∃ u w, ts[i]? = some u ∧ us[i]? = some w ∧ t = .tup [u, w]
  | [], _, _, _, e => by cases e
  | _ :: _, [], _, _, e => by cases e
  | u :: ts, w :: us, 0, t, e => by cases e; exact ⟨u, w, rfl, rfl, rfl⟩
  | u :: ts, w :: us, i + 1, t, e => by
    obtain ⟨a, d, h1, h2, h3⟩ := zipL_get ts us i t e
    exact ⟨a, d, by simpa using h1, by simpa using h2, h3⟩
theorem zipL_len : ∀ (ts us : List T), (zipL ts us).length = min ts.length us.length
  | [], _ => by simp [zipL]
  | _ :: _, [] => by simp [zipL]
  | u :: ts, w :: us => by simp [zipL, zipL_len ts us]
theorem pZip (hg : Gl X "zip") (hm : X.mg "zip" = none) (ha : PE X e1 (tE (Fix X p g0 H0) b c ea)) (hb : PE X e2 (tE (Fix X p g0 H0) b c eb)) (hs : starEach [e1, e2] X.env = (false, eval e1 X.env) :: starEach [e2] X.env := by rfl) (hs2 : starEach [e2] X.env = (false, eval e2 X.env) :: starEach [] X.env := by rfl) (hpl : (backTo pos (starEach [e2] X.env)).any (·.1) = false := by rfl) :
    PI X (.Tuple elts kk tpos) (.Call (.Name "zip" px) [e1, e2] [] pos) (tI (Fix X p g0 H0) b c (iZip ea eb)) := (RZ.pi_zipA hg hm (pa_cons ha (pa_cons hb pa_nil hs2) hs) hs hpl).imp fun σ H Rk ⟨g, τ, h, ts, h', l, ee, k⟩ => by
  obtain ⟨t, h1, e1, e2⟩ := R.bind_ok ee
  obtain ⟨u, h2, e3, e4⟩ := R.bind_ok e2
  refine ⟨g, τ, h, _, _, l, e1, fun g1 H1 v l1 s1 r1 => ⟨g1, τ, h1, _, _, l1, e3, fun g2 H2 w l2 s2 r2 => ?_⟩⟩
  have r1' := r1.step (s2.sp l1.heap)
  split at e4
  · split at e4
    · cases e4
      obtain ⟨a, rfl, q⟩ := it_tup l2 r1'
      obtain ⟨d, rfl, q'⟩ := it_tup l2 r2
      obtain ⟨vs, q1, q2⟩ := q g2 H2 (.refl l2)
      obtain ⟨vs', q1', q2'⟩ := q' g2 H2 (.refl l2)
      refine ⟨a, d, vs, vs', rfl, .inr ⟨q1, q1', k g2 H2 _ l2 (s1.tr s2) fun g3 H3 P i => ?_⟩⟩
      obtain ⟨ws, q3, q4⟩ := q g3 H3 P
      obtain ⟨ws', q3', q4'⟩ := q' g3 H3 P
      have n1 := q4.length
      have n2 := q4'.length
      refine ⟨fun hi => ⟨ws, ws', q3, q3', by rw [zipL_len] at hi; omega⟩, fun t ht => ?_⟩
      obtain ⟨x, y, hx, hy, rfl⟩ := zipL_get _ _ _ _ ht
      obtain ⟨w, z1, z2⟩ := q4.get hx
      obtain ⟨w', z1', z2'⟩ := q4'.get hy
      refine ⟨⟨ws, ws', w, w', q3, q3', z1, z1'⟩, fun x H' ⟨o, y, y', y0, y1, y2, y3, y4⟩ => ?_⟩
      have y5 := y3 ws q3
      rw [z1] at y5; cases y5
      have y6 := y4 ws' q3'
      rw [z1'] at y6; cases y6
      subst y0 y2
      obtain ⟨h2, rh⟩ := P.rh
      exact ⟨.inr ⟨o, _, y1, rfl⟩, .tup (SqT.of upd_same) (.cons (z2.step (En.sp (p := true) (En.laid y1) rh)) (.cons (z2'.step (En.sp (p := true) (En.laid y1) rh)) .nil))⟩
    · cases e4
  · split at e4
    · cases e4
      obtain ⟨a, rfl, q⟩ := it_lst l2 r1' (.inl rfl)
      obtain ⟨d, rfl, q'⟩ := it_lst l2 r2 (.inl rfl)
      obtain ⟨vs, q1, q2⟩ := q g2 H2 (.refl l2)
      obtain ⟨vs', q1', q2'⟩ := q' g2 H2 (.refl l2)
      refine ⟨a, d, vs, vs', rfl, .inl ⟨q1, q1', k g2 H2 _ l2 (s1.tr s2) fun g3 H3 P i => ?_⟩⟩
      obtain ⟨ws, q3, q4⟩ := q g3 H3 P
      obtain ⟨ws', q3', q4'⟩ := q' g3 H3 P
      have n1 := q4.length
      have n2 := q4'.length
      refine ⟨fun hi => ⟨ws, ws', q3, q3', by rw [zipL_len] at hi; omega⟩, fun t ht => ?_⟩
      obtain ⟨x, y, hx, hy, rfl⟩ := zipL_get _ _ _ _ ht
      obtain ⟨w, z1, z2⟩ := q4.get hx
      obtain ⟨w', z1', z2'⟩ := q4'.get hy
      refine ⟨⟨ws, ws', w, w', q3, q3', z1, z1'⟩, fun x H' ⟨o, y, y', y0, y1, y2, y3, y4⟩ => ?_⟩
      have y5 := y3 ws q3
      rw [z1] at y5; cases y5
      have y6 := y4 ws' q3'
      rw [z1'] at y6; cases y6
      subst y0 y2
      obtain ⟨h2, rh⟩ := P.rh
      exact ⟨.inr ⟨o, _, y1, rfl⟩, .tup (SqT.of upd_same) (.cons (z2.step (En.sp (p := true) (En.laid y1) rh)) (.cons (z2'.step (En.sp (p := true) (En.laid y1) rh)) .nil))⟩
    · cases e4
  · cases e4
end
end
end Gt
end
section
set_option Elab.async false
set_option linter.all false
set_option maxRecDepth 20000
namespace Gt
open PySem L2
section
variable {fx : Fx} {g g' : G} {H H' : Hp} {τ τ' : List Slot} {σ σ' : L2.St} {h : Hs} {t : T} {v : V} {i : Nat}
theorem set_get {α : Type} {l : List α} {i j : Nat} {a b : α} (e : (l.set i a)[j]? = some b) : (i = j ∧ j < l.length ∧ b = a) ∨ (i ≠ j ∧ l[j]? = some b) := by
  by_cases z : i = j
  · subst z
    by_cases hl : i < l.length
    · rw [List.getElem?_set_self hl] at e; cases e; exact .inl ⟨rfl, hl, rfl⟩
    · rw [List.getElem?_eq_none (by simpa using hl)] at e; cases e
  · rw [List.getElem?_set_ne z] at e; exact .inr ⟨z, e⟩
/-- a name's value is kept -/
theorem Rl.set (l : Rl fx g H τ σ h) (r : RT fx.K g H t v) (i : Nat) : Rl fx g H (τ.set i (.val t)) (σ.set i (some v)) h := by
  refine ⟨by simp [l.len], fun j t' e => ?_, fun j c e => ?_, fun j k c d a e1 e2 e3 e4 => ?_, l.heap, l.en⟩
  · rcases set_get e with ⟨rfl, hl, e⟩ | ⟨hn, e⟩
    · cases e; exact ⟨v, List.getElem?_set_self (by rw [← l.len]; exact hl), r⟩
    · obtain ⟨w, q1, q2⟩ := l.val j t' e
      exact ⟨w, by rw [List.getElem?_set_ne hn]; exact q1, q2⟩
  · rcases set_get e with ⟨_, _, e⟩ | ⟨hn, e⟩
    · cases e
    · obtain ⟨a, q1, q2⟩ := l.own j c e
      exact ⟨a, by rw [List.getElem?_set_ne hn]; exact q1, q2⟩
  · rcases set_get e1 with ⟨_, _, e⟩ | ⟨n1, e1⟩
    · cases e
    rcases set_get e2 with ⟨_, _, e⟩ | ⟨n2, e2⟩
    · cases e
    rw [List.getElem?_set_ne n1] at e3
    rw [List.getElem?_set_ne n2] at e4
    exact l.apart j k c d a e1 e2 e3 e4
/-- .. a new list -/
theorem Rl.setO {c : Cell} {a : Addr} (l : Rl fx g H τ σ h) (O : Own fx g H c a) (n : ∀ (j : Nat) d, τ[j]? = some (.own d) → σ[j]? ≠ some (some (.ref a))) (i : Nat) : Rl fx g H (τ.set i (.own c)) (σ.set i (some (.ref a))) h := by
  refine ⟨by simp [l.len], fun j t' e => ?_, fun j c e => ?_, fun j k c d a' e1 e2 e3 e4 => ?_, l.heap, l.en⟩
  · rcases set_get e with ⟨_, _, e⟩ | ⟨hn, e⟩
    · cases e
    · obtain ⟨w, q1, q2⟩ := l.val j t' e
      exact ⟨w, by rw [List.getElem?_set_ne hn]; exact q1, q2⟩
  · rcases set_get e with ⟨rfl, hl, e⟩ | ⟨hn, e⟩
    · cases e; exact ⟨a, List.getElem?_set_self (by rw [← l.len]; exact hl), O⟩
    · obtain ⟨a, q1, q2⟩ := l.own j c e
      exact ⟨a, by rw [List.getElem?_set_ne hn]; exact q1, q2⟩
  · rcases set_get e1 with ⟨rfl, h1, _⟩ | ⟨n1, e1⟩
    · rw [List.getElem?_set_self (by rw [← l.len]; exact h1)] at e3; cases e3
      rcases set_get e2 with ⟨rfl, _, _⟩ | ⟨n2, e2⟩
      · rfl
      · rw [List.getElem?_set_ne n2] at e4
        exact absurd e4 (n k d e2)
    · rw [List.getElem?_set_ne n1] at e3
      rcases set_get e2 with ⟨rfl, h1, _⟩ | ⟨n2, e2⟩
      · rw [List.getElem?_set_self (by rw [← l.len]; exact h1)] at e4; cases e4
        exact absurd e3 (n j c e1)
      · rw [List.getElem?_set_ne n2] at e4
        exact l.apart j k c d a' e1 e2 e3 e4
theorem Rl.un (l : Rl fx g H τ σ h) (i : Nat) : Rl fx g H (τ.set i .un) (σ.set i none) h := by
  refine ⟨by simp [l.len], fun j t' e => ?_, fun j c e => ?_, fun j k c d a e1 e2 e3 e4 => ?_, l.heap, l.en⟩
  · rcases set_get e with ⟨_, _, e⟩ | ⟨hn, e⟩
    · cases e
    · obtain ⟨w, q1, q2⟩ := l.val j t' e
      exact ⟨w, by rw [List.getElem?_set_ne hn]; exact q1, q2⟩
  · rcases set_get e with ⟨_, _, e⟩ | ⟨hn, e⟩
    · cases e
    · obtain ⟨a, q1, q2⟩ := l.own j c e
      exact ⟨a, by rw [List.getElem?_set_ne hn]; exact q1, q2⟩
  · rcases set_get e1 with ⟨_, _, e⟩ | ⟨n1, e1⟩
    · cases e
    rcases set_get e2 with ⟨_, _, e⟩ | ⟨n2, e2⟩
    · cases e
    rw [List.getElem?_set_ne n1] at e3
    rw [List.getElem?_set_ne n2] at e4
    exact l.apart j k c d a e1 e2 e3 e4
theorem Rl.wipe (l : Rl fx g H τ σ h) : ∀ vs : List Nat, Rl fx g H (wipeE τ vs) (L2.wipe σ vs) h
  | [] => l
  | v :: vs => (Rl.wipe l vs).un v
end
theorem wipe_get (σ : L2.St) : ∀ (vs : List Nat) (j : Nat), (L2.wipe σ vs)[j]? = if j ∈ vs then (σ[j]?).map (fun _ => none) else σ[j]?
  | [], j => by simp [L2.wipe]
  | v :: vs, j => by
    unfold L2.wipe
    by_cases z : v = j
    · subst z
      rw [if_pos (by simp)]
      by_cases hl : v < (L2.wipe σ vs).length
      · rw [List.getElem?_set_self hl]
        rw [wipe_length] at hl
        rw [List.getElem?_eq_getElem hl]; rfl
      · rw [List.getElem?_eq_none (by simpa using hl)]
        rw [wipe_length] at hl
        rw [List.getElem?_eq_none (by simpa using hl)]; rfl
    · rw [List.getElem?_set_ne z, wipe_get σ vs j]
      have : (j ∈ v :: vs) ↔ j ∈ vs := by
        rw [List.mem_cons]
        exact ⟨fun q => q.elim (fun y => absurd y.symm z) id, .inr⟩
      simp only [this]
theorem wipe_set {σ : L2.St} {vs : List Nat} {i : Nat} {x : Option V} (hi : i ∈ vs) : L2.wipe (σ.set i x) vs = L2.wipe σ vs := by
  refine List.ext_getElem? fun j => ?_
  rw [wipe_get, wipe_get]
  by_cases z : i = j
  · subst z
    rw [if_pos hi, if_pos hi]
    by_cases hl : i < σ.length
    · rw [List.getElem?_set_self hl, List.getElem?_eq_getElem hl]; rfl
    · rw [List.getElem?_eq_none (by simpa using hl), List.getElem?_eq_none (by simpa using hl)]
  · rw [List.getElem?_set_ne z]
theorem wipe_wipe {σ : L2.St} {vs : List Nat} : L2.wipe (L2.wipe σ vs) vs = L2.wipe σ vs := by
  refine List.ext_getElem? fun j => ?_
  rw [wipe_get, wipe_get]
  split
  · cases σ[j]? <;> rfl
  · rfl
def gNames : List Nat → TGs
  | [] => gNil
  | i :: is => gCons (gName i) (gNames is)
def tG (fx : Fx) (k : Tg) : TG := fun v σ H Q => ∃ g τ h t e1, Rl fx g H τ σ h ∧ RT fx.K g H t v ∧ k.put τ t = some e1 ∧ ∀ σ', Rl fx g H e1 σ' h → (∀ vs, (∀ i ∈ k.ix, i ∈ vs) → L2.wipe σ' vs = L2.wipe σ vs) → Q σ' H
theorem gNames_in {fx : Fx} {g : G} {H : Hp} {h : Hs} : ∀ {is : List Nat} {ts : List T} {xs : List V} {τ e1 : List Slot} {σ : L2.St} {Q : L2.St → Hp → Prop}, setAll τ is ts = some e1 → RTs fx.K g H ts xs → Rl fx g H τ σ h →
    (∀ σ', Rl fx g H e1 σ' h → (∀ vs, (∀ i ∈ is, i ∈ vs) → L2.wipe σ' vs = L2.wipe σ vs) → Q σ' H) → gNames is xs σ H Q
  | [], [], _, τ, e1, σ, Q, e, .nil, l, k => by cases e; exact ⟨rfl, k σ l fun _ _ => rfl⟩
  | i :: is, t :: ts, _, τ, e1, σ, Q, e, .cons r rs, l, k => ⟨_, _, rfl, gNames_in (is := is) (ts := ts) e rs (l.set r i) fun σ' l' hw => k σ' l' fun vs hv => (hw vs fun j hj => hv j (List.mem_cons_of_mem _ hj)).trans (wipe_set (hv i List.mem_cons_self))⟩
  | [], _ :: _, _, _, _, _, _, e, _, _, _ => by cases e
  | _ :: _, [], _, _, _, _, _, e, _, _, _ => by cases e
section
variable {X : Cx} {p b : Bool} {g0 : G} {H0 : Hp} {c : Call} {tg elt iter e : Expr} {es ifs : List Expr} {ea : EC} {tc : TC} {ic : IC} {i n : Nat} {x : Str} {pos px : Pos} {is : List Nat} {k : Tg}
theorem _root_.L2.PG.imp {t t' : TG} (h : PG X e t) (k : ∀ v σ H Q, t' v σ H Q → t v σ H Q) : PG X e t' := ⟨fun pins s σ H v u Q I r q => h.run pins s σ H v u Q I r (k v σ H Q q)⟩
theorem _root_.L2.PTs.imp {t t' : TT} (h : PTs X es t) (k : ∀ σ H Q, t' σ H Q → t σ H Q) : PTs X es t' := ⟨fun pins s σ H Q I q => h.run pins s σ H Q I (k σ H Q q)⟩
theorem pOne' (hN : X.N.Nodup) (hi : X.N[i]? = some x) (hx : Loc X.env.scope x) (hf : X.fn x = true ∨ X.env.scope.names.lookup x = some .local := by first | exact .inl rfl | exact .inr rfl) : PG X (.Name x pos) (tG (Fix X p g0 H0) (.one i)) :=
  (pg_name hN hi hx hf).imp fun v σ H Q ⟨g, τ, h, t, e1, l, r, e, kk⟩ => by
    cases e
    exact kk _ (l.set r i) fun vs hv => wipe_set (hv i (by simp [Tg.ix]))
/-- names, one after another -/
theorem pgNil : PGs X [] (gNames []) := pgs_nil
theorem pgCons (hN : X.N.Nodup) (hi : X.N[i]? = some x) (hx : Loc X.env.scope x) (hr : PGs X es (gNames is)) (hf : X.fn x = true ∨ X.env.scope.names.lookup x = some .local := by first | exact .inl rfl | exact .inr rfl)
    (hs : (assignEach (.Name x pos :: es) X.env).map (·.2) = assign (.Name x pos) X.env :: (assignEach es X.env).map (·.2) := by rfl) : PGs X (.Name x pos :: es) (gNames (i :: is)) := pgs_cons (pg_name hN hi hx hf) hr hs
theorem setAll_len : ∀ {is : List Nat} {ts : List T} {τ e1 : List Slot}, setAll τ is ts = some e1 → ts.length = is.length
  | [], [], _, _, _ => rfl
  | _ :: is, _ :: ts, _, _, e => congrArg Nat.succ (setAll_len (is := is) (ts := ts) e)
  | [], _ :: _, _, _, e => by cases e
  | _ :: _, [], _, _, e => by cases e
theorem pMany {kk : Nat} (hc : X.calm = true) (h : PGs X es (gNames is)) (hn : (assignEach es X.env).length = is.length := by rfl) (hst : (assignEach es X.env).findIdx? (·.1) = none := by rfl) : PG X (.Tuple es kk pos) (tG (Fix X p g0 H0) (.many is)) :=
  (pg_tup hc h hn hst).imp fun v σ H Q ⟨g, τ, h, t, e1, l, r, e, kQ⟩ => by
    cases t with
    | tup ts =>
      obtain ⟨a, vs, rfl, q, m⟩ := l.tup (b := false) (.inl r) (show deref h (.tup ts) = .tup ts from rfl)
      exact ⟨a, vs, rfl, q, by rw [← m.length]; exact setAll_len e, gNames_in e m l kQ⟩
    | _ => cases e
theorem ifs0 : PTs X [] (tT (Fix X p g0 H0) c tYes) := pts_nil.imp fun σ H Q ⟨g, τ, h, t, h', l, ee, k⟩ => by
  cases ee
  exact k g H l En.refl
theorem ifs1 (h : PT X e (tT (Fix X p g0 H0) c tc)) : PTs X [e] (tT (Fix X p g0 H0) c tc) := pts_one h
/-- something stays, that is no frozen list and no cell -/
theorem En.keepD {p : Bool} {g g' : G} {H H' : Hp} (en : En p g H g' H') {D : Addr} {o : HO} (e : H D = some o) (nF : ¬ g.F D) (nρ : D ∉ g.ρ) : H' D = some o ∧ ¬ g'.F D ∧ D ∉ g'.ρ := by
  refine ⟨en.keep D o e (.inr nρ), fun f => ?_, fun m => ?_⟩
  · have z := en.F2 D f nF
    rw [e] at z; cases z
  · obtain ⟨m', e1, n1, _⟩ := en.ρ
    rw [e1] at m
    rcases List.mem_append.mp m with m | m
    · exact nρ m
    · rw [n1 D m] at e; cases e
theorem sp_put {g : G} {H : Hp} {D : Addr} {o o' : HO} (e : H D = some o) (nF : ¬ g.F D) (nt : ∀ xs, o ≠ .tup xs) (nz : ∀ w u, o ≠ .frz w u) : Sp g H g (upd H D o') := by
  refine ⟨fun _ f => f, ⟨[], by simp⟩, fun a f => upd_ne (fun z => nF (z ▸ f)), fun a xs q => ?_, fun a w u q => ?_⟩
  · rw [upd_ne (fun z => nt xs (by subst z; rw [e] at q; exact Option.some.inj q))]; exact q
  · rw [upd_ne (fun z => nz w u (by subst z; rw [e] at q; exact Option.some.inj q))]; exact q
theorem rh_put {K : PySem.W.Frag} {g : G} {H : Hp} {h : Hs} {D : Addr} {o o' : HO} (r : RH K g H h) (e : H D = some o) (nF : ¬ g.F D) (nρ : D ∉ g.ρ) (nt : ∀ xs, o ≠ .tup xs) (nz : ∀ w u, o ≠ .frz w u) : RH K g (upd H D o') h :=
  r.go (sp_put e nF nt nz) rfl r.no (fun a f => by rw [show upd H D o' a = H a from upd_ne fun z => nF (by rw [← z]; exact f)]; exact r.th a f) fun a m => upd_ne fun z => nρ (by rw [← z]; exact m)
theorem en_put {p : Bool} {g g' : G} {H H' : Hp} {D : Addr} {o o' : HO} (en : En p g H g' H') (n : H D = none) : En p g H g' (upd H' D o') := by
  refine ⟨en.F, en.F2, en.ρ, fun a u q w => ?_, fun a q => ?_⟩
  · rw [upd_ne (fun z => by rw [z, n] at q; cases q)]; exact en.keep a u q w
  · by_cases z : a = D
    · rw [z, upd_same]; exact fun q => nomatch q
    · rw [upd_ne z]; exact en.th a q
theorem rl_put {fx : Fx} {g : G} {H : Hp} {τ : List Slot} {σ : L2.St} {h : Hs} {D : Addr} {o o' : HO} (l : Rl fx g H τ σ h) (e : H D = some o) (nF : ¬ g.F D) (nρ : D ∉ g.ρ) (nt : ∀ xs, o ≠ .tup xs) (nz : ∀ w u, o ≠ .frz w u) (n0 : fx.H0 D = none)
    (ns : ∀ (j : Nat) d, τ[j]? = some (.own d) → σ[j]? ≠ some (some (.ref D))) : Rl fx g (upd H D o') τ σ h := by
  have s : Sp g H g (upd H D o') := sp_put e nF nt nz
  refine ⟨l.len, fun i t q => ?_, fun i c q => ?_, l.apart, rh_put l.heap e nF nρ nt nz, en_put (o := o) l.en n0⟩
  · obtain ⟨v, q1, q2⟩ := l.val i t q
    exact ⟨v, q1, q2.step s⟩
  · obtain ⟨a, q1, q2⟩ := l.own i c q
    exact ⟨a, q1, q2.rc.step s (upd_ne fun z => ns i c q (by rw [← z]; exact q1)), q2.nF, q2.nρ, q2.new⟩
theorem comp_in {vs : List Nat} (hk : ∀ i ∈ k.ix, i ∈ vs) {σ : L2.St} {H : Hp} {Q : VK} (z : tO (Fix X p g0 H0) c (oComp vs k ic tc ea) σ H Q) : tLc (tI (Fix X p g0 H0) true c ic) (tG (Fix X p g0 H0) k) (tT (Fix X p g0 H0) c tc) (tE (Fix X p g0 H0) false c ea) vs σ H Q := by
  obtain ⟨g, τ, h, r, h', l, ee, kQ⟩ := z
  obtain ⟨ts, h1, e1, e2⟩ := R.bind_ok ee
  obtain ⟨L, h2, e3, e4⟩ := R.bind_ok e2
  cases e4
  refine ⟨g, τ, h, ts, h1, l, e1, fun g1 H1 J l1 s1 yd D hD => ?_⟩
  have nD := l1.new hD
  refine ⟨fun i m H2 => m + i = ts.length ∧ ∃ g2 h2 acc ws, Rl (Fix X p g0 H0) g2 H2 τ σ h2 ∧ En p g1 H1 g2 H2 ∧ H2 D = some (.lst ws) ∧ RTs X.K g2 H2 acc ws ∧ ¬ g2.F D ∧ D ∉ g2.ρ ∧ compL k (tc c) (ea c) (wipeE τ vs) (ts.drop i) acc h2 = .ok L h',
    ⟨ts.length, rfl, g1, h1, [], [], l1.laid hD, En.laid hD, upd_same, .nil, nD.1, nD.2.1, e3⟩, ?_⟩
  rintro i m H2 ⟨hm, g2, h2, acc, ws, l2, s2, hD2, ra, nF, nρ, ec⟩
  have P : Pit (Fix X p g0 H0) true τ σ g1 H1 g2 H2 := ⟨s2.sp l1.heap, ⟨h2, l2.heap⟩, fun _ => ⟨h2, l2⟩⟩
  obtain ⟨y1, y2⟩ := yd g2 H2 P i
  by_cases hi : i < ts.length
  · have hd : ts.drop i = ts[i] :: ts.drop (i + 1) := List.drop_eq_getElem_cons hi
    rw [hd] at ec
    unfold compL at ec
    obtain ⟨go, y3⟩ := y2 ts[i] (List.getElem?_eq_getElem hi)
    obtain ⟨m', rfl⟩ : ∃ m', m = m' + 1 := ⟨m - 1, by omega⟩
    refine .inr ⟨go, _, fun H' q => ⟨m', Nat.lt_succ_self _, q⟩, fun x H3 hy => ?_⟩
    obtain ⟨hg, rx⟩ := y3 x H3 hy
    have l3 : Rl (Fix X p g0 H0) g2 H3 τ σ h2 ∧ En p g2 H2 g2 H3 ∧ H3 D = some (.lst ws) ∧ RTs X.K g2 H3 acc ws := by
      rcases hg with rfl | ⟨q, us, hq, rfl⟩
      · exact ⟨l2, En.refl, hD2, ra⟩
      · exact ⟨l2.laid hq, En.laid hq, by rw [upd_ne (fun z => by rw [z, hq] at hD2; cases hD2)]; exact hD2, ra.step (l2.sp_laid hq)⟩
    obtain ⟨l3, s3, hD3, ra3⟩ := l3
    split at ec
    · cases ec
    · rename_i e1' hp
      obtain ⟨kk, h3, f1, f2⟩ := R.bind_ok ec
      refine ⟨g2, wipeE τ vs, h2, ts[i], e1', l3.wipe vs, rx, hp, fun σ2 l4 hw => ⟨(hw vs hk).trans wipe_wipe, g2, e1', h2, kk, h3, l4, f1, fun g4 H4 l5 s5 => ?_⟩⟩
      have d5 := s5.keepD hD3 nF nρ
      have ra5 := ra3.step (s5.sp l3.heap)
      have l5' : Rl (Fix X p g0 H0) g4 H4 τ σ h3 := l3.go s5 id l5.heap
      have en5 : En p g1 H1 g4 H4 := (s2.tr s3).tr s5
      cases kk with
      | false =>
        show ite (false = true) _ _
        rw [if_neg Bool.false_ne_true]
        rw [if_neg Bool.false_ne_true] at f2
        show _ + _ = _ ∧ _
        exact ⟨by omega, g4, h3, acc, ws, l5', en5, d5.1, ra5, d5.2.1, d5.2.2, f2⟩
      | true =>
        show ite (true = true) _ _
        rw [if_pos rfl]
        rw [if_pos rfl] at f2
        obtain ⟨y, h4, f3, f4⟩ := R.bind_ok f2
        split at f4
        · rename_i hz
          refine ⟨g4, e1', h3, y, h4, l5, f3, fun g6 H6 w l6 s6 r6 => ?_⟩
          have d6 := s6.keepD d5.1 d5.2.1 d5.2.2
          have ra6 := ra5.step (s6.sp l5.heap)
          have l6' : Rl (Fix X p g0 H0) g6 H6 τ σ h4 := l5'.go s6 id l6.heap
          have sp7 : Sp g6 H6 g6 (upd H6 D (.lst (ws ++ [w]))) := sp_put d6.1 d6.2.1 (fun xs q => nomatch q) (fun _ _ q => nomatch q)
          refine ⟨ws, d6.1, by rw [← ra.length, ← LIM_eq]; exact hz, ?_⟩
          show _ + _ = _ ∧ _
          exact ⟨by omega, g6, h4, acc ++ [y], ws ++ [w], rl_put l6' d6.1 d6.2.1 d6.2.2 (fun xs q => nomatch q) (fun _ _ q => nomatch q) nD.2.2.1 (l1.no_slot hD), en_put (o := .lst ws) (en5.tr s6) hD, upd_same, (ra6.append (.cons r6.rt .nil)).step sp7, d6.2.1, d6.2.2, f4⟩
        · cases f4
  · refine .inl ⟨y1 (by omega), ?_⟩
    rw [List.drop_eq_nil_of_le (by omega)] at ec
    cases ec
    exact kQ g2 H2 (.ref D) l2 (s1.tr s2) ⟨D, rfl, .lst hD2 ra, nF, nρ, s1.back hD⟩
theorem pComp {scope : Scope} {own : List (Str × Nat)} {is : List Nat} (hc : X.calm = true) (hN : X.N.Nodup) (hi : PI X tg iter (tI (Fix X p g0 H0) true c ic)) (ok : BlkOk X.N X.env.scope scope own)
    (hg : ∀ (s : Shared) (H : Hp) (C : Addr) (cl : List (Str × Addr)) (fp : List Addr), PG (X.blk s H scope (compEnvC scope cl C X.env) fp) tg (tG (Fix (X.blk s H scope (compEnvC scope cl C X.env) fp) p g0 H0) k))
    (ht : ∀ (s : Shared) (H : Hp) (C : Addr) (cl : List (Str × Addr)) (fp : List Addr), PTs (X.blk s H scope (compEnvC scope cl C X.env) fp) ifs (tT (Fix (X.blk s H scope (compEnvC scope cl C X.env) fp) p g0 H0) c tc))
    (he : ∀ (s : Shared) (H : Hp) (C : Addr) (cl : List (Str × Addr)) (fp : List Addr), PE (X.blk s H scope (compEnvC scope cl C X.env) fp) elt (tE (Fix (X.blk s H scope (compEnvC scope cl C X.env) fp) p g0 H0) false c ea))
    (hv : own.map (·.2) = is := by rfl) (hk : ∀ i ∈ k.ix, i ∈ is := by decide) (hs : ∀ x, foldedSetIterable iter X.env x = pure x := by intro _; rfl) : PE X (.ListComp elt [⟨tg, iter, ifs, 0⟩] scope pos) (tO (Fix X p g0 H0) c (oComp is k ic tc ea)) := by
  subst hv
  exact (pe_lc hc hN hi ok hg ht he hs).imp fun σ H Q z => comp_in hk z
end
end Gt
end
section
set_option Elab.async false
set_option linter.all false
set_option maxRecDepth 20000
namespace Gt
open PySem L2
def Out (fx : Fx) (D : Ends) (g : G) (H : Hp) : SR → Prop
  | .next e h' => ∀ g' σ' H', Rl fx g' H' e σ' h' → Sp g H g' H' → D.nx σ' H'
  | .cnt e h' => ∀ g' σ' H', Rl fx g' H' e σ' h' → Sp g H g' H' → D.ct σ' H'
  | .brk e h' => ∀ g' σ' H', Rl fx g' H' e σ' h' → Sp g H g' H' → D.bk σ' H'
  | .ret r h' => ∀ g' H' v, RH fx.K g' H' h' → En fx.p fx.g0 fx.H0 g' H' → RR fx.K fx.H0 g' H' r v → D.rt v H'
  | .exc _ _ _ => False
  | .bad => False
def tS (fx : Fx) (c : Call) (sc : SC) : TS := fun D σ H => ∃ g τ h, Rl fx g H τ σ h ∧ Out fx D g H (sc c τ h)
section
variable {fx : Fx} {g g' : G} {H H' : Hp} {τ τ' : List Slot} {σ σ' : L2.St} {h h' : Hs} {t : T} {v : V} {i : Nat} {D : Ends}
theorem Out.step {r : SR} (s : Sp g H g' H') (o : Out fx D g H r) : Out fx D g' H' r := by
  cases r with
  | next e h' => exact fun g2 σ2 H2 l2 s2 => o g2 σ2 H2 l2 (s.trans s2)
  | cnt e h' => exact fun g2 σ2 H2 l2 s2 => o g2 σ2 H2 l2 (s.trans s2)
  | brk e h' => exact fun g2 σ2 H2 l2 s2 => o g2 σ2 H2 l2 (s.trans s2)
  | ret r h' => exact o
  | exc => exact o
  | bad => exact o
theorem bindS_out {α : Type} {r : R α} {f : α → Hs → SR} (o : Out fx D g H (r.bindS f)) : ∃ a h1, r = .ok a h1 ∧ Out fx D g H (f a h1) := by
  cases r with
  | ok a h1 => exact ⟨a, h1, rfl, o⟩
  | exc => exact o.elim
  | bad => exact o.elim
/-- a list of one's own is changed -/
theorem Rl.mut {x y : Cell} {a : Addr} {o' : HO} (l : Rl fx g H τ σ h) (e1 : τ[i]? = some (.own x)) (e2 : σ[i]? = some (some (.ref a))) (O : Own fx g H x a) (rc : Sp g H g (upd H a o') → RC fx.K g (upd H a o') y a) :
    Rl fx g (upd H a o') (τ.set i (.own y)) σ h ∧ Sp g H g (upd H a o') := by
  obtain ⟨o, eo⟩ := O.rc.some
  have nt : ∀ xs, o ≠ .tup xs := fun xs z => O.rc.not_tup xs (by rw [eo, z])
  have nz : ∀ w u, o ≠ .frz w u := fun w u z => O.rc.not_frz w u (by rw [eo, z])
  have s : Sp g H g (upd H a o') := sp_put eo O.nF nt nz
  refine ⟨⟨by simp [l.len], fun j t' e => ?_, fun j c e => ?_, fun j k c d a' f1 f2 f3 f4 => ?_, rh_put l.heap eo O.nF O.nρ nt nz, en_put (o := o) l.en O.new⟩, s⟩
  · rcases set_get e with ⟨_, _, e⟩ | ⟨hn, e⟩
    · cases e
    · obtain ⟨w, q1, q2⟩ := l.val j t' e
      exact ⟨w, q1, q2.step s⟩
  · rcases set_get e with ⟨rfl, hl, e⟩ | ⟨hn, e⟩
    · cases e; exact ⟨a, e2, rc s, O.nF, O.nρ, O.new⟩
    · obtain ⟨a', q1, q2⟩ := l.own j c e
      exact ⟨a', q1, q2.rc.step s (upd_ne fun z => hn (l.apart i j x c a e1 e e2 (by rw [← z]; exact q1))), q2.nF, q2.nρ, q2.new⟩
  · have back : ∀ (j : Nat) c, (τ.set i (.own y))[j]? = some (.own c) → ∃ c', τ[j]? = some (.own c') := fun j c e => by
      rcases set_get e with ⟨rfl, _, _⟩ | ⟨_, e⟩
      · exact ⟨x, e1⟩
      · exact ⟨c, e⟩
    obtain ⟨c', f1⟩ := back j c f1
    obtain ⟨d', f2⟩ := back k d f2
    exact l.apart j k c' d' a' f1 f2 f3 f4
/-- a list of one's own is frozen in its place -/
theorem freeze_rl (l : Rl fx g H τ σ h) (i : Nat) : ∃ g', Rl fx g' H (freeze1 τ i) σ h ∧ Sp g H g' H := by
  unfold freeze1
  split
  · rename_i c e1
    obtain ⟨a, e2, O⟩ := l.own i c e1
    have s : Sp g H (g.and a) H := Sp.and (fx := fx) l.heap a
    refine ⟨g.and a, ⟨by simp [l.len], fun j t' e => ?_, fun j c' e => ?_, fun j k c d a' f1 f2 f3 f4 => ?_, l.heap.and O.rc O.nρ, l.en.and O.new⟩, s⟩
    · rcases set_get e with ⟨rfl, hl, e⟩ | ⟨hn, e⟩
      · cases e; exact ⟨.ref a, e2, (O.rc.step s rfl).rt (.inl rfl)⟩
      · obtain ⟨w, q1, q2⟩ := l.val j t' e
        exact ⟨w, q1, q2.step s⟩
    · rcases set_get e with ⟨_, _, e⟩ | ⟨hn, e⟩
      · cases e
      · obtain ⟨a', q1, q2⟩ := l.own j c' e
        refine ⟨a', q1, q2.rc.step s rfl, fun f => ?_, q2.nρ, q2.new⟩
        rcases f with rfl | f
        · exact hn (l.apart i j c c' _ e1 e e2 q1)
        · exact q2.nF f
    · rcases set_get f1 with ⟨_, _, e⟩ | ⟨_, f1⟩
      · cases e
      rcases set_get f2 with ⟨_, _, e⟩ | ⟨_, f2⟩
      · cases e
      exact l.apart j k c d a' f1 f2 f3 f4
  · exact ⟨g, l, Sp.refl⟩
theorem freezes_rl : ∀ (is : List Nat) {τ : List Slot} {g : G}, Rl fx g H τ σ h → ∃ g', Rl fx g' H (is.foldl freeze1 τ) σ h ∧ Sp g H g' H
  | [], _, g, l => ⟨g, l, Sp.refl⟩
  | i :: is, _, g, l => by
    obtain ⟨g1, l1, s1⟩ := freeze_rl l i
    obtain ⟨g2, l2, s2⟩ := freezes_rl is l1
    exact ⟨g2, l2, s1.trans s2⟩
end
section
variable {X : Cx} {p : Bool} {g0 : G} {H0 : Hp} {c : Call} {e e1 e2 tg iter elt : Expr} {es ifs : List Expr} {ea eb : EC} {oa : OC} {ac : AC} {tc : TC} {sa sb : SC} {ic : IC} {n i j : Nat} {x y : Str} {pos px : Pos} {st : Stmt} {sts sts' : List Stmt} {k : Tg} {is : List Nat}
theorem _root_.L2.PS.imp {t t' : TS} (h : PS X st t) (k : ∀ D σ H, t' D σ H → t D σ H) : PS X st t' := ⟨fun pins s σ H D I q => h.run pins s σ H D I (k D σ H q)⟩
theorem _root_.L2.PS.or {t t' u : TS} (h : PS X st t) (h' : PS X st t') (k : ∀ D σ H, u D σ H → t D σ H ∨ t' D σ H) : PS X st u := ⟨fun pins s σ H D I q => (k D σ H q).elim (h.run pins s σ H D I) (h'.run pins s σ H D I)⟩
theorem _root_.L2.PSs.imp {t t' : TS} (h : PSs X sts t) (k : ∀ D σ H, t' D σ H → t D σ H) : PSs X sts t' := ⟨fun pins s σ H D I q => h.run pins s σ H D I (k D σ H q)⟩
abbrev Sx (X : Cx) (p : Bool) (g0 : G) (H0 : Hp) (c : Call) (st : Stmt) (sc : SC) : Prop := PS X st (tS (Fix X p g0 H0) c sc)
abbrev Ss (X : Cx) (p : Bool) (g0 : G) (H0 : Hp) (c : Call) (st : List Stmt) (sc : SC) : Prop := PSs X st (tS (Fix X p g0 H0) c sc)
theorem z0 : Ss X p g0 H0 c [] sSkip := pss_nil.imp fun D σ H ⟨g, τ, h, l, o⟩ => o g σ H l Sp.refl
theorem zCons (h1 : Sx X p g0 H0 c st sa) (h2 : Ss X p g0 H0 c sts sb) : Ss X p g0 H0 c (st :: sts) (sSeq sa sb) := (pss_cons h1 h2).imp fun D σ H ⟨g, τ, h, l, o⟩ => by
  refine ⟨g, τ, h, l, ?_⟩
  unfold sSeq at o
  cases z : sa c τ h with
  | next e h1 => rw [z] at o; exact fun g' σ' H' l' s' => ⟨g', e, h1, l', o.step s'⟩
  | cnt => rw [z] at o; exact o
  | brk => rw [z] at o; exact o
  | ret => rw [z] at o; exact o
  | exc => rw [z] at o; exact o
  | bad => rw [z] at o; exact o
theorem zOne (h1 : Sx X p g0 H0 c st sa) : Ss X p g0 H0 c [st] sa := (pss_one h1).imp fun D σ H q => q
theorem sPass : Sx X p g0 H0 c (.Pass pos) sSkip := ps_pass.imp fun D σ H ⟨g, τ, h, l, o⟩ => o g σ H l Sp.refl
theorem sDoc {z : Str} {kk p1 p2} : Sx X p g0 H0 c (.Expr (.Constant (.str z) kk p1) p2) sSkip := ps_doc.imp fun D σ H ⟨g, τ, h, l, o⟩ => o g σ H l Sp.refl
theorem sBrk : Sx X p g0 H0 c (.Break pos) sBreak := ps_break.imp fun D σ H ⟨g, τ, h, l, o⟩ => o g σ H l Sp.refl
theorem sCnt : Sx X p g0 H0 c (.Continue pos) sCont := ps_continue.imp fun D σ H ⟨g, τ, h, l, o⟩ => o g σ H l Sp.refl
theorem sNever : Sx X p g0 H0 c st sBad := ps_never.imp fun D σ H ⟨g, τ, h, l, o⟩ => o.elim
theorem sFrz (is : List Nat) (h : Sx X p g0 H0 c st sa) : Sx X p g0 H0 c st (sFreeze is sa) := PS.imp h fun D σ H ⟨g, τ, h, l, o⟩ => by
  obtain ⟨g', l', s'⟩ := freezes_rl is l
  exact ⟨g', _, h, l', o.step s'⟩
theorem sRet1 (he : PE X e (tE (Fix X p g0 H0) false c ea)) : Sx X p g0 H0 c (.Return (some e) pos) (sRet ea) := (ps_ret he).imp fun D σ H ⟨g, τ, h, l, o⟩ => by
  obtain ⟨t, h1, e1, o⟩ := bindS_out o
  exact ⟨g, τ, h, t, h1, l, e1, fun g' H' v l' s' r' => o g' H' v l'.heap l'.en r'.rt⟩
theorem sRet2 (he : PE X e (tO (Fix X p g0 H0) c oa)) : Sx X p g0 H0 c (.Return (some e) pos) (sRetO oa) := (ps_ret he).imp fun D σ H ⟨g, τ, h, l, o⟩ => by
  obtain ⟨t, h1, e1, o⟩ := bindS_out o
  exact ⟨g, τ, h, t, h1, l, e1, fun g' H' v l' s' r' => o g' H' v l'.heap l'.en (r'.back l.en)⟩
theorem sRet3 (hN : X.N[i]? = some x) (hv : Vis X.env.scope x) (hd : (x == ("__debug__" : Str)) = false := by decide) (hcd : (x == ("__classdict__" : Str)) = false := by decide) : Sx X p g0 H0 c (.Return (some (.Name x px)) pos) (sRetN i) :=
  (ps_ret (pe_var hN hv hd hcd)).imp fun D σ H ⟨g, τ, h, l, o⟩ => by
    unfold sRetN at o
    split at o
    · rename_i t eq
      obtain ⟨v, q1, q2⟩ := l.val i _ eq
      exact ⟨v, q1, o g H v l.heap l.en q2⟩
    · rename_i t eq
      obtain ⟨a, q1, O⟩ := l.own i _ eq
      exact ⟨.ref a, q1, o g H _ l.heap l.en ⟨a, rfl, O.rc, O.nF, O.nρ, O.new⟩⟩
    · exact o.elim
theorem sRet0 : Sx X p g0 H0 c (.Return none pos) (sRet (eK .non)) := ps_retN.imp fun D σ H ⟨g, τ, h, l, o⟩ => o g H .non l.heap l.en .non
theorem sIf' {a b : List Stmt} (hc : PT X e (tT (Fix X p g0 H0) c tc)) (h1 : Ss X p g0 H0 c a sa) (h2 : Ss X p g0 H0 c b sb) : Sx X p g0 H0 c (.If e a b pos) (sIf tc sa sb) := (ps_if hc h1 h2).imp fun D σ H ⟨g, τ, h, l, o⟩ => by
  obtain ⟨t, h1, e1, o⟩ := bindS_out o
  refine ⟨g, τ, h, t, h1, l, e1, fun g' H' l' s' => ?_⟩
  cases t with
  | true => exact ⟨g', τ, h1, l', o.step (s'.sp l.heap)⟩
  | false => exact ⟨g', τ, h1, l', o.step (s'.sp l.heap)⟩
theorem sDrop1 (he : PE X e (tO (Fix X p g0 H0) c oa)) (hs : swapsWith e none pos.line X.env = pure false := by rfl) : Sx X p g0 H0 c (.Expr e pos) (sDrop oa) := (ps_expr he hs).imp fun D σ H ⟨g, τ, h, l, o⟩ => by
  obtain ⟨t, h1, e1, o⟩ := bindS_out o
  exact ⟨g, τ, h, t, h1, l, e1, fun g' H' v l' s' r' => o g' σ H' l' (s'.sp l.heap)⟩
theorem sSet1 {pos' : Pos} (hN : X.N.Nodup) (hi : X.N[i]? = some x) (hx : Loc X.env.scope x) (he : PE X e (tE (Fix X p g0 H0) false c ea)) (hs : swapsWith e (some (.Name x pos')) pos.line X.env = pure false := by rfl) (hf : X.fn x = true ∨ X.env.scope.names.lookup x = some .local := by first | exact .inl rfl | exact .inr rfl) :
    Sx X p g0 H0 c (.Assign [.Name x pos'] e pos) (sSet i ea) := (ps_set hN hi hx he hs hf).imp fun D σ H ⟨g, τ, h, l, o⟩ => by
  obtain ⟨t, h1, e1, o⟩ := bindS_out o
  exact ⟨g, τ, h, t, h1, l, e1, fun g' H' v l' s' r' => o g' _ H' (l'.set r'.rt i) (s'.sp l.heap)⟩
theorem setO_out {D : Ends} {g g' : G} {H H' : Hp} {τ : List Slot} {σ : L2.St} {h h' : Hs} {r : RV} {v : V} (o : Out (Fix X p g0 H0) D g H (.next (τ.set i r.toSlot) h')) (l : Rl (Fix X p g0 H0) g H τ σ h) (l' : Rl (Fix X p g0 H0) g' H' τ σ h') (s' : En p g H g' H') (r' : RR X.K H g' H' r v) : D.nx (σ.set i (some v)) H' := by
  cases r with
  | val t => exact o g' _ H' (l'.set r' i) (s'.sp l.heap)
  | own cl =>
    obtain ⟨a, rfl, rc, nF, nρ, n⟩ := r'
    have q := l.new n
    exact o g' _ H' (l'.setO ⟨rc, nF, nρ, q.2.2.1⟩ q.2.2.2 i) (s'.sp l.heap)
theorem sSet2 {pos' : Pos} (hN : X.N.Nodup) (hi : X.N[i]? = some x) (hx : Loc X.env.scope x) (he : PE X e (tO (Fix X p g0 H0) c oa)) (hs : swapsWith e (some (.Name x pos')) pos.line X.env = pure false := by rfl) (hf : X.fn x = true ∨ X.env.scope.names.lookup x = some .local := by first | exact .inl rfl | exact .inr rfl) :
    Sx X p g0 H0 c (.Assign [.Name x pos'] e pos) (sSetO i oa) := (ps_set hN hi hx he hs hf).imp fun D σ H ⟨g, τ, h, l, o⟩ => by
  obtain ⟨t, h1, e1, o⟩ := bindS_out o
  exact ⟨g, τ, h, t, h1, l, e1, fun g' H' v l' s' r' => setO_out o l l' s' r'⟩
theorem sSetLc {py spos : Pos} {scope : Scope} {own : List (Str × Nat)} (hc : X.calm = true) (hN : X.N.Nodup) (hy : X.N[i]? = some y) (hyl : X.env.scope.names.lookup y = some .local) (hk0 : X.env.scope.kind = .function) (hi : PI X tg iter (tI (Fix X p g0 H0) true c ic)) (ok : BlkOk X.N X.env.scope scope own)
    (hg : ∀ (s : Shared) (H : Hp) (C : Addr) (cl : List (Str × Addr)) (fp : List Addr), PG (X.blk s H scope (compEnvC scope cl C X.env) fp) tg (tG (Fix (X.blk s H scope (compEnvC scope cl C X.env) fp) p g0 H0) k))
    (ht : ∀ (s : Shared) (H : Hp) (C : Addr) (cl : List (Str × Addr)) (fp : List Addr), PTs (X.blk s H scope (compEnvC scope cl C X.env) fp) ifs (tT (Fix (X.blk s H scope (compEnvC scope cl C X.env) fp) p g0 H0) c tc))
    (he : ∀ (s : Shared) (H : Hp) (C : Addr) (cl : List (Str × Addr)) (fp : List Addr), PE (X.blk s H scope (compEnvC scope cl C X.env) fp) elt (tE (Fix (X.blk s H scope (compEnvC scope cl C X.env) fp) p g0 H0) false c ea))
    (hv : own.map (·.2) = is := by rfl) (hk : ∀ i ∈ k.ix, i ∈ is := by decide) (hl : (py.line == pos.line) = true := by rfl) (ha : (scope.names.any fun (n, k) => n == y && (k == .local || k == .cell)) = false := by rfl) (hs : ∀ x, foldedSetIterable iter X.env x = pure x := by intro _; rfl) :
    Sx X p g0 H0 c (.Assign [.Name y py] (.ListComp elt [⟨tg, iter, ifs, 0⟩] scope pos) spos) (sSetO i (oComp is k ic tc ea)) := by
  subst hv
  exact (ps_setLc hc hN hy hyl (sw_true hk0 hyl hl ha) hi ok hg ht he hs).imp fun D σ H ⟨g, τ, h, l, o⟩ => by
    obtain ⟨t, h1, e1, o⟩ := bindS_out o
    exact comp_in hk ⟨g, τ, h, t, h1, l, e1, fun g' H' v l' s' r' => setO_out o l l' s' r'⟩
theorem sSetLcF {py spos : Pos} {scope : Scope} {own : List (Str × Nat)} (hc : X.calm = true) (hN : X.N.Nodup) (hy : X.N[i]? = some y) (hyl : X.env.scope.names.lookup y = some .local) (hk0 : X.env.scope.kind = .function) (hi : PI X tg iter (tI (Fix X p g0 H0) true c ic)) (ok : BlkOk X.N X.env.scope scope own)
    (hg : ∀ (s : Shared) (H : Hp) (C : Addr) (cl : List (Str × Addr)) (fp : List Addr), PG (X.blk s H scope (compEnvC scope cl C X.env) fp) tg (tG (Fix (X.blk s H scope (compEnvC scope cl C X.env) fp) p g0 H0) k))
    (ht : ∀ (s : Shared) (H : Hp) (C : Addr) (cl : List (Str × Addr)) (fp : List Addr), PTs (X.blk s H scope (compEnvC scope cl C X.env) fp) ifs (tT (Fix (X.blk s H scope (compEnvC scope cl C X.env) fp) p g0 H0) c tc))
    (he : ∀ (s : Shared) (H : Hp) (C : Addr) (cl : List (Str × Addr)) (fp : List Addr), PE (X.blk s H scope (compEnvC scope cl C X.env) fp) elt (tE (Fix (X.blk s H scope (compEnvC scope cl C X.env) fp) p g0 H0) false c ea))
    (hv : own.map (·.2) = is := by rfl) (hk : ∀ i ∈ k.ix, i ∈ is := by decide) (hl : (py.line == pos.line) = true := by rfl) (ha : (scope.names.any fun (n, k) => n == y && (k == .local || k == .cell)) = false := by rfl) (hs : ∀ x, foldedSetIterable iter X.env x = pure x := by intro _; rfl) :
    Sx X p g0 H0 c (.Assign [.Name y py] (.ListComp elt [⟨tg, iter, ifs, 0⟩] scope pos) spos) (sSet i (eOwn (oComp is k ic tc ea))) := by
  subst hv
  exact (ps_setLc hc hN hy hyl (sw_true hk0 hyl hl ha) hi ok hg ht he hs).imp fun D σ H ⟨g, τ, h, l, o⟩ => by
    obtain ⟨t, h1, f1, o⟩ := bindS_out o
    obtain ⟨r, h2, f2, f3⟩ := R.bind_ok f1
    cases f3
    refine comp_in hk ⟨g, τ, h, r, _, l, f2, fun g' H' v l' s' r' => ?_⟩
    obtain ⟨g2, l2, s2, q2⟩ := r'.keep l l' s'
    exact o g2 _ H' (l2.set q2 i) (s2.sp l.heap)
theorem sUnp1 {kk : Nat} {pt : Pos} (he : PE X e (tE (Fix X p g0 H0) false c ea)) (hg : PG X (.Tuple es kk pt) (tG (Fix X p g0 H0) (.many is))) (hs : swapsWithSole [.Tuple es kk pt] e pos.line X.env = pure false := by rfl) (hw : swappedStores [.Tuple es kk pt] e X.env = pure none := by rfl)
    (h1 : (assignEach [.Tuple es kk pt] X.env).map (·.2) = [assign (.Tuple es kk pt) X.env] := by rfl) : Sx X p g0 H0 c (.Assign [.Tuple es kk pt] e pos) (sUnp is ea) := (ps_asg he hg hs hw h1).imp fun D σ H ⟨g, τ, h, l, o⟩ => by
  obtain ⟨t, h1, e1, o⟩ := bindS_out o
  refine ⟨g, τ, h, t, h1, l, e1, fun g' H' v l' s' r' => ?_⟩
  split at o
  · rename_i e2 eq
    exact ⟨g', τ, h1, t, e2, l', r'.rt, eq, fun σ' l2 _ => o g' σ' H' l2 (s'.sp l.heap)⟩
  · exact o.elim
theorem sPar2 {a b : Expr} {px py pt : Pos} {kt k2 pt2} (hc : X.calm = true) (hN : X.N.Nodup) (hi : X.N[i]? = some x) (hj : X.N[j]? = some y) (hij : i ≠ j) (hx : X.env.scope.names.lookup x = some .local) (hy : X.env.scope.names.lookup y = some .local)
    (ha : PAs X (Fix X p g0 H0) false c 2 [a, b] ac) (hw : swappedStores [.Tuple [.Name x px, .Name y py] kt pt] (.Tuple [a, b] k2 pt2) X.env = pure (some [x, y]))
    (hs : swapsWithSole [.Tuple [.Name x px, .Name y py] kt pt] (.Tuple [a, b] k2 pt2) pos.line X.env = pure false := by rfl) : Sx X p g0 H0 c (.Assign [.Tuple [.Name x px, .Name y py] kt pt] (.Tuple [a, b] k2 pt2) pos) (sUnp [i, j] (eTup ac)) :=
  (ps_par hc hN hi hj hij hx hy ha.pa hw hs).imp fun D σ H ⟨g, τ, h, l, o⟩ => by
    obtain ⟨t, h1, e1, o⟩ := bindS_out o
    obtain ⟨ts, h2, e2, e3⟩ := R.bind_ok e1
    cases e3
    refine ⟨g, τ, h, ts, _, l, e2, fun g' H' vs l' s' r' => ?_⟩
    cases r' with
    | nil => exact o.elim
    | cons r1 rs =>
      cases rs with
      | nil => exact o.elim
      | cons r2 rs =>
        cases rs with
        | cons _ _ => exact o.elim
        | nil => exact ⟨_, _, rfl, o g' _ H' ((l'.set r1.rt i).set r2.rt j) (s'.sp l.heap)⟩
theorem sAug1 {pos' : Pos} {op : Operator} {f : Int → Int → Int} {fT : Hs → T → T → Option T} (hf0 : ∀ h t u r, fT h t u = some r → ∃ a b, t = .int a ∧ u = .int b ∧ r = .int (f a b)) (ho : PIp X op (ipI f)) (hN : X.N.Nodup) (hi : X.N[i]? = some x) (hx : Loc X.env.scope x) (he : PE X e (tE (Fix X p g0 H0) false c ea)) (hf : X.fn x = true ∨ X.env.scope.names.lookup x = some .local := by first | exact .inl rfl | exact .inr rfl) :
    Sx X p g0 H0 c (.AugAssign (.Name x pos') op e pos) (sAug i fT ea) := (ps_aug hN hi hx he ho hf).imp fun D σ H ⟨g, τ, h, l, o⟩ => by
  unfold sAug at o
  split at o
  · rename_i t eq
    obtain ⟨u, h1, e1, o⟩ := bindS_out o
    obtain ⟨v, q1, q2⟩ := l.val i t eq
    refine ⟨v, q1, g, τ, h, u, h1, l, e1, fun g' H' w l' s' r' => ?_⟩
    split at o
    · rename_i r er
      obtain ⟨a, b, rfl, rfl, rfl⟩ := hf0 _ _ _ _ er
      cases q2
      exact ⟨a, b, rfl, r'.int, o g' _ H' (l'.set (.int _) i) (s'.sp l.heap)⟩
    · exact o.elim
  · exact o.elim
theorem fAddI_of : ∀ h t u r, fAddI h t u = some r → ∃ a b, t = .int a ∧ u = .int b ∧ r = .int (a + b) := fun h t u r e => by
  unfold fAddI at e
  split at e
  · split at e
    · cases e; exact ⟨_, _, rfl, rfl, rfl⟩
    · cases e
  · cases e
theorem fSub_of : ∀ h t u r, fSub h t u = some r → ∃ a b, t = .int a ∧ u = .int b ∧ r = .int (a - b) := fun h t u r e => by
  unfold fSub at e
  split at e
  · split at e
    · cases e; exact ⟨_, _, rfl, rfl, rfl⟩
    · cases e
  · cases e
theorem sFor1 (hp : PassesOwn (model X.prog X.w) X.A X.env X.xe) (hc : X.calm = true) (hi : PI X tg iter (tI (Fix X p g0 H0) false c ic)) (hg : PG X tg (tG (Fix X p g0 H0) k)) (hb : Ss X p g0 H0 c sts sb) (hs : ∀ x, foldedSetIterable iter X.env x = pure x := by intro _; rfl) :
    Sx X p g0 H0 c (.For tg iter sts [] pos) (sFor k ic sb) := (ps_for hp hc hi hg hb hs).imp fun D σ H ⟨g, τ, h, l, o⟩ => by
  obtain ⟨ts, h1, e1, o⟩ := bindS_out o
  refine ⟨g, τ, h, ts, h1, l, e1, fun g1 H1 J l1 s1 yd => ?_⟩
  replace o := o.step (s1.sp l.heap)
  generalize hr : forL k (sb c) ts τ h1 = r at o
  refine ⟨fun i m σ' H' => m + i = ts.length ∧ ∃ g' τ' h', Rl (Fix X p g0 H0) g' H' τ' σ' h' ∧ Sp g1 H1 g' H' ∧ forL k (sb c) (ts.drop i) τ' h' = r, ⟨ts.length, rfl, g1, τ, h1, l1, Sp.refl, hr⟩, ?_⟩
  rintro i m σ2 H2 ⟨hm, g2, τ2, h2, l2, s2, ef⟩
  obtain ⟨y1, y2⟩ := yd g2 H2 ⟨s2, ⟨h2, l2.heap⟩, fun z => nomatch z⟩ i
  by_cases hi : i < ts.length
  · rw [List.drop_eq_getElem_cons hi] at ef
    unfold forL at ef
    obtain ⟨go, y3⟩ := y2 ts[i] (List.getElem?_eq_getElem hi)
    obtain ⟨m', rfl⟩ : ∃ m', m = m' + 1 := ⟨m - 1, by omega⟩
    refine .inr ⟨go, _, fun σ' H' q => ⟨m', Nat.lt_succ_self _, q⟩, fun x H3 hy => ?_⟩
    obtain ⟨hg, rx⟩ := y3 x H3 hy
    have l3 : Rl (Fix X p g0 H0) g2 H3 τ2 σ2 h2 ∧ Sp g2 H2 g2 H3 := by
      rcases hg with rfl | ⟨q, us, hq, rfl⟩
      · exact ⟨l2, Sp.refl⟩
      · exact ⟨l2.laid hq, l2.sp_laid hq⟩
    obtain ⟨l3, s3⟩ := l3
    split at ef
    · subst ef; exact o.elim
    · rename_i e1' hp
      refine ⟨g2, τ2, h2, ts[i], e1', l3, rx, hp, fun σ3 l4 _ => ⟨g2, e1', h2, l4, ?_⟩⟩
      cases z : sb c e1' h2 with
      | next e2 h3 =>
        rw [z] at ef
        exact fun g' σ' H' l' s' => ⟨by omega, g', e2, h3, l', (s2.trans s3).trans s', ef⟩
      | cnt e2 h3 =>
        rw [z] at ef
        exact fun g' σ' H' l' s' => ⟨by omega, g', e2, h3, l', (s2.trans s3).trans s', ef⟩
      | brk e2 h3 =>
        rw [z] at ef
        subst ef
        exact fun g' σ' H' l' s' => o g' σ' H' l' ((s2.trans s3).trans s')
      | ret rv h3 =>
        rw [z] at ef
        subst ef
        exact o
      | exc => rw [z] at ef; subst ef; exact o.elim
      | bad => rw [z] at ef; subst ef; exact o.elim
  · rw [List.drop_eq_nil_of_le (by omega)] at ef
    subst ef
    exact .inl ⟨y1 (by omega), o g2 σ2 H2 l2 s2⟩
theorem sWhile1 (hp : PassesOwn (model X.prog X.w) X.A X.env X.xe) (hc : PT X e (tT (Fix X p g0 H0) c tc)) (hb : Ss X p g0 H0 c sts sb) : Sx X p g0 H0 c (.While e sts [] pos) (sWhile tc sb) := (ps_while hp hc hb).imp fun D σ H ⟨g, τ, h, l, o⟩ => by
  unfold sWhile at o
  generalize hr : whileN (tc c) (sb c) FUEL τ h = r at o
  refine ⟨fun m σ' H' => ∃ g' τ' h', Rl (Fix X p g0 H0) g' H' τ' σ' h' ∧ Sp g H g' H' ∧ whileN (tc c) (sb c) m τ' h' = r, ⟨FUEL, g, τ, h, l, Sp.refl, hr⟩, ?_⟩
  rintro m σ1 H1 ⟨g1, τ1, h1, l1, s1, ew⟩
  cases m with
  | zero => subst ew; exact o.elim
  | succ m =>
    unfold whileN at ew
    cases z : tc c τ1 h1 with
    | exc => rw [z] at ew; subst ew; exact o.elim
    | bad => rw [z] at ew; subst ew; exact o.elim
    | ok b h2 =>
      rw [z] at ew
      refine ⟨g1, τ1, h1, b, h2, l1, z, fun g2 H2 l2 s2 => ?_⟩
      have s3 := s1.trans (s2.sp l1.heap)
      cases b with
      | false => subst ew; exact o g2 σ1 H2 l2 s3
      | true =>
        replace ew : (match sb c τ1 h2 with | .next e2 h2 => whileN (tc c) (sb c) m e2 h2 | .cnt e2 h2 => whileN (tc c) (sb c) m e2 h2 | .brk e2 h2 => .next e2 h2 | r => r) = r := ew
        refine ⟨_, fun σ' H' q => ⟨m, Nat.lt_succ_self _, q⟩, g2, τ1, h2, l2, ?_⟩
        cases z2 : sb c τ1 h2 with
        | next e2 h3 =>
          rw [z2] at ew
          exact fun g' σ' H' l' s' => ⟨g', e2, h3, l', s3.trans s', ew⟩
        | cnt e2 h3 =>
          rw [z2] at ew
          exact fun g' σ' H' l' s' => ⟨g', e2, h3, l', s3.trans s', ew⟩
        | brk e2 h3 =>
          rw [z2] at ew
          subst ew
          exact fun g' σ' H' l' s' => o g' σ' H' l' (s3.trans s')
        | ret rv h3 =>
          rw [z2] at ew
          subst ew
          exact o
        | exc => rw [z2] at ew; subst ew; exact o.elim
        | bad => rw [z2] at ew; subst ew; exact o.elim
end
end Gt
end
section
set_option Elab.async false
set_option linter.all false
set_option maxRecDepth 100000
namespace Gt
open PySem L2
open PySem.Spec PyProof.Rows
theorem take_sel {α : Type} (sel : Nat → Bool) (a : Nat) : ∀ (xs : List α) (k : Nat), (∀ i, i < k + xs.length → sel i = decide (a ≤ i)) → (xs.zipIdx k).filterMap (fun x => if sel x.2 = true then none else some x.1) = xs.take (a - k)
  | [], k, _ => by simp
  | x :: xs, k, h => by
    rw [List.zipIdx_cons, List.filterMap_cons]
    have h0 := h k (by simp)
    have ih := take_sel sel a xs (k + 1) fun i hi => h i (by rw [List.length_cons]; omega)
    by_cases z : a ≤ k
    · rw [show sel k = true by rw [h0]; exact decide_eq_true z, ih, show a - k = 0 by omega, show a - (k + 1) = 0 by omega]
      simp
    · rw [show sel k = false by rw [h0]; exact decide_eq_false z, ih, show a - k = (a - (k + 1)) + 1 by omega]
      simp
theorem bounds_from {a n : Nat} (ha : a ≤ n) : sliceBounds (some (a : Int)) none none n = ((a : Int), (n : Int), 1) := by
  simp only [sliceBounds, Option.getD_none]
  have h1 : ¬ ((a : Int) < 0) := by omega
  simp only [h1, if_false, show (1 : Int) > 0 by decide, if_true]
  congr 1
  omega
section
variable {prog : Program} {w : World} {A : Around} {E : Value → Shared → Prop} {s : Shared}
theorem delItem_from {l sl : Addr} {items : Array Value} {n : Nat} {vl : Value} {a : Nat} {Q : Unit → Shared → Prop}
    (e : s.heap.get? l = some { cls := .type "list", data := .seq items n }) (hs : s.heap.IsSliceOf sl vl .none .none) (pl : IsPart vl (some (a : Int))) (ha : a ≤ items.size) (hz : items.size ≤ sizeLine)
    (h : ∀ f : Array Value → Array Value, f items = items.extract 0 a → Q () { s with heap := s.heap.update l (Obj.mapSeq f) }) :
    wpAny (model prog w) A (delItem (.ref l) (.ref sl)) Q E s := by
  have hl : s.heap.IsList l items := PySem.IsL.isList e
  obtain ⟨os, hos, hcs, hds⟩ := id hs
  have hTs : s.TypeIs (.ref sl) "slice" := ⟨os, hos, hcs⟩
  have hstep : ¬ ((rawPart none == rawInt 0) = true) := Bool.false_ne_true
  refine wpAny_delItem_slot hl.typeIs (by decide) F.slot_list_delitem (wpAny_call_entry F.slot_list_delitem hl.typeIs F.entry_list_delitem ?_ (F.args_list_delitem_2 _ _))
  show wpAny _ _ (Builtin.List.listSubscript? (.ref sl) >>= _) _ _ s
  refine wpAny_bind ?_
  unfold Builtin.List.listSubscript?
  refine wpAny_bind (wpAny_specialOf hTs slice_no_index ?_)
  simp only [Option.isNone_none, if_true]
  refine wpAny_pure ?_
  show wpAny _ _ (typeOf (.ref sl) >>= _) _ _ s
  refine wpAny_bind (wpAny_typeOf hTs ?_)
  rw [if_neg (by decide)]
  rw [listSliceParts_eq]
  refine wpAny_bind (wpAny_bind (wpAny_field hos hds (x := .none) rfl (wpAny_bind (wpAny_listPart .none ?_))))
  rw [if_neg hstep]
  refine wpAny_bind (wpAny_field hos hds (x := vl) rfl (wpAny_bind (wpAny_listPart pl ?_)))
  refine wpAny_bind (wpAny_field hos hds (x := .none) rfl (wpAny_bind (wpAny_listPart .none (wpAny_pure ?_))))
  unfold Builtin.List.listItems
  refine wpAny_bind (wpAny_bind (wpAny_seqItems e rfl (wpAny_pure ?_)))
  refine wpAny_bind (wpAny_of_eq ((sliceIndices_raw (some (a : Int)) none none items.size (by simp)).trans (congrArg (pure : Int × Int × Int → Sem (Int × Int × Int)) (bounds_from ha))) ?_)
  refine wpAny_bind (wpAny_rule ?_)
  have sel : ∀ z : Nat → Bool, (∀ i, i < 0 + items.toList.length → z i = decide (a ≤ i)) → (List.filterMap (fun x => if z x.2 = true then none else some x.1) items.toList.zipIdx).toArray = items.extract 0 a := fun z hz' => by
    rw [take_sel z a items.toList 0 hz', Nat.sub_zero]
    apply Array.toList_inj.mp
    simp
  have sel2 : ∀ i, i < 0 + items.toList.length → (if (1 : Int) > 0 then decide ((a : Int) ≤ (i : Int)) && decide ((i : Int) < (items.size : Int)) && (((i : Int) - (a : Int)) % 1 == 0) else decide ((items.size : Int) < (i : Int)) && decide ((i : Int) ≤ (a : Int)) && (((a : Int) - (i : Int)) % (-1) == 0)) = decide (a ≤ i) := fun i hi => by
    rw [if_pos (by decide), Int.emod_one]
    have h2 : ((i : Int) < (items.size : Int)) := by simp at hi; omega
    simp [h2]
  refine wpAny_bind (wpAny_updateSeq (hz := hz) (_hz' := ?hz') e rfl ?main)
  case hz' =>
    refine Nat.le_trans (Nat.le_of_eq (congrArg Array.size (sel _ sel2))) ?_
    simp
    omega
  case main =>
    refine wpAny_bind (wpAny_letGo ?_)
    exact wpAny_pure ⟨.none, rfl, h _ (sel _ sel2)⟩

/-- t[::-1] of a tuple -/
theorem places_back (n : Nat) : Builtin.Slice.slicePlaces ((n : Int) - 1) (-1) (-1) = n := by
  unfold Builtin.Slice.slicePlaces
  rw [if_neg (by decide)]
  split
  · rw [show (-(-1 : Int)) = 1 by decide, Int.ediv_one]; omega
  · omega
theorem pick_back (xs : Array Value) : ((List.range xs.size).filterMap fun (m : Nat) => xs[(((xs.size : Int) - 1) + (m : Int) * (-1)).toNat]?).toArray = xs.toList.reverse.toArray := by
  congr 1
  refine List.ext_getElem? fun i => ?_
  have e : (List.range xs.size).filterMap (fun (m : Nat) => xs[(((xs.size : Int) - 1) + (m : Int) * (-1)).toNat]?) = (List.range xs.size).map fun m => xs.toList.reverse[m]?.getD .none := by
    have all : ∀ l : List Nat, (∀ m ∈ l, m < xs.size) → l.filterMap (fun (m : Nat) => xs[(((xs.size : Int) - 1) + (m : Int) * (-1)).toNat]?) = l.map fun m => xs.toList.reverse[m]?.getD .none := fun l => by
      induction l with
      | nil => intro _; rfl
      | cons m l ih =>
        intro hl
        have hm : m < xs.size := hl m List.mem_cons_self
        have e2 : (((xs.size : Int) - 1) + (m : Int) * (-1)).toNat = xs.size - 1 - m := by omega
        have hk : xs.size - 1 - m < xs.size := by omega
        rw [List.filterMap_cons, List.map_cons, ih fun k hk => hl k (List.mem_cons_of_mem _ hk), e2, Array.getElem?_eq_getElem hk, List.getElem?_reverse (by simpa using hm)]
        simp [hk]
    exact all _ fun m hm => List.mem_range.mp hm
  rw [e, List.getElem?_map]
  by_cases hi : i < xs.size
  · rw [List.getElem?_range hi]
    have : i < xs.toList.reverse.length := by simpa using hi
    rw [List.getElem?_eq_getElem this]
    simp only [Option.map_some, Option.getD_some]
    rw [List.getElem?_eq_getElem this]; rfl
  · rw [List.getElem?_eq_none (by simpa using hi), List.getElem?_eq_none (by simpa using hi)]; rfl
theorem getItem_tuple_back {t sl : Addr} {items : Array Value} {vl vu vs : Value} {Q : Value → Shared → Prop} (ht : s.heap.IsTuple t items) (hs : s.heap.IsSliceOf sl vl vu vs) (pl : IsPart vl none) (pu : IsPart vu none) (ps : IsPart vs (some (-1)))
    (h : Q (.ref s.heap.objs.size) { s with heap := s.heap.push { cls := .type "tuple", data := .seq items.toList.reverse.toArray } }) (hsz : items.size ≤ sizeLine) : wpAny (model prog w) A (getItem (.ref t) (.ref sl)) Q E s := by
  have hrev : sizeOk (.seq items.toList.reverse.toArray) := by
    show items.toList.reverse.toArray.size ≤ sizeLine
    simpa using hsz
  obtain ⟨os, hos, hcs, hds⟩ := id hs
  have hTs : s.TypeIs (.ref sl) "slice" := ⟨os, hos, hcs⟩
  unfold getItem
  try with_reducible refine wpAny_holding ?_
  first | refine wpAny_bind (wpAny_pure ?_) | skip
  refine wpAny_bind (wpAny_sequenceKey ht.typeIs (by decide) ?_)
  refine wpAny_bind (wpAny_callSpecial?_slot (name := Str.ofString "__getitem__") ht.typeIs PyProof.Rows.slot_tuple_getitem
    (wpAny_call_entry PyProof.Rows.slot_tuple_getitem ht.typeIs entry_tuple_getitem ?_ (args_tuple_getitem _ _)))
  show wpAny _ _ (Builtin.Tuple.tupleItemsOf (.ref t) >>= _) _ _ s
  refine wpAny_bind (tupleItemsOf_ ht ?_)
  refine wpAny_bind (wpAny_typeOf hTs ?_)
  rw [if_pos (by decide)]
  refine wpAny_bind ?_
  unfold Builtin.Slice.sliceApplied Builtin.Slice.sliceFields
  refine wpAny_bind (wpAny_bind (wpAny_field hos hds (x := vl) rfl (wpAny_bind (wpAny_field hos hds (x := vu) rfl (wpAny_bind (wpAny_field hos hds (x := vs) rfl (wpAny_pure ?_)))))))
  refine wpAny_bind (HT.slicePart_ ps ?_)
  show wpAny _ _ (if ((-1 : Int) == 0) = true then _ else _) _ _ s
  rw [if_neg (by decide)]
  refine wpAny_bind (HT.slicePart_ pl (wpAny_bind (HT.slicePart_ pu (wpAny_bind (wpAny_pure ?_)))))
  show wpAny _ _ (pure (((items.size : Int) - 1), (-1 : Int), Builtin.Slice.slicePlaces ((items.size : Int) - 1) (-1) (-1))) _ _ s
  rw [places_back]
  refine wpAny_pure ?_
  show wpAny _ _ (if (((items.size : Int) - 1) == 0 && (-1 : Int) == 1 && items.size == items.size) = true then _ else _) _ _ s
  rw [if_neg (by simp), pick_back]
  first
    | exact wpAny_bind (m := Builtin.Tuple.tupleExact _) (wpAny_newObj_type (wpAny_pure ⟨_, rfl, wpAny_pure h⟩) hrev)
    | exact wpAny_bind (m := Builtin.Tuple.tupleExact _) (wpAny_newObj_type (wpAny_bind (wpAny_pure (wpAny_pure ⟨_, rfl, wpAny_pure h⟩))) hrev)
    | exact wpAny_bind (wpAny_bind (m := Builtin.Tuple.tupleExact _) (wpAny_newObj_type (wpAny_pure (wpAny_pure ⟨_, rfl, wpAny_pure h⟩)) hrev))
    | exact wpAny_bind (wpAny_bind (m := Builtin.Tuple.tupleExact _) (wpAny_newObj_type (wpAny_pure ⟨_, rfl, wpAny_pure h⟩) hrev))
end
section
variable {X : Cx} {e : Expr} {pos : Pos}
def tRevT (K : PySem.W.Frag) (te : TE) : TE := fun σ H Q => te σ H fun x H1 => ∃ a xs, x = .ref a ∧ SqT K H1 a xs ∧ ∀ q, H1 q = none → Q (.ref q) (upd H1 q (.tup xs.reverse))
theorem pe_revT {te : TE} {k : Nat} {p1 p2 p3 : Pos} (he : PE X e te) : PE X (.Subscript e (.Slice none none (some (.UnaryOp .USub (.Constant (.int 1) k p1) p2)) p3) pos) (tRevT X.K te) := by
  refine ⟨fun pins s σ H Q I h => ?_⟩
  refine Subscript_ (thn (he.run pins s σ H _ I h) fun v s1 ⟨x, H1, I1, r1, q1⟩ => ?_)
  obtain ⟨a, xs, rfl, hx, q⟩ := q1
  cases r1
  have hst : PO X (some (.UnaryOp .USub (.Constant (.int 1) k p1) p2)) (tPart (tUn (rU fun i => .int (-i)) (tC (.int 1)))) := po_some (pe_un un_neg pe_int)
  refine wpAny_Slice (thn (po_none.run pins s1 σ H1 (fun o H2 => o = none ∧ H2 = H1) I1 ⟨rfl, rfl⟩) fun vl s2 ⟨l, H2, I2, pl, el, e2⟩ => ?_)
  subst el e2
  refine thn (po_none.run pins s2 σ H2 (fun o H3 => o = none ∧ H3 = H2) I2 ⟨rfl, rfl⟩) fun vu s3 ⟨u, H3, I3, pu, eu, e3⟩ => ?_
  subst eu e3
  refine thn (hst.run pins s3 σ H3 (fun o H4 => o = some (-1) ∧ H4 = H3) I3 ⟨1, rfl, -1, rfl, rfl, rfl⟩) fun vs s4 ⟨o, H4, I4, ps, eo, e4⟩ => ?_
  subst eo e4
  have I5 : Inv X pins σ H4 { s4 with heap := s4.heap.push { cls := .type "slice", data := .fields #[vl, vu, vs] } } := I4.kept (t' := s4.toks) fun b ob q => Heap.get?_push_of_some _ q
  obtain ⟨its, r, ht, hz⟩ := I5.tuple hx
  have hlen := r.length
  show wpAny (model X.prog X.w) X.A (subscriptTail e (.Slice none none (some (.UnaryOp .USub (.Constant (.int 1) k p1) p2)) p3) (.ref a) (.ref s4.heap.objs.size)) (EP X pins σ Q) X.xe { s4 with heap := s4.heap.push { cls := .type "slice", data := .fields #[vl, vu, vs] } }
  refine tail_any (ops := [.ref a, .ref s4.heap.objs.size]) ht.typeIs PyProof.Rows.slot_tuple_getitem.lookup ?_ (by with_unfolding_all rfl)
  refine getItem_tuple_back ht (Heap.IsSliceOf.new _ vl vu vs) pl pu ps ?_ (by rw [List.size_toArray]; omega)
  refine ⟨.ref _, _, I5.laid (t' := s4.toks) (o := .tup xs.reverse) (fun b ob q => Heap.get?_push_of_some _ q) (Nat.le_refl _) ?_, rfl, q _ (I5.hok.fresh (Nat.le_refl _))⟩
  exact ⟨by rw [List.length_reverse]; exact hz, _, r.reverse, _, Heap.get?_push_size _ rfl, rfl, _, rfl⟩
end
end Gt
end
section
set_option Elab.async false
set_option linter.all false
set_option maxRecDepth 20000
namespace Gt
open PySem L2
section
variable {X : Cx} {p b : Bool} {g0 : G} {H0 : Hp} {c : Call} {e e1 e2 e3 tg iter elt : Expr} {es ifs : List Expr} {ea eb ed : EC} {oa : OC} {ac : AC} {tc : TC} {sa sb : SC} {ic : IC} {n i j : Nat} {x y : Str} {pos px apos cpos : Pos} {k : Tg} {is : List Nat}
theorem Own.lstc {fx : Fx} {g : G} {H : Hp} {l : List T} {a : Addr} (O : Own fx g H (.lst l) a) : ∃ vs, H a = some (.lst vs) ∧ RTs fx.K g H l vs := by
  cases O.rc with
  | lst q m => exact ⟨_, q, m⟩
theorem Own.dicc {fx : Fx} {g : G} {H : Hp} {l : List (Ky × T)} {a : Addr} (O : Own fx g H (.dic l) a) : ∃ vs, H a = some (.dK vs) ∧ RKs fx.K g H l vs := by
  cases O.rc with
  | dic q m => exact ⟨_, q, m⟩
/-- x.append(e) -/
theorem sApp (hN : X.N[i]? = some x) (hv : Vis X.env.scope x) (he : PE X e (tE (Fix X p g0 H0) false c ea)) (hd : (x == ("__debug__" : Str)) = false := by decide) (hcd : (x == ("__classdict__" : Str)) = false := by decide)
    (hbase : attributeBase (.Name x px) "append" X.env (eval (.Name x px) X.env) = eval (.Name x px) X.env := by rfl)
    (hfew : ((backTo cpos (starEach [e] X.env)).all (fun x => !x.1) && (backToKw cpos (keywordEach [] X.env)).all (fun x => x.1.isSome) && decide ([e].length + ([] : List Keyword).length + (if ([] : List Keyword).isEmpty then 0 else 1) < 30)) = true := by rfl)
    (hline : (apos.endLine == cpos.line) = true := by rfl) (hs : starEach [e] X.env = (false, eval e X.env) :: starEach [] X.env := by rfl) :
    Sx X p g0 H0 c (.Expr (.Call (.Attribute (.Name x px) "append" apos) [e] [] cpos) pos) (sOwn i fAppend ea) :=
  (ps_expr (pe_bm PySem.F.plainAttrs_list PySem.F.slot_list_append PySem.F.type_list_append mt_append (pe_var hN hv hd hcd) (pa_cons he pa_nil hs) hbase hfew hline hs rfl) rfl).imp fun D σ H ⟨g, τ, h, l, o⟩ => by
    obtain ⟨t, h1, f1, o⟩ := bindS_out o
    split at o
    · rename_i cl eq
      split at o
      · rename_i y ey
        unfold fAppend at ey
        split at ey
        · rename_i ls
          split at ey
          · rename_i hl
            cases ey
            obtain ⟨a, q1, O⟩ := l.own i _ eq
            obtain ⟨vs, q2, m⟩ := O.lstc
            refine ⟨.ref a, q1, .inl ⟨rfl, vs, SqL.of q2⟩, g, τ, h, t, h1, l, f1, fun g1 H1 v l1 s1 r1 => ?_⟩
            obtain ⟨a', q3, O1⟩ := l1.own i _ eq
            rw [q1] at q3; cases q3
            obtain ⟨ws, q4, m1⟩ := O1.lstc
            refine ⟨a, ws, v, rfl, rfl, q4, by rw [← m1.length, ← LIM_eq]; exact hl, ?_⟩
            obtain ⟨l2, s2⟩ := l1.mut (o' := .lst (ws ++ [v])) (y := .lst (ls ++ [t])) eq q1 O1 fun s => .lst upd_same ((m1.append (.cons r1.rt .nil)).step s)
            exact o g1 σ _ l2 ((s1.sp l.heap).trans s2)
          · cases ey
        · cases ey
      · exact o.elim
    · exact o.elim
/-- x.extend(e) -/
theorem sExt (hN : X.N[i]? = some x) (hv : Vis X.env.scope x) (he : PE X e (tE (Fix X p g0 H0) false c ea)) (hd : (x == ("__debug__" : Str)) = false := by decide) (hcd : (x == ("__classdict__" : Str)) = false := by decide)
    (hbase : attributeBase (.Name x px) "extend" X.env (eval (.Name x px) X.env) = eval (.Name x px) X.env := by rfl)
    (hfew : ((backTo cpos (starEach [e] X.env)).all (fun x => !x.1) && (backToKw cpos (keywordEach [] X.env)).all (fun x => x.1.isSome) && decide ([e].length + ([] : List Keyword).length + (if ([] : List Keyword).isEmpty then 0 else 1) < 30)) = true := by rfl)
    (hline : (apos.endLine == cpos.line) = true := by rfl) (hs : starEach [e] X.env = (false, eval e X.env) :: starEach [] X.env := by rfl) :
    Sx X p g0 H0 c (.Expr (.Call (.Attribute (.Name x px) "extend" apos) [e] [] cpos) pos) (sOwn i fExtend ea) :=
  (ps_expr (pe_bm PySem.F.plainAttrs_list PySem.F.slot_list_extend PySem.F.type_list_extend mt_extend (pe_var hN hv hd hcd) (pa_cons he pa_nil hs) hbase hfew hline hs rfl) rfl).imp fun D σ H ⟨g, τ, h, l, o⟩ => by
    obtain ⟨t, h1, f1, o⟩ := bindS_out o
    split at o
    · rename_i cl eq
      split at o
      · rename_i y ey
        unfold fExtend at ey
        split at ey
        · rename_i ls
          split at ey
          · rename_i ms em
            split at ey
            · rename_i hl
              cases ey
              obtain ⟨a, q1, O⟩ := l.own i _ eq
              obtain ⟨vs, q2, m⟩ := O.lstc
              refine ⟨.ref a, q1, .inl ⟨rfl, vs, SqL.of q2⟩, g, τ, h, t, h1, l, f1, fun g1 H1 v l1 s1 r1 => ?_⟩
              obtain ⟨a', q3, O1⟩ := l1.own i _ eq
              rw [q1] at q3; cases q3
              obtain ⟨ws, q4, m1⟩ := O1.lstc
              obtain ⟨d, us, rfl, q5, m2⟩ := l1.lst r1 em
              refine ⟨a, d, ws, us, rfl, rfl, q4, q5, by rw [← m1.length, ← m2.length, ← LIM_eq]; exact hl, ?_⟩
              obtain ⟨l2, s2⟩ := l1.mut (o' := .lst (ws ++ us)) (y := .lst (ls ++ ms)) eq q1 O1 fun s => .lst upd_same ((m1.append m2).step s)
              exact o g1 σ _ l2 ((s1.sp l.heap).trans s2)
            · cases ey
          · cases ey
        · cases ey
      · exact o.elim
    · exact o.elim
theorem last_ix {ls : List T} {t : T} (e : ls.getLast? = some t) : ls[ls.length - 1]? = some t := by
  rw [List.getLast?_eq_getElem?] at e; exact e
/-- .. = x.pop() -/
theorem popT {Q : VK} {g : G} {H : Hp} {τ : List Slot} {σ : L2.St} {h : Hs} {ls : List T} {t : T} (l : Rl (Fix X p g0 H0) g H τ σ h) (eq : τ[i]? = some (.own (.lst ls))) (el : ls.getLast? = some t)
    (k : ∀ v H', Rl (Fix X p g0 H0) g H' (τ.set i (.own (.lst ls.dropLast))) σ h → Sp g H g H' → RT X.K g H' t v → Q v H') : tBM0 X.K "list" rPop (tVar i) σ H Q := by
  obtain ⟨a, q1, O⟩ := l.own i _ eq
  obtain ⟨vs, q2, m⟩ := O.lstc
  obtain ⟨w, z1, z2⟩ := m.get (last_ix el)
  obtain ⟨l2, s2⟩ := l.mut (o' := .lst vs.dropLast) (y := .lst ls.dropLast) eq q1 O fun s => .lst upd_same (m.dropLast.step s)
  exact ⟨.ref a, q1, .inl ⟨rfl, vs, SqL.of q2⟩, a, vs, w, rfl, rfl, q2, by rw [← m.length]; exact z1, k w _ l2 s2 (z2.step s2)⟩
theorem pop_out {D : Ends} {g : G} {H : Hp} {τ : List Slot} {h : Hs} {g' : Option Tg} (o : Out (Fix X p g0 H0) D g H (sPop g' i c τ h)) : ∃ ls t, τ[i]? = some (.own (.lst ls)) ∧ ls.getLast? = some t ∧ Out (Fix X p g0 H0) D g H (popE g' (τ.set i (.own (.lst ls.dropLast))) t h) := by
  unfold sPop at o
  split at o
  · rename_i ls eq
    split at o
    · rename_i t et
      exact ⟨ls, t, eq, et, o⟩
    · exact o.elim
  · exact o.elim
theorem sPop0 (hN : X.N[i]? = some x) (hv : Vis X.env.scope x) (hd : (x == ("__debug__" : Str)) = false := by decide) (hcd : (x == ("__classdict__" : Str)) = false := by decide)
    (hbase : attributeBase (.Name x px) "pop" X.env (eval (.Name x px) X.env) = eval (.Name x px) X.env := by rfl) (hline : (apos.endLine == cpos.line) = true := by rfl) :
    Sx X p g0 H0 c (.Expr (.Call (.Attribute (.Name x px) "pop" apos) [] [] cpos) pos) (sPop none i) :=
  (ps_expr (pe_bm0 PySem.F.plainAttrs_list PySem.F.slot_list_pop PySem.F.type_list_pop mt_pop (pe_var hN hv hd hcd) hbase hline) rfl).imp fun D σ H ⟨g, τ, h, l, o⟩ => by
    obtain ⟨ls, t, eq, et, o⟩ := pop_out o
    exact popT l eq et fun v H' l' s' r' => o g σ H' l' s'
theorem sPop1 {tg : Expr} (hN : X.N[i]? = some x) (hv : Vis X.env.scope x) (hg : PG X tg (tG (Fix X p g0 H0) k)) (hd : (x == ("__debug__" : Str)) = false := by decide) (hcd : (x == ("__classdict__" : Str)) = false := by decide)
    (hbase : attributeBase (.Name x px) "pop" X.env (eval (.Name x px) X.env) = eval (.Name x px) X.env := by rfl) (hline : (apos.endLine == cpos.line) = true := by rfl)
    (hs : swapsWithSole [tg] (.Call (.Attribute (.Name x px) "pop" apos) [] [] cpos) pos.line X.env = pure false := by rfl) (hw : swappedStores [tg] (.Call (.Attribute (.Name x px) "pop" apos) [] [] cpos) X.env = pure none := by rfl)
    (h1 : (assignEach [tg] X.env).map (·.2) = [assign tg X.env] := by rfl) :
    Sx X p g0 H0 c (.Assign [tg] (.Call (.Attribute (.Name x px) "pop" apos) [] [] cpos) pos) (sPop (some k) i) :=
  (ps_asg (pe_bm0 PySem.F.plainAttrs_list PySem.F.slot_list_pop PySem.F.type_list_pop mt_pop (pe_var hN hv hd hcd) hbase hline) hg hs hw h1).imp fun D σ H ⟨g, τ, h, l, o⟩ => by
    obtain ⟨ls, t, eq, et, o⟩ := pop_out o
    refine popT l eq et fun v H' l' s' r' => ?_
    cases ep : k.put (τ.set i (.own (.lst ls.dropLast))) t with
    | none =>
      have o : Out (Fix X p g0 H0) D g H (match k.put (τ.set i (.own (.lst ls.dropLast))) t with | some e1 => .next e1 h | none => .bad) := o
      rw [ep] at o
      exact o.elim
    | some e1 =>
      have o : Out (Fix X p g0 H0) D g H (match k.put (τ.set i (.own (.lst ls.dropLast))) t with | some e1 => .next e1 h | none => .bad) := o
      rw [ep] at o
      exact ⟨g, _, h, t, e1, l', r', ep, fun σ' l2 _ => o g σ' H' l2 s'⟩
/-- x[k] = e of a list, a dict of one's own -/
theorem sPut1 {px tpos : Pos} (hu : X.A.units + 1 < cLine) (hN : X.N[i]? = some x) (hv : Vis X.env.scope x) (hk : PE X e1 (tE (Fix X p g0 H0) false c ea)) (he : PE X e2 (tE (Fix X p g0 H0) false c eb)) (hd : (x == ("__debug__" : Str)) = false := by decide) (hcd : (x == ("__classdict__" : Str)) = false := by decide)
    (ha : ∀ v, assign (.Subscript (.Name x px) e1 tpos) X.env v = (do
      let ov ← holding [v] (eval (.Name x px) X.env)
      let iv ← holding [v, ov] (eval e1 X.env)
      standAt tpos
      holding [v, ov, iv] (setItem ov iv v)
      release [v, ov, iv] []) := by intro _; rfl)
    (hs : swapsWithSole [.Subscript (.Name x px) e1 tpos] e2 pos.line X.env = pure false := by rfl) (hw : swappedStores [.Subscript (.Name x px) e1 tpos] e2 X.env = pure none := by rfl) (h1 : (assignEach [.Subscript (.Name x px) e1 tpos] X.env).map (·.2) = [assign (.Subscript (.Name x px) e1 tpos) X.env] := by rfl) (hs2 : swapsWith e2 (some (.Subscript (.Name x px) e1 tpos)) pos.line X.env = pure false := by rfl) :
    Sx X p g0 H0 c (.Assign [.Subscript (.Name x px) e1 tpos] e2 pos) (sPut i ea eb) :=
  PS.or (ps_asg he (pg_sub (pe_var hN hv hd hcd) hk set_list ha) hs hw h1) (ps_dput hu (pe_var hN hv hd hcd) hk he hs2) fun D σ H ⟨g, τ, h, l, o⟩ => by
    obtain ⟨t, h1, f1, o⟩ := bindS_out o
    obtain ⟨ky, h2, f2, o⟩ := bindS_out o
    split at o
    · rename_i ls eq
      split at o
      · rename_i z
        split at o
        · rename_i j ej
          refine .inl ⟨g, τ, h, t, h1, l, f1, fun g1 H1 v l1 s1 r1 => ?_⟩
          obtain ⟨a, q1, O⟩ := l1.own i _ eq
          refine ⟨.ref a, q1, g1, τ, h1, _, h2, l1, f2, fun g2 H2 w l2 s2 r2 => ?_⟩
          obtain ⟨a', q3, O2⟩ := l2.own i _ eq
          rw [q1] at q3; cases q3
          obtain ⟨ws, q4, m1⟩ := O2.lstc
          obtain ⟨l3, s3⟩ := l2.mut (o' := .lst (ws.set j v)) (y := .lst (ls.set j t)) eq q1 O2 fun s => .lst upd_same ((RTs.set (r1.rt.step (s2.sp l1.heap)) j m1).step s)
          exact ⟨a, ws, z, j, rfl, r2.int, q4, by rw [← m1.length]; exact ej, o g2 σ _ l3 (((s1.tr s2).sp l.heap).trans s3)⟩
        · exact o.elim
      · exact o.elim
    · rename_i ls eq
      split at o
      · rename_i kk ek
        split at o
        · rename_i hl
          refine .inr ⟨g, τ, h, t, h1, l, f1, fun g1 H1 v l1 s1 r1 => ?_⟩
          obtain ⟨a, q1, O⟩ := l1.own i _ eq
          refine ⟨.ref a, q1, g1, τ, h1, _, h2, l1, f2, fun g2 H2 w l2 s2 r2 => ?_⟩
          obtain ⟨a', q3, O2⟩ := l2.own i _ eq
          rw [q1] at q3; cases q3
          obtain ⟨ws, q4, m1⟩ := O2.dicc
          obtain ⟨kq, hkq, rfl⟩ := r2.key ek
          obtain ⟨l3, s3⟩ := l2.mut (o' := .dK (L2.putK ws kq v)) (y := .dic (putK ls kk t)) eq q1 O2 fun s => .dic upd_same (RKs.step s (RKs.put hkq (r1.rt.step (s2.sp l1.heap)) m1))
          exact ⟨a, _, rfl, DPut.k q4 (by rw [← m1.length, ← LIM_eq]; exact hl), o g2 σ _ l3 (((s1.tr s2).sp l.heap).trans s3)⟩
        · exact o.elim
      · exact o.elim
    · exact o.elim
/-- del x[e:] -/
theorem sDel1 {px tpos p2 : Pos} (hN : X.N[i]? = some x) (hv : Vis X.env.scope x) (he : PE X e (tE (Fix X p g0 H0) false c ea)) (hd : (x == ("__debug__" : Str)) = false := by decide) (hcd : (x == ("__classdict__" : Str)) = false := by decide) :
    Sx X p g0 H0 c (.Delete [.Subscript (.Name x px) (.Slice (some e) none none p2) tpos] pos) (sDelFrom i ea) := ⟨fun pins s σ H D I ⟨g, τ, h, l, o⟩ => by
  obtain ⟨t, h1, f1, o⟩ := bindS_out o
  split at o
  · rename_i ls eq
    split at o
    · rename_i z
      split at o
      · rename_i hz
        obtain ⟨a, q1, O⟩ := l.own i _ eq
        refine wpAny_Delete (wpAny_deleteEach_cons (wpAny_delete_Subscript (thn ((pe_var hN hv hd hcd).run pins s σ H (fun v H1 => v = .ref a ∧ H1 = H) I ⟨_, q1, rfl, rfl⟩) fun u s1 ⟨w, H1, I1, rx, ew, eH⟩ => ?_)))
        subst ew eH
        cases rx
        refine wpAny_Slice (thn ((po_some he).run pins s1 σ H1 (fun o' H2 => ∃ g2, o' = some z ∧ Rl (Fix X p g0 H0) g2 H2 τ σ h1 ∧ En p g H1 g2 H2) I1 ⟨g, τ, h, _, h1, l, f1, fun g2 H2 w l2 s2 r2 => ⟨z, r2.int, g2, rfl, l2, s2⟩⟩) fun vl s2 ⟨lo, H2, I2, pl, g2, el, l2, s2'⟩ => ?_)
        subst el
        rw [evalPart_none]
        refine wpAny_pure (wpAny_pure ?_)
        have I3 : Inv X pins σ H2 { s2 with heap := s2.heap.push { cls := .type "slice", data := .fields #[vl, .none, .none] } } := I2.kept (t' := s2.toks) fun b ob q => Heap.get?_push_of_some _ q
        obtain ⟨a', q3, O2⟩ := l2.own i _ eq
        rw [q1] at q3; cases q3
        obtain ⟨ws, q4, m1⟩ := O2.lstc
        obtain ⟨zz, its, n, r, hlen, ho⟩ := I3.lstM q4
        have n1 := m1.length
        have n2 := r.length
        have hz1 : z = (z.toNat : Int) := by omega
        rw [hz1] at pl
        refine delItem_from ho (Heap.IsSliceOf.new _ vl .none .none) pl (by rw [List.size_toArray]; omega) (by rw [List.size_toArray]; omega) fun f hf => ?_
        obtain ⟨l3, s3⟩ := l2.mut (o' := .lst (ws.take z.toNat)) (y := .lst (ls.take z.toNat)) eq q1 O2 fun s => .lst upd_same ((m1.take _).step s)
        refine wpAny_deleteEach_nil ⟨σ, _, I3.lset (its' := its.take z.toNat) (t' := s2.toks) q4 ho ?_ (r.take _) ?_, o g2 σ _ l3 ((s2'.sp l.heap).trans s3)⟩
        · rw [hf]
          simp
        · rw [List.length_take]; omega
      · exact o.elim
    · exact o.elim
  · exact o.elim⟩
end
end Gt
end
section
set_option Elab.async false
set_option linter.all false
set_option maxRecDepth 20000
namespace Gt
open PySem L2
section
variable {X : Cx} {p b : Bool} {g0 : G} {H0 : Hp} {c : Call} {e e1 e2 e3 : Expr} {ea eb ed : EC} {oa : OC} {i j : Nat} {x y : Str} {pos px : Pos}
/-- a new cell of the heap -/
theorem pNew (h : PE X e (tO (Fix X false g0 H0) c oa)) : PE X e (tE (Fix X false g0 H0) b c (eNew oa)) := h.imp fun σ H Q ⟨g, τ, h, t, h', l, ee, k⟩ => by
  obtain ⟨r, h1, f1, f2⟩ := R.bind_ok ee
  refine ⟨g, τ, h, r, h1, l, f1, fun g1 H1 v l1 s1 rr => ?_⟩
  split at f2
  · rename_i x
    cases f2
    obtain ⟨a, rfl, rc, nF, nρ, n⟩ := rr
    have s : Sp g1 H1 ⟨g1.F, g1.ρ ++ [a]⟩ H1 := ⟨fun _ f => f, ⟨[a], rfl⟩, fun _ _ => rfl, fun _ _ q => q, fun _ _ _ q => q⟩
    have nA := l.new n
    obtain ⟨m, em, fm, _⟩ := l1.en.ρ
    have rh : RH X.K ⟨g1.F, g1.ρ ++ [a]⟩ H1 (h1 ++ [x]) := by
      refine ⟨by simp [l1.heap.len], ?_, fun d m => ?_, l1.heap.th, fun n c d q1 q2 => ?_⟩
      · rw [List.nodup_append]
        exact ⟨l1.heap.nd, by simp, fun d hd d' hd' => by rw [List.mem_singleton] at hd'; subst hd'; exact fun z => nρ (z ▸ hd)⟩
      · rcases List.mem_append.mp m with m | m
        · exact l1.heap.no d m
        · rw [List.mem_singleton] at m; subst m; exact nF
      · by_cases hn : n < h1.length
        · rw [List.getElem?_append_left hn] at q1
          rw [List.getElem?_append_left (by rw [← l1.heap.len]; exact hn)] at q2
          exact (l1.heap.at_ n c d q1 q2).step s rfl
        · have e0 : n = h1.length := by
            have := (List.getElem?_eq_some_iff.mp q1).1
            simp at this; omega
          subst e0
          rw [List.getElem?_append_right (Nat.le_refl _), Nat.sub_self] at q1
          rw [l1.heap.len, List.getElem?_append_right (Nat.le_refl _), Nat.sub_self] at q2
          cases q1; cases q2
          exact rc.step s rfl
    have l2 : Rl (Fix X false g0 H0) ⟨g1.F, g1.ρ ++ [a]⟩ H1 τ σ (h1 ++ [x]) := by
      refine ⟨l1.len, fun i t q => ?_, fun i c q => ?_, l1.apart, rh, ?_⟩
      · obtain ⟨v, q1, q2⟩ := l1.val i t q
        exact ⟨v, q1, q2.step s⟩
      · obtain ⟨d, q1, O⟩ := l1.own i c q
        refine ⟨d, q1, O.rc.step s rfl, O.nF, fun z => ?_, O.new⟩
        rcases List.mem_append.mp z with z | z
        · exact O.nρ z
        · rw [List.mem_singleton] at z; subst z; exact nA.2.2.2 i c q q1
      · refine ⟨l1.en.F, l1.en.F2, ⟨m ++ [a], by rw [em, List.append_assoc], fun d hd => ?_, fun z => nomatch z⟩, l1.en.keep, l1.en.th⟩
        rcases List.mem_append.mp hd with hd | hd
        · exact fm d hd
        · rw [List.mem_singleton] at hd; subst hd; exact nA.2.2.1
    have en : En false g H ⟨g1.F, g1.ρ ++ [a]⟩ H1 := by
      obtain ⟨m', em', fm', _⟩ := s1.ρ
      refine ⟨s1.F, s1.F2, ⟨m' ++ [a], by rw [em', List.append_assoc], fun d hd => ?_, fun z => nomatch z⟩, s1.keep, s1.th⟩
      rcases List.mem_append.mp hd with hd | hd
      · exact fm' d hd
      · rw [List.mem_singleton] at hd; subst hd; exact n
    exact k _ H1 _ l2 en (.inl (.ref (by
      show (g1.ρ ++ [a])[h1.length]? = some a
      rw [l1.heap.len, List.getElem?_append_right (Nat.le_refl _), Nat.sub_self]; rfl)))
  · cases f2
/-- a cell of the heap is changed -/
theorem Rl.hmut {fx : Fx} (hp : fx.p = false) {g : G} {H : Hp} {τ : List Slot} {σ : L2.St} {h : Hs} {n : Nat} {z y : Cell} {a : Addr} {o' : HO} (l : Rl fx g H τ σ h) (e1 : h[n]? = some z) (e2 : g.ρ[n]? = some a) (rc : Sp g H g (upd H a o') → RC fx.K g (upd H a o') y a) :
    Rl fx g (upd H a o') τ σ (h.set n y) ∧ Sp g H g (upd H a o') := by
  have r := l.heap.at_ n z a e1 e2
  have ma : a ∈ g.ρ := List.mem_of_getElem? e2
  obtain ⟨o, eo⟩ := r.some
  have nt : ∀ xs, o ≠ .tup xs := fun xs z => r.not_tup xs (by rw [eo, z])
  have nz : ∀ w u, o ≠ .frz w u := fun w u z => r.not_frz w u (by rw [eo, z])
  have nF := l.heap.no a ma
  have s : Sp g H g (upd H a o') := sp_put eo nF nt nz
  refine ⟨⟨l.len, fun j t' e => ?_, fun j c e => ?_, l.apart, ⟨by simp [l.heap.len], l.heap.nd, l.heap.no, fun d f => ?_, fun m c d q1 q2 => ?_⟩, ?_⟩, s⟩
  · obtain ⟨w, q1, q2⟩ := l.val j t' e
    exact ⟨w, q1, q2.step s⟩
  · obtain ⟨d, q1, O⟩ := l.own j c e
    exact ⟨d, q1, O.rc.step s (upd_ne fun q => O.nρ (q ▸ ma)), O.nF, O.nρ, O.new⟩
  · rw [show upd H a o' d = H d from upd_ne fun q => nF (by rw [← q]; exact f)]
    exact l.heap.th d f
  · rcases set_get q1 with ⟨rfl, _, rfl⟩ | ⟨hn, q1⟩
    · rw [e2] at q2; cases q2
      exact rc s
    · refine (l.heap.at_ m c d q1 q2).step s (upd_ne fun q => hn ?_)
      subst q
      obtain ⟨h1, f1⟩ := List.getElem?_eq_some_iff.mp e2
      obtain ⟨h2, f2⟩ := List.getElem?_eq_some_iff.mp q2
      exact (List.getElem_inj l.heap.nd).mp (f1.trans f2.symm)
  · obtain ⟨m, em, fm, fp⟩ := l.en.ρ
    refine ⟨l.en.F, l.en.F2, l.en.ρ, fun d u q w => ?_, fun d q => ?_⟩
    · have ne : d ≠ a := fun zz => by
        subst zz
        rcases w with w | w
        · rw [hp] at w; cases w
        · rw [em] at ma
          rcases List.mem_append.mp ma with ma | ma
          · exact w ma
          · rw [fm d ma] at q; cases q
      rw [show upd H a o' d = H d from upd_ne ne]
      exact l.en.keep d u q w
    · by_cases zz : d = a
      · rw [zz, upd_same]; exact fun q => nomatch q
      · rw [show upd H a o' d = H d from upd_ne zz]
        exact l.en.th d q
theorem hcell {fx : Fx} {g : G} {H : Hp} {τ : List Slot} {σ : L2.St} {h : Hs} {n : Nat} {z : Cell} {v : V} (l : Rl fx g H τ σ h) (r : RB fx false g H τ σ (.ref n) v) (e : h[n]? = some z) : ∃ a, v = .ref a ∧ g.ρ[n]? = some a ∧ RC fx.K g H z a := by
  have r := r.rt
  cases r with
  | ref q => exact ⟨_, rfl, q, l.heap.at_ n z _ e q⟩
/-- o[k] = e of a cell -/
theorem sHput1 {tpos : Pos} (hu : X.A.units + 1 < cLine) (ho : PE X e1 (tE (Fix X false g0 H0) false c ea)) (hk : PE X e2 (tE (Fix X false g0 H0) false c eb)) (he : PE X e3 (tE (Fix X false g0 H0) false c ed))
    (ha : ∀ v, assign (.Subscript e1 e2 tpos) X.env v = (do
      let ov ← holding [v] (eval e1 X.env)
      let iv ← holding [v, ov] (eval e2 X.env)
      standAt tpos
      holding [v, ov, iv] (setItem ov iv v)
      release [v, ov, iv] []) := by intro _; rfl)
    (hs : swapsWithSole [.Subscript e1 e2 tpos] e3 pos.line X.env = pure false := by rfl) (hw : swappedStores [.Subscript e1 e2 tpos] e3 X.env = pure none := by rfl) (h1 : (assignEach [.Subscript e1 e2 tpos] X.env).map (·.2) = [assign (.Subscript e1 e2 tpos) X.env] := by rfl) (hs2 : swapsWith e3 (some (.Subscript e1 e2 tpos)) pos.line X.env = pure false := by rfl) :
    Sx X false g0 H0 c (.Assign [.Subscript e1 e2 tpos] e3 pos) (sHput ea eb ed) :=
  PS.or (ps_asg he (pg_sub ho hk set_list ha) hs hw h1) (ps_dput hu ho hk he hs2) fun D σ H ⟨g, τ, h, l, o⟩ => by
    obtain ⟨t, h1, f1, o⟩ := bindS_out o
    obtain ⟨w, h2, f2, o⟩ := bindS_out o
    obtain ⟨ky, h3, f3, o⟩ := bindS_out o
    split at o
    · rename_i n
      split at o
      · rename_i ls en
        split at o
        · rename_i z
          split at o
          · rename_i j ej
            refine .inl ⟨g, τ, h, t, h1, l, f1, fun g1 H1 v l1 s1 r1 => ⟨g1, τ, h1, _, h2, l1, f2, fun g2 H2 w l2 s2 r2 => ⟨g2, τ, h2, _, h3, l2, f3, fun g3 H3 u l3 s3 r3 => ?_⟩⟩⟩
            obtain ⟨a, rfl, q1, rc⟩ := hcell l3 (r2.step (s3.sp l2.heap)) en
            cases rc with
            | lst q m =>
              obtain ⟨l4, s4⟩ := l3.hmut rfl (o' := .lst (List.set _ j v)) (y := .lst (ls.set j t)) en q1 fun s => .lst upd_same ((RTs.set (r1.rt.step ((s2.tr s3).sp l1.heap)) j m).step s)
              exact ⟨a, _, z, j, rfl, r3.int, q, by rw [← m.length]; exact ej, o g3 σ _ l4 ((((s1.tr s2).tr s3).sp l.heap).trans s4)⟩
          · exact o.elim
        · exact o.elim
      · rename_i ls en
        split at o
        · rename_i kk ek
          split at o
          · rename_i hl
            refine .inr ⟨g, τ, h, t, h1, l, f1, fun g1 H1 v l1 s1 r1 => ⟨g1, τ, h1, _, h2, l1, f2, fun g2 H2 w l2 s2 r2 => ⟨g2, τ, h2, _, h3, l2, f3, fun g3 H3 u l3 s3 r3 => ?_⟩⟩⟩
            obtain ⟨a, rfl, q1, rc⟩ := hcell l3 (r2.step (s3.sp l2.heap)) en
            obtain ⟨kq, hkq, rfl⟩ := r3.key ek
            cases rc with
            | dic q m =>
              obtain ⟨l4, s4⟩ := l3.hmut rfl (o' := .dK (L2.putK _ kq v)) (y := .dic (putK ls kk t)) en q1 fun s => .dic upd_same (RKs.step s (RKs.put hkq (r1.rt.step ((s2.tr s3).sp l1.heap)) m))
              exact ⟨a, _, rfl, DPut.k q (by rw [← m.length, ← LIM_eq]; exact hl), o g3 σ _ l4 ((((s1.tr s2).tr s3).sp l.heap).trans s4)⟩
          · exact o.elim
        · exact o.elim
      · exact o.elim
    · exact o.elim
theorem pBack {k : Nat} {p1 p2 p3 : Pos} (he : PE X e (tE (Fix X p g0 H0) true c ea)) : PE X (.Subscript e (.Slice none none (some (.UnaryOp .USub (.Constant (.int 1) k p1) p2)) p3) pos) (tO (Fix X p g0 H0) c (eBack ea)) :=
  PE.or (pe_revL he) (pe_revT he) fun σ H Q ⟨g, τ, h, t, h', l, ee, kQ⟩ => by
    obtain ⟨t1, h1, f1, f2⟩ := R.bind_ok ee
    split at f2
    · rename_i ls ei
      cases f2
      refine .inl ⟨g, τ, h, t1, _, l, f1, fun g1 H1 v l1 s1 r1 => ?_⟩
      obtain ⟨a, vs, rfl, q, m⟩ := l1.lst r1 ei
      refine ⟨a, vs, rfl, SqL.of q, fun d hd => ?_⟩
      obtain ⟨n1, n2, n3, n4⟩ := l1.new hd
      exact kQ g1 _ _ (l1.laid hd) (s1.tr (En.laid hd)) ⟨d, rfl, .lst upd_same (m.reverse.step (l1.sp_laid hd)), n1, n2, s1.back hd⟩
    · rename_i ls ei
      cases f2
      refine .inr ⟨g, τ, h, t1, _, l, f1, fun g1 H1 v l1 s1 r1 => ?_⟩
      obtain ⟨a, vs, rfl, q, m⟩ := l1.tup r1 ei
      exact ⟨a, vs, rfl, q, fun d hd => kQ g1 _ _ (l1.laid hd) (s1.tr (En.laid hd)) (.tup (SqT.of upd_same) (m.reverse.step (l1.sp_laid hd)))⟩
    · cases f2
structure Kd (K : PySem.W.Frag) (w : World) (d : Addr) (tbl : List (S × T)) : Prop where
  dk : ∃ es n, KDict K w d es n
  all : ∀ z : Str, (∃ t u v, lookS tbl z.cps.toList = some t ∧ PySem.W.nsIn K d z = some (some u) ∧ RelV v u ∧ ∀ g H, RT K g H t v) ∨ (lookS tbl z.cps.toList = none ∧ PySem.W.nsIn K d z = some none)
theorem pKdIx {d : Addr} {tbl : List (S × T)} (D : Kd X.K X.w d tbl) (hd : PE X e1 (tC (.ref d))) (he : PE X e2 (tE (Fix X p g0 H0) true c ea)) (hs : PlainIx e2 := by exact fun _ _ => rfl) : PE X (.Subscript e1 e2 pos) (tE (Fix X p g0 H0) b c (eOp1 (fKdIx tbl) ea)) :=
  (pe_ix ix_kdict hd he hs).imp fun σ H Q ⟨g, τ, h, t, h', l, ee, k⟩ => by
    obtain ⟨t1, h1, f1, f2⟩ := R.bind_ok ee
    obtain ⟨f3, rfl⟩ := R.opt_ok f2
    refine ⟨g, τ, h, t1, h1, l, f1, fun g1 H1 v l1 s1 r1 => ?_⟩
    unfold fKdIx at f3
    split at f3
    · obtain ⟨z, rfl, rfl⟩ := r1.str
      obtain ⟨es, n, dk⟩ := D.dk
      rcases D.all z with ⟨t', u, v, q1, q2, q3, q4⟩ | ⟨q1, _⟩
      · rw [f3] at q1; cases q1
        exact ⟨d, z, v, rfl, rfl, ⟨es, n, u, dk.at_, dk.lit, q2, q3⟩, k g1 H1 v l1 s1 (.inl (q4 _ _))⟩
      · rw [f3] at q1; cases q1
    · cases f3
theorem kd_in {d : Addr} {tbl : List (S × T)} (D : Kd X.K X.w d tbl) {es : Array DictEntry} {n : Nat} {σ : L2.St} {H : Hp} {Q : VK} (q : tE (Fix X p g0 H0) b c (eOp1 (fKdIn tbl) ea) σ H Q) :
    tOp (fun x y H Q => ∃ (z : Str) (r : Option Value), x = .str z ∧ y = .ref d ∧ PySem.W.nsIn X.K d z = some r ∧ Q (.bl r.isSome) H) (tE (Fix X p g0 H0) true c ea) (tC (.ref d)) σ H Q := by
  obtain ⟨g, τ, h, t, h', l, ee, k⟩ := q
  obtain ⟨t1, h1, f1, f2⟩ := R.bind_ok ee
  obtain ⟨f3, rfl⟩ := R.opt_ok f2
  refine ⟨g, τ, h, t1, h1, l, f1, fun g1 H1 v l1 s1 r1 => ?_⟩
  unfold fKdIn at f3
  split at f3
  · cases f3
    obtain ⟨z, rfl, rfl⟩ := r1.str
    rcases D.all z with ⟨t', u, v, q1, q2, _⟩ | ⟨q1, q2⟩
    · exact ⟨z, some u, rfl, rfl, q2, by rw [q1] at k; exact k g1 H1 _ l1 s1 (.inl (.bl _))⟩
    · exact ⟨z, none, rfl, rfl, q2, by rw [q1] at k; exact k g1 H1 _ l1 s1 (.inl (.bl _))⟩
  · cases f3
theorem kd_notIn {d : Addr} {tbl : List (S × T)} (D : Kd X.K X.w d tbl) {σ : L2.St} {H : Hp} {Q : VK} (q : tE (Fix X p g0 H0) b c (eOp1 (fKdNotIn tbl) ea) σ H Q) :
    tOp (fun x y H Q => ∃ (z : Str) (r : Option Value), x = .str z ∧ y = .ref d ∧ PySem.W.nsIn X.K d z = some r ∧ Q (.bl (!r.isSome)) H) (tE (Fix X p g0 H0) true c ea) (tC (.ref d)) σ H Q := by
  obtain ⟨g, τ, h, t, h', l, ee, k⟩ := q
  obtain ⟨t1, h1, f1, f2⟩ := R.bind_ok ee
  obtain ⟨f3, rfl⟩ := R.opt_ok f2
  refine ⟨g, τ, h, t1, h1, l, f1, fun g1 H1 v l1 s1 r1 => ?_⟩
  unfold fKdNotIn at f3
  split at f3
  · cases f3
    obtain ⟨z, rfl, rfl⟩ := r1.str
    rcases D.all z with ⟨t', u, v, q1, q2, _⟩ | ⟨q1, q2⟩
    · exact ⟨z, some u, rfl, rfl, q2, by rw [q1] at k; exact k g1 H1 _ l1 s1 (.inl (.bl _))⟩
    · exact ⟨z, none, rfl, rfl, q2, by rw [q1] at k; exact k g1 H1 _ l1 s1 (.inl (.bl _))⟩
  · cases f3
theorem pKdIn {d : Addr} {tbl : List (S × T)} (D : Kd X.K X.w d tbl) (hd : PE X e2 (tC (.ref d))) (he : PE X e1 (tE (Fix X p g0 H0) true c ea)) (hm : behindInMarks .In e2 = false := by with_unfolding_all rfl) : PE X (.Compare e1 [.In] [e2] pos) (tE (Fix X p g0 H0) b c (eOp1 (fKdIn tbl) ea)) := by
  obtain ⟨es, n, dk⟩ := D.dk
  exact (pe_cmpR (op_in_kd dk) he hd hm).imp fun _ _ _ q => kd_in (es := es) (n := n) D q
theorem pKdNotIn {d : Addr} {tbl : List (S × T)} (D : Kd X.K X.w d tbl) (hd : PE X e2 (tC (.ref d))) (he : PE X e1 (tE (Fix X p g0 H0) true c ea)) (hm : behindInMarks .NotIn e2 = false := by with_unfolding_all rfl) : PE X (.Compare e1 [.NotIn] [e2] pos) (tE (Fix X p g0 H0) b c (eOp1 (fKdNotIn tbl) ea)) := by
  obtain ⟨es, n, dk⟩ := D.dk
  exact (pe_cmpR (op_notIn_kd dk) he hd hm).imp fun _ _ _ q => kd_notIn D q
theorem tKdIn {d : Addr} {tbl : List (S × T)} (D : Kd X.K X.w d tbl) (hd : PE X e2 (tC (.ref d))) (he : PE X e1 (tE (Fix X p g0 H0) true c ea)) (hm : behindInMarks .In e2 = false := by with_unfolding_all rfl) : PT X (.Compare e1 [.In] [e2] pos) (tT (Fix X p g0 H0) c (tBl (eOp1 (fKdIn tbl) ea))) := by
  obtain ⟨es, n, dk⟩ := D.dk
  exact (pt_cmpR (op_in_kd dk) he hd hm).imp fun σ H Q ⟨g, τ, h, t, h', l, ee, k⟩ => by
    obtain ⟨t1, h1, f1, f2⟩ := R.bind_ok ee
    cases t1 with
    | bl z =>
      cases f2
      exact kd_in (b := false) (es := es) (n := n) D ⟨g, τ, h, .bl t, h', l, f1, fun g' H' v l' s' r' => ⟨t, r'.bl, k g' H' l' s'⟩⟩
    | _ => cases f2
theorem tKdNotIn {d : Addr} {tbl : List (S × T)} (D : Kd X.K X.w d tbl) (hd : PE X e2 (tC (.ref d))) (he : PE X e1 (tE (Fix X p g0 H0) true c ea)) (hm : behindInMarks .NotIn e2 = false := by with_unfolding_all rfl) : PT X (.Compare e1 [.NotIn] [e2] pos) (tT (Fix X p g0 H0) c (tBl (eOp1 (fKdNotIn tbl) ea))) := by
  obtain ⟨es, n, dk⟩ := D.dk
  exact (pt_cmpR (op_notIn_kd dk) he hd hm).imp fun σ H Q ⟨g, τ, h, t, h', l, ee, k⟩ => by
    obtain ⟨t1, h1, f1, f2⟩ := R.bind_ok ee
    cases t1 with
    | bl z =>
      cases f2
      exact kd_notIn (b := false) D ⟨g, τ, h, .bl t, h', l, f1, fun g' H' v l' s' r' => ⟨t, r'.bl, k g' H' l' s'⟩⟩
    | _ => cases f2
end
end Gt
end
section
set_option Elab.async false
set_option linter.all false
set_option maxRecDepth 20000
namespace Gt
open PySem L2
section
variable {K : PySem.W.Frag} {g : G} {H : Hp} {h : Hs}
theorem mk_get {ts : List T} {ns i : Nat} {s : Slot} (e : (mkEnv ts ns)[i]? = some s) : (∃ t, ts[i]? = some t ∧ s = .val t) ∨ s = .un := by
  unfold mkEnv at e
  by_cases hi : i < ts.length
  · rw [List.getElem?_append_left (by simpa using hi), List.getElem?_map] at e
    obtain ⟨t, e1, rfl⟩ := Option.map_eq_some_iff.mp e
    exact .inl ⟨t, e1, rfl⟩
  · rw [List.getElem?_append_right (by simpa using hi)] at e
    exact .inr (List.eq_of_mem_replicate (List.mem_of_getElem? e))
theorem start_rl {p : Bool} {ts : List T} {vs : List V} {N : List Str} (rh : RH K g H h) (r : RTs K g H ts vs) (hl : ts.length ≤ N.length) : Rl ⟨K, p, g, H⟩ g H (mkEnv ts N.length) (L2.start N vs) h := by
  have n := r.length
  refine ⟨?_, fun i t e => ?_, fun i c e => ?_, fun i j c d a e => ?_, rh, En.refl⟩
  · unfold mkEnv L2.start
    simp [n]
  · rcases mk_get e with ⟨t', e1, e2⟩ | e2
    · cases e2
      obtain ⟨v, z1, z2⟩ := r.get e1
      refine ⟨v, ?_, z2⟩
      unfold L2.start
      have hi := (List.getElem?_eq_some_iff.mp z1).1
      rw [List.getElem?_append_left (by simpa using hi), List.getElem?_map, z1]; rfl
    · cases e2
  · rcases mk_get e with ⟨t', _, e2⟩ | e2 <;> cases e2
  · rcases mk_get e with ⟨t', _, e2⟩ | e2 <;> cases e2
mutual
theorem RT.bare {ρ : List Addr} : ∀ {n : Nat} {t : T} {v : V}, noRef n t = true → RT K g H t v → RT K ⟨g.F, ρ⟩ H t v
  | 0, _, _, e, _ => by cases e
  | _ + 1, _, _, _, .non => .non
  | _ + 1, _, _, _, .bl b => .bl b
  | _ + 1, _, _, _, .int i => .int i
  | _ + 1, _, _, _, .str x => .str x
  | n + 1, _, _, e, .tup q m => .tup q (RTs.bare (n := n) (by simpa [noRef] using e) m)
  | n + 1, _, _, e, .lst f q m => .lst f q (RTs.bare (n := n) (by simpa [noRef] using e) m)
  | _ + 1, _, _, e, .scr q m => by simp [noRef] at e
  | n + 1, _, _, e, .dic f q m => .dic f q (RKs.bare (n := n) (by simpa [noRef] using e) m)
  | _ + 1, _, _, e, .ref q => by simp [noRef] at e
theorem RTs.bare {ρ : List Addr} : ∀ {n : Nat} {ts : List T} {vs : List V}, (∀ t ∈ ts, noRef n t = true) → RTs K g H ts vs → RTs K ⟨g.F, ρ⟩ H ts vs
  | _, _, _, _, .nil => .nil
  | n, _, _, e, .cons r m => .cons (RT.bare (e _ List.mem_cons_self) r) (RTs.bare (n := n) (fun t h => e t (List.mem_cons_of_mem _ h)) m)
theorem RKs.bare {ρ : List Addr} : ∀ {n : Nat} {ts : List (Ky × T)} {vs : List (Key × V)}, (∀ a b, (a, b) ∈ ts → noRef n b = true) → RKs K g H ts vs → RKs K ⟨g.F, ρ⟩ H ts vs
  | _, _, _, _, .nil => .nil
  | n, _, _, e, .cons k r m => .cons k (RT.bare (e _ _ List.mem_cons_self) r) (RKs.bare (n := n) (fun a b h => e a b (List.mem_cons_of_mem _ h)) m)
end
end
section
variable {P : Program} {w : World} {K : PySem.W.Frag} {mg : Str → Option Value} {base : Heap} {x qual : Str} {params : Arguments} {body : List Stmt} {scope : Scope} {f : Addr} {fd : FuncData} {N ps : List Str} {k i : Nat} {ft : Nat → Option Fn} {Fb : Fn}
/-- the context of a body -/
abbrev Cb (P : Program) (w : World) (K : PySem.W.Frag) (mg : Str → Option Value) (base : Heap) (N : List Str) (qual : Str) (scope : Scope) (f : Addr) (cdv : Value) (A : Around) (outer : List Env) (s : Shared) (H : Hp) (E : XK) : Cx := (cxOf CX0 P w K mg base N qual scope f cdv A outer s H E).nox
theorem fin_out {fx : Fx} {D : Ends} {r : SR} {rv : RV} {h' : Hs} {g : G} {H : Hp} (e : fin r = .ok rv h') (k : ∀ g' H' v, RH fx.K g' H' h' → En fx.p fx.g0 fx.H0 g' H' → RR fx.K fx.H0 g' H' rv v → D.rt v H') (hn : ∀ σ' H', D.rt .non H' → D.nx σ' H') : Out fx D g H r := by
  cases r with
  | next e1 h1 => cases e; exact fun g' σ' H' l' _ => hn σ' H' (k g' H' .non l'.heap l'.en .non)
  | ret r h1 => cases e; exact k
  | brk => cases e
  | cnt => cases e
  | exc => cases e
  | bad => cases e
theorem fn_keeps (F : FunD K x qual params body scope [] [] f fd) (S : FnScope N ps scope) (q : Bool) (hft : ft i = some Fb) (hnp : Fb.np = ps.length) (hns : Fb.ns = N.length) (hk : Fb.kind ≠ .opens) (hpn : ps.length ≤ N.length)
    (hb : ∀ (cdv : Value) (A : Around) (outer : List Env) (s : Shared) (H : Hp) (E : XK) (g0 : G) (H0 : Hp), Room k (A.deeper (PyProof.Rows.envOfC qual scope s.heap.objs.size f cdv)) → Ss (Cb P w K mg base N qual scope f cdv A outer s H E) q g0 H0 (run ft k) body Fb.body) :
    FnOk P w K mg base CX0 (k + 1) f fd ps (spF K (run ft (k + 1)) i q ps.length) := by
  refine F.ok S (fun vs H Q E z => spF_len z) fun cdv A outer s H vs Q E hr z => ?_
  obtain ⟨hl, g, ts, h, r, h', rh, rt, er, kQ⟩ := z
  refine ⟨_, PSs.nox (hb cdv A outer s H E g H hr), g, mkEnv ts N.length, h, ?_, ?_⟩
  · exact start_rl rh rt (by rw [rt.length, hl]; exact hpn)
  · unfold run at er
    rw [hft] at er
    dsimp only at er
    split at er
    · have er2 : fin (Fb.body (run ft k) (mkEnv ts N.length) h) = .ok r h' := by
        rw [← hns]
        cases z : Fb.kind with
        | opens => exact absurd z hk
        | pure => rw [z] at er; exact er
        | impure => rw [z] at er; exact er
      exact fin_out er2 kQ fun _ _ q => q
    · cases er
theorem fn_opens (F : FunD K x qual params body scope [] [] f fd) (S : FnScope N ps scope) (hft : ft i = some Fb) (hnp : Fb.np = ps.length) (hns : Fb.ns = N.length) (hk : Fb.kind = .opens) (hpn : ps.length ≤ N.length)
    (hb : ∀ (cdv : Value) (A : Around) (outer : List Env) (s : Shared) (H : Hp) (E : XK) (g0 : G) (H0 : Hp), Room k (A.deeper (PyProof.Rows.envOfC qual scope s.heap.objs.size f cdv)) → Ss (Cb P w K mg base N qual scope f cdv A outer s H E) false g0 H0 (run ft k) body Fb.body) :
    FnOk P w K mg base CX0 (k + 1) f fd ps (spF K (run ft (k + 1)) i true ps.length) := by
  refine F.ok S (fun vs H Q E z => spF_len z) fun cdv A outer s H vs Q E hr z => ?_
  obtain ⟨hl, g, ts, h, r, h', rh, rt, er, kQ⟩ := z
  have rh0 : RH K ⟨g.F, []⟩ H [] := ⟨rfl, List.nodup_nil, (fun a m => nomatch m), rh.th, (fun n c a q => by cases q)⟩
  unfold run at er
  rw [hft] at er
  dsimp only at er
  split at er
  · rw [hk] at er
    dsimp only at er
    split at er
    · rename_i hbare
      have rt0 : RTs K ⟨g.F, []⟩ H ts vs := rt.bare fun t m => List.all_eq_true.mp hbare t m
      refine ⟨_, PSs.nox (hb cdv A outer s H E ⟨g.F, []⟩ H hr), ⟨g.F, []⟩, mkEnv ts N.length, [], start_rl rh0 rt0 (by rw [rt.length, hl]; exact hpn), ?_⟩
      rw [hns] at er
      split at er
      · rename_i t h1 ez
        split at er
        · rename_i hz
          cases er
          refine fin_out ez (fun g' H' v rh' en rr => ?_) fun _ _ q => q
          have kp : ∀ a o, H a = some o → H' a = some o := fun a o e => en.keep a o e (.inr fun z => nomatch z)
          have s' : Sp g H ⟨g'.F, g.ρ⟩ H' := by
            refine ⟨en.F, ⟨[], by simp⟩, fun a f => ?_, fun a xs e => kp a _ e, fun a o u e => kp a _ e⟩
            cases z : H a with
            | none => exact absurd z (rh.th a f)
            | some o => exact kp a o z
          refine kQ ⟨g'.F, g.ρ⟩ H' v (rh.go s' rfl (fun a m f => ?_) (fun a f => rh'.th a f) fun a m => ?_) ⟨en.F, fun a f n => en.F2 a f n, ⟨[], by simp, by simp, fun _ => rfl⟩, fun a o e _ => kp a o e, en.th⟩ ?_
          · obtain ⟨c, rc⟩ := rh.cell m
            obtain ⟨o, eo⟩ := rc.some
            have z : H a = none := en.F2 a f (rh.no a m)
            rw [eo] at z; cases z
          · obtain ⟨c, rc⟩ := rh.cell m
            obtain ⟨o, eo⟩ := rc.some
            rw [eo]; exact kp a o eo
          · exact RT.bare hz rr
        · cases er
      · cases er
      · split at er <;> cases er
      · cases er
    · cases er
  · cases er
theorem fn_k (bd : SC) (kd : Kind) (q : Bool) (F : FunD K x qual params body scope [] [] f fd) (S : FnScope N ps scope) (hft : ft i = some ⟨ps.length, N.length, kd, bd⟩) (hk : kd ≠ .opens) (hpn : ps.length ≤ N.length)
    (hb : ∀ (cdv : Value) (A : Around) (outer : List Env) (s : Shared) (H : Hp) (E : XK) (g0 : G) (H0 : Hp), Room k (A.deeper (PyProof.Rows.envOfC qual scope s.heap.objs.size f cdv)) → Ss (Cb P w K mg base N qual scope f cdv A outer s H E) q g0 H0 (run ft k) body bd) :
    FnOk P w K mg base CX0 (k + 1) f fd ps (spF K (run ft (k + 1)) i q ps.length) := fn_keeps F S q hft rfl rfl hk hpn hb
theorem fn_o (bd : SC) (F : FunD K x qual params body scope [] [] f fd) (S : FnScope N ps scope) (hft : ft i = some ⟨ps.length, N.length, .opens, bd⟩) (hpn : ps.length ≤ N.length)
    (hb : ∀ (cdv : Value) (A : Around) (outer : List Env) (s : Shared) (H : Hp) (E : XK) (g0 : G) (H0 : Hp), Room k (A.deeper (PyProof.Rows.envOfC qual scope s.heap.objs.size f cdv)) → Ss (Cb P w K mg base N qual scope f cdv A outer s H E) false g0 H0 (run ft k) body bd) :
    FnOk P w K mg base CX0 (k + 1) f fd ps (spF K (run ft (k + 1)) i true ps.length) := fn_opens F S hft rfl rfl rfl hpn hb
/-- a def that may be called -/
structure Cal (P : Program) (w : World) (K : PySem.W.Frag) (mg : Str → Option Value) (base : Heap) (c : Call) (k : Nat) (i : Nat) (x : Str) (ps : List Str) (q : Bool) : Prop where
  ex : ∃ f fd, FnOk P w K mg base CX0 k f fd ps (spF K c i q ps.length) ∧ mg x = some (.ref f) ∧ PySem.W.keepIn K (.ref f) = true ∧ Binds K fd ps []
end
section
variable {X : Cx} {p q b : Bool} {g0 : G} {H0 : Hp} {c : Call} {e : Expr} {es : List Expr} {ac : AC} {k i n : Nat} {x : Str} {pos px : Pos} {ps : List Str}
theorem pC (C : Cal X.prog X.w X.K X.mg X.base c k i x ps q) (hr : Room k X.A) (ha : PAs X (Fix X p g0 H0) false c n (e :: es) ac) (hg : Gl X x := by rfl) (hn : n = ps.length := by rfl) (hpq : p = true → q = true := by exact fun z => z) (hdb : (x == ("__debug__" : Str)) = false := by decide)
    (he : starEach (e :: es) X.env = (false, eval e X.env) :: starEach es X.env := by rfl) (hpl : (backTo pos (starEach es X.env)).any (·.1) = false := by rfl) : PE X (.Call (.Name x px) (e :: es) [] pos) (tO (Fix X p g0 H0) c (eCall i ac)) := by
  obtain ⟨f, fd, F, hm, hk, hb⟩ := C.ex
  subst hn
  exact pCall F hr hpq hg hm hk hb ha hdb he hpl
theorem pC0 (C : Cal X.prog X.w X.K X.mg X.base c k i x [] q) (hr : Room k X.A) (hg : Gl X x := by rfl) (hpq : p = true → q = true := by exact fun z => z) (hdb : (x == ("__debug__" : Str)) = false := by decide) : PE X (.Call (.Name x px) [] [] pos) (tO (Fix X p g0 H0) c (eCall i aNil)) := by
  obtain ⟨f, fd, F, hm, hk, hb⟩ := C.ex
  exact pCall0 F hr hpq hg hm hk hb hdb
theorem pCB (C : Cal X.prog X.w X.K X.mg X.base c k i x ps true) (hr : Room k X.A) (ha : PAs X (Fix X p g0 H0) true c n (e :: es) ac) (hg : Gl X x := by rfl) (hn : n = ps.length := by rfl) (hdb : (x == ("__debug__" : Str)) = false := by decide)
    (he : starEach (e :: es) X.env = (false, eval e X.env) :: starEach es X.env := by rfl) (hpl : (backTo pos (starEach es X.env)).any (·.1) = false := by rfl) : PE X (.Call (.Name x px) (e :: es) [] pos) (tE (Fix X p g0 H0) b c (eCallB i ac)) := by
  obtain ⟨f, fd, F, hm, hk, hb⟩ := C.ex
  subst hn
  exact pCallB F hr hg hm hk hb ha hdb he hpl
end
end Gt
end
section
set_option Elab.async false
set_option linter.all false
set_option maxRecDepth 20000
namespace Gt
open PySem L2
/-- a constant of the module -/
def Con (K : PySem.W.Frag) (mg : Str → Option Value) (x : Str) (t : T) : Prop := ∃ v u, mg x = some u ∧ RelV v u ∧ ∀ g H, RT K g H t v
def ConD (K : PySem.W.Frag) (w : World) (mg : Str → Option Value) (x : Str) (tbl : List (S × T)) : Prop := ∃ d, mg x = some (.ref d) ∧ Kd K w d tbl
/-- what a body may lean on -/
structure Facts (tab : List (Nat × Str × List Str × Bool)) (cons : List (Str × T)) (dics : List (Str × List (S × T))) (frs : List Str) (P : Program) (w : World) (K : PySem.W.Frag) (mg : Str → Option Value) (base : Heap) (c : Call) (k : Nat) : Prop where
  cal : ∀ (i : Nat) x ps q, lookN tab i = some (x, ps, q) → Cal P w K mg base c k i x ps q
  con : ∀ (i : Nat) x t, cons[i]? = some (x, t) → Con K mg x t
  dic : ∀ (i : Nat) x t, dics[i]? = some (x, t) → ConD K w mg x t
  fre : ∀ (i : Nat) x, frs[i]? = some x → mg x = none
theorem rmE {k : Nat} {A : Around} (h : Room k A) : A.units + DEEP < cLine := Nat.lt_of_le_of_lt (by unfold DEEP; omega) h.un
theorem rmI {k : Nat} {A : Around} (h : Room k A) : A.units + 1 + DEEP < cLine := Nat.lt_of_le_of_lt (by unfold DEEP; omega) h.un
theorem rm1 {k : Nat} {A : Around} (h : Room k A) : A.units + 1 < cLine := Nat.lt_of_le_of_lt (by omega) h.un
section
variable {X : Cx} {p b : Bool} {g0 : G} {H0 : Hp} {c : Call} {e e1 e2 e3 : Expr} {es : List Expr} {ea eb ed : EC} {oa ob : OC} {tc td : TC} {ac : AC} {k n : Nat} {x : Str} {pos px : Pos} {t : T}
/-- local names: kept; looked at -/
theorem v (i : Nat) (hN : X.N[i]? = some x := by rfl) (hv : Vis X.env.scope x := by first | exact .inl rfl | exact .inr (.inl rfl) | exact .inr (.inr rfl)) (hd : (x == ("__debug__" : Str)) = false := by decide) (hcd : (x == ("__classdict__" : Str)) = false := by decide) : PE X (.Name x pos) (tE (Fix X p g0 H0) b c (eVar i)) := pVar hN hv hd hcd
theorem vb (i : Nat) (hN : X.N[i]? = some x := by rfl) (hv : Vis X.env.scope x := by first | exact .inl rfl | exact .inr (.inl rfl) | exact .inr (.inr rfl)) (hd : (x == ("__debug__" : Str)) = false := by decide) (hcd : (x == ("__classdict__" : Str)) = false := by decide) : PE X (.Name x pos) (tE (Fix X p g0 H0) true c (eBor i)) := pBor hN hv hd hcd
theorem kN (C : Con X.K X.mg x t) (hg : Gl X x := by rfl) (hd : (x == ("__debug__" : Str)) = false := by decide) : PE X (.Name x pos) (tE (Fix X p g0 H0) b c (eK t)) := by
  obtain ⟨v, u, hm, r, rt⟩ := C
  exact pGlob hg hm r rt hd
theorem kNeg {z : Int} {j} {p1 : Pos} : PE X (.UnaryOp .USub (.Constant (.int z) j p1) pos) (tC (.int (-z))) := (pe_un un_neg pe_int).imp fun σ H Q q => ⟨z, rfl, q⟩
theorem kM {z : Int} {j} {p1 : Pos} : PE X (.UnaryOp .USub (.Constant (.int z) j p1) pos) (tE (Fix X p g0 H0) b c (eK (.int (-z)))) := pK kNeg fun _ _ => .int _
section
variable (ha : PE X e1 (tE (Fix X p g0 H0) true c ea)) (hb : PE X e2 (tE (Fix X p g0 H0) true c eb))
include ha hb
theorem bAdd : PE X (.BinOp e1 .Add e2 pos) (tO (Fix X p g0 H0) c (oOp2 fAdd ea eb)) := pOpR o_add ha hb
theorem bSub : PE X (.BinOp e1 .Sub e2 pos) (tE (Fix X p g0 H0) b c (eOp2 fSub ea eb)) := pOp o_sub ha hb
theorem bMul : PE X (.BinOp e1 .Mult e2 pos) (tE (Fix X p g0 H0) b c (eOp2 fMul ea eb)) := pOp o_mul ha hb
theorem bMod : PE X (.BinOp e1 .Mod e2 pos) (tE (Fix X p g0 H0) b c (eOp2 fMod ea eb)) := pOp o_mod ha hb
theorem bDiv : PE X (.BinOp e1 .FloorDiv e2 pos) (tE (Fix X p g0 H0) b c (eOp2 fDiv ea eb)) := pOp o_div ha hb
theorem bPow : PE X (.BinOp e1 .Pow e2 pos) (tE (Fix X p g0 H0) b c (eOp2 fPow ea eb)) := pOp o_pow ha hb
theorem eEq (hr : Room k X.A) : PE X (.Compare e1 [.Eq] [e2] pos) (tE (Fix X p g0 H0) b c (eOp2 fEq ea eb)) := pCmp (o_eq (rmE hr)) ha hb (nomark _)
theorem eNe (hr : Room k X.A) : PE X (.Compare e1 [.NotEq] [e2] pos) (tE (Fix X p g0 H0) b c (eOp2 fNe ea eb)) := pCmp (o_ne (rmE hr)) ha hb (nomark _)
theorem eLt (hr : Room k X.A) : PE X (.Compare e1 [.Lt] [e2] pos) (tE (Fix X p g0 H0) b c (eOp2 fLt ea eb)) := pCmp o_lt ha hb (nomark _)
theorem eLe (hr : Room k X.A) : PE X (.Compare e1 [.LtE] [e2] pos) (tE (Fix X p g0 H0) b c (eOp2 fLe ea eb)) := pCmp o_le ha hb (nomark _)
theorem eGt (hr : Room k X.A) : PE X (.Compare e1 [.Gt] [e2] pos) (tE (Fix X p g0 H0) b c (eOp2 fGt ea eb)) := pCmp o_gt ha hb (nomark _)
theorem eGe (hr : Room k X.A) : PE X (.Compare e1 [.GtE] [e2] pos) (tE (Fix X p g0 H0) b c (eOp2 fGe ea eb)) := pCmp o_ge ha hb (nomark _)
theorem eIs (hr : Room k X.A) : PE X (.Compare e1 [.Is] [e2] pos) (tE (Fix X p g0 H0) b c (eOp2 fIs ea eb)) := pCmp o_is ha hb (nomark _)
theorem eIsNot (hr : Room k X.A) : PE X (.Compare e1 [.IsNot] [e2] pos) (tE (Fix X p g0 H0) b c (eOp2 fIsNot ea eb)) := pCmp o_isNot ha hb (nomark _)
theorem eIn (hr : Room k X.A) (hm : behindInMarks .In e2 = false := by with_unfolding_all rfl) : PE X (.Compare e1 [.In] [e2] pos) (tE (Fix X p g0 H0) b c (eOp2 fIn ea eb)) := pCmp (o_in (rmI hr)) ha hb hm
theorem eNotIn (hr : Room k X.A) (hm : behindInMarks .NotIn e2 = false := by with_unfolding_all rfl) : PE X (.Compare e1 [.NotIn] [e2] pos) (tE (Fix X p g0 H0) b c (eOp2 fNotIn ea eb)) := pCmp (o_notIn (rmI hr)) ha hb hm
theorem cEq (hr : Room k X.A) : PT X (.Compare e1 [.Eq] [e2] pos) (tT (Fix X p g0 H0) c (tBl (eOp2 fEq ea eb))) := tCmp (o_eq (rmE hr)) ha hb (nomark _)
theorem cNe (hr : Room k X.A) : PT X (.Compare e1 [.NotEq] [e2] pos) (tT (Fix X p g0 H0) c (tBl (eOp2 fNe ea eb))) := tCmp (o_ne (rmE hr)) ha hb (nomark _)
theorem cLt (hr : Room k X.A) : PT X (.Compare e1 [.Lt] [e2] pos) (tT (Fix X p g0 H0) c (tBl (eOp2 fLt ea eb))) := tCmp o_lt ha hb (nomark _)
theorem cLe (hr : Room k X.A) : PT X (.Compare e1 [.LtE] [e2] pos) (tT (Fix X p g0 H0) c (tBl (eOp2 fLe ea eb))) := tCmp o_le ha hb (nomark _)
theorem cGt (hr : Room k X.A) : PT X (.Compare e1 [.Gt] [e2] pos) (tT (Fix X p g0 H0) c (tBl (eOp2 fGt ea eb))) := tCmp o_gt ha hb (nomark _)
theorem cGe (hr : Room k X.A) : PT X (.Compare e1 [.GtE] [e2] pos) (tT (Fix X p g0 H0) c (tBl (eOp2 fGe ea eb))) := tCmp o_ge ha hb (nomark _)
theorem cIs (hr : Room k X.A) : PT X (.Compare e1 [.Is] [e2] pos) (tT (Fix X p g0 H0) c (tBl (eOp2 fIs ea eb))) := tCmp o_is ha hb (nomark _)
theorem cIsNot (hr : Room k X.A) : PT X (.Compare e1 [.IsNot] [e2] pos) (tT (Fix X p g0 H0) c (tBl (eOp2 fIsNot ea eb))) := tCmp o_isNot ha hb (nomark _)
theorem cIn (hr : Room k X.A) (hm : behindInMarks .In e2 = false := by with_unfolding_all rfl) : PT X (.Compare e1 [.In] [e2] pos) (tT (Fix X p g0 H0) c (tBl (eOp2 fIn ea eb))) := tCmp (o_in (rmI hr)) ha hb hm
theorem cNotIn (hr : Room k X.A) (hm : behindInMarks .NotIn e2 = false := by with_unfolding_all rfl) : PT X (.Compare e1 [.NotIn] [e2] pos) (tT (Fix X p g0 H0) c (tBl (eOp2 fNotIn ea eb))) := tCmp (o_notIn (rmI hr)) ha hb hm
end
section
variable (ha : PE X e (tE (Fix X p g0 H0) true c ea))
include ha
theorem fLen' (hm : X.mg "len" = none) (hg : Gl X "len" := by rfl) (he : starEach [e] X.env = (false, eval e X.env) :: starEach [] X.env := by rfl) : PE X (.Call (.Name "len" px) [e] [] pos) (tE (Fix X p g0 H0) b c (eOp1 fLen ea)) := pB1 c_len hg hm (by decide +kernel) ha (by decide) (by decide) he
theorem fAll' (hm : X.mg "all" = none) (hc : X.calm = true := by rfl) (hg : Gl X "all" := by rfl) (he : starEach [e] X.env = (false, eval e X.env) :: starEach [] X.env := by rfl) : PE X (.Call (.Name "all" px) [e] [] pos) (tE (Fix X p g0 H0) b c (eOp1 fAll ea)) := pB1 (c_all hc) hg hm (by decide +kernel) ha (by decide) (by decide) he
theorem fAny' (hm : X.mg "any" = none) (hc : X.calm = true := by rfl) (hg : Gl X "any" := by rfl) (he : starEach [e] X.env = (false, eval e X.env) :: starEach [] X.env := by rfl) : PE X (.Call (.Name "any" px) [e] [] pos) (tE (Fix X p g0 H0) b c (eOp1 fAny ea)) := pB1 (c_any hc) hg hm (by decide +kernel) ha (by decide) (by decide) he
theorem fSum' (hm : X.mg "sum" = none) (hc : X.calm = true := by rfl) (hg : Gl X "sum" := by rfl) (he : starEach [e] X.env = (false, eval e X.env) :: starEach [] X.env := by rfl) : PE X (.Call (.Name "sum" px) [e] [] pos) (tE (Fix X p g0 H0) b c (eOp1 fSum ea)) := pB1 (c_sum hc) hg hm (by decide +kernel) ha (by decide) (by decide) he
theorem fSorted' (hm : X.mg "sorted" = none) (hc : X.calm = true := by rfl) (hg : Gl X "sorted" := by rfl) (he : starEach [e] X.env = (false, eval e X.env) :: starEach [] X.env := by rfl) : PE X (.Call (.Name "sorted" px) [e] [] pos) (tO (Fix X p g0 H0) c (oOp1 fSorted ea)) := pB1R (c_sorted hc) hg hm (by decide +kernel) ha (by decide) (by decide) he
theorem fTuple' (hm : X.mg "tuple" = none) (hg : Gl X "tuple" := by rfl) (he : starEach [e] X.env = (false, eval e X.env) :: starEach [] X.env := by rfl) : PE X (.Call (.Name "tuple" px) [e] [] pos) (tE (Fix X p g0 H0) b c (eOp1 fTuple ea)) := pT1 c_tuple hg hm (by decide +kernel) ha (by decide) (by decide) he
theorem fList' (hm : X.mg "list" = none) (hg : Gl X "list" := by rfl) (he : starEach [e] X.env = (false, eval e X.env) :: starEach [] X.env := by rfl) : PE X (.Call (.Name "list" px) [e] [] pos) (tO (Fix X p g0 H0) c (oOp1 fList ea)) := pT1R c_list hg hm (by decide +kernel) ha (by decide) (by decide) he
theorem fInt' (hm : X.mg "int" = none) (hg : Gl X "int" := by rfl) (he : starEach [e] X.env = (false, eval e X.env) :: starEach [] X.env := by rfl) : PE X (.Call (.Name "int" px) [e] [] pos) (tE (Fix X p g0 H0) b c (eOp1 fInt ea)) := pT1 c_int hg hm (by decide +kernel) ha (by decide) (by decide) he
theorem fStr' (hm : X.mg "str" = none) (hg : Gl X "str" := by rfl) (he : starEach [e] X.env = (false, eval e X.env) :: starEach [] X.env := by rfl) : PE X (.Call (.Name "str" px) [e] [] pos) (tE (Fix X p g0 H0) b c (eOp1 fStr ea)) := pT1 c_str hg hm (by decide +kernel) ha (by decide) (by decide) he
end
theorem fMax2' (ha : PE X e1 (tE (Fix X p g0 H0) true c ea)) (hb : PE X e2 (tE (Fix X p g0 H0) true c eb)) (hm : X.mg "max" = none) (hc : X.calm = true := by rfl) (hg : Gl X "max" := by rfl) (he : starEach [e1, e2] X.env = (false, eval e1 X.env) :: starEach [e2] X.env := by rfl) (he2 : starEach [e2] X.env = (false, eval e2 X.env) :: starEach [] X.env := by rfl) (hpl : (backTo pos (starEach [e2] X.env)).any (·.1) = false := by rfl) :
    PE X (.Call (.Name "max" px) [e1, e2] [] pos) (tE (Fix X p g0 H0) b c (eOp2 fMax2 ea eb)) := pB2 (c_max2 hc) hg hm (by decide +kernel) ha hb (by decide) (by decide) he he2 hpl
theorem fMin2' (ha : PE X e1 (tE (Fix X p g0 H0) true c ea)) (hb : PE X e2 (tE (Fix X p g0 H0) true c eb)) (hm : X.mg "min" = none) (hc : X.calm = true := by rfl) (hg : Gl X "min" := by rfl) (he : starEach [e1, e2] X.env = (false, eval e1 X.env) :: starEach [e2] X.env := by rfl) (he2 : starEach [e2] X.env = (false, eval e2 X.env) :: starEach [] X.env := by rfl) (hpl : (backTo pos (starEach [e2] X.env)).any (·.1) = false := by rfl) :
    PE X (.Call (.Name "min" px) [e1, e2] [] pos) (tE (Fix X p g0 H0) b c (eOp2 fMin2 ea eb)) := pB2 (c_min2 hc) hg hm (by decide +kernel) ha hb (by decide) (by decide) he he2 hpl
theorem bootT : ∀ y : Ty, bootBuiltins (Str.ofString y.nm) = some (.type y.nm) := by intro y; cases y <;> decide +kernel
theorem fIsi1 (y : Ty) (ha : PE X e (tE (Fix X p g0 H0) true c ea)) {pt : Pos} (hm : X.mg "isinstance" = none) (hm2 : X.mg (Str.ofString y.nm) = none) (hg : Gl X "isinstance" := by rfl) (hg2 : Gl X (Str.ofString y.nm) := by rfl) (hn2 : Str.ofString y.nm ≠ "__name__" := by decide) (hdb2 : (Str.ofString y.nm == ("__debug__" : Str)) = false := by decide)
    (he : starEach [e, .Name (Str.ofString y.nm) pt] X.env = (false, eval e X.env) :: starEach [.Name (Str.ofString y.nm) pt] X.env := by rfl) : PE X (.Call (.Name "isinstance" px) [e, .Name (Str.ofString y.nm) pt] [] pos) (tE (Fix X p g0 H0) b c (eOp1 (fIsi [y]) ea)) := pIsi hg hm (by decide +kernel) ha hg2 hm2 (bootT y) (by decide) (by decide) hn2 hdb2 he
theorem fIsi2 {y z : Ty} {x1} (ha : PE X e (tE (Fix X p g0 H0) true c ea)) {pt p1 p2 : Pos} (hm : X.mg "isinstance" = none) (hm2 : X.mg (Str.ofString y.nm) = none) (hm3 : X.mg (Str.ofString z.nm) = none) (hg : Gl X "isinstance" := by rfl) (hg2 : Gl X (Str.ofString y.nm) := by rfl) (hg3 : Gl X (Str.ofString z.nm) := by rfl) (hn2 : Str.ofString y.nm ≠ "__name__" := by decide) (hdb2 : (Str.ofString y.nm == ("__debug__" : Str)) = false := by decide) (hn3 : Str.ofString z.nm ≠ "__name__" := by decide) (hdb3 : (Str.ofString z.nm == ("__debug__" : Str)) = false := by decide)
    (he : starEach [e, .Tuple [.Name (Str.ofString y.nm) p1, .Name (Str.ofString z.nm) p2] x1 pt] X.env = (false, eval e X.env) :: starEach [.Tuple [.Name (Str.ofString y.nm) p1, .Name (Str.ofString z.nm) p2] x1 pt] X.env := by rfl) :
    PE X (.Call (.Name "isinstance" px) [e, .Tuple [.Name (Str.ofString y.nm) p1, .Name (Str.ofString z.nm) p2] x1 pt] [] pos) (tE (Fix X p g0 H0) b c (eOp1 (fIsi [y, z]) ea)) := pIsiT hg hm (by decide +kernel) ha (.cons hg2 hm2 (bootT y) (.cons hg3 hm3 (bootT z) .nil hn3 hdb3) hn2 hdb2) (show 2 ≤ 100 by decide) (by decide) (by decide) he
theorem dIx {tbl : List (S × T)} (C : ConD X.K X.w X.mg x tbl) (he : PE X e2 (tE (Fix X p g0 H0) true c ea)) (hg : Gl X x := by rfl) (hd : (x == ("__debug__" : Str)) = false := by decide) (hs : PlainIx e2 := by exact fun _ _ => rfl) : PE X (.Subscript (.Name x px) e2 pos) (tE (Fix X p g0 H0) b c (eOp1 (fKdIx tbl) ea)) := by
  obtain ⟨d, hm, D⟩ := C
  exact pKdIx D (pe_glob (v := .ref d) hg hm rfl hd) he hs
theorem dNotIn {tbl : List (S × T)} (C : ConD X.K X.w X.mg x tbl) (he : PE X e1 (tE (Fix X p g0 H0) true c ea)) (hg : Gl X x := by rfl) (hd : (x == ("__debug__" : Str)) = false := by decide) : PT X (.Compare e1 [.NotIn] [.Name x px] pos) (tT (Fix X p g0 H0) c (tBl (eOp1 (fKdNotIn tbl) ea))) := by
  obtain ⟨d, hm, D⟩ := C
  exact tKdNotIn D (pe_glob (v := .ref d) hg hm rfl hd) he
theorem dIn {tbl : List (S × T)} (C : ConD X.K X.w X.mg x tbl) (he : PE X e1 (tE (Fix X p g0 H0) true c ea)) (hg : Gl X x := by rfl) (hd : (x == ("__debug__" : Str)) = false := by decide) : PT X (.Compare e1 [.In] [.Name x px] pos) (tT (Fix X p g0 H0) c (tBl (eOp1 (fKdIn tbl) ea))) := by
  obtain ⟨d, hm, D⟩ := C
  exact tKdIn D (pe_glob (v := .ref d) hg hm rfl hd) he
end
section
variable {X : Cx} {p b : Bool} {g0 : G} {H0 : Hp} {c : Call} {e e1 e2 e3 tg iter elt : Expr} {es ifs : List Expr} {ea eb ed : EC} {oa ob : OC} {tc td : TC} {ac : AC} {ic : IC} {sa sb : SC} {k n : Nat} {x y : Str} {pos px apos cpos spos py : Pos} {t : T} {is : List Nat} {tk : Tg} {sts : List Stmt}
theorem g1 (i : Nat) (hN : X.N.Nodup) (hi : X.N[i]? = some x := by rfl) (hx : Loc X.env.scope x := by first | exact .inl rfl | exact .inr rfl) (hf : X.fn x = true ∨ X.env.scope.names.lookup x = some .local := by first | exact .inl rfl | exact .inr rfl) : PG X (.Name x pos) (tG (Fix X p g0 H0) (.one i)) := pOne' hN hi hx hf
theorem gN : PGs X [] (gNames []) := pgNil
theorem gC (i : Nat) (hN : X.N.Nodup) (hr : PGs X es (gNames is)) (hi : X.N[i]? = some x := by rfl) (hx : Loc X.env.scope x := by first | exact .inl rfl | exact .inr rfl) (hf : X.fn x = true ∨ X.env.scope.names.lookup x = some .local := by first | exact .inl rfl | exact .inr rfl)
    (hs : (assignEach (.Name x pos :: es) X.env).map (·.2) = assign (.Name x pos) X.env :: (assignEach es X.env).map (·.2) := by rfl) : PGs X (.Name x pos :: es) (gNames (i :: is)) := pgCons hN hi hx hr hf hs
theorem gM {kk : Nat} (h : PGs X es (gNames is)) (hc : X.calm = true := by rfl) (hn : (assignEach es X.env).length = is.length := by rfl) (hst : (assignEach es X.env).findIdx? (·.1) = none := by rfl) : PG X (.Tuple es kk pos) (tG (Fix X p g0 H0) (.many is)) := pMany hc h hn hst
theorem a1 (i : Nat) (hN : X.N.Nodup) (he : PE X e (tE (Fix X p g0 H0) false c ea)) (hi : X.N[i]? = some x := by rfl) (hx : Loc X.env.scope x := by first | exact .inl rfl | exact .inr rfl) (hs : swapsWith e (some (.Name x px)) pos.line X.env = pure false := by rfl) (hf : X.fn x = true ∨ X.env.scope.names.lookup x = some .local := by first | exact .inl rfl | exact .inr rfl) :
    Sx X p g0 H0 c (.Assign [.Name x px] e pos) (sSet i ea) := sSet1 hN hi hx he hs hf
theorem a2 (i : Nat) (hN : X.N.Nodup) (he : PE X e (tO (Fix X p g0 H0) c oa)) (hi : X.N[i]? = some x := by rfl) (hx : Loc X.env.scope x := by first | exact .inl rfl | exact .inr rfl) (hs : swapsWith e (some (.Name x px)) pos.line X.env = pure false := by rfl) (hf : X.fn x = true ∨ X.env.scope.names.lookup x = some .local := by first | exact .inl rfl | exact .inr rfl) :
    Sx X p g0 H0 c (.Assign [.Name x px] e pos) (sSetO i oa) := sSet2 hN hi hx he hs hf
theorem aPlus (i : Nat) (hN : X.N.Nodup) (he : PE X e (tE (Fix X p g0 H0) false c ea)) (hi : X.N[i]? = some x := by rfl) (hx : Loc X.env.scope x := by first | exact .inl rfl | exact .inr rfl) (hf : X.fn x = true ∨ X.env.scope.names.lookup x = some .local := by first | exact .inl rfl | exact .inr rfl) :
    Sx X p g0 H0 c (.AugAssign (.Name x px) .Add e pos) (sAug i fAddI ea) := sAug1 fAddI_of ip_add hN hi hx he hf
theorem aMinus (i : Nat) (hN : X.N.Nodup) (he : PE X e (tE (Fix X p g0 H0) false c ea)) (hi : X.N[i]? = some x := by rfl) (hx : Loc X.env.scope x := by first | exact .inl rfl | exact .inr rfl) (hf : X.fn x = true ∨ X.env.scope.names.lookup x = some .local := by first | exact .inl rfl | exact .inr rfl) :
    Sx X p g0 H0 c (.AugAssign (.Name x px) .Sub e pos) (sAug i fSub ea) := sAug1 fSub_of ip_sub hN hi hx he hf
theorem sF (hi : PI X tg iter (tI (Fix X p g0 H0) false c ic)) (hg : PG X tg (tG (Fix X p g0 H0) tk)) (hb : Ss X p g0 H0 c sts sb) (hp : PassesOwn (model X.prog X.w) X.A X.env X.xe := by exact PassesOwn.never) (hc : X.calm = true := by rfl) (hs : ∀ x, foldedSetIterable iter X.env x = pure x := by intro _; rfl) :
    Sx X p g0 H0 c (.For tg iter sts [] pos) (sFor tk ic sb) := sFor1 hp hc hi hg hb hs
theorem sW (hc : PT X e (tT (Fix X p g0 H0) c tc)) (hb : Ss X p g0 H0 c sts sb) (hp : PassesOwn (model X.prog X.w) X.A X.env X.xe := by exact PassesOwn.never) : Sx X p g0 H0 c (.While e sts [] pos) (sWhile tc sb) := sWhile1 hp hc hb
theorem rN (i : Nat) (hN : X.N[i]? = some x := by rfl) (hv : Vis X.env.scope x := by first | exact .inl rfl | exact .inr (.inl rfl) | exact .inr (.inr rfl)) (hd : (x == ("__debug__" : Str)) = false := by decide) (hcd : (x == ("__classdict__" : Str)) = false := by decide) : Sx X p g0 H0 c (.Return (some (.Name x px)) pos) (sRetN i) := sRet3 hN hv hd hcd
theorem jR1 (hm : X.mg "range" = none) (ha : PE X e (tE (Fix X p g0 H0) false c ea)) (hg : Gl X "range" := by rfl) (hs : starEach [e] X.env = (false, eval e X.env) :: starEach [] X.env := by rfl) : PI X tg (.Call (.Name "range" px) [e] [] pos) (tI (Fix X p g0 H0) b c (iR1 ea)) := pR1 hg hm ha hs
theorem jR2 (hm : X.mg "range" = none) (ha : PE X e1 (tE (Fix X p g0 H0) false c ea)) (hb : PE X e2 (tE (Fix X p g0 H0) false c eb)) (hg : Gl X "range" := by rfl) (hs : starEach [e1, e2] X.env = [(false, eval e1 X.env), (false, eval e2 X.env)] := by rfl) (hs2 : starEach [e2] X.env = [(false, eval e2 X.env)] := by rfl) : PI X tg (.Call (.Name "range" px) [e1, e2] [] pos) (tI (Fix X p g0 H0) b c (iR2 ea eb)) := pR2 hg hm ha hb hs hs2
theorem jR3 {j : Nat} {p1 p2 : Pos} (hm : X.mg "range" = none) (ha : PE X e1 (tE (Fix X p g0 H0) false c ea)) (hb : PE X e2 (tE (Fix X p g0 H0) false c eb)) (hg : Gl X "range" := by rfl)
    (hs : starEach [e1, e2, .UnaryOp .USub (.Constant (.int 1) j p1) p2] X.env = (false, eval e1 X.env) :: starEach [e2, .UnaryOp .USub (.Constant (.int 1) j p1) p2] X.env := by rfl) (hs2 : starEach [e2, .UnaryOp .USub (.Constant (.int 1) j p1) p2] X.env = (false, eval e2 X.env) :: starEach [.UnaryOp .USub (.Constant (.int 1) j p1) p2] X.env := by rfl) (hpl : (backTo pos (starEach [e2, .UnaryOp .USub (.Constant (.int 1) j p1) p2] X.env)).any (·.1) = false := by rfl) :
    PI X tg (.Call (.Name "range" px) [e1, e2, .UnaryOp .USub (.Constant (.int 1) j p1) p2] [] pos) (tI (Fix X p g0 H0) b c (iR3 ea eb)) := pR3 hg hm ha hb kNeg hs hs2 rfl hpl
theorem jRev (hm : X.mg "reversed" = none) (ha : PE X e (tE (Fix X p g0 H0) b c ea)) (hg : Gl X "reversed" := by rfl) (hs : starEach [e] X.env = (false, eval e X.env) :: starEach [] X.env := by rfl) : PI X tg (.Call (.Name "reversed" px) [e] [] pos) (tI (Fix X p g0 H0) b c (Gt.iRev ea)) := pRev hg hm ha hs
theorem jNum {elts : List Expr} {kk : Nat} {tpos : Pos} (hm : X.mg "enumerate" = none) (ha : PE X e (tE (Fix X p g0 H0) b c ea)) (hg : Gl X "enumerate" := by rfl) (hs : starEach [e] X.env = (false, eval e X.env) :: starEach [] X.env := by rfl) : PI X (.Tuple elts kk tpos) (.Call (.Name "enumerate" px) [e] [] pos) (tI (Fix X p g0 H0) b c (iNum ea)) := pNum hg hm ha hs
theorem jZip {elts : List Expr} {kk : Nat} {tpos : Pos} (hm : X.mg "zip" = none) (ha : PE X e1 (tE (Fix X p g0 H0) b c ea)) (hb : PE X e2 (tE (Fix X p g0 H0) b c eb)) (hg : Gl X "zip" := by rfl) (hs : starEach [e1, e2] X.env = (false, eval e1 X.env) :: starEach [e2] X.env := by rfl) (hs2 : starEach [e2] X.env = (false, eval e2 X.env) :: starEach [] X.env := by rfl) (hpl : (backTo pos (starEach [e2] X.env)).any (·.1) = false := by rfl) :
    PI X (.Tuple elts kk tpos) (.Call (.Name "zip" px) [e1, e2] [] pos) (tI (Fix X p g0 H0) b c (iZip ea eb)) := pZip hg hm ha hb hs hs2 hpl
theorem mApp (i : Nat) (he : PE X e (tE (Fix X p g0 H0) false c ea)) (hN : X.N[i]? = some x := by rfl) (hv : Vis X.env.scope x := by first | exact .inl rfl | exact .inr (.inl rfl)) (hd : (x == ("__debug__" : Str)) = false := by decide) (hcd : (x == ("__classdict__" : Str)) = false := by decide)
    (hbase : attributeBase (.Name x px) "append" X.env (eval (.Name x px) X.env) = eval (.Name x px) X.env := by rfl)
    (hfew : ((backTo cpos (starEach [e] X.env)).all (fun x => !x.1) && (backToKw cpos (keywordEach [] X.env)).all (fun x => x.1.isSome) && decide ([e].length + ([] : List Keyword).length + (if ([] : List Keyword).isEmpty then 0 else 1) < 30)) = true := by rfl)
    (hline : (apos.endLine == cpos.line) = true := by rfl) (hs : starEach [e] X.env = (false, eval e X.env) :: starEach [] X.env := by rfl) : Sx X p g0 H0 c (.Expr (.Call (.Attribute (.Name x px) "append" apos) [e] [] cpos) pos) (sOwn i fAppend ea) := sApp hN hv he hd hcd hbase hfew hline hs
theorem mExt (i : Nat) (he : PE X e (tE (Fix X p g0 H0) false c ea)) (hN : X.N[i]? = some x := by rfl) (hv : Vis X.env.scope x := by first | exact .inl rfl | exact .inr (.inl rfl)) (hd : (x == ("__debug__" : Str)) = false := by decide) (hcd : (x == ("__classdict__" : Str)) = false := by decide)
    (hbase : attributeBase (.Name x px) "extend" X.env (eval (.Name x px) X.env) = eval (.Name x px) X.env := by rfl)
    (hfew : ((backTo cpos (starEach [e] X.env)).all (fun x => !x.1) && (backToKw cpos (keywordEach [] X.env)).all (fun x => x.1.isSome) && decide ([e].length + ([] : List Keyword).length + (if ([] : List Keyword).isEmpty then 0 else 1) < 30)) = true := by rfl)
    (hline : (apos.endLine == cpos.line) = true := by rfl) (hs : starEach [e] X.env = (false, eval e X.env) :: starEach [] X.env := by rfl) : Sx X p g0 H0 c (.Expr (.Call (.Attribute (.Name x px) "extend" apos) [e] [] cpos) pos) (sOwn i fExtend ea) := sExt hN hv he hd hcd hbase hfew hline hs
theorem mPop (i : Nat) (hN : X.N[i]? = some x := by rfl) (hv : Vis X.env.scope x := by first | exact .inl rfl | exact .inr (.inl rfl)) (hd : (x == ("__debug__" : Str)) = false := by decide) (hcd : (x == ("__classdict__" : Str)) = false := by decide)
    (hbase : attributeBase (.Name x px) "pop" X.env (eval (.Name x px) X.env) = eval (.Name x px) X.env := by rfl) (hline : (apos.endLine == cpos.line) = true := by rfl) : Sx X p g0 H0 c (.Expr (.Call (.Attribute (.Name x px) "pop" apos) [] [] cpos) pos) (sPop none i) := sPop0 hN hv hd hcd hbase hline
theorem mPopT (i : Nat) (hg : PG X tg (tG (Fix X p g0 H0) tk)) (hN : X.N[i]? = some x := by rfl) (hv : Vis X.env.scope x := by first | exact .inl rfl | exact .inr (.inl rfl)) (hd : (x == ("__debug__" : Str)) = false := by decide) (hcd : (x == ("__classdict__" : Str)) = false := by decide)
    (hbase : attributeBase (.Name x px) "pop" X.env (eval (.Name x px) X.env) = eval (.Name x px) X.env := by rfl) (hline : (apos.endLine == cpos.line) = true := by rfl)
    (hs : swapsWithSole [tg] (.Call (.Attribute (.Name x px) "pop" apos) [] [] cpos) pos.line X.env = pure false := by rfl) (hw : swappedStores [tg] (.Call (.Attribute (.Name x px) "pop" apos) [] [] cpos) X.env = pure none := by rfl)
    (h1 : (assignEach [tg] X.env).map (·.2) = [assign tg X.env] := by rfl) : Sx X p g0 H0 c (.Assign [tg] (.Call (.Attribute (.Name x px) "pop" apos) [] [] cpos) pos) (sPop (some tk) i) := sPop1 hN hv hg hd hcd hbase hline hs hw h1
theorem mDel (i : Nat) {tpos p2 : Pos} (he : PE X e (tE (Fix X p g0 H0) false c ea)) (hN : X.N[i]? = some x := by rfl) (hv : Vis X.env.scope x := by first | exact .inl rfl | exact .inr (.inl rfl)) (hd : (x == ("__debug__" : Str)) = false := by decide) (hcd : (x == ("__classdict__" : Str)) = false := by decide) : Sx X p g0 H0 c (.Delete [.Subscript (.Name x px) (.Slice (some e) none none p2) tpos] pos) (sDelFrom i ea) := sDel1 hN hv he hd hcd
theorem mPut (i : Nat) {tpos : Pos} (hr : Room k X.A) (hk : PE X e1 (tE (Fix X p g0 H0) false c ea)) (he : PE X e2 (tE (Fix X p g0 H0) false c eb)) (hN : X.N[i]? = some x := by rfl) (hv : Vis X.env.scope x := by first | exact .inl rfl | exact .inr (.inl rfl)) (hd : (x == ("__debug__" : Str)) = false := by decide) (hcd : (x == ("__classdict__" : Str)) = false := by decide)
    (ha : ∀ v, assign (.Subscript (.Name x px) e1 tpos) X.env v = (do
      let ov ← holding [v] (eval (.Name x px) X.env)
      let iv ← holding [v, ov] (eval e1 X.env)
      standAt tpos
      holding [v, ov, iv] (setItem ov iv v)
      release [v, ov, iv] []) := by intro _; rfl)
    (hs : swapsWithSole [.Subscript (.Name x px) e1 tpos] e2 pos.line X.env = pure false := by rfl) (hw : swappedStores [.Subscript (.Name x px) e1 tpos] e2 X.env = pure none := by rfl) (h1 : (assignEach [.Subscript (.Name x px) e1 tpos] X.env).map (·.2) = [assign (.Subscript (.Name x px) e1 tpos) X.env] := by rfl) (hs2 : swapsWith e2 (some (.Subscript (.Name x px) e1 tpos)) pos.line X.env = pure false := by rfl) :
    Sx X p g0 H0 c (.Assign [.Subscript (.Name x px) e1 tpos] e2 pos) (sPut i ea eb) := sPut1 (rm1 hr) hN hv hk he hd hcd ha hs hw h1 hs2
theorem qPar (i j : Nat) {a' b' : Expr} {px py pt : Pos} {kt k2 pt2} (hN : X.N.Nodup) (ha : PAs X (Fix X p g0 H0) false c 2 [a', b'] ac) (hi : X.N[i]? = some x := by rfl) (hj : X.N[j]? = some y := by rfl) (hij : i ≠ j := by decide) (hx : X.env.scope.names.lookup x = some .local := by rfl) (hy : X.env.scope.names.lookup y = some .local := by rfl) (hc : X.calm = true := by rfl)
    (hw : swappedStores [.Tuple [.Name x px, .Name y py] kt pt] (.Tuple [a', b'] k2 pt2) X.env = pure (some [x, y]) := by with_unfolding_all rfl)
    (hs : swapsWithSole [.Tuple [.Name x px, .Name y py] kt pt] (.Tuple [a', b'] k2 pt2) pos.line X.env = pure false := by rfl) : Sx X p g0 H0 c (.Assign [.Tuple [.Name x px, .Name y py] kt pt] (.Tuple [a', b'] k2 pt2) pos) (sUnp [i, j] (eTup ac)) := sPar2 hc hN hi hj hij hx hy ha hw hs
end
end Gt
end
section
set_option Elab.async false
set_option linter.all false
set_option maxRecDepth 20000
namespace Gt
open PySem L2
/-- the value u stands for t, in the written part alone -/
def stands (K : PySem.W.Frag) : Nat → T → Value → Bool
  | 0, _, _ => false
  | n + 1, t, u => match t with
    | .non => (match u with
      | .none => true
      | _ => false)
    | .bl b => (match u with
      | .bool c => b == c
      | _ => false)
    | .int i => (match u with
      | .int j _ => decide (i = j)
      | _ => false)
    | .str x => (match u with
      | .str y _ => decide (y.cps.toList = x)
      | _ => false)
    | .tup ts => (match u with
      | .ref a => (match K.lookup a with
        | some ⟨.type c, _, .seq its _, _⟩ => decide (c = "tuple") && (decide (its.size ≤ sizeLine) && (decide (ts.length = its.size) && (ts.zip its.toList).all fun q => stands K n q.1 q.2))
        | _ => false)
      | _ => false)
    | _ => false
theorem zip_rel {K : PySem.W.Frag} {f : T → Value → Bool} (hf : ∀ t u, f t u = true → ∃ v, RelV v u ∧ ∀ g H, RT K g H t v) : ∀ (ts : List T) (us : List Value), ts.length = us.length → (ts.zip us).all (fun q => f q.1 q.2) = true → ∃ vs, Vals vs us ∧ ∀ g H, RTs K g H ts vs
  | [], [], _, _ => ⟨[], .nil, fun _ _ => .nil⟩
  | t :: ts, u :: us, hl, h => by
    rw [List.zip_cons_cons, List.all_cons, Bool.and_eq_true] at h
    obtain ⟨v, r, q⟩ := hf t u h.1
    obtain ⟨vs, rs, qs⟩ := zip_rel hf ts us (Nat.succ.inj hl) h.2
    exact ⟨v :: vs, .cons r rs, fun g H => .cons (q g H) (qs g H)⟩
  | [], _ :: _, hl, _ => by cases hl
  | _ :: _, [], hl, _ => by cases hl
theorem stands_ok {K : PySem.W.Frag} : ∀ (n : Nat) (t : T) (u : Value), stands K n t u = true → ∃ v, RelV v u ∧ ∀ g H, RT K g H t v
  | 0, _, _, h => by cases h
  | n + 1, t, u, h => by
    cases t with
    | non =>
      cases u with
      | none => exact ⟨.non, rfl, fun _ _ => .non⟩
      | _ => cases h
    | bl b =>
      cases u with
      | bool c =>
        have e : b = c := by simpa [stands] using h
        exact ⟨.bl c, rfl, fun _ _ => by rw [e]; exact .bl c⟩
      | _ => cases h
    | int i =>
      cases u with
      | int j tk =>
        have e : i = j := by simpa [stands] using h
        exact ⟨.int j, ⟨tk, rfl⟩, fun _ _ => by rw [e]; exact .int j⟩
      | _ => cases h
    | str x =>
      cases u with
      | str y tk =>
        have e : y.cps.toList = x := by simpa [stands] using h
        exact ⟨.str y, ⟨tk, rfl⟩, fun _ _ => by rw [← e]; exact .str y⟩
      | _ => cases h
    | tup ts =>
      cases u with
      | ref a =>
        unfold stands at h
        dsimp only at h
        cases q : K.lookup a with
        | none => rw [q] at h; cases h
        | some o =>
          obtain ⟨oc, od, dt, osl⟩ := o
          rw [q] at h
          cases oc with
          | type c =>
            cases dt with
            | seq its m =>
              replace h : (decide (c = "tuple") && (decide (its.size ≤ sizeLine) && (decide (ts.length = its.size) && (ts.zip its.toList).all fun q => stands K n q.1 q.2))) = true := h
              rw [Bool.and_eq_true, Bool.and_eq_true, Bool.and_eq_true, decide_eq_true_eq, decide_eq_true_eq, decide_eq_true_eq] at h
              obtain ⟨h1, h2, h3, h4⟩ := h
              obtain ⟨vs, rv, rt⟩ := zip_rel (stands_ok n) ts its.toList (by simpa using h3) h4
              refine ⟨.ref a, rfl, fun g H => .tup (.inr ⟨_, its, m, q, by rw [h1], rfl, h2, rv⟩) (rt g H)⟩
            | _ => cases h
          | _ => cases dt <;> cases h
      | _ => cases h
    | _ => cases h
def conB (K : PySem.W.Frag) (q : Str × T) : Bool := match PySem.W.nsIn K mainGlobals q.1 with
  | some (some u) => stands K 50 q.2 u
  | _ => false
theorem conB_ok {K : PySem.W.Frag} {h : Heap} {mg : Str → Option Value} (X : K.In h) (M : h.Ns mainGlobals mg) {x : Str} {t : T} (c : conB K (x, t) = true) : Con K mg x t := by
  unfold conB at c
  dsimp only at c
  cases e : PySem.W.nsIn K mainGlobals x with
  | none => rw [e] at c; cases c
  | some r =>
    rw [e] at c
    cases r with
    | none => cases c
    | some u =>
      obtain ⟨v, rv, rt⟩ := stands_ok 50 t u c
      exact ⟨v, u, PySem.W.mg_of X M e, rv, rt⟩
/-- a text of its signs -/
def Sk (x : S) : Str := ⟨x.toArray⟩
theorem Sk_list (x : S) : (Sk x).cps.toList = x := rfl
theorem Sk_back (z : Str) : Sk z.cps.toList = z := by
  obtain ⟨z⟩ := z
  simp [Sk]
def dicB (K : PySem.W.Frag) (q : Str × List (S × T)) : Bool := He.eqO (PySem.W.nsIn K mainGlobals q.1) (some (some (.ref (He.ga K q.1)))) && q.2.all fun p => match PySem.W.nsIn K (He.ga K q.1) (Sk p.1) with
  | some (some u) => stands K 50 p.2 u
  | _ => false
theorem lookS_mem : ∀ {tbl : List (S × T)} {k : S} {t : T}, lookS tbl k = some t → (k, t) ∈ tbl
  | [], _, _, e => by cases e
  | p :: r, k, t, e => by
    unfold lookS at e
    by_cases h : p.1 = k
    · rw [if_pos h] at e; cases e; subst h; exact List.mem_cons_self
    · rw [if_neg h] at e; exact List.mem_cons_of_mem _ (lookS_mem e)
theorem lookS_none : ∀ {tbl : List (S × T)} {k : S}, lookS tbl k = none → ∀ p ∈ tbl, p.1 ≠ k
  | [], _, _, _, m => by cases m
  | p :: r, k, e, q, m => by
    unfold lookS at e
    by_cases h : p.1 = k
    · rw [if_pos h] at e; cases e
    · rw [if_neg h] at e
      rcases List.mem_cons.mp m with rfl | m
      · exact h
      · exact lookS_none e q m
theorem lit_look {P : Params} {z : Str} : ∀ {l : List DictEntry} {ks : List Str}, l.map He.keyOf = He.keysIn P ks → (∀ k ∈ ks, k ≠ z) → l.find? (·.key.isStr z) = none ∧ l.any (·.refKey) = false
  | [], _, _, _ => ⟨rfl, rfl⟩
  | e :: r, [], h, _ => by cases h
  | e :: r, k :: ks, h, hk => by
    have h1 : He.keyOf e :: r.map He.keyOf = some (k, PyData.keyHash P k) :: He.keysIn P ks := h
    injection h1 with h2 h3
    obtain ⟨i1, i2⟩ := lit_look (z := z) h3 fun k m => hk k (List.mem_cons_of_mem _ m)
    unfold He.keyOf at h2
    split at h2
    · rename_i x t q
      obtain ⟨h5, _⟩ := Prod.mk.inj (Option.some.inj h2)
      have ne : x ≠ z := by rw [h5]; exact hk k List.mem_cons_self
      refine ⟨?_, ?_⟩
      · rw [List.find?_cons, i1]
        have : e.key.isStr z = false := by rw [q]; simp [Value.isStr, ne]
        rw [this]
      · rw [List.any_cons, i2, Bool.or_false]
        simp [DictEntry.refKey, q]
    · cases h2
theorem dicB_ok {K : PySem.W.Frag} {w : World} {h : Heap} {mg : Str → Option Value} (X : K.In h) (M : h.Ns mainGlobals mg) {x : Str} {tbl : List (S × T)} (c : dicB K (x, tbl) = true) (hw : He.dicW K (He.ga K x) = some (He.keysIn w.params (tbl.map fun p => Sk p.1))) : ConD K w mg x tbl := by
  unfold dicB at c
  obtain ⟨c1, c2⟩ := He.ba c
  refine ⟨He.ga K x, PySem.W.mg_of X M (He.eqO_ok c1), He.dicW_ok hw, fun z => ?_⟩
  cases e : lookS tbl z.cps.toList with
  | some t =>
    have m := List.all_eq_true.mp c2 _ (lookS_mem e)
    dsimp only at m
    rw [Sk_back] at m
    cases q : PySem.W.nsIn K (He.ga K x) z with
    | none => rw [q] at m; cases m
    | some r =>
      rw [q] at m
      cases r with
      | none => cases m
      | some u =>
        obtain ⟨v, rv, rt⟩ := stands_ok 50 t u m
        exact .inl ⟨t, u, v, rfl, rfl, rv, rt⟩
  | none =>
    refine .inr ⟨rfl, ?_⟩
    obtain ⟨es, n, dk⟩ := He.dicW_ok hw
    unfold He.dicW at hw
    rw [dk.at_] at hw
    have hw2 : es.toList.map He.keyOf = He.keysIn w.params (tbl.map fun p => Sk p.1) := by
      dsimp only at hw
      split at hw
      · exact Option.some.inj hw
      · cases hw
    obtain ⟨f1, f2⟩ := lit_look (z := z) hw2 fun k m => by
      obtain ⟨p, hp, rfl⟩ := List.mem_map.mp m
      intro q
      exact lookS_none e p hp (by rw [← q]; rfl)
    unfold PySem.W.nsIn
    rw [dk.at_]
    dsimp only
    rw [f1, f2]
    rfl
/-- what the module's names stand for, and one step behind -/
def asK (g : Addr → Option Obj) : List Addr := match g mainGlobals with
  | some ⟨_, _, .dict es _, _⟩ => mainGlobals :: (es.toList.flatMap fun e => match e.val with
    | .ref a => a :: (match g a with
      | some o => He.refsD o
      | none => [])
    | _ => [])
  | _ => []
section
variable (fn : List He.DefD) (cons : List (Str × T)) (dics : List (Str × List (S × T))) (frs : List Str)
abbrev Ob : Type := Bool × List He.FnW × List (Option (List (Option (Str × Int))))
def noLst (K : PySem.W.Frag) : Bool := K.all fun q => match q.2.cls with
  | .type c => !decide (c = "list")
  | _ => true
def obK (K : PySem.W.Frag) : Ob := ((noLst K && fn.all fun d => He.eqO (PySem.W.nsIn K mainGlobals d.name) (some (some (.ref (He.ga K d.name)))) && d.ok K) && (cons.all (conB K) && (dics.all (dicB K) && frs.all fun x => He.eqO (PySem.W.nsIn K mainGlobals x) (some none))),
  fn.map (fun d => He.fnW K d.at_), dics.map fun q => He.dicW K (He.ga K q.1))
def vaK (w : World) : Ob := (true, fn.map He.DefD.val, dics.map fun q => some (He.keysIn w.params (q.2.map fun p => Sk p.1)))
def hook : PySem.W.Hook where
  α := Ob
  obs := fun s => obK fn cons dics frs (He.frG s.heap.get? (asK s.heap.get?))
  val := fun w => vaK fn dics w
  says := fun w h => ∃ K : PySem.W.Frag, K.In h ∧ obK fn cons dics frs K = vaK fn dics w
  of := fun _ _ e => ⟨_, He.frG_in, e⟩
  keeps := fun _ _ _ ⟨K, hK, c⟩ k => ⟨K, PySem.W.Frag.In.keeps hK k, c⟩
def obG (s : PySem.W.SharedT) : Ob := obK fn cons dics frs (He.frG (HandSHeadRun.getT s) (asK (HandSHeadRun.getT s)))
theorem obG_eq (s : PySem.W.SharedT) : obG fn cons dics frs s = (hook fn cons dics frs).obs s.abs := by
  have e : HandSHeadRun.getT s = s.abs.heap.get? := funext (HandSHeadRun.getT_eq s)
  show obK fn cons dics frs (He.frG (HandSHeadRun.getT s) (asK (HandSHeadRun.getT s))) = obK fn cons dics frs (He.frG s.abs.heap.get? (asK s.abs.heap.get?))
  rw [e]
variable {fn cons dics frs} {K : PySem.W.Frag} {w : World} {h : Heap} {mg : Str → Option Value}
theorem ob_fn (c : obK fn cons dics frs K = vaK fn dics w) (X : K.In h) (M : h.Ns mainGlobals mg) {i : Nat} {d : He.DefD} (hd : fn[i]? = some d) : mg d.name = some (.ref (He.ga K d.name)) ∧ ∃ fd, FunD K d.name d.qual d.params d.body d.scope (d.dvs K) (d.kws K) (He.fAd K d.at_) fd := by
  have c1 := (He.ba (He.ba (congrArg (fun z : Ob => z.1) c)).1).2
  have c2 := He.ba (List.all_eq_true.mp c1 d (List.mem_of_getElem? hd))
  have e : fn.map (fun d => He.fnW K d.at_) = fn.map He.DefD.val := congrArg (fun z : Ob => z.2.1) c
  have e2 : (fn.map fun d => He.fnW K d.at_)[i]? = (fn.map He.DefD.val)[i]? := by rw [e]
  rw [List.getElem?_map, List.getElem?_map, hd] at e2
  exact ⟨PySem.W.mg_of X M (He.eqO_ok c2.1), He.DefD.funD (Option.some.inj e2) c2.2⟩
theorem ob_con (c : obK fn cons dics frs K = vaK fn dics w) (X : K.In h) (M : h.Ns mainGlobals mg) {i : Nat} {x : Str} {t : T} (hd : cons[i]? = some (x, t)) : Con K mg x t := by
  have c1 := (He.ba (He.ba (congrArg (fun z : Ob => z.1) c)).2).1
  exact conB_ok X M (List.all_eq_true.mp c1 _ (List.mem_of_getElem? hd))
theorem ob_dic (c : obK fn cons dics frs K = vaK fn dics w) (X : K.In h) (M : h.Ns mainGlobals mg) {i : Nat} {x : Str} {t : List (S × T)} (hd : dics[i]? = some (x, t)) : ConD K w mg x t := by
  have c1 := (He.ba (He.ba (He.ba (congrArg (fun z : Ob => z.1) c)).2).2).1
  have e : dics.map (fun q => He.dicW K (He.ga K q.1)) = dics.map fun q => some (He.keysIn w.params (q.2.map fun p => Sk p.1)) := congrArg (fun z : Ob => z.2.2) c
  have e2 : (dics.map fun q => He.dicW K (He.ga K q.1))[i]? = (dics.map fun q => some (He.keysIn w.params (q.2.map fun p => Sk p.1)))[i]? := by rw [e]
  rw [List.getElem?_map, List.getElem?_map, hd] at e2
  exact dicB_ok X M (List.all_eq_true.mp c1 _ (List.mem_of_getElem? hd)) (Option.some.inj e2)
theorem ob_fre (c : obK fn cons dics frs K = vaK fn dics w) (X : K.In h) (M : h.Ns mainGlobals mg) {i : Nat} {x : Str} (hd : frs[i]? = some x) : mg x = none := by
  have c1 := (He.ba (He.ba (He.ba (congrArg (fun z : Ob => z.1) c)).2).2).2
  exact PySem.W.mg_none_of X M (He.eqO_ok (List.all_eq_true.mp c1 _ (List.mem_of_getElem? hd)))
theorem look_mem {a : Addr} {o : Obj} : ∀ {K : List (Addr × Obj)}, List.lookup a K = some o → (a, o) ∈ K
  | [], e => by cases e
  | (b, u) :: r, e => by
    rw [List.lookup_cons] at e
    cases h : a == b with
    | true => rw [h] at e; cases e; rw [beq_iff_eq.mp h]; exact List.mem_cons_self
    | false => rw [h] at e; exact List.mem_cons_of_mem _ (look_mem e)
theorem ob_noLst (c : obK fn cons dics frs K = vaK fn dics w) {a : Addr} {o : Obj} (e : K.lookup a = some o) : o.cls ≠ .type "list" := fun z => by
  have c1 := (He.ba (He.ba (congrArg (fun z : Ob => z.1) c)).1).1
  have c2 := List.all_eq_true.mp c1 (a, o) (look_mem e)
  dsimp only at c2
  rw [z] at c2
  cases c2
end
end Gt
end
section
set_option Elab.async false
set_option linter.all false
set_option maxRecDepth 20000
namespace Gt
open PySem L2
inductive Al {α : Type} (Pr : α → Prop) : List α → Prop where
  | nil : Al Pr []
  | cons {e : α} {l : List α} (h : Pr e) (r : Al Pr l) : Al Pr (e :: l)
theorem Al.get {α : Type} {Pr : α → Prop} {l : List α} {e : α} (h : Al Pr l) (m : e ∈ l) : Pr e := by
  induction h with
  | nil => cases m
  | cons h r ih =>
    rcases List.mem_cons.mp m with rfl | m
    · exact h
    · exact ih m
section
variable {tab : List (Nat × Str × List Str × Bool)} {cons : List (Str × T)} {dics : List (Str × List (S × T))} {frs : List Str} {P : Program} {w : World} {K : PySem.W.Frag} {mg : Str → Option Value} {base : Heap} {ft : Nat → Option Fn}
/-- a def, at every level -/
def Lv (tab : List (Nat × Str × List Str × Bool)) (cons : List (Str × T)) (dics : List (Str × List (S × T))) (frs : List Str) (P : Program) (w : World) (K : PySem.W.Frag) (mg : Str → Option Value) (base : Heap) (ft : Nat → Option Fn) (e : Nat × Str × List Str × Bool) : Prop :=
  ∃ f fd, mg e.2.1 = some (.ref f) ∧ PySem.W.keepIn K (.ref f) = true ∧ Binds K fd e.2.2.1 [] ∧ ∀ k, Facts tab cons dics frs P w K mg base (run ft k) k → FnOk P w K mg base CX0 (k + 1) f fd e.2.2.1 (spF K (run ft (k + 1)) e.1 e.2.2.2 e.2.2.1.length)
theorem facts_all (hs : Al (Lv tab cons dics frs P w K mg base ft) tab) (hc : ∀ (i : Nat) x t, cons[i]? = some (x, t) → Con K mg x t) (hd : ∀ (i : Nat) x t, dics[i]? = some (x, t) → ConD K w mg x t) (hf : ∀ (i : Nat) x, frs[i]? = some x → mg x = none) : ∀ k, Facts tab cons dics frs P w K mg base (run ft k) k
  | 0 => ⟨fun i x ps q h => (by
      obtain ⟨f, fd, h1, h2, h3, _⟩ := hs.get (lookN_mem h)
      refine ⟨f, fd, ⟨fun vs H Q E z => spF_len z, fun A outer s H args us vs Q E _ _ _ _ z => ?_⟩, h1, h2, h3⟩
      obtain ⟨_, g, ts, h, r, h', _, _, e, _⟩ := z
      cases e), hc, hd, hf⟩
  | k + 1 => ⟨fun i x ps q h => (by
      obtain ⟨f, fd, h1, h2, h3, h4⟩ := hs.get (lookN_mem h)
      have z := h4 k (facts_all hs hc hd hf k)
      exact ⟨f, fd, z, h1, h2, h3⟩), hc, hd, hf⟩
theorem of_ints {K : PySem.W.Frag} {g : G} {H : Hp} : ∀ ns : List Int, RTs K g H (ns.map .int) (ns.map V.int)
  | [] => .nil
  | n :: ns => .cons (.int n) (of_ints ns)
/-- the law answers True -/
theorem law_sp {k li : Nat} {q : Bool} {H : Hp} {a : Addr} {ns : List Int} {E : XK} (hn : ∀ a o, K.lookup a = some o → o.cls ≠ .type "list") (hO : Only H) (hS : SqL K H a (ns.map V.int)) (hrun : ∃ h', run ft k li [.scr (ns.map .int)] [] = .ok (.val (.bl true)) h') :
    spF K (run ft k) li q 1 [.ref a] H (fun v _ => v = .bl true) E := by
  obtain ⟨h', e⟩ := hrun
  have hz : ∃ o, H a = some (.frz o (.lst (ns.map V.int))) := by
    rcases hS with (z | z) | ⟨o, its, n, z1, z2, _⟩
    · rcases hO a with y | ⟨o, xs, y⟩
      · rw [z] at y; cases y
      · rw [z] at y; cases y
    · exact z
    · exact absurd z2 (hn a o z1)
  obtain ⟨o, hz⟩ := hz
  refine ⟨rfl, ⟨fun _ => False, []⟩, _, [], _, h', ⟨rfl, List.nodup_nil, (fun a m => nomatch m), (fun a f => f.elim), (fun n c a q => by cases q)⟩, .cons (.scr hz (of_ints ns)) .nil, e, fun g' H' v _ _ rr => ?_⟩
  cases rr
  rfl
end
end Gt
end
section
set_option Elab.async false
set_option linter.all false
set_option maxRecDepth 100000
namespace Gt
def c_DEEPEST : T := .int (400)
def c_LETTERS : T := .str [97, 98, 99, 100, 101, 102, 103, 104, 105, 106, 107, 108, 109, 110, 111, 112, 113, 114, 115, 116, 117, 118, 119, 120, 121, 122]
def c_NAME_SIGNS : T := .str [97, 98, 99, 100, 101, 102, 103, 104, 105, 106, 107, 108, 109, 110, 111, 112, 113, 114, 115, 116, 117, 118, 119, 120, 121, 122, 48, 49, 50, 51, 52, 53, 54, 55, 56, 57, 95]
def c_MOST_SIGNS : T := .int (12)
def c_NOTHING : T := .tup [.str []]
def c_NONE : T := .tup [.str [110, 111, 110, 101]]
def c_WORDS : T := .tup [.str [97, 110, 100], .str [111, 114], .str [105, 102]]
def c_MOST_KNOTS_sentences : T := .int (60)
def c_MOST_DEEP_sentences : T := .int (20)
def c_MOST_KNOTS_terms : T := .int (20000)
def c_MOST_DEEP_terms : T := .int (150)
def c_MOST_HOLE : T := .int (99)
def c_MOST_ENTRIES : T := .int (12)
def d_LENGTHS : List (S × T) := [([118, 97, 114], .int (2)), ([112, 97, 105, 114], .int (3)), ([108, 101, 102, 116], .int (2)), ([114, 105, 103, 104, 116], .int (2)), ([102, 117, 110], .int (4)), ([97, 112, 112], .int (3)), ([102, 105, 114, 115, 116], .int (3)), ([115, 101, 99, 111, 110, 100], .int (3)), ([99, 97, 115, 101, 115], .int (6)), ([118, 111, 105, 100], .int (3))]
def d_CHILD_PLACES : List (S × T) := [([118, 97, 114], .tup []), ([112, 97, 105, 114], .tup [.int (1), .int (2)]), ([108, 101, 102, 116], .tup [.int (1)]), ([114, 105, 103, 104, 116], .tup [.int (1)]), ([102, 117, 110], .tup [.int (3)]), ([97, 112, 112], .tup [.int (1), .int (2)]), ([102, 105, 114, 115, 116], .tup [.int (1)]), ([115, 101, 99, 111, 110, 100], .tup [.int (2)]), ([99, 97, 115, 101, 115], .tup [.int (1), .int (3), .int (5)]), ([118, 111, 105, 100], .tup [.int (1)]), ([104, 111, 108, 101], .tup [])]
def d_BINDER_PLACES : List (S × T) := [([118, 97, 114], .tup []), ([112, 97, 105, 114], .tup [.int (0), .int (0)]), ([108, 101, 102, 116], .tup [.int (0)]), ([114, 105, 103, 104, 116], .tup [.int (0)]), ([102, 117, 110], .tup [.int (1)]), ([97, 112, 112], .tup [.int (0), .int (0)]), ([102, 105, 114, 115, 116], .tup [.int (0)]), ([115, 101, 99, 111, 110, 100], .tup [.int (0)]), ([99, 97, 115, 101, 115], .tup [.int (0), .int (2), .int (4)]), ([118, 111, 105, 100], .tup [.int (0)]), ([104, 111, 108, 101], .tup [])]
def d_LABEL_PLACES : List (S × T) := [([118, 97, 114], .tup [.int (1)]), ([112, 97, 105, 114], .tup []), ([108, 101, 102, 116], .tup []), ([114, 105, 103, 104, 116], .tup []), ([102, 117, 110], .tup [.int (1)]), ([97, 112, 112], .tup []), ([102, 105, 114, 115, 116], .tup []), ([115, 101, 99, 111, 110, 100], .tup []), ([99, 97, 115, 101, 115], .tup [.int (2), .int (4)]), ([118, 111, 105, 100], .tup [])]
def d_SENTENCE_PLACES : List (S × T) := [([118, 97, 114], .tup []), ([112, 97, 105, 114], .tup []), ([108, 101, 102, 116], .tup []), ([114, 105, 103, 104, 116], .tup []), ([102, 117, 110], .tup [.int (2)]), ([97, 112, 112], .tup []), ([102, 105, 114, 115, 116], .tup [.int (2)]), ([115, 101, 99, 111, 110, 100], .tup [.int (1)]), ([99, 97, 115, 101, 115], .tup []), ([118, 111, 105, 100], .tup [.int (2)])]
abbrev i_is_number : Nat := 0
abbrev i_in_range : Nat := 1
abbrev i_is_name : Nat := 2
abbrev i_is_sequence : Nat := 3
abbrev i_is_too_deep : Nat := 4
abbrev i_frozen : Nat := 5
abbrev i_handed : Nat := 6
abbrev i_number_given : Nat := 7
abbrev i_knots_within : Nat := 8
abbrev i_is_sentence_value : Nat := 9
abbrev i_knots_of : Nat := 10
abbrev i_deep_of : Nat := 11
abbrev i_fits : Nat := 12
abbrev i_sentence_of : Nat := 13
abbrev i_with_label : Nat := 14
abbrev i_has_labels_and_sentences : Nat := 15
abbrev i_term_knots_within : Nat := 16
abbrev i_is_term_value : Nat := 17
abbrev i_bound_labels : Nat := 18
abbrev i_add_free : Nat := 19
abbrev i_free_in : Nat := 20
abbrev i_is_made_by : Nat := 21
abbrev i_grown : Nat := 22
abbrev i_concluded : Nat := 23
abbrev i_farther : Nat := 24
abbrev i_told_of_cases : Nat := 25
abbrev i_told_of : Nat := 26
abbrev i_bears : Nat := 27
abbrev i_is_entry_value : Nat := 28
abbrev i_leans_within : Nat := 29
abbrev i_is_book_value : Nat := 30
abbrev i_book_given : Nat := 31
abbrev i_context_ahead : Nat := 32
abbrev i_leaned_on : Nat := 33
abbrev i_unders : Nat := 34
abbrev i_overs : Nat := 35
abbrev i_takes_entry : Nat := 36
abbrev i_does_entry_stand : Nat := 37
abbrev i_standing_of : Nat := 38
abbrev i_resting_on : Nat := 39
abbrev i_assumed_context : Nat := 40
abbrev i_entry_number_given : Nat := 41
abbrev i_is_book : Nat := 42
abbrev i_context_of : Nat := 43
abbrev i_leans_on : Nat := 44
abbrev i_under : Nat := 45
abbrev i_over : Nat := 46
abbrev i_is_taken : Nat := 47
abbrev i_standing : Nat := 48
abbrev i_rests_on : Nat := 49
abbrev i_is_sound : Nat := 50
abbrev i_first_not_taken : Nat := 51
abbrev i_assumptions : Nat := 52
abbrev i__law_numbers : Nat := 53
abbrev i__law_draw : Nat := 54
abbrev i__law_same : Nat := 55
abbrev i__law_sentence : Nat := 56
abbrev i__law_find : Nat := 57
abbrev i__law_kind : Nat := 58
abbrev i__law_borne : Nat := 59
abbrev i__law_free : Nat := 60
abbrev i__law_is_term : Nat := 61
abbrev i__law_for : Nat := 62
abbrev i__law_make : Nat := 63
abbrev i__law_knots : Nat := 64
abbrev i__law_size : Nat := 65
abbrev i__law_book : Nat := 66
abbrev i__law_leans : Nat := 67
abbrev i__law_under : Nat := 68
abbrev i__law_taken : Nat := 69
abbrev i__law_stands : Nat := 70
abbrev i__law_rests : Nat := 71
abbrev i__law_one : Nat := 72
abbrev i_law : Nat := 73
def k_is_number : SC := sRet (eAnd (eOp1 (fIsi [.int]) (eVar 0)) (eNot (eOp1 (fIsi [.bool]) (eVar 0))))
def F_is_number : Fn := ⟨1, 1, .pure, k_is_number⟩
def k_in_range : SC := sRet (eAnd (eOwn (eCall i_is_number (aCons (eVar 0) (aNil)))) (eChain fLe fLe (eVar 1) (eVar 0) (eVar 2)))
def F_in_range : Fn := ⟨3, 3, .pure, k_in_range⟩
def k_is_name : SC := sSeq (sIf (tOr (tNot (tTru (eOp1 (fIsi [.str]) (eVar 0)))) (tNot (tBl (eChain fLe fLe (eK (.int 1)) (eOp1 fLen (eVar 0)) (eK c_MOST_SIGNS))))) (sRet (eK (.bl false))) (sSkip)) (sSeq (sIf (tBl (eOp2 fNotIn (eOp2 fIx (eVar 0) (eK (.int 0))) (eK c_LETTERS))) (sRet (eK (.bl false))) (sSkip)) (sSeq (sFor (.one 1) (iSeq (eVar 0)) (sIf (tBl (eOp2 fNotIn (eVar 1) (eK c_NAME_SIGNS))) (sRet (eK (.bl false))) (sSkip))) (sRet (eK (.bl true)))))
def F_is_name : Fn := ⟨1, 2, .pure, k_is_name⟩
def k_is_sequence : SC := sRet (eOp1 (fIsi [.tuple, .list]) (eVar 0))
def F_is_sequence : Fn := ⟨1, 1, .pure, k_is_sequence⟩
def k_is_too_deep : SC := sSeq (sSet 1 (eOwn (oLst (aCons (eVar 0) (aNil))))) (sSeq (sFor (.one 2) (iR1 (eK c_DEEPEST)) (sSeq (sSetO 3 (oLst (aNil))) (sSeq (sFor (.one 4) (iSeq (eVar 1)) (sIf (tTru (eOwn (eCall i_is_sequence (aCons (eVar 4) (aNil))))) (sOwn 3 fExtend (eOwn (oOp1 fList (eVar 4)))) (sSkip))) (sSeq (sIf (tNot (tTru (eBor 3))) (sRet (eK (.bl false))) (sSkip)) (sFreeze [3] (sSet 1 (eVar 3))))))) (sRet (eK (.bl true))))
def F_is_too_deep : Fn := ⟨1, 5, .pure, k_is_too_deep⟩
def k_frozen : SC := sSeq (sSetO 1 (oLst (aNil))) (sSeq (sSetO 2 (oLst (aCons (eTup (aCons (eVar 0) (aCons (eK (.bl false)) (aNil)))) (aNil)))) (sSeq (sWhile (tTru (eBor 2)) (sSeq (sPop (some (.many [3, 4])) 2) (sIf (tNot (tTru (eOwn (eCall i_is_sequence (aCons (eVar 3) (aNil)))))) (sOwn 1 fAppend (eVar 3)) (sIf (tTru (eVar 4)) (sSeq (sSet 5 (eOp2 fSub (eOp1 fLen (eBor 1)) (eOp1 fLen (eVar 3)))) (sSeq (sSet 6 (eOp1 fTuple (eOwn (oSl (eBor 1) (some (eVar 5)) (none))))) (sSeq (sDelFrom 1 (eVar 5)) (sOwn 1 fAppend (eVar 6))))) (sSeq (sOwn 2 fAppend (eTup (aCons (eVar 3) (aCons (eK (.bl true)) (aNil))))) (sFor (.one 7) (iRev (eVar 3)) (sOwn 2 fAppend (eTup (aCons (eVar 7) (aCons (eK (.bl false)) (aNil))))))))))) (sRet (eOp2 fIx (eBor 1) (eK (.int 0))))))
def F_frozen : Fn := ⟨1, 8, .pure, k_frozen⟩
def k_handed : SC := sSeq (sIf (tTru (eOwn (eCall i_is_too_deep (aCons (eVar 0) (aNil))))) (sRet (eK c_NOTHING)) (sSkip)) (sRetO (eCall i_frozen (aCons (eVar 0) (aNil))))
def F_handed : Fn := ⟨1, 1, .pure, k_handed⟩
def k_number_given : SC := sSeq (sIf (tNot (tTru (eOwn (eCall i_in_range (aCons (eVar 0) (aCons (eVar 1) (aCons (eVar 2) (aNil)))))))) (sBad) (sSkip)) (sRet (eVar 0))
def F_number_given : Fn := ⟨4, 4, .pure, k_number_given⟩
def k_knots_within : SC := sSeq (sIf (tBl (eOp2 fEq (eVar 1) (eK (.int 0)))) (sRet (eK (.int 0))) (sSkip)) (sSeq (sIf (tOr (tTru (eOwn (eCall i_is_name (aCons (eVar 0) (aNil))))) (tBl (eOp2 fEq (eVar 0) (eK c_NONE)))) (sRet (eK (.int 1))) (sSkip)) (sSeq (sIf (tOr (tNot (tTru (eOp1 (fIsi [.tuple]) (eVar 0)))) (tOr (tBl (eOp2 fNe (eOp1 fLen (eVar 0)) (eK (.int 3)))) (tBl (eOp2 fNotIn (eOp2 fIx (eVar 0) (eK (.int 0))) (eK c_WORDS))))) (sRet (eK (.int 0))) (sSkip)) (sSeq (sSet 2 (eOwn (eCall i_knots_within (aCons (eOp2 fIx (eVar 0) (eK (.int 1))) (aCons (eOp2 fSub (eVar 1) (eK (.int 1))) (aNil)))))) (sSeq (sIf (tBl (eOp2 fEq (eVar 2) (eK (.int 0)))) (sRet (eK (.int 0))) (sSkip)) (sSeq (sSet 3 (eOwn (eCall i_knots_within (aCons (eOp2 fIx (eVar 0) (eK (.int 2))) (aCons (eOp2 fSub (eVar 1) (eK (.int 1))) (aNil)))))) (sSeq (sIf (tBl (eOp2 fEq (eVar 3) (eK (.int 0)))) (sRet (eK (.int 0))) (sSkip)) (sRetO (oOp2 fAdd (eOwn (oOp2 fAdd (eVar 2) (eVar 3))) (eK (.int 1))))))))))
def F_knots_within : Fn := ⟨2, 4, .pure, k_knots_within⟩
def k_is_sentence_value : SC := sRet (eChain fLe fLe (eK (.int 1)) (eOwn (eCall i_knots_within (aCons (eVar 0) (aCons (eK c_MOST_DEEP_sentences) (aNil))))) (eK c_MOST_KNOTS_sentences))
def F_is_sentence_value : Fn := ⟨1, 1, .pure, k_is_sentence_value⟩
def k_knots_of : SC := sSeq (sIf (tOr (tTru (eOp1 (fIsi [.str]) (eVar 0))) (tBl (eOp2 fEq (eVar 0) (eK c_NONE)))) (sRet (eK (.int 1))) (sSkip)) (sRetO (oOp2 fAdd (eOwn (oOp2 fAdd (eOwn (eCall i_knots_of (aCons (eOp2 fIx (eVar 0) (eK (.int 1))) (aNil)))) (eOwn (eCall i_knots_of (aCons (eOp2 fIx (eVar 0) (eK (.int 2))) (aNil)))))) (eK (.int 1))))
def F_knots_of : Fn := ⟨1, 1, .pure, k_knots_of⟩
def k_deep_of : SC := sSeq (sIf (tOr (tTru (eOp1 (fIsi [.str]) (eVar 0))) (tBl (eOp2 fEq (eVar 0) (eK c_NONE)))) (sRet (eK (.int 1))) (sSkip)) (sRetO (oOp2 fAdd (eOp2 fMax2 (eOwn (eCall i_deep_of (aCons (eOp2 fIx (eVar 0) (eK (.int 1))) (aNil)))) (eOwn (eCall i_deep_of (aCons (eOp2 fIx (eVar 0) (eK (.int 2))) (aNil))))) (eK (.int 1))))
def F_deep_of : Fn := ⟨1, 1, .pure, k_deep_of⟩
def k_fits : SC := sRet (eAnd (eOp2 fLe (eOwn (eCall i_deep_of (aCons (eVar 0) (aNil)))) (eK c_MOST_DEEP_sentences)) (eOp2 fLe (eOwn (eCall i_knots_of (aCons (eVar 0) (aNil)))) (eK c_MOST_KNOTS_sentences)))
def F_fits : Fn := ⟨1, 1, .pure, k_fits⟩
def k_sentence_of : SC := sSeq (sFor (.many [2, 3]) (iSeq (eVar 0)) (sIf (tBl (eOp2 fEq (eVar 2) (eVar 1))) (sRet (eVar 3)) (sSkip))) (sRet (eK .non))
def F_sentence_of : Fn := ⟨2, 4, .pure, k_sentence_of⟩
def k_with_label : SC := sSeq (sIf (tBl (eOp2 fIs (eOwn (eCall i_sentence_of (aCons (eVar 0) (aCons (eVar 1) (aNil))))) (eK .non))) (sRetO (oOp2 fAdd (eVar 0) (eTup (aCons (eTup (aCons (eVar 1) (aCons (eVar 2) (aNil)))) (aNil))))) (sSkip)) (sSeq (sSetO 3 (oLst (aNil))) (sSeq (sFor (.many [4, 5]) (iSeq (eVar 0)) (sIf (tBl (eOp2 fEq (eVar 4) (eVar 1))) (sOwn 3 fAppend (eTup (aCons (eVar 4) (aCons (eVar 2) (aNil))))) (sOwn 3 fAppend (eTup (aCons (eVar 4) (aCons (eVar 5) (aNil))))))) (sRet (eOp1 fTuple (eBor 3)))))
def F_with_label : Fn := ⟨3, 6, .pure, k_with_label⟩
def k_has_labels_and_sentences : SC := sSeq (sFor (.one 1) (iSeq (eOp1 (fKdIx d_LABEL_PLACES) (eOp2 fIx (eVar 0) (eK (.int 0))))) (sIf (tNot (tTru (eOwn (eCall i_is_name (aCons (eOp2 fIx (eVar 0) (eVar 1)) (aNil)))))) (sRet (eK (.bl false))) (sSkip))) (sSeq (sFor (.one 1) (iSeq (eOp1 (fKdIx d_SENTENCE_PLACES) (eOp2 fIx (eVar 0) (eK (.int 0))))) (sIf (tNot (tTru (eOwn (eCall i_is_sentence_value (aCons (eOp2 fIx (eVar 0) (eVar 1)) (aNil)))))) (sRet (eK (.bl false))) (sSkip))) (sRet (eK (.bl true))))
def F_has_labels_and_sentences : Fn := ⟨1, 2, .pure, k_has_labels_and_sentences⟩
def k_term_knots_within : SC := sSeq (sIf (tOr (tBl (eOp2 fEq (eVar 1) (eK (.int 0)))) (tOr (tNot (tTru (eOp1 (fIsi [.tuple]) (eVar 0)))) (tOr (tBl (eOp2 fLt (eOp1 fLen (eVar 0)) (eK (.int 2)))) (tNot (tTru (eOp1 (fIsi [.str]) (eOp2 fIx (eVar 0) (eK (.int 0))))))))) (sRet (eK (.int 0))) (sSkip)) (sSeq (sIf (tBl (eOp2 fEq (eOp2 fIx (eVar 0) (eK (.int 0))) (eK (.str [104, 111, 108, 101])))) (sSeq (sIf (tAnd (tTru (eVar 2)) (tAnd (tBl (eOp2 fEq (eOp1 fLen (eVar 0)) (eK (.int 2)))) (tTru (eOwn (eCall i_in_range (aCons (eOp2 fIx (eVar 0) (eK (.int 1))) (aCons (eK (.int 0)) (aCons (eK c_MOST_HOLE) (aNil))))))))) (sRet (eK (.int 1))) (sSkip)) (sRet (eK (.int 0)))) (sSkip)) (sSeq (sIf (tOr (tBl (eOp1 (fKdNotIn d_LENGTHS) (eOp2 fIx (eVar 0) (eK (.int 0))))) (tOr (tBl (eOp2 fNe (eOp1 fLen (eVar 0)) (eOp1 (fKdIx d_LENGTHS) (eOp2 fIx (eVar 0) (eK (.int 0)))))) (tNot (tTru (eOwn (eCall i_has_labels_and_sentences (aCons (eVar 0) (aNil)))))))) (sRet (eK (.int 0))) (sSkip)) (sSeq (sSet 3 (eK (.int 1))) (sSeq (sFor (.one 4) (iSeq (eOp1 (fKdIx d_CHILD_PLACES) (eOp2 fIx (eVar 0) (eK (.int 0))))) (sSeq (sSet 5 (eOwn (eCall i_term_knots_within (aCons (eOp2 fIx (eVar 0) (eVar 4)) (aCons (eOp2 fSub (eVar 1) (eK (.int 1))) (aCons (eVar 2) (aNil))))))) (sSeq (sIf (tBl (eOp2 fEq (eVar 5) (eK (.int 0)))) (sRet (eK (.int 0))) (sSkip)) (sAug 3 fAddI (eVar 5))))) (sRet (eVar 3))))))
def F_term_knots_within : Fn := ⟨3, 6, .pure, k_term_knots_within⟩
def k_is_term_value : SC := sRet (eChain fLe fLe (eK (.int 1)) (eOwn (eCall i_term_knots_within (aCons (eVar 0) (aCons (eK c_MOST_DEEP_terms) (aCons (eK (.bl false)) (aNil)))))) (eK c_MOST_KNOTS_terms))
def F_is_term_value : Fn := ⟨1, 1, .pure, k_is_term_value⟩
def k_bound_labels : SC := sSeq (sSetO 1 (oLst (aNil))) (sSeq (sFor (.one 2) (iSeq (eOp1 (fKdIx d_BINDER_PLACES) (eOp2 fIx (eVar 0) (eK (.int 0))))) (sIf (tBl (eOp2 fEq (eVar 2) (eK (.int 0)))) (sOwn 1 fAppend (eK .non)) (sOwn 1 fAppend (eOp2 fIx (eVar 0) (eVar 2))))) (sRet (eOp1 fTuple (eBor 1))))
def F_bound_labels : Fn := ⟨1, 3, .pure, k_bound_labels⟩
def k_add_free : SC := sSeq (sIf (tBl (eOp2 fEq (eOp2 fIx (eVar 0) (eK (.int 0))) (eK (.str [118, 97, 114])))) (sSeq (sIf (tBl (eOp2 fNotIn (eOp2 fIx (eVar 0) (eK (.int 1))) (eVar 1))) (sHput (eVar 2) (eOp2 fIx (eVar 0) (eK (.int 1))) (eK (.bl true))) (sSkip)) (sRet (eK .non))) (sSkip)) (sSeq (sSet 3 (eOwn (eCall i_bound_labels (aCons (eVar 0) (aNil))))) (sFor (.many [4, 5]) (iNum (eOp1 (fKdIx d_CHILD_PLACES) (eOp2 fIx (eVar 0) (eK (.int 0))))) (sIf (tBl (eOp2 fIs (eOp2 fIx (eVar 3) (eVar 4)) (eK .non))) (sDrop (eCall i_add_free (aCons (eOp2 fIx (eVar 0) (eVar 5)) (aCons (eVar 1) (aCons (eVar 2) (aNil)))))) (sDrop (eCall i_add_free (aCons (eOp2 fIx (eVar 0) (eVar 5)) (aCons (eOwn (oOp2 fAdd (eVar 1) (eTup (aCons (eOp2 fIx (eVar 3) (eVar 4)) (aNil))))) (aCons (eVar 2) (aNil)))))))))
def F_add_free : Fn := ⟨3, 6, .impure, k_add_free⟩
def k_free_in : SC := sSeq (sSet 1 (eNew ((fun _ _ h => .ok (.own (.dic [])) h)))) (sSeq (sDrop (eCall i_add_free (aCons (eVar 0) (aCons (eTup (aNil)) (aCons (eVar 1) (aNil)))))) (sRet (eOp1 fTuple (eOwn (oOp1 fSorted (eVar 1))))))
def F_free_in : Fn := ⟨1, 2, .opens, k_free_in⟩
def k_is_made_by : SC := sRet (eAnd (eOp1 (fIsi [.tuple]) (eVar 0)) (eOp2 fEq (eOp2 fIx (eVar 0) (eK (.int 0))) (eVar 1)))
def F_is_made_by : Fn := ⟨2, 2, .pure, k_is_made_by⟩
def k_grown : SC := sSeq (sIf (tTru (eOwn (eCall i_fits (aCons (eVar 0) (aNil))))) (sRet (eTup (aCons (eVar 0) (aCons (eK (.str [])) (aNil))))) (sSkip)) (sRet (eTup (aCons (eK .non) (aCons (eK (.str [115, 105, 122, 101])) (aNil)))))
def F_grown : Fn := ⟨1, 1, .pure, k_grown⟩
def k_concluded : SC := sSeq (sSet 2 (eOp2 fIx (eVar 0) (eK (.int 0)))) (sSeq (sIf (tBl (eOp2 fEq (eVar 2) (eK (.str [112, 97, 105, 114])))) (sRetO (eCall i_grown (aCons (eTup (aCons (eK (.str [97, 110, 100])) (aCons (eOp2 fIx (eVar 1) (eK (.int 0))) (aCons (eOp2 fIx (eVar 1) (eK (.int 1))) (aNil))))) (aNil)))) (sSkip)) (sSeq (sIf (tBl (eOp2 fEq (eVar 2) (eK (.str [102, 117, 110])))) (sRetO (eCall i_grown (aCons (eTup (aCons (eK (.str [105, 102])) (aCons (eOp2 fIx (eVar 0) (eK (.int 2))) (aCons (eOp2 fIx (eVar 1) (eK (.int 0))) (aNil))))) (aNil)))) (sSkip)) (sSeq (sIf (tBl (eOp2 fEq (eVar 2) (eK (.str [102, 105, 114, 115, 116])))) (sRetO (eCall i_grown (aCons (eTup (aCons (eK (.str [111, 114])) (aCons (eOp2 fIx (eVar 1) (eK (.int 0))) (aCons (eOp2 fIx (eVar 0) (eK (.int 2))) (aNil))))) (aNil)))) (sSkip)) (sSeq (sIf (tBl (eOp2 fEq (eVar 2) (eK (.str [115, 101, 99, 111, 110, 100])))) (sRetO (eCall i_grown (aCons (eTup (aCons (eK (.str [111, 114])) (aCons (eOp2 fIx (eVar 0) (eK (.int 1))) (aCons (eOp2 fIx (eVar 1) (eK (.int 0))) (aNil))))) (aNil)))) (sSkip)) (sSeq (sIf (tBl (eOp2 fEq (eVar 2) (eK (.str [118, 111, 105, 100])))) (sSeq (sIf (tBl (eOp2 fEq (eOp2 fIx (eVar 1) (eK (.int 0))) (eK c_NONE))) (sRet (eTup (aCons (eOp2 fIx (eVar 0) (eK (.int 2))) (aCons (eK (.str [])) (aNil))))) (sSkip)) (sRet (eTup (aCons (eK .non) (aCons (eK (.str [110, 111, 110, 101])) (aNil)))))) (sSkip)) (sSeq (sIf (tBl (eOp2 fEq (eVar 2) (eK (.str [97, 112, 112])))) (sSeq (sIf (tNot (tTru (eOwn (eCall i_is_made_by (aCons (eOp2 fIx (eVar 1) (eK (.int 0))) (aCons (eK (.str [105, 102])) (aNil))))))) (sRet (eTup (aCons (eK .non) (aCons (eK (.str [105, 102])) (aNil))))) (sSkip)) (sSeq (sIf (tBl (eOp2 fNe (eOp2 fIx (eVar 1) (eK (.int 1))) (eOp2 fIx (eOp2 fIx (eVar 1) (eK (.int 0))) (eK (.int 1))))) (sRet (eTup (aCons (eK .non) (aCons (eK (.str [115, 105, 100, 101])) (aNil))))) (sSkip)) (sRet (eTup (aCons (eOp2 fIx (eOp2 fIx (eVar 1) (eK (.int 0))) (eK (.int 2))) (aCons (eK (.str [])) (aNil))))))) (sSkip)) (sSeq (sIf (tNot (tTru (eOwn (eCall i_is_made_by (aCons (eOp2 fIx (eVar 1) (eK (.int 0))) (aCons (eK (.str [97, 110, 100])) (aNil))))))) (sRet (eTup (aCons (eK .non) (aCons (eK (.str [97, 110, 100])) (aNil))))) (sSkip)) (sSeq (sIf (tBl (eOp2 fEq (eVar 2) (eK (.str [108, 101, 102, 116])))) (sRet (eTup (aCons (eOp2 fIx (eOp2 fIx (eVar 1) (eK (.int 0))) (eK (.int 1))) (aCons (eK (.str [])) (aNil))))) (sSkip)) (sRet (eTup (aCons (eOp2 fIx (eOp2 fIx (eVar 1) (eK (.int 0))) (eK (.int 2))) (aCons (eK (.str [])) (aNil)))))))))))))
def F_concluded : Fn := ⟨2, 3, .pure, k_concluded⟩
def k_farther : SC := sRet (eTup (aCons (eOwn (oOp2 fAdd (eTup (aCons (eVar 0) (aNil))) (eOp2 fIx (eVar 1) (eK (.int 0))))) (aCons (eOp2 fIx (eVar 1) (eK (.int 1))) (aNil))))
def F_farther : Fn := ⟨2, 2, .pure, k_farther⟩
def k_told_of_cases : SC := sSeq (sUnp [2, 3] (eOwn (eCall i_told_of (aCons (eVar 0) (aCons (eOp2 fIx (eVar 1) (eK (.int 1))) (aNil)))))) (sSeq (sIf (tBl (eOp2 fIsNot (eVar 3) (eK .non))) (sRet (eTup (aCons (eK .non) (aCons (eOwn (eCall i_farther (aCons (eK (.int 0)) (aCons (eVar 3) (aNil))))) (aNil))))) (sSkip)) (sSeq (sIf (tNot (tTru (eOwn (eCall i_is_made_by (aCons (eVar 2) (aCons (eK (.str [111, 114])) (aNil))))))) (sRet (eTup (aCons (eK .non) (aCons (eTup (aCons (eTup (aNil)) (aCons (eK (.str [111, 114])) (aNil)))) (aNil))))) (sSkip)) (sSeq (sUnp [4, 3] (eOwn (eCall i_told_of (aCons (eOwn (eCall i_with_label (aCons (eVar 0) (aCons (eOp2 fIx (eVar 1) (eK (.int 2))) (aCons (eOp2 fIx (eVar 2) (eK (.int 1))) (aNil)))))) (aCons (eOp2 fIx (eVar 1) (eK (.int 3))) (aNil)))))) (sSeq (sIf (tBl (eOp2 fIsNot (eVar 3) (eK .non))) (sRet (eTup (aCons (eK .non) (aCons (eOwn (eCall i_farther (aCons (eK (.int 1)) (aCons (eVar 3) (aNil))))) (aNil))))) (sSkip)) (sSeq (sUnp [5, 3] (eOwn (eCall i_told_of (aCons (eOwn (eCall i_with_label (aCons (eVar 0) (aCons (eOp2 fIx (eVar 1) (eK (.int 4))) (aCons (eOp2 fIx (eVar 2) (eK (.int 2))) (aNil)))))) (aCons (eOp2 fIx (eVar 1) (eK (.int 5))) (aNil)))))) (sSeq (sIf (tBl (eOp2 fIsNot (eVar 3) (eK .non))) (sRet (eTup (aCons (eK .non) (aCons (eOwn (eCall i_farther (aCons (eK (.int 2)) (aCons (eVar 3) (aNil))))) (aNil))))) (sSkip)) (sSeq (sIf (tBl (eOp2 fNe (eVar 4) (eVar 5))) (sRet (eTup (aCons (eK .non) (aCons (eTup (aCons (eTup (aNil)) (aCons (eK (.str [101, 110, 100, 115])) (aNil)))) (aNil))))) (sSkip)) (sRet (eTup (aCons (eVar 4) (aCons (eK .non) (aNil))))))))))))
def F_told_of_cases : Fn := ⟨2, 6, .pure, k_told_of_cases⟩
def k_told_of : SC := sSeq (sSet 2 (eOp2 fIx (eVar 1) (eK (.int 0)))) (sSeq (sIf (tBl (eOp2 fEq (eVar 2) (eK (.str [99, 97, 115, 101, 115])))) (sRetO (eCall i_told_of_cases (aCons (eVar 0) (aCons (eVar 1) (aNil))))) (sSkip)) (sSeq (sIf (tBl (eOp2 fEq (eVar 2) (eK (.str [118, 97, 114])))) (sSeq (sSet 3 (eOwn (eCall i_sentence_of (aCons (eVar 0) (aCons (eOp2 fIx (eVar 1) (eK (.int 1))) (aNil)))))) (sSeq (sIf (tBl (eOp2 fIs (eVar 3) (eK .non))) (sRet (eTup (aCons (eK .non) (aCons (eTup (aCons (eTup (aNil)) (aCons (eK (.str [108, 97, 98, 101, 108])) (aNil)))) (aNil))))) (sSkip)) (sRet (eTup (aCons (eVar 3) (aCons (eK .non) (aNil))))))) (sSkip)) (sSeq (sSet 4 (eVar 0)) (sSeq (sIf (tBl (eOp2 fEq (eVar 2) (eK (.str [102, 117, 110])))) (sSet 4 (eOwn (eCall i_with_label (aCons (eVar 0) (aCons (eOp2 fIx (eVar 1) (eK (.int 1))) (aCons (eOp2 fIx (eVar 1) (eK (.int 2))) (aNil))))))) (sSkip)) (sSeq (sSetO 5 (oLst (aNil))) (sSeq (sFor (.many [6, 7]) (iNum (eOp1 (fKdIx d_CHILD_PLACES) (eVar 2))) (sSeq (sUnp [3, 8] (eOwn (eCall i_told_of (aCons (eVar 4) (aCons (eOp2 fIx (eVar 1) (eVar 7)) (aNil)))))) (sSeq (sIf (tBl (eOp2 fIsNot (eVar 8) (eK .non))) (sRet (eTup (aCons (eK .non) (aCons (eOwn (eCall i_farther (aCons (eVar 6) (aCons (eVar 8) (aNil))))) (aNil))))) (sSkip)) (sOwn 5 fAppend (eVar 3))))) (sSeq (sFreeze [5] (sUnp [3, 9] (eOwn (eCall i_concluded (aCons (eVar 1) (aCons (eVar 5) (aNil))))))) (sSeq (sIf (tBl (eOp2 fIs (eVar 3) (eK .non))) (sRet (eTup (aCons (eK .non) (aCons (eTup (aCons (eTup (aNil)) (aCons (eVar 9) (aNil)))) (aNil))))) (sSkip)) (sRet (eTup (aCons (eVar 3) (aCons (eK .non) (aNil)))))))))))))
def F_told_of : Fn := ⟨2, 10, .pure, k_told_of⟩
def k_bears : SC := sRet (eOp2 fIx (eOwn (eCall i_told_of (aCons (eVar 0) (aCons (eVar 1) (aNil))))) (eK (.int 0)))
def F_bears : Fn := ⟨2, 2, .pure, k_bears⟩
def k_is_entry_value : SC := sSeq (sIf (tOr (tNot (tTru (eOp1 (fIsi [.tuple]) (eVar 0)))) (tBl (eOp2 fNe (eOp1 fLen (eVar 0)) (eK (.int 3))))) (sRet (eK (.bl false))) (sSkip)) (sSeq (sIf (tOr (tNot (tTru (eOwn (eCall i_is_name (aCons (eOp2 fIx (eVar 0) (eK (.int 0))) (aNil)))))) (tNot (tTru (eOwn (eCall i_is_sentence_value (aCons (eOp2 fIx (eVar 0) (eK (.int 1))) (aNil))))))) (sRet (eK (.bl false))) (sSkip)) (sRet (eOr (eOp2 fIs (eOp2 fIx (eVar 0) (eK (.int 2))) (eK .non)) (eOwn (eCall i_is_term_value (aCons (eOp2 fIx (eVar 0) (eK (.int 2))) (aNil)))))))
def F_is_entry_value : Fn := ⟨1, 1, .pure, k_is_entry_value⟩
def k_leans_within : SC := sSeq (sIf (tBl (eOp2 fIs (eVar 0) (eK .non))) (sRet (eK (.bl true))) (sSkip)) (sRet (eOp1 fAll (eOwn (oComp [2] (.one 2) (iSeq (eOwn (eCall i_free_in (aCons (eVar 0) (aNil))))) (tYes) (eOp2 fIn (eVar 2) (eVar 1))))))
def F_leans_within : Fn := ⟨2, 3, .pure, k_leans_within⟩
def k_is_book_value : SC := sSeq (sIf (tOr (tNot (tTru (eOp1 (fIsi [.tuple]) (eVar 0)))) (tBl (eOp2 fGt (eOp1 fLen (eVar 0)) (eK c_MOST_ENTRIES)))) (sRet (eK (.bl false))) (sSkip)) (sSeq (sSetO 1 (oLst (aNil))) (sSeq (sFor (.one 2) (iSeq (eVar 0)) (sSeq (sIf (tOr (tNot (tTru (eOwn (eCall i_is_entry_value (aCons (eVar 2) (aNil)))))) (tOr (tBl (eOp2 fIn (eOp2 fIx (eVar 2) (eK (.int 0))) (eBor 1))) (tNot (tTru (eCallB i_leans_within (aCons (eOp2 fIx (eVar 2) (eK (.int 2))) (aCons (eBor 1) (aNil)))))))) (sRet (eK (.bl false))) (sSkip)) (sOwn 1 fAppend (eOp2 fIx (eVar 2) (eK (.int 0)))))) (sRet (eK (.bl true)))))
def F_is_book_value : Fn := ⟨1, 3, .pure, k_is_book_value⟩
def k_book_given : SC := sSeq (sSet 2 (eOwn (eCall i_handed (aCons (eVar 0) (aNil))))) (sSeq (sIf (tNot (tTru (eOwn (eCall i_is_book_value (aCons (eVar 2) (aNil)))))) (sBad) (sSkip)) (sRet (eVar 2)))
def F_book_given : Fn := ⟨2, 3, .pure, k_book_given⟩
def k_context_ahead : SC := sRet (eOp1 fTuple (eOwn (oComp [2, 3, 4] (.many [2, 3, 4]) (iSeq (eOwn (oSl (eVar 0) (none) (some (eVar 1))))) (tYes) (eTup (aCons (eVar 2) (aCons (eVar 3) (aNil)))))))
def F_context_ahead : Fn := ⟨2, 5, .pure, k_context_ahead⟩
def k_leaned_on : SC := sSeq (sSet 2 (eOp2 fIx (eOp2 fIx (eVar 0) (eVar 1)) (eK (.int 2)))) (sSeq (sIf (tBl (eOp2 fIs (eVar 2) (eK .non))) (sRet (eTup (aNil))) (sSkip)) (sSeq (sSet 3 (eOwn (eCall i_free_in (aCons (eVar 2) (aNil))))) (sRet (eOp1 fTuple (eOwn (oComp [4] (.one 4) (iR1 (eVar 1)) (tBl (eOp2 fIn (eOp2 fIx (eOp2 fIx (eVar 0) (eVar 4)) (eK (.int 0))) (eVar 3))) (eVar 4)))))))
def F_leaned_on : Fn := ⟨2, 5, .pure, k_leaned_on⟩
def k_unders : SC := sSeq (sSetO 2 (oComp [5] (.one 5) (iSeq (eVar 0)) (tYes) (eK (.bl false)))) (sSeq (sFor (.one 3) (iSeq (eOwn (eCall i_leaned_on (aCons (eVar 0) (aCons (eVar 1) (aNil)))))) (sPut 2 (eVar 3) (eK (.bl true)))) (sSeq (sFor (.one 3) (iR3 (eOp2 fSub (eVar 1) (eK (.int 1))) (eK (.int (-1)))) (sIf (tTru (eOp2 fIx (eBor 2) (eVar 3))) (sFor (.one 4) (iSeq (eOwn (eCall i_leaned_on (aCons (eVar 0) (aCons (eVar 3) (aNil)))))) (sPut 2 (eVar 4) (eK (.bl true)))) (sSkip))) (sRet (eOp1 fTuple (eOwn (oComp [3] (.one 3) (iR1 (eOp1 fLen (eVar 0))) (tTru (eOp2 fIx (eBor 2) (eVar 3))) (eVar 3)))))))
def F_unders : Fn := ⟨2, 6, .pure, k_unders⟩
def k_overs : SC := sRet (eOp1 fTuple (eOwn (oComp [2] (.one 2) (iR1 (eOp1 fLen (eVar 0))) (tBl (eOp2 fIn (eVar 1) (eOwn (eCall i_unders (aCons (eVar 0) (aCons (eVar 2) (aNil))))))) (eVar 2))))
def F_overs : Fn := ⟨2, 3, .pure, k_overs⟩
def k_takes_entry : SC := sSeq (sUnp [2, 3, 4] (eOp2 fIx (eVar 0) (eVar 1))) (sRet (eOr (eOp2 fIs (eVar 4) (eK .non)) (eOp2 fEq (eOwn (eCall i_bears (aCons (eOwn (eCall i_context_ahead (aCons (eVar 0) (aCons (eVar 1) (aNil))))) (aCons (eVar 4) (aNil))))) (eVar 3))))
def F_takes_entry : Fn := ⟨2, 5, .pure, k_takes_entry⟩
def k_does_entry_stand : SC := sRet (eAnd (eOwn (eCall i_takes_entry (aCons (eVar 0) (aCons (eVar 1) (aNil))))) (eOp1 fAll (eOwn (oComp [2] (.one 2) (iSeq (eOwn (eCall i_unders (aCons (eVar 0) (aCons (eVar 1) (aNil)))))) (tYes) (eOwn (eCall i_takes_entry (aCons (eVar 0) (aCons (eVar 2) (aNil)))))))))
def F_does_entry_stand : Fn := ⟨2, 3, .pure, k_does_entry_stand⟩
def k_standing_of : SC := sRet (eOp1 fTuple (eOwn (oComp [1] (.one 1) (iR1 (eOp1 fLen (eVar 0))) (tTru (eOwn (eCall i_does_entry_stand (aCons (eVar 0) (aCons (eVar 1) (aNil)))))) (eVar 1))))
def F_standing_of : Fn := ⟨1, 2, .pure, k_standing_of⟩
def k_resting_on : SC := sRet (eOp1 fTuple (eOwn (oComp [2] (.one 2) (iR1 (eOwn (oOp2 fAdd (eVar 1) (eK (.int 1))))) (tAnd (tBl (eOp2 fIs (eOp2 fIx (eOp2 fIx (eVar 0) (eVar 2)) (eK (.int 2))) (eK .non))) (tOr (tBl (eOp2 fEq (eVar 2) (eVar 1))) (tBl (eOp2 fIn (eVar 2) (eOwn (eCall i_unders (aCons (eVar 0) (aCons (eVar 1) (aNil))))))))) (eVar 2))))
def F_resting_on : Fn := ⟨2, 3, .pure, k_resting_on⟩
def k_assumed_context : SC := sRet (eOp1 fTuple (eOwn (oComp [1, 2, 3] (.many [1, 2, 3]) (iSeq (eVar 0)) (tBl (eOp2 fIs (eVar 3) (eK .non))) (eTup (aCons (eVar 1) (aCons (eVar 2) (aNil)))))))
def F_assumed_context : Fn := ⟨1, 4, .pure, k_assumed_context⟩
def k_entry_number_given : SC := sRetO (eCall i_number_given (aCons (eVar 1) (aCons (eK (.int 0)) (aCons (eOp2 fSub (eOp1 fLen (eVar 0)) (eK (.int 1))) (aCons (eVar 2) (aNil))))))
def F_entry_number_given : Fn := ⟨3, 3, .pure, k_entry_number_given⟩
def k_is_book : SC := sRetO (eCall i_is_book_value (aCons (eOwn (eCall i_handed (aCons (eVar 0) (aNil)))) (aNil)))
def F_is_book : Fn := ⟨1, 1, .pure, k_is_book⟩
def k_context_of : SC := sSeq (sSet 0 (eOwn (eCall i_book_given (aCons (eVar 0) (aCons (eK (.int 1)) (aNil)))))) (sRetO (eCall i_context_ahead (aCons (eVar 0) (aCons (eOwn (eCall i_number_given (aCons (eVar 1) (aCons (eK (.int 0)) (aCons (eOp1 fLen (eVar 0)) (aCons (eK (.int 2)) (aNil))))))) (aNil)))))
def F_context_of : Fn := ⟨2, 2, .pure, k_context_of⟩
def k_leans_on : SC := sSeq (sSet 0 (eOwn (eCall i_book_given (aCons (eVar 0) (aCons (eK (.int 1)) (aNil)))))) (sRetO (eCall i_leaned_on (aCons (eVar 0) (aCons (eOwn (eCall i_entry_number_given (aCons (eVar 0) (aCons (eVar 1) (aCons (eK (.int 2)) (aNil)))))) (aNil)))))
def F_leans_on : Fn := ⟨2, 2, .pure, k_leans_on⟩
def k_under : SC := sSeq (sSet 0 (eOwn (eCall i_book_given (aCons (eVar 0) (aCons (eK (.int 1)) (aNil)))))) (sRetO (eCall i_unders (aCons (eVar 0) (aCons (eOwn (eCall i_entry_number_given (aCons (eVar 0) (aCons (eVar 1) (aCons (eK (.int 2)) (aNil)))))) (aNil)))))
def F_under : Fn := ⟨2, 2, .pure, k_under⟩
def k_over : SC := sSeq (sSet 0 (eOwn (eCall i_book_given (aCons (eVar 0) (aCons (eK (.int 1)) (aNil)))))) (sRetO (eCall i_overs (aCons (eVar 0) (aCons (eOwn (eCall i_entry_number_given (aCons (eVar 0) (aCons (eVar 1) (aCons (eK (.int 2)) (aNil)))))) (aNil)))))
def F_over : Fn := ⟨2, 2, .pure, k_over⟩
def k_is_taken : SC := sSeq (sSet 0 (eOwn (eCall i_book_given (aCons (eVar 0) (aCons (eK (.int 1)) (aNil)))))) (sRetO (eCall i_takes_entry (aCons (eVar 0) (aCons (eOwn (eCall i_entry_number_given (aCons (eVar 0) (aCons (eVar 1) (aCons (eK (.int 2)) (aNil)))))) (aNil)))))
def F_is_taken : Fn := ⟨2, 2, .pure, k_is_taken⟩
def k_standing : SC := sRetO (eCall i_standing_of (aCons (eOwn (eCall i_book_given (aCons (eVar 0) (aCons (eK (.int 1)) (aNil))))) (aNil)))
def F_standing : Fn := ⟨1, 1, .pure, k_standing⟩
def k_rests_on : SC := sSeq (sSet 0 (eOwn (eCall i_book_given (aCons (eVar 0) (aCons (eK (.int 1)) (aNil)))))) (sRetO (eCall i_resting_on (aCons (eVar 0) (aCons (eOwn (eCall i_entry_number_given (aCons (eVar 0) (aCons (eVar 1) (aCons (eK (.int 2)) (aNil)))))) (aNil)))))
def F_rests_on : Fn := ⟨2, 2, .pure, k_rests_on⟩
def k_is_sound : SC := sRet (eOp2 fIs (eOwn (eCall i_first_not_taken (aCons (eVar 0) (aNil)))) (eK .non))
def F_is_sound : Fn := ⟨1, 1, .pure, k_is_sound⟩
def k_first_not_taken : SC := sSeq (sSet 0 (eOwn (eCall i_book_given (aCons (eVar 0) (aCons (eK (.int 1)) (aNil)))))) (sSeq (sFor (.one 1) (iR1 (eOp1 fLen (eVar 0))) (sIf (tNot (tTru (eOwn (eCall i_takes_entry (aCons (eVar 0) (aCons (eVar 1) (aNil))))))) (sRet (eVar 1)) (sSkip))) (sRet (eK .non)))
def F_first_not_taken : Fn := ⟨1, 2, .pure, k_first_not_taken⟩
def k_assumptions : SC := sRetO (eCall i_assumed_context (aCons (eOwn (eCall i_book_given (aCons (eVar 0) (aCons (eK (.int 1)) (aNil))))) (aNil)))
def F_assumptions : Fn := ⟨1, 1, .pure, k_assumptions⟩
def k__law_numbers : SC := sSeq (sSet 3 (eIf (tBl (eOp2 fLt (eVar 1) (eOp1 fLen (eVar 0)))) (eOp2 fIx (eVar 0) (eVar 1)) (eK (.int 0)))) (sSeq (sSetO 4 (oLst (aNil))) (sSeq (sSet 5 (eVar 3)) (sSeq (sFor (.one 6) (iR1 (eVar 2)) (sIf (tBl (eOp2 fGe (eVar 3) (eOp2 fPow (eK (.int 10)) (eK (.int 18))))) (sSeq (sOwn 4 fAppend (eOp2 fMod (eOp1 fInt (eVar 5)) (eOp2 fPow (eK (.int 10)) (eK (.int 9))))) (sSet 5 (eOp2 fDiv (eVar 5) (eOp2 fPow (eK (.int 10)) (eK (.int 9)))))) (sSeq (sSet 7 (eOp2 fMod (eOp1 fInt (eOwn (oOp2 fAdd (eOwn (oOp2 fAdd (eOp2 fMul (eVar 3) (eK (.int 48271))) (eOp2 fMul (eOwn (oOp2 fAdd (eVar 6) (eK (.int 1)))) (eK (.int 69621))))) (eVar 1)))) (eK (.int 2147483647)))) (sOwn 4 fAppend (eOp2 fMod (eOp2 fMod (eOp1 fInt (eOwn (oOp2 fAdd (eOp2 fMul (eVar 7) (eK (.int 16807))) (eOp2 fMul (eOwn (oOp2 fAdd (eVar 6) (eK (.int 3)))) (eK (.int 40692)))))) (eK (.int 2147483399))) (eOp2 fPow (eK (.int 10)) (eK (.int 9)))))))) (sRetN 4))))
def F__law_numbers : Fn := ⟨3, 8, .pure, k__law_numbers⟩
def k__law_draw : SC := sSeq (sHput (eVar 0) (eK (.int 0)) (eOp2 fMod (eOp1 fInt (eOwn (oOp2 fAdd (eOp2 fMul (eOp2 fIx (eVar 0) (eK (.int 0))) (eK (.int 48271))) (eK (.int 12345))))) (eK (.int 2147483647)))) (sRet (eOp2 fMod (eOp1 fInt (eOp2 fDiv (eOp2 fIx (eVar 0) (eK (.int 0))) (eK (.int 11)))) (eVar 1)))
def F__law_draw : Fn := ⟨2, 2, .impure, k__law_draw⟩
def k__law_same : SC := sSeq (sIf (tOr (tTru (eOp1 (fIsi [.tuple]) (eVar 0))) (tTru (eOp1 (fIsi [.tuple]) (eVar 1)))) (sSeq (sIf (tOr (tNot (tTru (eOp1 (fIsi [.tuple]) (eVar 0)))) (tOr (tNot (tTru (eOp1 (fIsi [.tuple]) (eVar 1)))) (tBl (eOp2 fNe (eOp1 fLen (eVar 0)) (eOp1 fLen (eVar 1)))))) (sRet (eK (.bl false))) (sSkip)) (sRet (eOp1 fAll (eOwn (oComp [2] (.one 2) (iR1 (eOp1 fLen (eVar 1))) (tYes) (eOwn (eCall i__law_same (aCons (eOp2 fIx (eVar 0) (eVar 2)) (aCons (eOp2 fIx (eVar 1) (eVar 2)) (aNil)))))))))) (sSkip)) (sSeq (sIf (tOr (tBl (eOp2 fIs (eVar 0) (eK .non))) (tBl (eOp2 fIs (eVar 1) (eK .non)))) (sRet (eAnd (eOp2 fIs (eVar 0) (eK .non)) (eOp2 fIs (eVar 1) (eK .non)))) (sSkip)) (sSeq (sIf (tOr (tBl (eOp2 fNe (eOp1 (fIsi [.bool]) (eVar 0)) (eOp1 (fIsi [.bool]) (eVar 1)))) (tBl (eOp2 fNe (eOp1 (fIsi [.str]) (eVar 0)) (eOp1 (fIsi [.str]) (eVar 1))))) (sRet (eK (.bl false))) (sSkip)) (sRet (eAnd (eOp1 (fIsi [.int, .str]) (eVar 0)) (eOp2 fEq (eVar 0) (eVar 1))))))
def F__law_same : Fn := ⟨2, 3, .pure, k__law_same⟩
def k__law_sentence : SC := sSeq (sSet 2 (eOwn (eCall i__law_draw (aCons (eVar 0) (aCons (eK (.int 7)) (aNil)))))) (sSeq (sIf (tOr (tBl (eOp2 fEq (eVar 1) (eK (.int 0)))) (tBl (eOp2 fLt (eVar 2) (eK (.int 2))))) (sRet (eOp2 fIx (eTup (aCons (eK (.str [97])) (aCons (eK (.str [98])) (aCons (eK (.str [99])) (aCons (eK (.str [97])) (aCons (eK (.str [98])) (aCons (eTup (aCons (eK (.str [110, 111, 110, 101])) (aNil))) (aNil)))))))) (eOwn (eCall i__law_draw (aCons (eVar 0) (aCons (eK (.int 6)) (aNil))))))) (sSkip)) (sRet (eTup (aCons (eOp2 fIx (eTup (aCons (eK (.str [97, 110, 100])) (aCons (eK (.str [111, 114])) (aCons (eK (.str [105, 102])) (aNil))))) (eOp2 fMod (eVar 2) (eK (.int 3)))) (aCons (eOwn (eCall i__law_sentence (aCons (eVar 0) (aCons (eOp2 fSub (eVar 1) (eK (.int 1))) (aNil))))) (aCons (eOwn (eCall i__law_sentence (aCons (eVar 0) (aCons (eOp2 fSub (eVar 1) (eK (.int 1))) (aNil))))) (aNil)))))))
def F__law_sentence : Fn := ⟨2, 3, .impure, k__law_sentence⟩
def k__law_find : SC := sSeq (sSet 2 (eK .non)) (sSeq (sFor (.many [3, 4]) (iSeq (eVar 0)) (sIf (tBl (eOp2 fEq (eVar 3) (eVar 1))) (sSet 2 (eVar 4)) (sSkip))) (sRet (eVar 2)))
def F__law_find : Fn := ⟨2, 5, .pure, k__law_find⟩
def k__law_kind : SC := sRet (eAnd (eOp1 (fIsi [.tuple]) (eVar 0)) (eOp2 fEq (eOp2 fIx (eVar 0) (eK (.int 0))) (eVar 1)))
def F__law_kind : Fn := ⟨2, 2, .pure, k__law_kind⟩
def k__law_borne : SC := sSeq (sSet 2 (eOp2 fIx (eVar 1) (eK (.int 0)))) (sSeq (sIf (tBl (eOp2 fEq (eVar 2) (eK (.str [118, 97, 114])))) (sRetO (eCall i__law_find (aCons (eVar 0) (aCons (eOp2 fIx (eVar 1) (eK (.int 1))) (aNil))))) (sSkip)) (sSeq (sIf (tBl (eOp2 fEq (eVar 2) (eK (.str [112, 97, 105, 114])))) (sSeq (sUnp [3, 4] (eTup (aCons (eOwn (eCall i__law_borne (aCons (eVar 0) (aCons (eOp2 fIx (eVar 1) (eK (.int 1))) (aNil))))) (aCons (eOwn (eCall i__law_borne (aCons (eVar 0) (aCons (eOp2 fIx (eVar 1) (eK (.int 2))) (aNil))))) (aNil))))) (sRet (eIf (tOr (tBl (eOp2 fIs (eVar 3) (eK .non))) (tBl (eOp2 fIs (eVar 4) (eK .non)))) (eK .non) (eTup (aCons (eK (.str [97, 110, 100])) (aCons (eVar 3) (aCons (eVar 4) (aNil)))))))) (sSkip)) (sSeq (sIf (tBl (eOp2 fIn (eVar 2) (eTup (aCons (eK (.str [108, 101, 102, 116])) (aCons (eK (.str [114, 105, 103, 104, 116])) (aNil)))))) (sSeq (sSet 3 (eOwn (eCall i__law_borne (aCons (eVar 0) (aCons (eOp2 fIx (eVar 1) (eK (.int 1))) (aNil)))))) (sRet (eIf (tTru (eOwn (eCall i__law_kind (aCons (eVar 3) (aCons (eK (.str [97, 110, 100])) (aNil)))))) (eOp2 fIx (eVar 3) (eIf (tBl (eOp2 fEq (eVar 2) (eK (.str [108, 101, 102, 116])))) (eK (.int 1)) (eK (.int 2)))) (eK .non)))) (sSkip)) (sSeq (sIf (tBl (eOp2 fEq (eVar 2) (eK (.str [102, 117, 110])))) (sSeq (sSet 3 (eOwn (eCall i__law_borne (aCons (eOwn (oOp2 fAdd (eVar 0) (eOwn (oLst (aCons (eTup (aCons (eOp2 fIx (eVar 1) (eK (.int 1))) (aCons (eOp2 fIx (eVar 1) (eK (.int 2))) (aNil)))) (aNil)))))) (aCons (eOp2 fIx (eVar 1) (eK (.int 3))) (aNil)))))) (sRet (eIf (tBl (eOp2 fIs (eVar 3) (eK .non))) (eK .non) (eTup (aCons (eK (.str [105, 102])) (aCons (eOp2 fIx (eVar 1) (eK (.int 2))) (aCons (eVar 3) (aNil)))))))) (sSkip)) (sSeq (sIf (tBl (eOp2 fEq (eVar 2) (eK (.str [97, 112, 112])))) (sSeq (sUnp [3, 4] (eTup (aCons (eOwn (eCall i__law_borne (aCons (eVar 0) (aCons (eOp2 fIx (eVar 1) (eK (.int 1))) (aNil))))) (aCons (eOwn (eCall i__law_borne (aCons (eVar 0) (aCons (eOp2 fIx (eVar 1) (eK (.int 2))) (aNil))))) (aNil))))) (sRet (eIf (tAnd (tTru (eOwn (eCall i__law_kind (aCons (eVar 3) (aCons (eK (.str [105, 102])) (aNil)))))) (tAnd (tBl (eOp2 fIsNot (eVar 4) (eK .non))) (tBl (eOp2 fEq (eOp2 fIx (eVar 3) (eK (.int 1))) (eVar 4))))) (eOp2 fIx (eVar 3) (eK (.int 2))) (eK .non)))) (sSkip)) (sSeq (sIf (tBl (eOp2 fEq (eVar 2) (eK (.str [102, 105, 114, 115, 116])))) (sSeq (sSet 3 (eOwn (eCall i__law_borne (aCons (eVar 0) (aCons (eOp2 fIx (eVar 1) (eK (.int 1))) (aNil)))))) (sRet (eIf (tBl (eOp2 fIs (eVar 3) (eK .non))) (eK .non) (eTup (aCons (eK (.str [111, 114])) (aCons (eVar 3) (aCons (eOp2 fIx (eVar 1) (eK (.int 2))) (aNil)))))))) (sSkip)) (sSeq (sIf (tBl (eOp2 fEq (eVar 2) (eK (.str [115, 101, 99, 111, 110, 100])))) (sSeq (sSet 3 (eOwn (eCall i__law_borne (aCons (eVar 0) (aCons (eOp2 fIx (eVar 1) (eK (.int 2))) (aNil)))))) (sRet (eIf (tBl (eOp2 fIs (eVar 3) (eK .non))) (eK .non) (eTup (aCons (eK (.str [111, 114])) (aCons (eOp2 fIx (eVar 1) (eK (.int 1))) (aCons (eVar 3) (aNil)))))))) (sSkip)) (sSeq (sIf (tBl (eOp2 fEq (eVar 2) (eK (.str [118, 111, 105, 100])))) (sRet (eIf (tBl (eOp2 fEq (eOwn (eCall i__law_borne (aCons (eVar 0) (aCons (eOp2 fIx (eVar 1) (eK (.int 1))) (aNil))))) (eTup (aCons (eK (.str [110, 111, 110, 101])) (aNil))))) (eOp2 fIx (eVar 1) (eK (.int 2))) (eK .non))) (sSkip)) (sSeq (sSet 3 (eOwn (eCall i__law_borne (aCons (eVar 0) (aCons (eOp2 fIx (eVar 1) (eK (.int 1))) (aNil)))))) (sSeq (sIf (tNot (tTru (eOwn (eCall i__law_kind (aCons (eVar 3) (aCons (eK (.str [111, 114])) (aNil))))))) (sRet (eK .non)) (sSkip)) (sSeq (sUnp [5, 6] (eTup (aCons (eOwn (eCall i__law_borne (aCons (eOwn (oOp2 fAdd (eVar 0) (eOwn (oLst (aCons (eTup (aCons (eOp2 fIx (eVar 1) (eK (.int 2))) (aCons (eOp2 fIx (eVar 3) (eK (.int 1))) (aNil)))) (aNil)))))) (aCons (eOp2 fIx (eVar 1) (eK (.int 3))) (aNil))))) (aCons (eOwn (eCall i__law_borne (aCons (eOwn (oOp2 fAdd (eVar 0) (eOwn (oLst (aCons (eTup (aCons (eOp2 fIx (eVar 1) (eK (.int 4))) (aCons (eOp2 fIx (eVar 3) (eK (.int 2))) (aNil)))) (aNil)))))) (aCons (eOp2 fIx (eVar 1) (eK (.int 5))) (aNil))))) (aNil))))) (sRet (eIf (tAnd (tBl (eOp2 fIsNot (eVar 5) (eK .non))) (tBl (eOp2 fEq (eVar 5) (eVar 6)))) (eVar 5) (eK .non))))))))))))))
def F__law_borne : Fn := ⟨2, 7, .pure, k__law_borne⟩
def k__law_free : SC := sSeq (sSet 1 (eOp2 fIx (eVar 0) (eK (.int 0)))) (sSeq (sIf (tBl (eOp2 fEq (eVar 1) (eK (.str [118, 97, 114])))) (sRetO (oLst (aCons (eOp2 fIx (eVar 0) (eK (.int 1))) (aNil)))) (sSkip)) (sSeq (sIf (tBl (eOp2 fEq (eVar 1) (eK (.str [102, 117, 110])))) (sRetO (oComp [4] (.one 4) (iSeq (eOwn (eCall i__law_free (aCons (eOp2 fIx (eVar 0) (eK (.int 3))) (aNil))))) (tBl (eOp2 fNe (eVar 4) (eOp2 fIx (eVar 0) (eK (.int 1))))) (eVar 4))) (sSkip)) (sSeq (sIf (tBl (eOp2 fEq (eVar 1) (eK (.str [99, 97, 115, 101, 115])))) (sRetO (oOp2 fAdd (eOwn (oOp2 fAdd (eOwn (eCall i__law_free (aCons (eOp2 fIx (eVar 0) (eK (.int 1))) (aNil)))) (eOwn (oComp [4] (.one 4) (iSeq (eOwn (eCall i__law_free (aCons (eOp2 fIx (eVar 0) (eK (.int 3))) (aNil))))) (tBl (eOp2 fNe (eVar 4) (eOp2 fIx (eVar 0) (eK (.int 2))))) (eVar 4))))) (eOwn (oComp [4] (.one 4) (iSeq (eOwn (eCall i__law_free (aCons (eOp2 fIx (eVar 0) (eK (.int 5))) (aNil))))) (tBl (eOp2 fNe (eVar 4) (eOp2 fIx (eVar 0) (eK (.int 4))))) (eVar 4))))) (sSkip)) (sSeq (sSet 2 (eOwn (oLst (aNil)))) (sSeq (sFor (.one 3) (iSeq (eOwn (oSl (eVar 0) (some (eK (.int 1))) (none)))) (sIf (tTru (eOwn (eCall i__law_is_term (aCons (eVar 3) (aNil))))) (sSet 2 (eOwn (oOp2 fAdd (eVar 2) (eOwn (eCall i__law_free (aCons (eVar 3) (aNil))))))) (sSkip))) (sRet (eVar 2)))))))
def F__law_free : Fn := ⟨1, 5, .pure, k__law_free⟩
def k__law_is_term : SC := sRet (eAnd (eOp1 (fIsi [.tuple]) (eVar 0)) (eOp2 fIn (eOp2 fIx (eVar 0) (eK (.int 0))) (eTup (aCons (eK (.str [118, 97, 114])) (aCons (eK (.str [112, 97, 105, 114])) (aCons (eK (.str [108, 101, 102, 116])) (aCons (eK (.str [114, 105, 103, 104, 116])) (aCons (eK (.str [102, 117, 110])) (aCons (eK (.str [97, 112, 112])) (aCons (eK (.str [102, 105, 114, 115, 116])) (aCons (eK (.str [115, 101, 99, 111, 110, 100])) (aCons (eK (.str [99, 97, 115, 101, 115])) (aCons (eK (.str [118, 111, 105, 100])) (aNil))))))))))))))
def F__law_is_term : Fn := ⟨1, 1, .pure, k__law_is_term⟩
def k__law_for : SC := sSeq (sSet 4 (eOwn (oComp [8, 6] (.many [8, 6]) (iSeq (eVar 1)) (tAnd (tBl (eOp2 fEq (eVar 6) (eVar 2))) (tBl (eOp2 fEq (eOwn (eCall i__law_find (aCons (eVar 1) (aCons (eVar 8) (aNil))))) (eVar 2)))) (eVar 8)))) (sSeq (sIf (tTru (eVar 4)) (sRet (eTup (aCons (eK (.str [118, 97, 114])) (aCons (eOp2 fIx (eVar 4) (eOwn (eCall i__law_draw (aCons (eVar 0) (aCons (eOp1 fLen (eVar 4)) (aNil)))))) (aNil))))) (sSkip)) (sSeq (sIf (tOr (tBl (eOp2 fEq (eVar 3) (eK (.int 0)))) (tOr (tTru (eOp1 (fIsi [.str]) (eVar 2))) (tBl (eOp2 fEq (eOp1 fLen (eVar 2)) (eK (.int 1)))))) (sRet (eK .non)) (sSkip)) (sSeq (sIf (tBl (eOp2 fEq (eOp2 fIx (eVar 2) (eK (.int 0))) (eK (.str [105, 102])))) (sSeq (sSet 5 (eOwn (eCall i__law_for (aCons (eVar 0) (aCons (eOwn (oOp2 fAdd (eVar 1) (eOwn (oLst (aCons (eTup (aCons (eK (.str [122])) (aCons (eOp2 fIx (eVar 2) (eK (.int 1))) (aNil)))) (aNil)))))) (aCons (eOp2 fIx (eVar 2) (eK (.int 2))) (aCons (eOp2 fSub (eVar 3) (eK (.int 1))) (aNil)))))))) (sRet (eIf (tBl (eOp2 fIs (eVar 5) (eK .non))) (eK .non) (eTup (aCons (eK (.str [102, 117, 110])) (aCons (eK (.str [122])) (aCons (eOp2 fIx (eVar 2) (eK (.int 1))) (aCons (eVar 5) (aNil))))))))) (sSkip)) (sSeq (sUnp [6, 7] (eTup (aCons (eOwn (eCall i__law_for (aCons (eVar 0) (aCons (eVar 1) (aCons (eOp2 fIx (eVar 2) (eK (.int 1))) (aCons (eOp2 fSub (eVar 3) (eK (.int 1))) (aNil))))))) (aCons (eOwn (eCall i__law_for (aCons (eVar 0) (aCons (eVar 1) (aCons (eOp2 fIx (eVar 2) (eK (.int 2))) (aCons (eOp2 fSub (eVar 3) (eK (.int 1))) (aNil))))))) (aNil))))) (sSeq (sIf (tBl (eOp2 fEq (eOp2 fIx (eVar 2) (eK (.int 0))) (eK (.str [97, 110, 100])))) (sRet (eIf (tOr (tBl (eOp2 fIs (eVar 6) (eK .non))) (tBl (eOp2 fIs (eVar 7) (eK .non)))) (eK .non) (eTup (aCons (eK (.str [112, 97, 105, 114])) (aCons (eVar 6) (aCons (eVar 7) (aNil))))))) (sSkip)) (sSeq (sIf (tBl (eOp2 fIsNot (eVar 6) (eK .non))) (sRet (eTup (aCons (eK (.str [102, 105, 114, 115, 116])) (aCons (eVar 6) (aCons (eOp2 fIx (eVar 2) (eK (.int 2))) (aNil)))))) (sSkip)) (sRet (eIf (tBl (eOp2 fIs (eVar 7) (eK .non))) (eK .non) (eTup (aCons (eK (.str [115, 101, 99, 111, 110, 100])) (aCons (eOp2 fIx (eVar 2) (eK (.int 1))) (aCons (eVar 7) (aNil)))))))))))))
def F__law_for : Fn := ⟨4, 9, .impure, k__law_for⟩
def k__law_make : SC := sSeq (sSet 3 (eOwn (eCall i__law_draw (aCons (eVar 0) (aCons (eK (.int 8)) (aNil)))))) (sSeq (sIf (tOr (tBl (eOp2 fEq (eVar 2) (eK (.int 0)))) (tBl (eOp2 fEq (eVar 3) (eK (.int 0))))) (sSeq (sIf (tBl (eOp2 fEq (eVar 1) (eOwn (oLst (aNil))))) (sRet (eTup (aCons (eTup (aCons (eK (.str [102, 117, 110])) (aCons (eK (.str [120])) (aCons (eK (.str [97])) (aCons (eTup (aCons (eK (.str [118, 97, 114])) (aCons (eK (.str [120])) (aNil)))) (aNil)))))) (aCons (eTup (aCons (eK (.str [105, 102])) (aCons (eK (.str [97])) (aCons (eK (.str [97])) (aNil))))) (aNil))))) (sSkip)) (sSeq (sSet 4 (eOp2 fIx (eOp2 fIx (eVar 1) (eOwn (eCall i__law_draw (aCons (eVar 0) (aCons (eOp1 fLen (eVar 1)) (aNil)))))) (eK (.int 0)))) (sRet (eTup (aCons (eTup (aCons (eK (.str [118, 97, 114])) (aCons (eVar 4) (aNil)))) (aCons (eOwn (eCall i__law_find (aCons (eVar 1) (aCons (eVar 4) (aNil))))) (aNil))))))) (sSkip)) (sSeq (sIf (tBl (eOp2 fLt (eVar 3) (eK (.int 3)))) (sSeq (sUnp [5, 6] (eTup (aCons (eOp2 fIx (eTup (aCons (eK (.str [120])) (aCons (eK (.str [121])) (aCons (eK (.str [120, 48])) (aNil))))) (eOwn (eCall i__law_draw (aCons (eVar 0) (aCons (eK (.int 3)) (aNil)))))) (aCons (eOwn (eCall i__law_sentence (aCons (eVar 0) (aCons (eK (.int 1)) (aNil))))) (aNil))))) (sSeq (sUnp [7, 8] (eOwn (eCall i__law_make (aCons (eVar 0) (aCons (eOwn (oOp2 fAdd (eVar 1) (eOwn (oLst (aCons (eTup (aCons (eVar 5) (aCons (eVar 6) (aNil)))) (aNil)))))) (aCons (eOp2 fSub (eVar 2) (eK (.int 1))) (aNil))))))) (sRet (eTup (aCons (eTup (aCons (eK (.str [102, 117, 110])) (aCons (eVar 5) (aCons (eVar 6) (aCons (eVar 7) (aNil)))))) (aCons (eTup (aCons (eK (.str [105, 102])) (aCons (eVar 6) (aCons (eVar 8) (aNil))))) (aNil))))))) (sSkip)) (sSeq (sUnp [9, 8] (eOwn (eCall i__law_make (aCons (eVar 0) (aCons (eVar 1) (aCons (eOp2 fSub (eVar 2) (eK (.int 1))) (aNil))))))) (sSeq (sIf (tBl (eOp2 fEq (eVar 3) (eK (.int 3)))) (sSeq (sUnp [10, 11] (eOwn (eCall i__law_make (aCons (eVar 0) (aCons (eVar 1) (aCons (eOp2 fSub (eVar 2) (eK (.int 1))) (aNil))))))) (sRet (eTup (aCons (eTup (aCons (eK (.str [112, 97, 105, 114])) (aCons (eVar 9) (aCons (eVar 10) (aNil))))) (aCons (eTup (aCons (eK (.str [97, 110, 100])) (aCons (eVar 8) (aCons (eVar 11) (aNil))))) (aNil)))))) (sSkip)) (sSeq (sIf (tBl (eOp2 fEq (eVar 3) (eK (.int 4)))) (sSeq (sSet 10 (eOwn (eCall i__law_sentence (aCons (eVar 0) (aCons (eK (.int 1)) (aNil)))))) (sRet (eIf (tBl (eOp2 fEq (eOwn (eCall i__law_draw (aCons (eVar 0) (aCons (eK (.int 2)) (aNil))))) (eK (.int 0)))) (eTup (aCons (eTup (aCons (eK (.str [102, 105, 114, 115, 116])) (aCons (eVar 9) (aCons (eVar 10) (aNil))))) (aCons (eTup (aCons (eK (.str [111, 114])) (aCons (eVar 8) (aCons (eVar 10) (aNil))))) (aNil)))) (eTup (aCons (eTup (aCons (eK (.str [115, 101, 99, 111, 110, 100])) (aCons (eVar 10) (aCons (eVar 9) (aNil))))) (aCons (eTup (aCons (eK (.str [111, 114])) (aCons (eVar 10) (aCons (eVar 8) (aNil))))) (aNil))))))) (sSkip)) (sSeq (sIf (tTru (eOwn (eCall i__law_kind (aCons (eVar 8) (aCons (eK (.str [97, 110, 100])) (aNil)))))) (sRet (eIf (tBl (eOp2 fEq (eOwn (eCall i__law_draw (aCons (eVar 0) (aCons (eK (.int 2)) (aNil))))) (eK (.int 0)))) (eTup (aCons (eTup (aCons (eK (.str [108, 101, 102, 116])) (aCons (eVar 9) (aNil)))) (aCons (eOp2 fIx (eVar 8) (eK (.int 1))) (aNil)))) (eTup (aCons (eTup (aCons (eK (.str [114, 105, 103, 104, 116])) (aCons (eVar 9) (aNil)))) (aCons (eOp2 fIx (eVar 8) (eK (.int 2))) (aNil)))))) (sSkip)) (sSeq (sIf (tTru (eOwn (eCall i__law_kind (aCons (eVar 8) (aCons (eK (.str [105, 102])) (aNil)))))) (sSeq (sSet 10 (eOwn (eCall i__law_for (aCons (eVar 0) (aCons (eVar 1) (aCons (eOp2 fIx (eVar 8) (eK (.int 1))) (aCons (eK (.int 2)) (aNil)))))))) (sRet (eIf (tBl (eOp2 fIs (eVar 10) (eK .non))) (eTup (aCons (eVar 9) (aCons (eVar 8) (aNil)))) (eTup (aCons (eTup (aCons (eK (.str [97, 112, 112])) (aCons (eVar 9) (aCons (eVar 10) (aNil))))) (aCons (eOp2 fIx (eVar 8) (eK (.int 2))) (aNil))))))) (sSkip)) (sSeq (sIf (tTru (eOwn (eCall i__law_kind (aCons (eVar 8) (aCons (eK (.str [111, 114])) (aNil)))))) (sSeq (sIf (tBl (eOp2 fEq (eOwn (eCall i__law_draw (aCons (eVar 0) (aCons (eK (.int 2)) (aNil))))) (eK (.int 0)))) (sRet (eTup (aCons (eTup (aCons (eK (.str [99, 97, 115, 101, 115])) (aCons (eVar 9) (aCons (eK (.str [120])) (aCons (eTup (aCons (eK (.str [115, 101, 99, 111, 110, 100])) (aCons (eOp2 fIx (eVar 8) (eK (.int 2))) (aCons (eTup (aCons (eK (.str [118, 97, 114])) (aCons (eK (.str [120])) (aNil)))) (aNil))))) (aCons (eK (.str [121])) (aCons (eTup (aCons (eK (.str [102, 105, 114, 115, 116])) (aCons (eTup (aCons (eK (.str [118, 97, 114])) (aCons (eK (.str [121])) (aNil)))) (aCons (eOp2 fIx (eVar 8) (eK (.int 1))) (aNil))))) (aNil)))))))) (aCons (eTup (aCons (eK (.str [111, 114])) (aCons (eOp2 fIx (eVar 8) (eK (.int 2))) (aCons (eOp2 fIx (eVar 8) (eK (.int 1))) (aNil))))) (aNil))))) (sSkip)) (sRet (eTup (aCons (eTup (aCons (eK (.str [99, 97, 115, 101, 115])) (aCons (eVar 9) (aCons (eK (.str [120])) (aCons (eTup (aCons (eK (.str [102, 105, 114, 115, 116])) (aCons (eTup (aCons (eK (.str [118, 97, 114])) (aCons (eK (.str [120])) (aNil)))) (aCons (eOp2 fIx (eVar 8) (eK (.int 2))) (aNil))))) (aCons (eK (.str [121])) (aCons (eTup (aCons (eK (.str [115, 101, 99, 111, 110, 100])) (aCons (eOp2 fIx (eVar 8) (eK (.int 1))) (aCons (eTup (aCons (eK (.str [118, 97, 114])) (aCons (eK (.str [121])) (aNil)))) (aNil))))) (aNil)))))))) (aCons (eVar 8) (aNil)))))) (sSkip)) (sSeq (sIf (tBl (eOp2 fEq (eVar 8) (eTup (aCons (eK (.str [110, 111, 110, 101])) (aNil))))) (sSeq (sSet 10 (eOwn (eCall i__law_sentence (aCons (eVar 0) (aCons (eK (.int 1)) (aNil)))))) (sRet (eTup (aCons (eTup (aCons (eK (.str [118, 111, 105, 100])) (aCons (eVar 9) (aCons (eVar 10) (aNil))))) (aCons (eVar 10) (aNil)))))) (sSkip)) (sRet (eTup (aCons (eTup (aCons (eK (.str [112, 97, 105, 114])) (aCons (eVar 9) (aCons (eVar 9) (aNil))))) (aCons (eTup (aCons (eK (.str [97, 110, 100])) (aCons (eVar 8) (aCons (eVar 8) (aNil))))) (aNil))))))))))))))
def F__law_make : Fn := ⟨3, 12, .impure, k__law_make⟩
def k__law_knots : SC := sSeq (sIf (tOr (tTru (eOp1 (fIsi [.str]) (eVar 0))) (tBl (eOp2 fEq (eOp1 fLen (eVar 0)) (eK (.int 1))))) (sRet (eK (.int 1))) (sSkip)) (sRetO (oOp2 fAdd (eOwn (oOp2 fAdd (eK (.int 1)) (eOwn (eCall i__law_knots (aCons (eOp2 fIx (eVar 0) (eK (.int 1))) (aNil)))))) (eOwn (eCall i__law_knots (aCons (eOp2 fIx (eVar 0) (eK (.int 2))) (aNil))))))
def F__law_knots : Fn := ⟨1, 1, .pure, k__law_knots⟩
def k__law_size : SC := sRetO (oOp2 fAdd (eK (.int 1)) (eOp1 fSum (eOwn (oComp [1] (.one 1) (iSeq (eOwn (oSl (eVar 0) (some (eK (.int 1))) (none)))) (tTru (eOwn (eCall i__law_is_term (aCons (eVar 1) (aNil))))) (eOwn (eCall i__law_size (aCons (eVar 1) (aNil))))))))
def F__law_size : Fn := ⟨1, 2, .pure, k__law_size⟩
def k__law_book : SC := sSeq (sSetO 2 (oLst (aNil))) (sSeq (sFor (.one 3) (iR1 (eOwn (oOp2 fAdd (eK (.int 1)) (eOwn (eCall i__law_draw (aCons (eVar 0) (aCons (eVar 1) (aNil)))))))) (sSeq (sSet 4 (eOwn (oComp [8, 9, 6] (.many [8, 9, 6]) (iSeq (eBor 2)) (tYes) (eTup (aCons (eVar 8) (aCons (eVar 9) (aNil))))))) (sSeq (sSet 5 (eOwn (eCall i__law_draw (aCons (eVar 0) (aCons (eK (.int 5)) (aNil)))))) (sIf (tOr (tBl (eOp2 fLt (eVar 5) (eK (.int 2)))) (tBl (eOp2 fEq (eVar 4) (eOwn (oLst (aNil)))))) (sOwn 2 fAppend (eTup (aCons (eOwn (oOp2 fAdd (eK (.str [101])) (eOp1 fStr (eVar 3)))) (aCons (eOwn (eCall i__law_sentence (aCons (eVar 0) (aCons (eOwn (oOp2 fAdd (eK (.int 1)) (eOwn (eCall i__law_draw (aCons (eVar 0) (aCons (eK (.int 2)) (aNil))))))) (aNil))))) (aCons (eK .non) (aNil)))))) (sSeq (sUnp [6, 7] (eOwn (eCall i__law_make (aCons (eVar 0) (aCons (eVar 4) (aCons (eOwn (oOp2 fAdd (eK (.int 2)) (eOwn (eCall i__law_draw (aCons (eVar 0) (aCons (eK (.int 2)) (aNil))))))) (aNil))))))) (sSeq (sIf (tOr (tBl (eOp2 fGt (eOwn (eCall i__law_knots (aCons (eVar 7) (aNil)))) (eK (.int 20)))) (tBl (eOp2 fGt (eOwn (eCall i__law_size (aCons (eVar 6) (aNil)))) (eK (.int 60))))) (sUnp [6, 7] (eTup (aCons (eTup (aCons (eK (.str [118, 97, 114])) (aCons (eOp2 fIx (eOp2 fIx (eVar 4) (eK (.int 0))) (eK (.int 0))) (aNil)))) (aCons (eOp2 fIx (eOp2 fIx (eVar 4) (eK (.int 0))) (eK (.int 1))) (aNil))))) (sSkip)) (sOwn 2 fAppend (eTup (aCons (eOwn (oOp2 fAdd (eK (.str [101])) (eOp1 fStr (eVar 3)))) (aCons (eOwn (oIf (tBl (eOp2 fLt (eVar 5) (eK (.int 4)))) (oVal (eVar 7)) (eCall i__law_sentence (aCons (eVar 0) (aCons (eK (.int 1)) (aNil)))))) (aCons (eVar 6) (aNil)))))))))))) (sRet (eOp1 fTuple (eBor 2))))
def F__law_book : Fn := ⟨2, 10, .impure, k__law_book⟩
def k__law_leans : SC := sSeq (sIf (tBl (eOp2 fIs (eOp2 fIx (eOp2 fIx (eVar 0) (eVar 1)) (eK (.int 2))) (eK .non))) (sRetO (oLst (aNil))) (sSkip)) (sSeq (sSet 2 (eOwn (eCall i__law_free (aCons (eOp2 fIx (eOp2 fIx (eVar 0) (eVar 1)) (eK (.int 2))) (aNil))))) (sRetO (oComp [3] (.one 3) (iR1 (eVar 1)) (tBl (eOp2 fIn (eOp2 fIx (eOp2 fIx (eVar 0) (eVar 3)) (eK (.int 0))) (eVar 2))) (eVar 3))))
def F__law_leans : Fn := ⟨2, 4, .pure, k__law_leans⟩
def k__law_under : SC := sSeq (sSet 2 (eOwn (eCall i__law_leans (aCons (eVar 0) (aCons (eVar 1) (aNil)))))) (sSeq (sFor (.one 3) (iR3 (eOp2 fSub (eVar 1) (eK (.int 1))) (eK (.int (-1)))) (sIf (tBl (eOp2 fIn (eVar 3) (eVar 2))) (sSet 2 (eOwn (oOp2 fAdd (eVar 2) (eOwn (oComp [4] (.one 4) (iSeq (eOwn (eCall i__law_leans (aCons (eVar 0) (aCons (eVar 3) (aNil)))))) (tBl (eOp2 fNotIn (eVar 4) (eVar 2))) (eVar 4)))))) (sSkip))) (sRetO (oOp1 fSorted (eVar 2))))
def F__law_under : Fn := ⟨2, 5, .pure, k__law_under⟩
def k__law_taken : SC := sSeq (sIf (tBl (eOp2 fIs (eOp2 fIx (eOp2 fIx (eVar 0) (eVar 1)) (eK (.int 2))) (eK .non))) (sRet (eK (.bl true))) (sSkip)) (sRet (eOp2 fEq (eOwn (eCall i__law_borne (aCons (eOwn (oComp [2, 3, 4] (.many [2, 3, 4]) (iSeq (eOwn (oSl (eVar 0) (none) (some (eVar 1))))) (tYes) (eTup (aCons (eVar 2) (aCons (eVar 3) (aNil)))))) (aCons (eOp2 fIx (eOp2 fIx (eVar 0) (eVar 1)) (eK (.int 2))) (aNil))))) (eOp2 fIx (eOp2 fIx (eVar 0) (eVar 1)) (eK (.int 1)))))
def F__law_taken : Fn := ⟨2, 5, .pure, k__law_taken⟩
def k__law_stands : SC := sRet (eOp1 fAll (eOwn (oComp [2] (.one 2) (iSeq (eOwn (oOp2 fAdd (eOwn (eCall i__law_under (aCons (eVar 0) (aCons (eVar 1) (aNil))))) (eOwn (oLst (aCons (eVar 1) (aNil))))))) (tYes) (eOwn (eCall i__law_taken (aCons (eVar 0) (aCons (eVar 2) (aNil))))))))
def F__law_stands : Fn := ⟨2, 3, .pure, k__law_stands⟩
def k__law_rests : SC := sRetO (oComp [2] (.one 2) (iSeq (eOwn (oOp2 fAdd (eOwn (eCall i__law_under (aCons (eVar 0) (aCons (eVar 1) (aNil))))) (eOwn (oLst (aCons (eVar 1) (aNil))))))) (tBl (eOp2 fIs (eOp2 fIx (eOp2 fIx (eVar 0) (eVar 2)) (eK (.int 2))) (eK .non))) (eVar 2))
def F__law_rests : Fn := ⟨2, 3, .pure, k__law_rests⟩
def k__law_one : SC := sSeq (sSet 1 (eOp1 fLen (eVar 0))) (sSeq (sIf (tOr (tNot (tTru (eOwn (eCall i__law_same (aCons (eOwn (eCall i_is_book (aCons (eVar 0) (aNil)))) (aCons (eK (.bl true)) (aNil))))))) (tNot (tTru (eOwn (eCall i__law_same (aCons (eOwn (eCall i_is_book (aCons (eOwn (oComp [11] (.one 11) (iSeq (eVar 0)) (tYes) (eOwn (oOp1 fList (eVar 11))))) (aNil)))) (aCons (eK (.bl true)) (aNil)))))))) (sRet (eK (.bl false))) (sSkip)) (sSeq (sSet 2 (eOwn (oComp [5] (.one 5) (iR1 (eVar 1)) (tTru (eOwn (eCall i__law_stands (aCons (eVar 0) (aCons (eVar 5) (aNil)))))) (eVar 5)))) (sSeq (sSet 3 (eOwn (oComp [5] (.one 5) (iR1 (eVar 1)) (tNot (tTru (eOwn (eCall i__law_taken (aCons (eVar 0) (aCons (eVar 5) (aNil))))))) (eVar 5)))) (sSeq (sIf (tOr (tNot (tTru (eOwn (eCall i__law_same (aCons (eOwn (eCall i_standing (aCons (eVar 0) (aNil)))) (aCons (eOp1 fTuple (eVar 2)) (aNil))))))) (tOr (tNot (tTru (eOwn (eCall i__law_same (aCons (eOwn (eCall i_is_sound (aCons (eVar 0) (aNil)))) (aCons (eOp2 fEq (eVar 3) (eOwn (oLst (aNil)))) (aNil))))))) (tNot (tTru (eOwn (eCall i__law_same (aCons (eOwn (eCall i_first_not_taken (aCons (eVar 0) (aNil)))) (aCons (eIf (tTru (eVar 3)) (eOp2 fIx (eVar 3) (eK (.int 0))) (eK .non)) (aNil))))))))) (sRet (eK (.bl false))) (sSkip)) (sSeq (sSet 4 (eOp1 fTuple (eOwn (oComp [8, 9, 10] (.many [8, 9, 10]) (iSeq (eVar 0)) (tYes) (eTup (aCons (eVar 8) (aCons (eVar 9) (aNil)))))))) (sSeq (sIf (tOr (tNot (tTru (eOwn (eCall i__law_same (aCons (eOwn (eCall i_assumptions (aCons (eVar 0) (aNil)))) (aCons (eOp1 fTuple (eOwn (oComp [5] (.one 5) (iR1 (eVar 1)) (tBl (eOp2 fIs (eOp2 fIx (eOp2 fIx (eVar 0) (eVar 5)) (eK (.int 2))) (eK .non))) (eOp2 fIx (eVar 4) (eVar 5))))) (aNil))))))) (tNot (tTru (eOwn (eCall i__law_same (aCons (eOwn (eCall i_context_of (aCons (eVar 0) (aCons (eVar 1) (aNil))))) (aCons (eVar 4) (aNil)))))))) (sRet (eK (.bl false))) (sSkip)) (sSeq (sFor (.one 5) (iR1 (eVar 1)) (sSeq (sIf (tOr (tNot (tTru (eOwn (eCall i__law_same (aCons (eOwn (eCall i_leans_on (aCons (eVar 0) (aCons (eVar 5) (aNil))))) (aCons (eOp1 fTuple (eOwn (eCall i__law_leans (aCons (eVar 0) (aCons (eVar 5) (aNil)))))) (aNil))))))) (tOr (tNot (tTru (eOwn (eCall i__law_same (aCons (eOwn (eCall i_under (aCons (eVar 0) (aCons (eVar 5) (aNil))))) (aCons (eOp1 fTuple (eOwn (eCall i__law_under (aCons (eVar 0) (aCons (eVar 5) (aNil)))))) (aNil))))))) (tNot (tTru (eOwn (eCall i__law_same (aCons (eOwn (eCall i_is_taken (aCons (eVar 0) (aCons (eVar 5) (aNil))))) (aCons (eOwn (eCall i__law_taken (aCons (eVar 0) (aCons (eVar 5) (aNil))))) (aNil))))))))) (sRet (eK (.bl false))) (sSkip)) (sSeq (sIf (tOr (tNot (tTru (eOwn (eCall i__law_same (aCons (eOwn (eCall i_over (aCons (eVar 0) (aCons (eVar 5) (aNil))))) (aCons (eOp1 fTuple (eOwn (oComp [12] (.one 12) (iR1 (eVar 1)) (tBl (eOp2 fIn (eVar 5) (eOwn (eCall i__law_under (aCons (eVar 0) (aCons (eVar 12) (aNil))))))) (eVar 12)))) (aNil))))))) (tNot (tTru (eOwn (eCall i__law_same (aCons (eOwn (eCall i_rests_on (aCons (eVar 0) (aCons (eVar 5) (aNil))))) (aCons (eOp1 fTuple (eOwn (eCall i__law_rests (aCons (eVar 0) (aCons (eVar 5) (aNil)))))) (aNil)))))))) (sRet (eK (.bl false))) (sSkip)) (sIf (tNot (tTru (eOwn (eCall i__law_same (aCons (eOwn (eCall i_context_of (aCons (eVar 0) (aCons (eVar 5) (aNil))))) (aCons (eOwn (oSl (eVar 4) (none) (some (eVar 5)))) (aNil))))))) (sRet (eK (.bl false))) (sSkip))))) (sSeq (sSet 6 (eOwn (oLst (aCons (eTup (aCons (eK (.str [122, 122])) (aCons (eK (.str [97])) (aCons (eTup (aCons (eK (.str [118, 97, 114])) (aCons (eK (.str [121, 121])) (aNil)))) (aNil))))) (aCons (eTup (aCons (eK (.str [122, 122])) (aCons (eK (.str [97])) (aCons (eTup (aCons (eK (.str [118, 97, 114])) (aCons (eK (.str [122, 122])) (aNil)))) (aNil))))) (aCons (eTup (aCons (eK (.str [90, 122])) (aCons (eK (.str [97])) (aCons (eK .non) (aNil))))) (aCons (eTup (aCons (eK (.str [122, 122])) (aCons (eK (.str [97])) (aNil)))) (aCons (eTup (aCons (eK (.str [122, 122])) (aCons (eTup (aCons (eK (.str [110, 111, 110, 101])) (aCons (eK (.str [97])) (aNil)))) (aCons (eK .non) (aNil))))) (aCons (eOp2 fIx (eVar 0) (eK (.int 0))) (aNil)))))))))) (sSeq (sFor (.one 7) (iSeq (eOwn (oOp2 fAdd (eOwn (oLst (aCons (eK .non) (aCons (eK (.int 7)) (aNil))))) (eOwn (oComp [11] (.one 11) (iSeq (eVar 6)) (tYes) (eOwn (oOp2 fAdd (eVar 0) (eTup (aCons (eVar 11) (aNil)))))))))) (sIf (tNot (tTru (eOwn (eCall i__law_same (aCons (eOwn (eCall i_is_book (aCons (eVar 7) (aNil)))) (aCons (eK (.bl false)) (aNil))))))) (sRet (eK (.bl false))) (sSkip))) (sRet (eK (.bl true))))))))))))
def F__law_one : Fn := ⟨1, 13, .pure, k__law_one⟩
def k_law : SC := sSeq (sSet 1 (eTup (aCons (eTup (aCons (eK (.str [112])) (aCons (eK (.str [97])) (aCons (eK .non) (aNil))))) (aCons (eTup (aCons (eK (.str [113])) (aCons (eTup (aCons (eK (.str [105, 102])) (aCons (eK (.str [97])) (aCons (eK (.str [98])) (aNil))))) (aCons (eK .non) (aNil))))) (aCons (eTup (aCons (eK (.str [114])) (aCons (eK (.str [98])) (aCons (eTup (aCons (eK (.str [97, 112, 112])) (aCons (eTup (aCons (eK (.str [118, 97, 114])) (aCons (eK (.str [113])) (aNil)))) (aCons (eTup (aCons (eK (.str [118, 97, 114])) (aCons (eK (.str [112])) (aNil)))) (aNil))))) (aNil))))) (aCons (eTup (aCons (eK (.str [115])) (aCons (eTup (aCons (eK (.str [97, 110, 100])) (aCons (eK (.str [98])) (aCons (eK (.str [97])) (aNil))))) (aCons (eTup (aCons (eK (.str [112, 97, 105, 114])) (aCons (eTup (aCons (eK (.str [118, 97, 114])) (aCons (eK (.str [114])) (aNil)))) (aCons (eTup (aCons (eK (.str [118, 97, 114])) (aCons (eK (.str [112])) (aNil)))) (aNil))))) (aNil))))) (aNil))))))) (sSeq (sIf (tOr (tNot (tTru (eOwn (eCall i__law_same (aCons (eOwn (eCall i_under (aCons (eVar 1) (aCons (eK (.int 3)) (aNil))))) (aCons (eTup (aCons (eK (.int 0)) (aCons (eK (.int 1)) (aCons (eK (.int 2)) (aNil))))) (aNil))))))) (tOr (tNot (tTru (eOwn (eCall i__law_same (aCons (eOwn (eCall i_leans_on (aCons (eVar 1) (aCons (eK (.int 3)) (aNil))))) (aCons (eTup (aCons (eK (.int 0)) (aCons (eK (.int 2)) (aNil)))) (aNil))))))) (tOr (tNot (tTru (eOwn (eCall i__law_same (aCons (eOwn (eCall i_over (aCons (eVar 1) (aCons (eK (.int 1)) (aNil))))) (aCons (eTup (aCons (eK (.int 2)) (aCons (eK (.int 3)) (aNil)))) (aNil))))))) (tNot (tTru (eOwn (eCall i__law_same (aCons (eOwn (eCall i_standing (aCons (eVar 1) (aNil)))) (aCons (eTup (aCons (eK (.int 0)) (aCons (eK (.int 1)) (aCons (eK (.int 2)) (aCons (eK (.int 3)) (aNil)))))) (aNil)))))))))) (sRet (eK (.bl false))) (sSkip)) (sSeq (sIf (tNot (tTru (eOwn (eCall i__law_same (aCons (eOwn (eCall i_assumptions (aCons (eTup (aCons (eTup (aCons (eK (.str [113])) (aCons (eK (.str [97])) (aCons (eK .non) (aNil))))) (aCons (eTup (aCons (eK (.str [114])) (aCons (eK (.str [97])) (aCons (eTup (aCons (eK (.str [118, 97, 114])) (aCons (eK (.str [113])) (aNil)))) (aNil))))) (aCons (eTup (aCons (eK (.str [112])) (aCons (eK (.str [98])) (aCons (eK .non) (aNil))))) (aNil))))) (aNil)))) (aCons (eTup (aCons (eTup (aCons (eK (.str [113])) (aCons (eK (.str [97])) (aNil)))) (aCons (eTup (aCons (eK (.str [112])) (aCons (eK (.str [98])) (aNil)))) (aNil)))) (aNil))))))) (sRet (eK (.bl false))) (sSkip)) (sSeq (sSet 2 (eOp1 fTuple (eOwn (oComp [4] (.one 4) (iR1 (eK (.int 12))) (tYes) (eTup (aCons (eOwn (oOp2 fAdd (eK (.str [110])) (eOp1 fStr (eVar 4)))) (aCons (eK (.str [97])) (aCons (eK .non) (aNil))))))))) (sSeq (sIf (tOr (tNot (tTru (eOwn (eCall i__law_same (aCons (eOwn (eCall i_is_book (aCons (eVar 2) (aNil)))) (aCons (eK (.bl true)) (aNil))))))) (tNot (tTru (eOwn (eCall i__law_same (aCons (eOwn (eCall i_is_book (aCons (eOwn (oOp2 fAdd (eVar 2) (eTup (aCons (eTup (aCons (eK (.str [109, 111, 114, 101])) (aCons (eK (.str [97])) (aCons (eK .non) (aNil))))) (aNil))))) (aNil)))) (aCons (eK (.bl false)) (aNil)))))))) (sRet (eK (.bl false))) (sSkip)) (sSeq (sIf (tOr (tNot (tTru (eOwn (eCall i__law_same (aCons (eOwn (eCall i_standing (aCons (eTup (aNil)) (aNil)))) (aCons (eTup (aNil)) (aNil))))))) (tNot (tTru (eOwn (eCall i__law_same (aCons (eOwn (eCall i_is_book (aCons (eOwn (eBack (eVar 1))) (aNil)))) (aCons (eK (.bl false)) (aNil)))))))) (sRet (eK (.bl false))) (sSkip)) (sSeq (sFor (.one 3) (iR1 (eK (.int 4))) (sIf (tNot (tTru (eOwn (eCall i__law_one (aCons (eOwn (eCall i__law_book (aCons (eNew (oLst (aCons (eOp2 fIx (eOwn (eCall i__law_numbers (aCons (eVar 0) (aCons (eVar 3) (aCons (eK (.int 1)) (aNil)))))) (eK (.int 0))) (aNil)))) (aCons (eK (.int 6)) (aNil))))) (aNil)))))) (sRet (eK (.bl false))) (sSkip))) (sRet (eK (.bl true)))))))))
def F_law : Fn := ⟨1, 5, .impure, k_law⟩
namespace k51
def fns : List (Nat × Fn) := [(0, F_is_number), (1, F_in_range), (2, F_is_name), (3, F_is_sequence), (4, F_is_too_deep), (5, F_frozen), (6, F_handed), (7, F_number_given), (8, F_knots_within), (9, F_is_sentence_value), (10, F_knots_of), (11, F_deep_of), (12, F_fits), (13, F_sentence_of), (14, F_with_label), (15, F_has_labels_and_sentences), (16, F_term_knots_within), (17, F_is_term_value), (18, F_bound_labels), (19, F_add_free), (20, F_free_in), (21, F_is_made_by), (22, F_grown), (23, F_concluded), (24, F_farther), (25, F_told_of_cases), (26, F_told_of), (27, F_bears), (28, F_is_entry_value), (29, F_leans_within), (30, F_is_book_value), (31, F_book_given), (32, F_context_ahead), (33, F_leaned_on), (34, F_unders), (35, F_overs), (36, F_takes_entry), (37, F_does_entry_stand), (38, F_standing_of), (39, F_resting_on), (40, F_assumed_context), (41, F_entry_number_given), (42, F_is_book), (43, F_context_of), (44, F_leans_on), (45, F_under), (46, F_over), (47, F_is_taken), (48, F_standing), (49, F_rests_on), (50, F_is_sound), (51, F_first_not_taken), (52, F_assumptions), (53, F__law_numbers), (54, F__law_draw), (55, F__law_same), (56, F__law_sentence), (57, F__law_find), (58, F__law_kind), (59, F__law_borne), (60, F__law_free), (61, F__law_is_term), (62, F__law_for), (63, F__law_make), (64, F__law_knots), (65, F__law_size), (66, F__law_book), (67, F__law_leans), (68, F__law_under), (69, F__law_taken), (70, F__law_stands), (71, F__law_rests), (72, F__law_one), (73, F_law)]
def ft (i : Nat) : Option Fn := lookN fns i
end k51
end Gt
end
section
set_option Elab.async false
set_option linter.all false
set_option maxRecDepth 100000
set_option maxHeartbeats 0
namespace Gt.k51
open Gt PySem L2
def top (i : Nat) : Stmt := PySem.Challenge.pw_groundterm_k51_what_leans_on_what.main.body.getD i (.Pass ⟨0, 0, 0, 0⟩)
def tab : List (Nat × Str × List Str × Bool) := [(0, Str.ofString "is_number", [Str.ofString "value"], true), (1, Str.ofString "in_range", [Str.ofString "value", Str.ofString "low", Str.ofString "high"], true), (2, Str.ofString "is_name", [Str.ofString "value"], true), (3, Str.ofString "is_sequence", [Str.ofString "value"], true), (4, Str.ofString "is_too_deep", [Str.ofString "value"], true), (5, Str.ofString "frozen", [Str.ofString "value"], true), (6, Str.ofString "handed", [Str.ofString "value"], true), (7, Str.ofString "number_given", [Str.ofString "value", Str.ofString "low", Str.ofString "high", Str.ofString "at"], true), (8, Str.ofString "knots_within", [Str.ofString "value", Str.ofString "room"], true), (9, Str.ofString "is_sentence_value", [Str.ofString "value"], true), (10, Str.ofString "knots_of", [Str.ofString "sentence"], true), (11, Str.ofString "deep_of", [Str.ofString "sentence"], true), (12, Str.ofString "fits", [Str.ofString "sentence"], true), (13, Str.ofString "sentence_of", [Str.ofString "context", Str.ofString "label"], true), (14, Str.ofString "with_label", [Str.ofString "context", Str.ofString "label", Str.ofString "sentence"], true), (15, Str.ofString "has_labels_and_sentences", [Str.ofString "value"], true), (16, Str.ofString "term_knots_within", [Str.ofString "value", Str.ofString "room", Str.ofString "lets_holes"], true), (17, Str.ofString "is_term_value", [Str.ofString "value"], true), (18, Str.ofString "bound_labels", [Str.ofString "term"], true), (19, Str.ofString "add_free", [Str.ofString "term", Str.ofString "bound", Str.ofString "found"], false), (20, Str.ofString "free_in", [Str.ofString "term"], true), (21, Str.ofString "is_made_by", [Str.ofString "sentence", Str.ofString "word"], true), (22, Str.ofString "grown", [Str.ofString "sentence"], true), (23, Str.ofString "concluded", [Str.ofString "term", Str.ofString "said"], true), (24, Str.ofString "farther", [Str.ofString "number", Str.ofString "fault"], true), (25, Str.ofString "told_of_cases", [Str.ofString "context", Str.ofString "term"], true), (26, Str.ofString "told_of", [Str.ofString "context", Str.ofString "term"], true), (27, Str.ofString "bears", [Str.ofString "context", Str.ofString "term"], true), (28, Str.ofString "is_entry_value", [Str.ofString "value"], true), (29, Str.ofString "leans_within", [Str.ofString "term", Str.ofString "names"], true), (30, Str.ofString "is_book_value", [Str.ofString "value"], true), (31, Str.ofString "book_given", [Str.ofString "value", Str.ofString "at"], true), (32, Str.ofString "context_ahead", [Str.ofString "book", Str.ofString "number"], true), (33, Str.ofString "leaned_on", [Str.ofString "book", Str.ofString "number"], true), (34, Str.ofString "unders", [Str.ofString "book", Str.ofString "number"], true), (35, Str.ofString "overs", [Str.ofString "book", Str.ofString "number"], true), (36, Str.ofString "takes_entry", [Str.ofString "book", Str.ofString "number"], true), (37, Str.ofString "does_entry_stand", [Str.ofString "book", Str.ofString "number"], true), (38, Str.ofString "standing_of", [Str.ofString "book"], true), (39, Str.ofString "resting_on", [Str.ofString "book", Str.ofString "number"], true), (40, Str.ofString "assumed_context", [Str.ofString "book"], true), (41, Str.ofString "entry_number_given", [Str.ofString "book", Str.ofString "value", Str.ofString "at"], true), (42, Str.ofString "is_book", [Str.ofString "value"], true), (43, Str.ofString "context_of", [Str.ofString "book", Str.ofString "number"], true), (44, Str.ofString "leans_on", [Str.ofString "book", Str.ofString "number"], true), (45, Str.ofString "under", [Str.ofString "book", Str.ofString "number"], true), (46, Str.ofString "over", [Str.ofString "book", Str.ofString "number"], true), (47, Str.ofString "is_taken", [Str.ofString "book", Str.ofString "number"], true), (48, Str.ofString "standing", [Str.ofString "book"], true), (49, Str.ofString "rests_on", [Str.ofString "book", Str.ofString "number"], true), (50, Str.ofString "is_sound", [Str.ofString "book"], true), (51, Str.ofString "first_not_taken", [Str.ofString "book"], true), (52, Str.ofString "assumptions", [Str.ofString "book"], true), (53, Str.ofString "_law_numbers", [Str.ofString "script", Str.ofString "place", Str.ofString "many"], true), (54, Str.ofString "_law_draw", [Str.ofString "state", Str.ofString "many"], false), (55, Str.ofString "_law_same", [Str.ofString "actual", Str.ofString "due"], true), (56, Str.ofString "_law_sentence", [Str.ofString "state", Str.ofString "left"], false), (57, Str.ofString "_law_find", [Str.ofString "context", Str.ofString "label"], true), (58, Str.ofString "_law_kind", [Str.ofString "sentence", Str.ofString "word"], true), (59, Str.ofString "_law_borne", [Str.ofString "context", Str.ofString "term"], true), (60, Str.ofString "_law_free", [Str.ofString "term"], true), (61, Str.ofString "_law_is_term", [Str.ofString "part"], true), (62, Str.ofString "_law_for", [Str.ofString "state", Str.ofString "context", Str.ofString "sentence", Str.ofString "left"], false), (63, Str.ofString "_law_make", [Str.ofString "state", Str.ofString "context", Str.ofString "left"], false), (64, Str.ofString "_law_knots", [Str.ofString "sentence"], true), (65, Str.ofString "_law_size", [Str.ofString "term"], true), (66, Str.ofString "_law_book", [Str.ofString "state", Str.ofString "most"], false), (67, Str.ofString "_law_leans", [Str.ofString "book", Str.ofString "number"], true), (68, Str.ofString "_law_under", [Str.ofString "book", Str.ofString "number"], true), (69, Str.ofString "_law_taken", [Str.ofString "book", Str.ofString "number"], true), (70, Str.ofString "_law_stands", [Str.ofString "book", Str.ofString "number"], true), (71, Str.ofString "_law_rests", [Str.ofString "book", Str.ofString "number"], true), (72, Str.ofString "_law_one", [Str.ofString "book"], true), (73, Str.ofString "law", [Str.ofString "script"], false)]
def cons : List (Str × T) := [(Str.ofString "DEEPEST", c_DEEPEST), (Str.ofString "LETTERS", c_LETTERS), (Str.ofString "NAME_SIGNS", c_NAME_SIGNS), (Str.ofString "MOST_SIGNS", c_MOST_SIGNS), (Str.ofString "NOTHING", c_NOTHING), (Str.ofString "NONE", c_NONE), (Str.ofString "WORDS", c_WORDS), (Str.ofString "MOST_KNOTS_sentences", c_MOST_KNOTS_sentences), (Str.ofString "MOST_DEEP_sentences", c_MOST_DEEP_sentences), (Str.ofString "MOST_KNOTS_terms", c_MOST_KNOTS_terms), (Str.ofString "MOST_DEEP_terms", c_MOST_DEEP_terms), (Str.ofString "MOST_HOLE", c_MOST_HOLE), (Str.ofString "MOST_ENTRIES", c_MOST_ENTRIES)]
def dics : List (Str × List (S × T)) := [(Str.ofString "LENGTHS", d_LENGTHS), (Str.ofString "CHILD_PLACES", d_CHILD_PLACES), (Str.ofString "BINDER_PLACES", d_BINDER_PLACES), (Str.ofString "LABEL_PLACES", d_LABEL_PLACES), (Str.ofString "SENTENCE_PLACES", d_SENTENCE_PLACES)]
def frs : List Str := [Str.ofString "len", Str.ofString "isinstance", Str.ofString "int", Str.ofString "str", Str.ofString "tuple", Str.ofString "list", Str.ofString "bool", Str.ofString "sorted", Str.ofString "all", Str.ofString "any", Str.ofString "sum", Str.ofString "max", Str.ofString "min", Str.ofString "range", Str.ofString "reversed", Str.ofString "enumerate", Str.ofString "zip", Str.ofString "dict", Str.ofString "set", Str.ofString "repr", Str.ofString "ord", Str.ofString "super"]
section
variable {P : Program} {w : World} {K : PySem.W.Frag} {mg : Str → Option Value} {base : Heap} {k : Nat} {f : Addr} {fd : FuncData}
abbrev Fa (P : Program) (w : World) (K : PySem.W.Frag) (mg : Str → Option Value) (base : Heap) (k : Nat) : Prop := Facts tab cons dics frs P w K mg base (run ft k) k
abbrev Fd (K : PySem.W.Frag) (x : Str) (i : Nat) (f : Addr) (fd : FuncData) : Prop := FunD K x x (defArgs (top i)) (defBody (top i)) (defScope (top i)) [] [] f fd
theorem S0 : FnScope [Str.ofString "value"] [Str.ofString "value"] (defScope (top 9)) := ⟨rfl, rfl, rfl, by decide +kernel, rfl, by decide +kernel, by decide +kernel⟩
theorem f0 (A : Fa P w K mg base k) (F : Fd K (Str.ofString "is_number") 9 f fd) : FnOk P w K mg base CX0 (k + 1) f fd [Str.ofString "value"] (spF K (run ft (k + 1)) 0 true 1) :=
  fn_k k_is_number .pure true F S0 rfl (by decide) (by decide) fun cdv _ outer s H E g0 H0 hr => (zOne (sRet1 (pAnd (fIsi1 .int (v 0) (A.fre 1 _ rfl) (A.fre 2 _ rfl)) (pOne (pNot (fIsi1 .bool (v 0) (A.fre 1 _ rfl) (A.fre 6 _ rfl)))))))
theorem S1 : FnScope [Str.ofString "value", Str.ofString "low", Str.ofString "high"] [Str.ofString "value", Str.ofString "low", Str.ofString "high"] (defScope (top 10)) := ⟨rfl, rfl, rfl, by decide +kernel, rfl, by decide +kernel, by decide +kernel⟩
theorem f1 (A : Fa P w K mg base k) (F : Fd K (Str.ofString "in_range") 10 f fd) : FnOk P w K mg base CX0 (k + 1) f fd [Str.ofString "value", Str.ofString "low", Str.ofString "high"] (spF K (run ft (k + 1)) 1 true 3) :=
  fn_k k_in_range .pure true F S1 rfl (by decide) (by decide) fun cdv _ outer s H E g0 H0 hr => (zOne (sRet1 (pAnd (pOwn (pC (A.cal 0 _ _ _ rfl) hr (pCons (v 0) pNil))) (pOne (pChain (o_le) (o_le) (v 1) (v 0) (v 2))))))
theorem S2 : FnScope [Str.ofString "value", Str.ofString "sign"] [Str.ofString "value"] (defScope (top 11)) := ⟨rfl, rfl, rfl, by decide +kernel, rfl, by decide +kernel, by decide +kernel⟩
theorem f2 (A : Fa P w K mg base k) (F : Fd K (Str.ofString "is_name") 11 f fd) : FnOk P w K mg base CX0 (k + 1) f fd [Str.ofString "value"] (spF K (run ft (k + 1)) 2 true 1) :=
  fn_k k_is_name .pure true F S2 rfl (by decide) (by decide) fun cdv _ outer s H E g0 H0 hr => (zCons (sIf' (PW.pt (wOr (tNot' (tTruth (fIsi1 .str (v 0) (A.fre 1 _ rfl) (A.fre 3 _ rfl)))) (wOr1 (tNot' (tChain' (o_le) (o_le) (pInt) (fLen' (v 0) (A.fre 0 _ rfl)) (kN (A.con 3 _ _ rfl))))))) (zOne (sRet1 (pBl))) z0) (zCons (sIf' (cNotIn (pIx (rm1 hr) (v 0) (pInt)) (kN (A.con 1 _ _ rfl)) hr) (zOne (sRet1 (pBl))) z0) (zCons (sF (pSeq (v 0)) (g1 1 S2.nd) (zOne (sIf' (cNotIn (v 1) (kN (A.con 2 _ _ rfl)) hr) (zOne (sRet1 (pBl))) z0))) (zOne (sRet1 (pBl))))))
theorem S3 : FnScope [Str.ofString "value"] [Str.ofString "value"] (defScope (top 12)) := ⟨rfl, rfl, rfl, by decide +kernel, rfl, by decide +kernel, by decide +kernel⟩
theorem f3 (A : Fa P w K mg base k) (F : Fd K (Str.ofString "is_sequence") 12 f fd) : FnOk P w K mg base CX0 (k + 1) f fd [Str.ofString "value"] (spF K (run ft (k + 1)) 3 true 1) :=
  fn_k k_is_sequence .pure true F S3 rfl (by decide) (by decide) fun cdv _ outer s H E g0 H0 hr => (zOne (sRet1 (fIsi2 (y := .tuple) (z := .list) (v 0) (A.fre 1 _ rfl) (A.fre 4 _ rfl) (A.fre 5 _ rfl))))
theorem S4 : FnScope [Str.ofString "value", Str.ofString "level", Str.ofString "_", Str.ofString "below", Str.ofString "part"] [Str.ofString "value"] (defScope (top 13)) := ⟨rfl, rfl, rfl, by decide +kernel, rfl, by decide +kernel, by decide +kernel⟩
theorem f4 (A : Fa P w K mg base k) (F : Fd K (Str.ofString "is_too_deep") 13 f fd) : FnOk P w K mg base CX0 (k + 1) f fd [Str.ofString "value"] (spF K (run ft (k + 1)) 4 true 1) :=
  fn_k k_is_too_deep .pure true F S4 rfl (by decide) (by decide) fun cdv _ outer s H E g0 H0 hr => (zCons (a1 1 S4.nd (pOwn (pLst (pCons (v 0) pNil)))) (zCons (sF (jR1 (A.fre 13 _ rfl) (kN (A.con 0 _ _ rfl))) (g1 2 S4.nd) (zCons (a2 3 S4.nd (pLst pNil)) (zCons (sF (pSeq (v 1)) (g1 4 S4.nd) (zOne (sIf' (tTruth (pOwn (pC (A.cal 3 _ _ _ rfl) hr (pCons (v 4) pNil)))) (zOne (mExt 3 (pOwn (fList' (v 4) (A.fre 5 _ rfl))))) z0))) (zCons (sIf' (tNot' (tTruth (vb 3))) (zOne (sRet1 (pBl))) z0) (zOne (sFrz [3] (a1 1 S4.nd (v 3)))))))) (zOne (sRet1 (pBl)))))
theorem S5 : FnScope [Str.ofString "value", Str.ofString "done", Str.ofString "waiting", Str.ofString "part", Str.ofString "is_ripe", Str.ofString "start", Str.ofString "made", Str.ofString "inner"] [Str.ofString "value"] (defScope (top 14)) := ⟨rfl, rfl, rfl, by decide +kernel, rfl, by decide +kernel, by decide +kernel⟩
theorem f5 (A : Fa P w K mg base k) (F : Fd K (Str.ofString "frozen") 14 f fd) : FnOk P w K mg base CX0 (k + 1) f fd [Str.ofString "value"] (spF K (run ft (k + 1)) 5 true 1) :=
  fn_k k_frozen .pure true F S5 rfl (by decide) (by decide) fun cdv _ outer s H E g0 H0 hr => (zCons (a2 1 S5.nd (pLst pNil)) (zCons (a2 2 S5.nd (pLst (pCons (pTup (pCons (v 0) (pCons (pBl) pNil))) pNil))) (zCons (sW (tTruth (vb 2)) (zCons (mPopT 2 (gM (gC 3 S5.nd (gC 4 S5.nd gN)))) (zOne (sIf' (tNot' (tTruth (pOwn (pC (A.cal 3 _ _ _ rfl) hr (pCons (v 3) pNil))))) (zOne (mApp 1 (v 3))) (zOne (sIf' (tTruth (v 4)) (zCons (a1 5 S5.nd (bSub (fLen' (vb 1) (A.fre 0 _ rfl)) (fLen' (v 3) (A.fre 0 _ rfl)))) (zCons (a1 6 S5.nd (fTuple' (pOwn (pSl (vb 1) (pPart1 (v 5)) (pPart0))) (A.fre 4 _ rfl))) (zCons (mDel 1 (v 5)) (zOne (mApp 1 (v 6)))))) (zCons (mApp 2 (pTup (pCons (v 3) (pCons (pBl) pNil)))) (zOne (sF (jRev (A.fre 14 _ rfl) (v 3)) (g1 7 S5.nd) (zOne (mApp 2 (pTup (pCons (v 7) (pCons (pBl) pNil)))))))))))))) (zOne (sRet1 (pIx (rm1 hr) (vb 1) (pInt)))))))
theorem S6 : FnScope [Str.ofString "value"] [Str.ofString "value"] (defScope (top 15)) := ⟨rfl, rfl, rfl, by decide +kernel, rfl, by decide +kernel, by decide +kernel⟩
theorem f6 (A : Fa P w K mg base k) (F : Fd K (Str.ofString "handed") 15 f fd) : FnOk P w K mg base CX0 (k + 1) f fd [Str.ofString "value"] (spF K (run ft (k + 1)) 6 true 1) :=
  fn_k k_handed .pure true F S6 rfl (by decide) (by decide) fun cdv _ outer s H E g0 H0 hr => (zCons (sIf' (tTruth (pOwn (pC (A.cal 4 _ _ _ rfl) hr (pCons (v 0) pNil)))) (zOne (sRet1 (kN (A.con 4 _ _ rfl)))) z0) (zOne (sRet2 (pC (A.cal 5 _ _ _ rfl) hr (pCons (v 0) pNil)))))
theorem S7 : FnScope [Str.ofString "value", Str.ofString "low", Str.ofString "high", Str.ofString "at"] [Str.ofString "value", Str.ofString "low", Str.ofString "high", Str.ofString "at"] (defScope (top 16)) := ⟨rfl, rfl, rfl, by decide +kernel, rfl, by decide +kernel, by decide +kernel⟩
theorem f7 (A : Fa P w K mg base k) (F : Fd K (Str.ofString "number_given") 16 f fd) : FnOk P w K mg base CX0 (k + 1) f fd [Str.ofString "value", Str.ofString "low", Str.ofString "high", Str.ofString "at"] (spF K (run ft (k + 1)) 7 true 4) :=
  fn_k k_number_given .pure true F S7 rfl (by decide) (by decide) fun cdv _ outer s H E g0 H0 hr => (zCons (sIf' (tNot' (tTruth (pOwn (pC (A.cal 1 _ _ _ rfl) hr (pCons (v 0) (pCons (v 1) (pCons (v 2) pNil))))))) (zOne (sNever)) z0) (zOne (sRet1 (v 0))))
theorem S8 : FnScope [Str.ofString "value", Str.ofString "room", Str.ofString "one", Str.ofString "other"] [Str.ofString "value", Str.ofString "room"] (defScope (top 22)) := ⟨rfl, rfl, rfl, by decide +kernel, rfl, by decide +kernel, by decide +kernel⟩
theorem f8 (A : Fa P w K mg base k) (F : Fd K (Str.ofString "knots_within") 22 f fd) : FnOk P w K mg base CX0 (k + 1) f fd [Str.ofString "value", Str.ofString "room"] (spF K (run ft (k + 1)) 8 true 2) :=
  fn_k k_knots_within .pure true F S8 rfl (by decide) (by decide) fun cdv _ outer s H E g0 H0 hr => (zCons (sIf' (cEq (v 1) (pInt) hr) (zOne (sRet1 (pInt))) z0) (zCons (sIf' (PW.pt (wOr (tTruth (pOwn (pC (A.cal 2 _ _ _ rfl) hr (pCons (v 0) pNil)))) (wOr1 (cEq (v 0) (kN (A.con 5 _ _ rfl)) hr)))) (zOne (sRet1 (pInt))) z0) (zCons (sIf' (PW.pt (wOr (tNot' (tTruth (fIsi1 .tuple (v 0) (A.fre 1 _ rfl) (A.fre 4 _ rfl)))) (wOr (cNe (fLen' (v 0) (A.fre 0 _ rfl)) (pInt) hr) (wOr1 (cNotIn (pIx (rm1 hr) (v 0) (pInt)) (kN (A.con 6 _ _ rfl)) hr))))) (zOne (sRet1 (pInt))) z0) (zCons (a1 2 S8.nd (pOwn (pC (A.cal 8 _ _ _ rfl) hr (pCons (pIx (rm1 hr) (v 0) (pInt)) (pCons (bSub (v 1) (pInt)) pNil))))) (zCons (sIf' (cEq (v 2) (pInt) hr) (zOne (sRet1 (pInt))) z0) (zCons (a1 3 S8.nd (pOwn (pC (A.cal 8 _ _ _ rfl) hr (pCons (pIx (rm1 hr) (v 0) (pInt)) (pCons (bSub (v 1) (pInt)) pNil))))) (zCons (sIf' (cEq (v 3) (pInt) hr) (zOne (sRet1 (pInt))) z0) (zOne (sRet2 (bAdd (pOwn (bAdd (v 2) (v 3))) (pInt)))))))))))
theorem S9 : FnScope [Str.ofString "value"] [Str.ofString "value"] (defScope (top 23)) := ⟨rfl, rfl, rfl, by decide +kernel, rfl, by decide +kernel, by decide +kernel⟩
theorem f9 (A : Fa P w K mg base k) (F : Fd K (Str.ofString "is_sentence_value") 23 f fd) : FnOk P w K mg base CX0 (k + 1) f fd [Str.ofString "value"] (spF K (run ft (k + 1)) 9 true 1) :=
  fn_k k_is_sentence_value .pure true F S9 rfl (by decide) (by decide) fun cdv _ outer s H E g0 H0 hr => (zOne (sRet1 (pChain (o_le) (o_le) (pInt) (pOwn (pC (A.cal 8 _ _ _ rfl) hr (pCons (v 0) (pCons (kN (A.con 8 _ _ rfl)) pNil)))) (kN (A.con 7 _ _ rfl)))))
theorem S10 : FnScope [Str.ofString "sentence"] [Str.ofString "sentence"] (defScope (top 24)) := ⟨rfl, rfl, rfl, by decide +kernel, rfl, by decide +kernel, by decide +kernel⟩
theorem f10 (A : Fa P w K mg base k) (F : Fd K (Str.ofString "knots_of") 24 f fd) : FnOk P w K mg base CX0 (k + 1) f fd [Str.ofString "sentence"] (spF K (run ft (k + 1)) 10 true 1) :=
  fn_k k_knots_of .pure true F S10 rfl (by decide) (by decide) fun cdv _ outer s H E g0 H0 hr => (zCons (sIf' (PW.pt (wOr (tTruth (fIsi1 .str (v 0) (A.fre 1 _ rfl) (A.fre 3 _ rfl))) (wOr1 (cEq (v 0) (kN (A.con 5 _ _ rfl)) hr)))) (zOne (sRet1 (pInt))) z0) (zOne (sRet2 (bAdd (pOwn (bAdd (pOwn (pC (A.cal 10 _ _ _ rfl) hr (pCons (pIx (rm1 hr) (v 0) (pInt)) pNil))) (pOwn (pC (A.cal 10 _ _ _ rfl) hr (pCons (pIx (rm1 hr) (v 0) (pInt)) pNil))))) (pInt)))))
theorem S11 : FnScope [Str.ofString "sentence"] [Str.ofString "sentence"] (defScope (top 25)) := ⟨rfl, rfl, rfl, by decide +kernel, rfl, by decide +kernel, by decide +kernel⟩
theorem f11 (A : Fa P w K mg base k) (F : Fd K (Str.ofString "deep_of") 25 f fd) : FnOk P w K mg base CX0 (k + 1) f fd [Str.ofString "sentence"] (spF K (run ft (k + 1)) 11 true 1) :=
  fn_k k_deep_of .pure true F S11 rfl (by decide) (by decide) fun cdv _ outer s H E g0 H0 hr => (zCons (sIf' (PW.pt (wOr (tTruth (fIsi1 .str (v 0) (A.fre 1 _ rfl) (A.fre 3 _ rfl))) (wOr1 (cEq (v 0) (kN (A.con 5 _ _ rfl)) hr)))) (zOne (sRet1 (pInt))) z0) (zOne (sRet2 (bAdd (fMax2' (pOwn (pC (A.cal 11 _ _ _ rfl) hr (pCons (pIx (rm1 hr) (v 0) (pInt)) pNil))) (pOwn (pC (A.cal 11 _ _ _ rfl) hr (pCons (pIx (rm1 hr) (v 0) (pInt)) pNil))) (A.fre 11 _ rfl)) (pInt)))))
theorem S12 : FnScope [Str.ofString "sentence"] [Str.ofString "sentence"] (defScope (top 26)) := ⟨rfl, rfl, rfl, by decide +kernel, rfl, by decide +kernel, by decide +kernel⟩
theorem f12 (A : Fa P w K mg base k) (F : Fd K (Str.ofString "fits") 26 f fd) : FnOk P w K mg base CX0 (k + 1) f fd [Str.ofString "sentence"] (spF K (run ft (k + 1)) 12 true 1) :=
  fn_k k_fits .pure true F S12 rfl (by decide) (by decide) fun cdv _ outer s H E g0 H0 hr => (zOne (sRet1 (pAnd (eLe (pOwn (pC (A.cal 11 _ _ _ rfl) hr (pCons (v 0) pNil))) (kN (A.con 8 _ _ rfl)) hr) (pOne (eLe (pOwn (pC (A.cal 10 _ _ _ rfl) hr (pCons (v 0) pNil))) (kN (A.con 7 _ _ rfl)) hr)))))
theorem S13 : FnScope [Str.ofString "context", Str.ofString "label", Str.ofString "one", Str.ofString "sentence"] [Str.ofString "context", Str.ofString "label"] (defScope (top 27)) := ⟨rfl, rfl, rfl, by decide +kernel, rfl, by decide +kernel, by decide +kernel⟩
theorem f13 (A : Fa P w K mg base k) (F : Fd K (Str.ofString "sentence_of") 27 f fd) : FnOk P w K mg base CX0 (k + 1) f fd [Str.ofString "context", Str.ofString "label"] (spF K (run ft (k + 1)) 13 true 2) :=
  fn_k k_sentence_of .pure true F S13 rfl (by decide) (by decide) fun cdv _ outer s H E g0 H0 hr => (zCons (sF (pSeq (v 0)) (gM (gC 2 S13.nd (gC 3 S13.nd gN))) (zOne (sIf' (cEq (v 2) (v 1) hr) (zOne (sRet1 (v 3))) z0))) (zOne (sRet1 (pNon))))
theorem S14 : FnScope [Str.ofString "context", Str.ofString "label", Str.ofString "sentence", Str.ofString "rows", Str.ofString "one", Str.ofString "old"] [Str.ofString "context", Str.ofString "label", Str.ofString "sentence"] (defScope (top 28)) := ⟨rfl, rfl, rfl, by decide +kernel, rfl, by decide +kernel, by decide +kernel⟩
theorem f14 (A : Fa P w K mg base k) (F : Fd K (Str.ofString "with_label") 28 f fd) : FnOk P w K mg base CX0 (k + 1) f fd [Str.ofString "context", Str.ofString "label", Str.ofString "sentence"] (spF K (run ft (k + 1)) 14 true 3) :=
  fn_k k_with_label .pure true F S14 rfl (by decide) (by decide) fun cdv _ outer s H E g0 H0 hr => (zCons (sIf' (cIs (pOwn (pC (A.cal 13 _ _ _ rfl) hr (pCons (v 0) (pCons (v 1) pNil)))) (pNon) hr) (zOne (sRet2 (bAdd (v 0) (pTup (pCons (pTup (pCons (v 1) (pCons (v 2) pNil))) pNil))))) z0) (zCons (a2 3 S14.nd (pLst pNil)) (zCons (sF (pSeq (v 0)) (gM (gC 4 S14.nd (gC 5 S14.nd gN))) (zOne (sIf' (cEq (v 4) (v 1) hr) (zOne (mApp 3 (pTup (pCons (v 4) (pCons (v 2) pNil))))) (zOne (mApp 3 (pTup (pCons (v 4) (pCons (v 5) pNil)))))))) (zOne (sRet1 (fTuple' (vb 3) (A.fre 4 _ rfl)))))))
theorem S15 : FnScope [Str.ofString "value", Str.ofString "place"] [Str.ofString "value"] (defScope (top 38)) := ⟨rfl, rfl, rfl, by decide +kernel, rfl, by decide +kernel, by decide +kernel⟩
theorem f15 (A : Fa P w K mg base k) (F : Fd K (Str.ofString "has_labels_and_sentences") 38 f fd) : FnOk P w K mg base CX0 (k + 1) f fd [Str.ofString "value"] (spF K (run ft (k + 1)) 15 true 1) :=
  fn_k k_has_labels_and_sentences .pure true F S15 rfl (by decide) (by decide) fun cdv _ outer s H E g0 H0 hr => (zCons (sF (pSeq (dIx (A.dic 3 _ _ rfl) (pIx (rm1 hr) (v 0) (pInt)))) (g1 1 S15.nd) (zOne (sIf' (tNot' (tTruth (pOwn (pC (A.cal 2 _ _ _ rfl) hr (pCons (pIx (rm1 hr) (v 0) (v 1)) pNil))))) (zOne (sRet1 (pBl))) z0))) (zCons (sF (pSeq (dIx (A.dic 4 _ _ rfl) (pIx (rm1 hr) (v 0) (pInt)))) (g1 1 S15.nd) (zOne (sIf' (tNot' (tTruth (pOwn (pC (A.cal 9 _ _ _ rfl) hr (pCons (pIx (rm1 hr) (v 0) (v 1)) pNil))))) (zOne (sRet1 (pBl))) z0))) (zOne (sRet1 (pBl)))))
theorem S16 : FnScope [Str.ofString "value", Str.ofString "room", Str.ofString "lets_holes", Str.ofString "total", Str.ofString "place", Str.ofString "many"] [Str.ofString "value", Str.ofString "room", Str.ofString "lets_holes"] (defScope (top 39)) := ⟨rfl, rfl, rfl, by decide +kernel, rfl, by decide +kernel, by decide +kernel⟩
theorem f16 (A : Fa P w K mg base k) (F : Fd K (Str.ofString "term_knots_within") 39 f fd) : FnOk P w K mg base CX0 (k + 1) f fd [Str.ofString "value", Str.ofString "room", Str.ofString "lets_holes"] (spF K (run ft (k + 1)) 16 true 3) :=
  fn_k k_term_knots_within .pure true F S16 rfl (by decide) (by decide) fun cdv _ outer s H E g0 H0 hr => (zCons (sIf' (PW.pt (wOr (cEq (v 1) (pInt) hr) (wOr (tNot' (tTruth (fIsi1 .tuple (v 0) (A.fre 1 _ rfl) (A.fre 4 _ rfl)))) (wOr (cLt (fLen' (v 0) (A.fre 0 _ rfl)) (pInt) hr) (wOr1 (tNot' (tTruth (fIsi1 .str (pIx (rm1 hr) (v 0) (pInt)) (A.fre 1 _ rfl) (A.fre 3 _ rfl))))))))) (zOne (sRet1 (pInt))) z0) (zCons (sIf' (cEq (pIx (rm1 hr) (v 0) (pInt)) (pStr (by kernel_rfl)) hr) (zCons (sIf' (PW.pt (wAnd (tTruth (v 2)) (wAnd (cEq (fLen' (v 0) (A.fre 0 _ rfl)) (pInt) hr) (wAnd1 (tTruth (pOwn (pC (A.cal 1 _ _ _ rfl) hr (pCons (pIx (rm1 hr) (v 0) (pInt)) (pCons (pInt) (pCons (kN (A.con 11 _ _ rfl)) pNil)))))))))) (zOne (sRet1 (pInt))) z0) (zOne (sRet1 (pInt)))) z0) (zCons (sIf' (PW.pt (wOr (dNotIn (A.dic 0 _ _ rfl) (pIx (rm1 hr) (v 0) (pInt))) (wOr (cNe (fLen' (v 0) (A.fre 0 _ rfl)) (dIx (A.dic 0 _ _ rfl) (pIx (rm1 hr) (v 0) (pInt))) hr) (wOr1 (tNot' (tTruth (pOwn (pC (A.cal 15 _ _ _ rfl) hr (pCons (v 0) pNil))))))))) (zOne (sRet1 (pInt))) z0) (zCons (a1 3 S16.nd (pInt)) (zCons (sF (pSeq (dIx (A.dic 1 _ _ rfl) (pIx (rm1 hr) (v 0) (pInt)))) (g1 4 S16.nd) (zCons (a1 5 S16.nd (pOwn (pC (A.cal 16 _ _ _ rfl) hr (pCons (pIx (rm1 hr) (v 0) (v 4)) (pCons (bSub (v 1) (pInt)) (pCons (v 2) pNil)))))) (zCons (sIf' (cEq (v 5) (pInt) hr) (zOne (sRet1 (pInt))) z0) (zOne (aPlus 3 S16.nd (v 5)))))) (zOne (sRet1 (v 3))))))))
theorem S17 : FnScope [Str.ofString "value"] [Str.ofString "value"] (defScope (top 40)) := ⟨rfl, rfl, rfl, by decide +kernel, rfl, by decide +kernel, by decide +kernel⟩
theorem f17 (A : Fa P w K mg base k) (F : Fd K (Str.ofString "is_term_value") 40 f fd) : FnOk P w K mg base CX0 (k + 1) f fd [Str.ofString "value"] (spF K (run ft (k + 1)) 17 true 1) :=
  fn_k k_is_term_value .pure true F S17 rfl (by decide) (by decide) fun cdv _ outer s H E g0 H0 hr => (zOne (sRet1 (pChain (o_le) (o_le) (pInt) (pOwn (pC (A.cal 16 _ _ _ rfl) hr (pCons (v 0) (pCons (kN (A.con 10 _ _ rfl)) (pCons (pBl) pNil))))) (kN (A.con 9 _ _ rfl)))))
theorem S18 : FnScope [Str.ofString "term", Str.ofString "labels", Str.ofString "place"] [Str.ofString "term"] (defScope (top 41)) := ⟨rfl, rfl, rfl, by decide +kernel, rfl, by decide +kernel, by decide +kernel⟩
theorem f18 (A : Fa P w K mg base k) (F : Fd K (Str.ofString "bound_labels") 41 f fd) : FnOk P w K mg base CX0 (k + 1) f fd [Str.ofString "term"] (spF K (run ft (k + 1)) 18 true 1) :=
  fn_k k_bound_labels .pure true F S18 rfl (by decide) (by decide) fun cdv _ outer s H E g0 H0 hr => (zCons (a2 1 S18.nd (pLst pNil)) (zCons (sF (pSeq (dIx (A.dic 2 _ _ rfl) (pIx (rm1 hr) (v 0) (pInt)))) (g1 2 S18.nd) (zOne (sIf' (cEq (v 2) (pInt) hr) (zOne (mApp 1 (pNon))) (zOne (mApp 1 (pIx (rm1 hr) (v 0) (v 2))))))) (zOne (sRet1 (fTuple' (vb 1) (A.fre 4 _ rfl))))))
theorem S19 : FnScope [Str.ofString "term", Str.ofString "bound", Str.ofString "found", Str.ofString "labels", Str.ofString "k", Str.ofString "place"] [Str.ofString "term", Str.ofString "bound", Str.ofString "found"] (defScope (top 42)) := ⟨rfl, rfl, rfl, by decide +kernel, rfl, by decide +kernel, by decide +kernel⟩
theorem f19 (A : Fa P w K mg base k) (F : Fd K (Str.ofString "add_free") 42 f fd) : FnOk P w K mg base CX0 (k + 1) f fd [Str.ofString "term", Str.ofString "bound", Str.ofString "found"] (spF K (run ft (k + 1)) 19 false 3) :=
  fn_k k_add_free .impure false F S19 rfl (by decide) (by decide) fun cdv _ outer s H E g0 H0 hr => (zCons (sIf' (cEq (pIx (rm1 hr) (v 0) (pInt)) (pStr (by kernel_rfl)) hr) (zCons (sIf' (cNotIn (pIx (rm1 hr) (v 0) (pInt)) (v 1) hr) (zOne (sHput1 (rm1 hr) (v 2) (pIx (rm1 hr) (v 0) (pInt)) (pBl))) z0) (zOne (sRet0))) z0) (zCons (a1 3 S19.nd (pOwn (pC (A.cal 18 _ _ _ rfl) hr (pCons (v 0) pNil) rfl rfl (fun _ => rfl)))) (zOne (sF (jNum (A.fre 15 _ rfl) (dIx (A.dic 1 _ _ rfl) (pIx (rm1 hr) (v 0) (pInt)))) (gM (gC 4 S19.nd (gC 5 S19.nd gN))) (zOne (sIf' (cIs (pIx (rm1 hr) (v 3) (v 4)) (pNon) hr) (zOne (sDrop1 (pC (A.cal 19 _ _ _ rfl) hr (pCons (pIx (rm1 hr) (v 0) (v 5)) (pCons (v 1) (pCons (v 2) pNil)))))) (zOne (sDrop1 (pC (A.cal 19 _ _ _ rfl) hr (pCons (pIx (rm1 hr) (v 0) (v 5)) (pCons (pOwn (bAdd (v 1) (pTup (pCons (pIx (rm1 hr) (v 3) (v 4)) pNil)))) (pCons (v 2) pNil))))))))))))
theorem S20 : FnScope [Str.ofString "term", Str.ofString "found"] [Str.ofString "term"] (defScope (top 43)) := ⟨rfl, rfl, rfl, by decide +kernel, rfl, by decide +kernel, by decide +kernel⟩
theorem f20 (A : Fa P w K mg base k) (F : Fd K (Str.ofString "free_in") 43 f fd) : FnOk P w K mg base CX0 (k + 1) f fd [Str.ofString "term"] (spF K (run ft (k + 1)) 20 true 1) :=
  fn_o k_free_in F S20 rfl (by decide) fun cdv _ outer s H E g0 H0 hr => (zCons (a1 1 S20.nd (pNew (pDic))) (zCons (sDrop1 (pC (A.cal 19 _ _ _ rfl) hr (pCons (v 0) (pCons (pTup pNil) (pCons (v 1) pNil))))) (zOne (sRet1 (fTuple' (pOwn (fSorted' (v 1) (A.fre 7 _ rfl))) (A.fre 4 _ rfl))))))
theorem S21 : FnScope [Str.ofString "sentence", Str.ofString "word"] [Str.ofString "sentence", Str.ofString "word"] (defScope (top 45)) := ⟨rfl, rfl, rfl, by decide +kernel, rfl, by decide +kernel, by decide +kernel⟩
theorem f21 (A : Fa P w K mg base k) (F : Fd K (Str.ofString "is_made_by") 45 f fd) : FnOk P w K mg base CX0 (k + 1) f fd [Str.ofString "sentence", Str.ofString "word"] (spF K (run ft (k + 1)) 21 true 2) :=
  fn_k k_is_made_by .pure true F S21 rfl (by decide) (by decide) fun cdv _ outer s H E g0 H0 hr => (zOne (sRet1 (pAnd (fIsi1 .tuple (v 0) (A.fre 1 _ rfl) (A.fre 4 _ rfl)) (pOne (eEq (pIx (rm1 hr) (v 0) (pInt)) (v 1) hr)))))
theorem S22 : FnScope [Str.ofString "sentence"] [Str.ofString "sentence"] (defScope (top 46)) := ⟨rfl, rfl, rfl, by decide +kernel, rfl, by decide +kernel, by decide +kernel⟩
theorem f22 (A : Fa P w K mg base k) (F : Fd K (Str.ofString "grown") 46 f fd) : FnOk P w K mg base CX0 (k + 1) f fd [Str.ofString "sentence"] (spF K (run ft (k + 1)) 22 true 1) :=
  fn_k k_grown .pure true F S22 rfl (by decide) (by decide) fun cdv _ outer s H E g0 H0 hr => (zCons (sIf' (tTruth (pOwn (pC (A.cal 12 _ _ _ rfl) hr (pCons (v 0) pNil)))) (zOne (sRet1 (pTup (pCons (v 0) (pCons (pStr (by kernel_rfl)) pNil))))) z0) (zOne (sRet1 (pTup (pCons (pNon) (pCons (pStr (by kernel_rfl)) pNil))))))
theorem S23 : FnScope [Str.ofString "term", Str.ofString "said", Str.ofString "word"] [Str.ofString "term", Str.ofString "said"] (defScope (top 47)) := ⟨rfl, rfl, rfl, by decide +kernel, rfl, by decide +kernel, by decide +kernel⟩
theorem f23 (A : Fa P w K mg base k) (F : Fd K (Str.ofString "concluded") 47 f fd) : FnOk P w K mg base CX0 (k + 1) f fd [Str.ofString "term", Str.ofString "said"] (spF K (run ft (k + 1)) 23 true 2) :=
  fn_k k_concluded .pure true F S23 rfl (by decide) (by decide) fun cdv _ outer s H E g0 H0 hr => (zCons (a1 2 S23.nd (pIx (rm1 hr) (v 0) (pInt))) (zCons (sIf' (cEq (v 2) (pStr (by kernel_rfl)) hr) (zOne (sRet2 (pC (A.cal 22 _ _ _ rfl) hr (pCons (pTup (pCons (pStr (by kernel_rfl)) (pCons (pIx (rm1 hr) (v 1) (pInt)) (pCons (pIx (rm1 hr) (v 1) (pInt)) pNil)))) pNil)))) z0) (zCons (sIf' (cEq (v 2) (pStr (by kernel_rfl)) hr) (zOne (sRet2 (pC (A.cal 22 _ _ _ rfl) hr (pCons (pTup (pCons (pStr (by kernel_rfl)) (pCons (pIx (rm1 hr) (v 0) (pInt)) (pCons (pIx (rm1 hr) (v 1) (pInt)) pNil)))) pNil)))) z0) (zCons (sIf' (cEq (v 2) (pStr (by kernel_rfl)) hr) (zOne (sRet2 (pC (A.cal 22 _ _ _ rfl) hr (pCons (pTup (pCons (pStr (by kernel_rfl)) (pCons (pIx (rm1 hr) (v 1) (pInt)) (pCons (pIx (rm1 hr) (v 0) (pInt)) pNil)))) pNil)))) z0) (zCons (sIf' (cEq (v 2) (pStr (by kernel_rfl)) hr) (zOne (sRet2 (pC (A.cal 22 _ _ _ rfl) hr (pCons (pTup (pCons (pStr (by kernel_rfl)) (pCons (pIx (rm1 hr) (v 0) (pInt)) (pCons (pIx (rm1 hr) (v 1) (pInt)) pNil)))) pNil)))) z0) (zCons (sIf' (cEq (v 2) (pStr (by kernel_rfl)) hr) (zCons (sIf' (cEq (pIx (rm1 hr) (v 1) (pInt)) (kN (A.con 5 _ _ rfl)) hr) (zOne (sRet1 (pTup (pCons (pIx (rm1 hr) (v 0) (pInt)) (pCons (pStr (by kernel_rfl)) pNil))))) z0) (zOne (sRet1 (pTup (pCons (pNon) (pCons (pStr (by kernel_rfl)) pNil)))))) z0) (zCons (sIf' (cEq (v 2) (pStr (by kernel_rfl)) hr) (zCons (sIf' (tNot' (tTruth (pOwn (pC (A.cal 21 _ _ _ rfl) hr (pCons (pIx (rm1 hr) (v 1) (pInt)) (pCons (pStr (by kernel_rfl)) pNil)))))) (zOne (sRet1 (pTup (pCons (pNon) (pCons (pStr (by kernel_rfl)) pNil))))) z0) (zCons (sIf' (cNe (pIx (rm1 hr) (v 1) (pInt)) (pIx (rm1 hr) (pIx (rm1 hr) (v 1) (pInt)) (pInt)) hr) (zOne (sRet1 (pTup (pCons (pNon) (pCons (pStr (by kernel_rfl)) pNil))))) z0) (zOne (sRet1 (pTup (pCons (pIx (rm1 hr) (pIx (rm1 hr) (v 1) (pInt)) (pInt)) (pCons (pStr (by kernel_rfl)) pNil))))))) z0) (zCons (sIf' (tNot' (tTruth (pOwn (pC (A.cal 21 _ _ _ rfl) hr (pCons (pIx (rm1 hr) (v 1) (pInt)) (pCons (pStr (by kernel_rfl)) pNil)))))) (zOne (sRet1 (pTup (pCons (pNon) (pCons (pStr (by kernel_rfl)) pNil))))) z0) (zCons (sIf' (cEq (v 2) (pStr (by kernel_rfl)) hr) (zOne (sRet1 (pTup (pCons (pIx (rm1 hr) (pIx (rm1 hr) (v 1) (pInt)) (pInt)) (pCons (pStr (by kernel_rfl)) pNil))))) z0) (zOne (sRet1 (pTup (pCons (pIx (rm1 hr) (pIx (rm1 hr) (v 1) (pInt)) (pInt)) (pCons (pStr (by kernel_rfl)) pNil))))))))))))))
theorem S24 : FnScope [Str.ofString "number", Str.ofString "fault"] [Str.ofString "number", Str.ofString "fault"] (defScope (top 48)) := ⟨rfl, rfl, rfl, by decide +kernel, rfl, by decide +kernel, by decide +kernel⟩
theorem f24 (A : Fa P w K mg base k) (F : Fd K (Str.ofString "farther") 48 f fd) : FnOk P w K mg base CX0 (k + 1) f fd [Str.ofString "number", Str.ofString "fault"] (spF K (run ft (k + 1)) 24 true 2) :=
  fn_k k_farther .pure true F S24 rfl (by decide) (by decide) fun cdv _ outer s H E g0 H0 hr => (zOne (sRet1 (pTup (pCons (pOwn (bAdd (pTup (pCons (v 0) pNil)) (pIx (rm1 hr) (v 1) (pInt)))) (pCons (pIx (rm1 hr) (v 1) (pInt)) pNil)))))
theorem S25 : FnScope [Str.ofString "context", Str.ofString "term", Str.ofString "said", Str.ofString "fault", Str.ofString "one", Str.ofString "other"] [Str.ofString "context", Str.ofString "term"] (defScope (top 49)) := ⟨rfl, rfl, rfl, by decide +kernel, rfl, by decide +kernel, by decide +kernel⟩
theorem f25 (A : Fa P w K mg base k) (F : Fd K (Str.ofString "told_of_cases") 49 f fd) : FnOk P w K mg base CX0 (k + 1) f fd [Str.ofString "context", Str.ofString "term"] (spF K (run ft (k + 1)) 25 true 2) :=
  fn_k k_told_of_cases .pure true F S25 rfl (by decide) (by decide) fun cdv _ outer s H E g0 H0 hr => (zCons (sUnp1 (pOwn (pC (A.cal 26 _ _ _ rfl) hr (pCons (v 0) (pCons (pIx (rm1 hr) (v 1) (pInt)) pNil)))) (gM (gC 2 S25.nd (gC 3 S25.nd gN)))) (zCons (sIf' (cIsNot (v 3) (pNon) hr) (zOne (sRet1 (pTup (pCons (pNon) (pCons (pOwn (pC (A.cal 24 _ _ _ rfl) hr (pCons (pInt) (pCons (v 3) pNil)))) pNil))))) z0) (zCons (sIf' (tNot' (tTruth (pOwn (pC (A.cal 21 _ _ _ rfl) hr (pCons (v 2) (pCons (pStr (by kernel_rfl)) pNil)))))) (zOne (sRet1 (pTup (pCons (pNon) (pCons (pTup (pCons (pTup pNil) (pCons (pStr (by kernel_rfl)) pNil))) pNil))))) z0) (zCons (sUnp1 (pOwn (pC (A.cal 26 _ _ _ rfl) hr (pCons (pOwn (pC (A.cal 14 _ _ _ rfl) hr (pCons (v 0) (pCons (pIx (rm1 hr) (v 1) (pInt)) (pCons (pIx (rm1 hr) (v 2) (pInt)) pNil))))) (pCons (pIx (rm1 hr) (v 1) (pInt)) pNil)))) (gM (gC 4 S25.nd (gC 3 S25.nd gN)))) (zCons (sIf' (cIsNot (v 3) (pNon) hr) (zOne (sRet1 (pTup (pCons (pNon) (pCons (pOwn (pC (A.cal 24 _ _ _ rfl) hr (pCons (pInt) (pCons (v 3) pNil)))) pNil))))) z0) (zCons (sUnp1 (pOwn (pC (A.cal 26 _ _ _ rfl) hr (pCons (pOwn (pC (A.cal 14 _ _ _ rfl) hr (pCons (v 0) (pCons (pIx (rm1 hr) (v 1) (pInt)) (pCons (pIx (rm1 hr) (v 2) (pInt)) pNil))))) (pCons (pIx (rm1 hr) (v 1) (pInt)) pNil)))) (gM (gC 5 S25.nd (gC 3 S25.nd gN)))) (zCons (sIf' (cIsNot (v 3) (pNon) hr) (zOne (sRet1 (pTup (pCons (pNon) (pCons (pOwn (pC (A.cal 24 _ _ _ rfl) hr (pCons (pInt) (pCons (v 3) pNil)))) pNil))))) z0) (zCons (sIf' (cNe (v 4) (v 5) hr) (zOne (sRet1 (pTup (pCons (pNon) (pCons (pTup (pCons (pTup pNil) (pCons (pStr (by kernel_rfl)) pNil))) pNil))))) z0) (zOne (sRet1 (pTup (pCons (v 4) (pCons (pNon) pNil)))))))))))))
theorem S26 : FnScope [Str.ofString "context", Str.ofString "term", Str.ofString "word", Str.ofString "sentence", Str.ofString "inner", Str.ofString "said", Str.ofString "k", Str.ofString "place", Str.ofString "fault", Str.ofString "why"] [Str.ofString "context", Str.ofString "term"] (defScope (top 50)) := ⟨rfl, rfl, rfl, by decide +kernel, rfl, by decide +kernel, by decide +kernel⟩
theorem f26 (A : Fa P w K mg base k) (F : Fd K (Str.ofString "told_of") 50 f fd) : FnOk P w K mg base CX0 (k + 1) f fd [Str.ofString "context", Str.ofString "term"] (spF K (run ft (k + 1)) 26 true 2) :=
  fn_k k_told_of .pure true F S26 rfl (by decide) (by decide) fun cdv _ outer s H E g0 H0 hr => (zCons (a1 2 S26.nd (pIx (rm1 hr) (v 1) (pInt))) (zCons (sIf' (cEq (v 2) (pStr (by kernel_rfl)) hr) (zOne (sRet2 (pC (A.cal 25 _ _ _ rfl) hr (pCons (v 0) (pCons (v 1) pNil))))) z0) (zCons (sIf' (cEq (v 2) (pStr (by kernel_rfl)) hr) (zCons (a1 3 S26.nd (pOwn (pC (A.cal 13 _ _ _ rfl) hr (pCons (v 0) (pCons (pIx (rm1 hr) (v 1) (pInt)) pNil))))) (zCons (sIf' (cIs (v 3) (pNon) hr) (zOne (sRet1 (pTup (pCons (pNon) (pCons (pTup (pCons (pTup pNil) (pCons (pStr (by kernel_rfl)) pNil))) pNil))))) z0) (zOne (sRet1 (pTup (pCons (v 3) (pCons (pNon) pNil))))))) z0) (zCons (a1 4 S26.nd (v 0)) (zCons (sIf' (cEq (v 2) (pStr (by kernel_rfl)) hr) (zOne (a1 4 S26.nd (pOwn (pC (A.cal 14 _ _ _ rfl) hr (pCons (v 0) (pCons (pIx (rm1 hr) (v 1) (pInt)) (pCons (pIx (rm1 hr) (v 1) (pInt)) pNil))))))) z0) (zCons (a2 5 S26.nd (pLst pNil)) (zCons (sF (jNum (A.fre 15 _ rfl) (dIx (A.dic 1 _ _ rfl) (v 2))) (gM (gC 6 S26.nd (gC 7 S26.nd gN))) (zCons (sUnp1 (pOwn (pC (A.cal 26 _ _ _ rfl) hr (pCons (v 4) (pCons (pIx (rm1 hr) (v 1) (v 7)) pNil)))) (gM (gC 3 S26.nd (gC 8 S26.nd gN)))) (zCons (sIf' (cIsNot (v 8) (pNon) hr) (zOne (sRet1 (pTup (pCons (pNon) (pCons (pOwn (pC (A.cal 24 _ _ _ rfl) hr (pCons (v 6) (pCons (v 8) pNil)))) pNil))))) z0) (zOne (mApp 5 (v 3)))))) (zCons (sFrz [5] (sUnp1 (pOwn (pC (A.cal 23 _ _ _ rfl) hr (pCons (v 1) (pCons (v 5) pNil)))) (gM (gC 3 S26.nd (gC 9 S26.nd gN))))) (zCons (sIf' (cIs (v 3) (pNon) hr) (zOne (sRet1 (pTup (pCons (pNon) (pCons (pTup (pCons (pTup pNil) (pCons (v 9) pNil))) pNil))))) z0) (zOne (sRet1 (pTup (pCons (v 3) (pCons (pNon) pNil))))))))))))))
theorem S27 : FnScope [Str.ofString "context", Str.ofString "term"] [Str.ofString "context", Str.ofString "term"] (defScope (top 51)) := ⟨rfl, rfl, rfl, by decide +kernel, rfl, by decide +kernel, by decide +kernel⟩
theorem f27 (A : Fa P w K mg base k) (F : Fd K (Str.ofString "bears") 51 f fd) : FnOk P w K mg base CX0 (k + 1) f fd [Str.ofString "context", Str.ofString "term"] (spF K (run ft (k + 1)) 27 true 2) :=
  fn_k k_bears .pure true F S27 rfl (by decide) (by decide) fun cdv _ outer s H E g0 H0 hr => (zOne (sRet1 (pIx (rm1 hr) (pOwn (pC (A.cal 26 _ _ _ rfl) hr (pCons (v 0) (pCons (v 1) pNil)))) (pInt))))
theorem S28 : FnScope [Str.ofString "value"] [Str.ofString "value"] (defScope (top 54)) := ⟨rfl, rfl, rfl, by decide +kernel, rfl, by decide +kernel, by decide +kernel⟩
theorem f28 (A : Fa P w K mg base k) (F : Fd K (Str.ofString "is_entry_value") 54 f fd) : FnOk P w K mg base CX0 (k + 1) f fd [Str.ofString "value"] (spF K (run ft (k + 1)) 28 true 1) :=
  fn_k k_is_entry_value .pure true F S28 rfl (by decide) (by decide) fun cdv _ outer s H E g0 H0 hr => (zCons (sIf' (PW.pt (wOr (tNot' (tTruth (fIsi1 .tuple (v 0) (A.fre 1 _ rfl) (A.fre 4 _ rfl)))) (wOr1 (cNe (fLen' (v 0) (A.fre 0 _ rfl)) (pInt) hr)))) (zOne (sRet1 (pBl))) z0) (zCons (sIf' (PW.pt (wOr (tNot' (tTruth (pOwn (pC (A.cal 2 _ _ _ rfl) hr (pCons (pIx (rm1 hr) (v 0) (pInt)) pNil))))) (wOr1 (tNot' (tTruth (pOwn (pC (A.cal 9 _ _ _ rfl) hr (pCons (pIx (rm1 hr) (v 0) (pInt)) pNil)))))))) (zOne (sRet1 (pBl))) z0) (zOne (sRet1 (pOr (eIs (pIx (rm1 hr) (v 0) (pInt)) (pNon) hr) (pOne (pOwn (pC (A.cal 17 _ _ _ rfl) hr (pCons (pIx (rm1 hr) (v 0) (pInt)) pNil)))))))))
theorem S29 : FnScope [Str.ofString "term", Str.ofString "names", Str.ofString "label"] [Str.ofString "term", Str.ofString "names"] (defScope (top 55)) := ⟨rfl, rfl, rfl, by decide +kernel, rfl, by decide +kernel, by decide +kernel⟩
theorem f29 (A : Fa P w K mg base k) (F : Fd K (Str.ofString "leans_within") 55 f fd) : FnOk P w K mg base CX0 (k + 1) f fd [Str.ofString "term", Str.ofString "names"] (spF K (run ft (k + 1)) 29 true 2) :=
  fn_k k_leans_within .pure true F S29 rfl (by decide) (by decide) fun cdv _ outer s H E g0 H0 hr => (zCons (sIf' (cIs (v 0) (pNon) hr) (zOne (sRet1 (pBl))) z0) (zOne (sRet1 (fAll' (pOwn (pComp rfl S29.nd (pSeq (pOwn (pC (A.cal 20 _ _ _ rfl) hr (pCons (v 0) pNil)))) (blkOk_by (own := [(Str.ofString "label", 2)]) (by kernel_rfl)) (fun _ _ _ _ _ => g1 2 S29.nd) (fun _ _ _ _ _ => ifs0) (fun _ _ _ _ _ => eIn (v 2) (v 1) hr))) (A.fre 8 _ rfl)))))
theorem S30 : FnScope [Str.ofString "value", Str.ofString "names", Str.ofString "entry"] [Str.ofString "value"] (defScope (top 56)) := ⟨rfl, rfl, rfl, by decide +kernel, rfl, by decide +kernel, by decide +kernel⟩
theorem f30 (A : Fa P w K mg base k) (F : Fd K (Str.ofString "is_book_value") 56 f fd) : FnOk P w K mg base CX0 (k + 1) f fd [Str.ofString "value"] (spF K (run ft (k + 1)) 30 true 1) :=
  fn_k k_is_book_value .pure true F S30 rfl (by decide) (by decide) fun cdv _ outer s H E g0 H0 hr => (zCons (sIf' (PW.pt (wOr (tNot' (tTruth (fIsi1 .tuple (v 0) (A.fre 1 _ rfl) (A.fre 4 _ rfl)))) (wOr1 (cGt (fLen' (v 0) (A.fre 0 _ rfl)) (kN (A.con 12 _ _ rfl)) hr)))) (zOne (sRet1 (pBl))) z0) (zCons (a2 1 S30.nd (pLst pNil)) (zCons (sF (pSeq (v 0)) (g1 2 S30.nd) (zCons (sIf' (PW.pt (wOr (tNot' (tTruth (pOwn (pC (A.cal 28 _ _ _ rfl) hr (pCons (v 2) pNil))))) (wOr (cIn (pIx (rm1 hr) (v 2) (pInt)) (vb 1) hr) (wOr1 (tNot' (tTruth (pCB (A.cal 29 _ _ _ rfl) hr (pCons (pIx (rm1 hr) (v 2) (pInt)) (pCons (vb 1) pNil))))))))) (zOne (sRet1 (pBl))) z0) (zOne (mApp 1 (pIx (rm1 hr) (v 2) (pInt)))))) (zOne (sRet1 (pBl))))))
theorem S31 : FnScope [Str.ofString "value", Str.ofString "at", Str.ofString "book"] [Str.ofString "value", Str.ofString "at"] (defScope (top 57)) := ⟨rfl, rfl, rfl, by decide +kernel, rfl, by decide +kernel, by decide +kernel⟩
theorem f31 (A : Fa P w K mg base k) (F : Fd K (Str.ofString "book_given") 57 f fd) : FnOk P w K mg base CX0 (k + 1) f fd [Str.ofString "value", Str.ofString "at"] (spF K (run ft (k + 1)) 31 true 2) :=
  fn_k k_book_given .pure true F S31 rfl (by decide) (by decide) fun cdv _ outer s H E g0 H0 hr => (zCons (a1 2 S31.nd (pOwn (pC (A.cal 6 _ _ _ rfl) hr (pCons (v 0) pNil)))) (zCons (sIf' (tNot' (tTruth (pOwn (pC (A.cal 30 _ _ _ rfl) hr (pCons (v 2) pNil))))) (zOne (sNever)) z0) (zOne (sRet1 (v 2)))))
theorem S32 : FnScope [Str.ofString "book", Str.ofString "number", Str.ofString "name", Str.ofString "sentence", Str.ofString "_"] [Str.ofString "book", Str.ofString "number"] (defScope (top 58)) := ⟨rfl, rfl, rfl, by decide +kernel, rfl, by decide +kernel, by decide +kernel⟩
theorem f32 (A : Fa P w K mg base k) (F : Fd K (Str.ofString "context_ahead") 58 f fd) : FnOk P w K mg base CX0 (k + 1) f fd [Str.ofString "book", Str.ofString "number"] (spF K (run ft (k + 1)) 32 true 2) :=
  fn_k k_context_ahead .pure true F S32 rfl (by decide) (by decide) fun cdv _ outer s H E g0 H0 hr => (zOne (sRet1 (fTuple' (pOwn (pComp rfl S32.nd (pSeq (pOwn (pSl (v 0) (pPart0) (pPart1 (v 1))))) (blkOk_by (own := [(Str.ofString "name", 2), (Str.ofString "sentence", 3), (Str.ofString "_", 4)]) (by kernel_rfl)) (fun _ _ _ _ _ => gM (gC 2 S32.nd (gC 3 S32.nd (gC 4 S32.nd gN)))) (fun _ _ _ _ _ => ifs0) (fun _ _ _ _ _ => pTup (pCons (v 2) (pCons (v 3) pNil))))) (A.fre 4 _ rfl))))
theorem S33 : FnScope [Str.ofString "book", Str.ofString "number", Str.ofString "term", Str.ofString "labels", Str.ofString "k"] [Str.ofString "book", Str.ofString "number"] (defScope (top 59)) := ⟨rfl, rfl, rfl, by decide +kernel, rfl, by decide +kernel, by decide +kernel⟩
theorem f33 (A : Fa P w K mg base k) (F : Fd K (Str.ofString "leaned_on") 59 f fd) : FnOk P w K mg base CX0 (k + 1) f fd [Str.ofString "book", Str.ofString "number"] (spF K (run ft (k + 1)) 33 true 2) :=
  fn_k k_leaned_on .pure true F S33 rfl (by decide) (by decide) fun cdv _ outer s H E g0 H0 hr => (zCons (a1 2 S33.nd (pIx (rm1 hr) (pIx (rm1 hr) (v 0) (v 1)) (pInt))) (zCons (sIf' (cIs (v 2) (pNon) hr) (zOne (sRet1 (pTup pNil))) z0) (zCons (a1 3 S33.nd (pOwn (pC (A.cal 20 _ _ _ rfl) hr (pCons (v 2) pNil)))) (zOne (sRet1 (fTuple' (pOwn (pComp rfl S33.nd (jR1 (A.fre 13 _ rfl) (v 1)) (blkOk_by (own := [(Str.ofString "k", 4)]) (by kernel_rfl)) (fun _ _ _ _ _ => g1 4 S33.nd) (fun _ _ _ _ _ => ifs1 (cIn (pIx (rm1 hr) (pIx (rm1 hr) (v 0) (v 4)) (pInt)) (v 3) hr)) (fun _ _ _ _ _ => v 4))) (A.fre 4 _ rfl)))))))
theorem S34 : FnScope [Str.ofString "book", Str.ofString "number", Str.ofString "marks", Str.ofString "k", Str.ofString "low", Str.ofString "_"] [Str.ofString "book", Str.ofString "number"] (defScope (top 60)) := ⟨rfl, rfl, rfl, by decide +kernel, rfl, by decide +kernel, by decide +kernel⟩
theorem f34 (A : Fa P w K mg base k) (F : Fd K (Str.ofString "unders") 60 f fd) : FnOk P w K mg base CX0 (k + 1) f fd [Str.ofString "book", Str.ofString "number"] (spF K (run ft (k + 1)) 34 true 2) :=
  fn_k k_unders .pure true F S34 rfl (by decide) (by decide) fun cdv _ outer s H E g0 H0 hr => (zCons (a2 2 S34.nd (pComp rfl S34.nd (pSeq (v 0)) (blkOk_by (own := [(Str.ofString "_", 5)]) (by kernel_rfl)) (fun _ _ _ _ _ => g1 5 S34.nd) (fun _ _ _ _ _ => ifs0) (fun _ _ _ _ _ => pBl))) (zCons (sF (pSeq (pOwn (pC (A.cal 33 _ _ _ rfl) hr (pCons (v 0) (pCons (v 1) pNil))))) (g1 3 S34.nd) (zOne (mPut 2 hr (v 3) (pBl)))) (zCons (sF (jR3 (A.fre 13 _ rfl) (bSub (v 1) (pInt)) (kM)) (g1 3 S34.nd) (zOne (sIf' (tTruth (pIx (rm1 hr) (vb 2) (v 3))) (zOne (sF (pSeq (pOwn (pC (A.cal 33 _ _ _ rfl) hr (pCons (v 0) (pCons (v 3) pNil))))) (g1 4 S34.nd) (zOne (mPut 2 hr (v 4) (pBl))))) z0))) (zOne (sRet1 (fTuple' (pOwn (pComp rfl S34.nd (jR1 (A.fre 13 _ rfl) (fLen' (v 0) (A.fre 0 _ rfl))) (blkOk_by (own := [(Str.ofString "k", 3)]) (by kernel_rfl)) (fun _ _ _ _ _ => g1 3 S34.nd) (fun _ _ _ _ _ => ifs1 (tTruth (pIx (rm1 hr) (vb 2) (v 3)))) (fun _ _ _ _ _ => v 3))) (A.fre 4 _ rfl)))))))
theorem S35 : FnScope [Str.ofString "book", Str.ofString "number", Str.ofString "k"] [Str.ofString "book", Str.ofString "number"] (defScope (top 61)) := ⟨rfl, rfl, rfl, by decide +kernel, rfl, by decide +kernel, by decide +kernel⟩
theorem f35 (A : Fa P w K mg base k) (F : Fd K (Str.ofString "overs") 61 f fd) : FnOk P w K mg base CX0 (k + 1) f fd [Str.ofString "book", Str.ofString "number"] (spF K (run ft (k + 1)) 35 true 2) :=
  fn_k k_overs .pure true F S35 rfl (by decide) (by decide) fun cdv _ outer s H E g0 H0 hr => (zOne (sRet1 (fTuple' (pOwn (pComp rfl S35.nd (jR1 (A.fre 13 _ rfl) (fLen' (v 0) (A.fre 0 _ rfl))) (blkOk_by (own := [(Str.ofString "k", 2)]) (by kernel_rfl)) (fun _ _ _ _ _ => g1 2 S35.nd) (fun _ _ _ _ _ => ifs1 (cIn (v 1) (pOwn (pC (A.cal 34 _ _ _ rfl) hr (pCons (v 0) (pCons (v 2) pNil)))) hr)) (fun _ _ _ _ _ => v 2))) (A.fre 4 _ rfl))))
theorem S36 : FnScope [Str.ofString "book", Str.ofString "number", Str.ofString "_", Str.ofString "sentence", Str.ofString "term"] [Str.ofString "book", Str.ofString "number"] (defScope (top 62)) := ⟨rfl, rfl, rfl, by decide +kernel, rfl, by decide +kernel, by decide +kernel⟩
theorem f36 (A : Fa P w K mg base k) (F : Fd K (Str.ofString "takes_entry") 62 f fd) : FnOk P w K mg base CX0 (k + 1) f fd [Str.ofString "book", Str.ofString "number"] (spF K (run ft (k + 1)) 36 true 2) :=
  fn_k k_takes_entry .pure true F S36 rfl (by decide) (by decide) fun cdv _ outer s H E g0 H0 hr => (zCons (sUnp1 (pIx (rm1 hr) (v 0) (v 1)) (gM (gC 2 S36.nd (gC 3 S36.nd (gC 4 S36.nd gN))))) (zOne (sRet1 (pOr (eIs (v 4) (pNon) hr) (pOne (eEq (pOwn (pC (A.cal 27 _ _ _ rfl) hr (pCons (pOwn (pC (A.cal 32 _ _ _ rfl) hr (pCons (v 0) (pCons (v 1) pNil)))) (pCons (v 4) pNil)))) (v 3) hr))))))
theorem S37 : FnScope [Str.ofString "book", Str.ofString "number", Str.ofString "k"] [Str.ofString "book", Str.ofString "number"] (defScope (top 63)) := ⟨rfl, rfl, rfl, by decide +kernel, rfl, by decide +kernel, by decide +kernel⟩
theorem f37 (A : Fa P w K mg base k) (F : Fd K (Str.ofString "does_entry_stand") 63 f fd) : FnOk P w K mg base CX0 (k + 1) f fd [Str.ofString "book", Str.ofString "number"] (spF K (run ft (k + 1)) 37 true 2) :=
  fn_k k_does_entry_stand .pure true F S37 rfl (by decide) (by decide) fun cdv _ outer s H E g0 H0 hr => (zOne (sRet1 (pAnd (pOwn (pC (A.cal 36 _ _ _ rfl) hr (pCons (v 0) (pCons (v 1) pNil)))) (pOne (fAll' (pOwn (pComp rfl S37.nd (pSeq (pOwn (pC (A.cal 34 _ _ _ rfl) hr (pCons (v 0) (pCons (v 1) pNil))))) (blkOk_by (own := [(Str.ofString "k", 2)]) (by kernel_rfl)) (fun _ _ _ _ _ => g1 2 S37.nd) (fun _ _ _ _ _ => ifs0) (fun _ _ _ _ _ => pOwn (pC (A.cal 36 _ _ _ rfl) hr (pCons (v 0) (pCons (v 2) pNil)))))) (A.fre 8 _ rfl))))))
theorem S38 : FnScope [Str.ofString "book", Str.ofString "k"] [Str.ofString "book"] (defScope (top 64)) := ⟨rfl, rfl, rfl, by decide +kernel, rfl, by decide +kernel, by decide +kernel⟩
theorem f38 (A : Fa P w K mg base k) (F : Fd K (Str.ofString "standing_of") 64 f fd) : FnOk P w K mg base CX0 (k + 1) f fd [Str.ofString "book"] (spF K (run ft (k + 1)) 38 true 1) :=
  fn_k k_standing_of .pure true F S38 rfl (by decide) (by decide) fun cdv _ outer s H E g0 H0 hr => (zOne (sRet1 (fTuple' (pOwn (pComp rfl S38.nd (jR1 (A.fre 13 _ rfl) (fLen' (v 0) (A.fre 0 _ rfl))) (blkOk_by (own := [(Str.ofString "k", 1)]) (by kernel_rfl)) (fun _ _ _ _ _ => g1 1 S38.nd) (fun _ _ _ _ _ => ifs1 (tTruth (pOwn (pC (A.cal 37 _ _ _ rfl) hr (pCons (v 0) (pCons (v 1) pNil)))))) (fun _ _ _ _ _ => v 1))) (A.fre 4 _ rfl))))
theorem S39 : FnScope [Str.ofString "book", Str.ofString "number", Str.ofString "k"] [Str.ofString "book", Str.ofString "number"] (defScope (top 65)) := ⟨rfl, rfl, rfl, by decide +kernel, rfl, by decide +kernel, by decide +kernel⟩
theorem f39 (A : Fa P w K mg base k) (F : Fd K (Str.ofString "resting_on") 65 f fd) : FnOk P w K mg base CX0 (k + 1) f fd [Str.ofString "book", Str.ofString "number"] (spF K (run ft (k + 1)) 39 true 2) :=
  fn_k k_resting_on .pure true F S39 rfl (by decide) (by decide) fun cdv _ outer s H E g0 H0 hr => (zOne (sRet1 (fTuple' (pOwn (pComp rfl S39.nd (jR1 (A.fre 13 _ rfl) (pOwn (bAdd (v 1) (pInt)))) (blkOk_by (own := [(Str.ofString "k", 2)]) (by kernel_rfl)) (fun _ _ _ _ _ => g1 2 S39.nd) (fun _ _ _ _ _ => ifs1 (PW.pt (wAnd (cIs (pIx (rm1 hr) (pIx (rm1 hr) (v 0) (v 2)) (pInt)) (pNon) hr) (wAnd1 (PW.pt (wOr (cEq (v 2) (v 1) hr) (wOr1 (cIn (v 2) (pOwn (pC (A.cal 34 _ _ _ rfl) hr (pCons (v 0) (pCons (v 1) pNil)))) hr)))))))) (fun _ _ _ _ _ => v 2))) (A.fre 4 _ rfl))))
theorem S40 : FnScope [Str.ofString "book", Str.ofString "name", Str.ofString "sentence", Str.ofString "term"] [Str.ofString "book"] (defScope (top 66)) := ⟨rfl, rfl, rfl, by decide +kernel, rfl, by decide +kernel, by decide +kernel⟩
theorem f40 (A : Fa P w K mg base k) (F : Fd K (Str.ofString "assumed_context") 66 f fd) : FnOk P w K mg base CX0 (k + 1) f fd [Str.ofString "book"] (spF K (run ft (k + 1)) 40 true 1) :=
  fn_k k_assumed_context .pure true F S40 rfl (by decide) (by decide) fun cdv _ outer s H E g0 H0 hr => (zOne (sRet1 (fTuple' (pOwn (pComp rfl S40.nd (pSeq (v 0)) (blkOk_by (own := [(Str.ofString "name", 1), (Str.ofString "sentence", 2), (Str.ofString "term", 3)]) (by kernel_rfl)) (fun _ _ _ _ _ => gM (gC 1 S40.nd (gC 2 S40.nd (gC 3 S40.nd gN)))) (fun _ _ _ _ _ => ifs1 (cIs (v 3) (pNon) hr)) (fun _ _ _ _ _ => pTup (pCons (v 1) (pCons (v 2) pNil))))) (A.fre 4 _ rfl))))
theorem S41 : FnScope [Str.ofString "book", Str.ofString "value", Str.ofString "at"] [Str.ofString "book", Str.ofString "value", Str.ofString "at"] (defScope (top 68)) := ⟨rfl, rfl, rfl, by decide +kernel, rfl, by decide +kernel, by decide +kernel⟩
theorem f41 (A : Fa P w K mg base k) (F : Fd K (Str.ofString "entry_number_given") 68 f fd) : FnOk P w K mg base CX0 (k + 1) f fd [Str.ofString "book", Str.ofString "value", Str.ofString "at"] (spF K (run ft (k + 1)) 41 true 3) :=
  fn_k k_entry_number_given .pure true F S41 rfl (by decide) (by decide) fun cdv _ outer s H E g0 H0 hr => (zOne (sRet2 (pC (A.cal 7 _ _ _ rfl) hr (pCons (v 1) (pCons (pInt) (pCons (bSub (fLen' (v 0) (A.fre 0 _ rfl)) (pInt)) (pCons (v 2) pNil)))))))
theorem S42 : FnScope [Str.ofString "value"] [Str.ofString "value"] (defScope (top 69)) := ⟨rfl, rfl, rfl, by decide +kernel, rfl, by decide +kernel, by decide +kernel⟩
theorem f42 (A : Fa P w K mg base k) (F : Fd K (Str.ofString "is_book") 69 f fd) : FnOk P w K mg base CX0 (k + 1) f fd [Str.ofString "value"] (spF K (run ft (k + 1)) 42 true 1) :=
  fn_k k_is_book .pure true F S42 rfl (by decide) (by decide) fun cdv _ outer s H E g0 H0 hr => (zOne (sRet2 (pC (A.cal 30 _ _ _ rfl) hr (pCons (pOwn (pC (A.cal 6 _ _ _ rfl) hr (pCons (v 0) pNil))) pNil))))
theorem S43 : FnScope [Str.ofString "book", Str.ofString "number"] [Str.ofString "book", Str.ofString "number"] (defScope (top 70)) := ⟨rfl, rfl, rfl, by decide +kernel, rfl, by decide +kernel, by decide +kernel⟩
theorem f43 (A : Fa P w K mg base k) (F : Fd K (Str.ofString "context_of") 70 f fd) : FnOk P w K mg base CX0 (k + 1) f fd [Str.ofString "book", Str.ofString "number"] (spF K (run ft (k + 1)) 43 true 2) :=
  fn_k k_context_of .pure true F S43 rfl (by decide) (by decide) fun cdv _ outer s H E g0 H0 hr => (zCons (a1 0 S43.nd (pOwn (pC (A.cal 31 _ _ _ rfl) hr (pCons (v 0) (pCons (pInt) pNil))))) (zOne (sRet2 (pC (A.cal 32 _ _ _ rfl) hr (pCons (v 0) (pCons (pOwn (pC (A.cal 7 _ _ _ rfl) hr (pCons (v 1) (pCons (pInt) (pCons (fLen' (v 0) (A.fre 0 _ rfl)) (pCons (pInt) pNil)))))) pNil))))))
theorem S44 : FnScope [Str.ofString "book", Str.ofString "number"] [Str.ofString "book", Str.ofString "number"] (defScope (top 71)) := ⟨rfl, rfl, rfl, by decide +kernel, rfl, by decide +kernel, by decide +kernel⟩
theorem f44 (A : Fa P w K mg base k) (F : Fd K (Str.ofString "leans_on") 71 f fd) : FnOk P w K mg base CX0 (k + 1) f fd [Str.ofString "book", Str.ofString "number"] (spF K (run ft (k + 1)) 44 true 2) :=
  fn_k k_leans_on .pure true F S44 rfl (by decide) (by decide) fun cdv _ outer s H E g0 H0 hr => (zCons (a1 0 S44.nd (pOwn (pC (A.cal 31 _ _ _ rfl) hr (pCons (v 0) (pCons (pInt) pNil))))) (zOne (sRet2 (pC (A.cal 33 _ _ _ rfl) hr (pCons (v 0) (pCons (pOwn (pC (A.cal 41 _ _ _ rfl) hr (pCons (v 0) (pCons (v 1) (pCons (pInt) pNil))))) pNil))))))
theorem S45 : FnScope [Str.ofString "book", Str.ofString "number"] [Str.ofString "book", Str.ofString "number"] (defScope (top 72)) := ⟨rfl, rfl, rfl, by decide +kernel, rfl, by decide +kernel, by decide +kernel⟩
theorem f45 (A : Fa P w K mg base k) (F : Fd K (Str.ofString "under") 72 f fd) : FnOk P w K mg base CX0 (k + 1) f fd [Str.ofString "book", Str.ofString "number"] (spF K (run ft (k + 1)) 45 true 2) :=
  fn_k k_under .pure true F S45 rfl (by decide) (by decide) fun cdv _ outer s H E g0 H0 hr => (zCons (a1 0 S45.nd (pOwn (pC (A.cal 31 _ _ _ rfl) hr (pCons (v 0) (pCons (pInt) pNil))))) (zOne (sRet2 (pC (A.cal 34 _ _ _ rfl) hr (pCons (v 0) (pCons (pOwn (pC (A.cal 41 _ _ _ rfl) hr (pCons (v 0) (pCons (v 1) (pCons (pInt) pNil))))) pNil))))))
theorem S46 : FnScope [Str.ofString "book", Str.ofString "number"] [Str.ofString "book", Str.ofString "number"] (defScope (top 73)) := ⟨rfl, rfl, rfl, by decide +kernel, rfl, by decide +kernel, by decide +kernel⟩
theorem f46 (A : Fa P w K mg base k) (F : Fd K (Str.ofString "over") 73 f fd) : FnOk P w K mg base CX0 (k + 1) f fd [Str.ofString "book", Str.ofString "number"] (spF K (run ft (k + 1)) 46 true 2) :=
  fn_k k_over .pure true F S46 rfl (by decide) (by decide) fun cdv _ outer s H E g0 H0 hr => (zCons (a1 0 S46.nd (pOwn (pC (A.cal 31 _ _ _ rfl) hr (pCons (v 0) (pCons (pInt) pNil))))) (zOne (sRet2 (pC (A.cal 35 _ _ _ rfl) hr (pCons (v 0) (pCons (pOwn (pC (A.cal 41 _ _ _ rfl) hr (pCons (v 0) (pCons (v 1) (pCons (pInt) pNil))))) pNil))))))
theorem S47 : FnScope [Str.ofString "book", Str.ofString "number"] [Str.ofString "book", Str.ofString "number"] (defScope (top 74)) := ⟨rfl, rfl, rfl, by decide +kernel, rfl, by decide +kernel, by decide +kernel⟩
theorem f47 (A : Fa P w K mg base k) (F : Fd K (Str.ofString "is_taken") 74 f fd) : FnOk P w K mg base CX0 (k + 1) f fd [Str.ofString "book", Str.ofString "number"] (spF K (run ft (k + 1)) 47 true 2) :=
  fn_k k_is_taken .pure true F S47 rfl (by decide) (by decide) fun cdv _ outer s H E g0 H0 hr => (zCons (a1 0 S47.nd (pOwn (pC (A.cal 31 _ _ _ rfl) hr (pCons (v 0) (pCons (pInt) pNil))))) (zOne (sRet2 (pC (A.cal 36 _ _ _ rfl) hr (pCons (v 0) (pCons (pOwn (pC (A.cal 41 _ _ _ rfl) hr (pCons (v 0) (pCons (v 1) (pCons (pInt) pNil))))) pNil))))))
theorem S48 : FnScope [Str.ofString "book"] [Str.ofString "book"] (defScope (top 75)) := ⟨rfl, rfl, rfl, by decide +kernel, rfl, by decide +kernel, by decide +kernel⟩
theorem f48 (A : Fa P w K mg base k) (F : Fd K (Str.ofString "standing") 75 f fd) : FnOk P w K mg base CX0 (k + 1) f fd [Str.ofString "book"] (spF K (run ft (k + 1)) 48 true 1) :=
  fn_k k_standing .pure true F S48 rfl (by decide) (by decide) fun cdv _ outer s H E g0 H0 hr => (zOne (sRet2 (pC (A.cal 38 _ _ _ rfl) hr (pCons (pOwn (pC (A.cal 31 _ _ _ rfl) hr (pCons (v 0) (pCons (pInt) pNil)))) pNil))))
theorem S49 : FnScope [Str.ofString "book", Str.ofString "number"] [Str.ofString "book", Str.ofString "number"] (defScope (top 76)) := ⟨rfl, rfl, rfl, by decide +kernel, rfl, by decide +kernel, by decide +kernel⟩
theorem f49 (A : Fa P w K mg base k) (F : Fd K (Str.ofString "rests_on") 76 f fd) : FnOk P w K mg base CX0 (k + 1) f fd [Str.ofString "book", Str.ofString "number"] (spF K (run ft (k + 1)) 49 true 2) :=
  fn_k k_rests_on .pure true F S49 rfl (by decide) (by decide) fun cdv _ outer s H E g0 H0 hr => (zCons (a1 0 S49.nd (pOwn (pC (A.cal 31 _ _ _ rfl) hr (pCons (v 0) (pCons (pInt) pNil))))) (zOne (sRet2 (pC (A.cal 39 _ _ _ rfl) hr (pCons (v 0) (pCons (pOwn (pC (A.cal 41 _ _ _ rfl) hr (pCons (v 0) (pCons (v 1) (pCons (pInt) pNil))))) pNil))))))
theorem S50 : FnScope [Str.ofString "book"] [Str.ofString "book"] (defScope (top 77)) := ⟨rfl, rfl, rfl, by decide +kernel, rfl, by decide +kernel, by decide +kernel⟩
theorem f50 (A : Fa P w K mg base k) (F : Fd K (Str.ofString "is_sound") 77 f fd) : FnOk P w K mg base CX0 (k + 1) f fd [Str.ofString "book"] (spF K (run ft (k + 1)) 50 true 1) :=
  fn_k k_is_sound .pure true F S50 rfl (by decide) (by decide) fun cdv _ outer s H E g0 H0 hr => (zOne (sRet1 (eIs (pOwn (pC (A.cal 51 _ _ _ rfl) hr (pCons (v 0) pNil))) (pNon) hr)))
theorem S51 : FnScope [Str.ofString "book", Str.ofString "number"] [Str.ofString "book"] (defScope (top 78)) := ⟨rfl, rfl, rfl, by decide +kernel, rfl, by decide +kernel, by decide +kernel⟩
theorem f51 (A : Fa P w K mg base k) (F : Fd K (Str.ofString "first_not_taken") 78 f fd) : FnOk P w K mg base CX0 (k + 1) f fd [Str.ofString "book"] (spF K (run ft (k + 1)) 51 true 1) :=
  fn_k k_first_not_taken .pure true F S51 rfl (by decide) (by decide) fun cdv _ outer s H E g0 H0 hr => (zCons (a1 0 S51.nd (pOwn (pC (A.cal 31 _ _ _ rfl) hr (pCons (v 0) (pCons (pInt) pNil))))) (zCons (sF (jR1 (A.fre 13 _ rfl) (fLen' (v 0) (A.fre 0 _ rfl))) (g1 1 S51.nd) (zOne (sIf' (tNot' (tTruth (pOwn (pC (A.cal 36 _ _ _ rfl) hr (pCons (v 0) (pCons (v 1) pNil)))))) (zOne (sRet1 (v 1))) z0))) (zOne (sRet1 (pNon)))))
theorem S52 : FnScope [Str.ofString "book"] [Str.ofString "book"] (defScope (top 79)) := ⟨rfl, rfl, rfl, by decide +kernel, rfl, by decide +kernel, by decide +kernel⟩
theorem f52 (A : Fa P w K mg base k) (F : Fd K (Str.ofString "assumptions") 79 f fd) : FnOk P w K mg base CX0 (k + 1) f fd [Str.ofString "book"] (spF K (run ft (k + 1)) 52 true 1) :=
  fn_k k_assumptions .pure true F S52 rfl (by decide) (by decide) fun cdv _ outer s H E g0 H0 hr => (zOne (sRet2 (pC (A.cal 40 _ _ _ rfl) hr (pCons (pOwn (pC (A.cal 31 _ _ _ rfl) hr (pCons (v 0) (pCons (pInt) pNil)))) pNil))))
theorem S53 : FnScope [Str.ofString "script", Str.ofString "place", Str.ofString "many", Str.ofString "cell", Str.ofString "numbers", Str.ofString "rest", Str.ofString "k", Str.ofString "mixed"] [Str.ofString "script", Str.ofString "place", Str.ofString "many"] (defScope (top 81)) := ⟨rfl, rfl, rfl, by decide +kernel, rfl, by decide +kernel, by decide +kernel⟩
theorem f53 (A : Fa P w K mg base k) (F : Fd K (Str.ofString "_law_numbers") 81 f fd) : FnOk P w K mg base CX0 (k + 1) f fd [Str.ofString "script", Str.ofString "place", Str.ofString "many"] (spF K (run ft (k + 1)) 53 true 3) :=
  fn_k k__law_numbers .pure true F S53 rfl (by decide) (by decide) fun cdv _ outer s H E g0 H0 hr => (zCons (a1 3 S53.nd (pIf (cLt (v 1) (fLen' (v 0) (A.fre 0 _ rfl)) hr) (pIx (rm1 hr) (v 0) (v 1)) (pInt))) (zCons (a2 4 S53.nd (pLst pNil)) (zCons (a1 5 S53.nd (v 3)) (zCons (sF (jR1 (A.fre 13 _ rfl) (v 2)) (g1 6 S53.nd) (zOne (sIf' (cGe (v 3) (bPow (pInt) (pInt)) hr) (zCons (mApp 4 (bMod (fInt' (v 5) (A.fre 2 _ rfl)) (bPow (pInt) (pInt)))) (zOne (a1 5 S53.nd (bDiv (v 5) (bPow (pInt) (pInt)))))) (zCons (a1 7 S53.nd (bMod (fInt' (pOwn (bAdd (pOwn (bAdd (bMul (v 3) (pInt)) (bMul (pOwn (bAdd (v 6) (pInt))) (pInt)))) (v 1))) (A.fre 2 _ rfl)) (pInt))) (zOne (mApp 4 (bMod (bMod (fInt' (pOwn (bAdd (bMul (v 7) (pInt)) (bMul (pOwn (bAdd (v 6) (pInt))) (pInt)))) (A.fre 2 _ rfl)) (pInt)) (bPow (pInt) (pInt))))))))) (zOne (rN 4))))))
theorem S54 : FnScope [Str.ofString "state", Str.ofString "many"] [Str.ofString "state", Str.ofString "many"] (defScope (top 82)) := ⟨rfl, rfl, rfl, by decide +kernel, rfl, by decide +kernel, by decide +kernel⟩
theorem f54 (A : Fa P w K mg base k) (F : Fd K (Str.ofString "_law_draw") 82 f fd) : FnOk P w K mg base CX0 (k + 1) f fd [Str.ofString "state", Str.ofString "many"] (spF K (run ft (k + 1)) 54 false 2) :=
  fn_k k__law_draw .impure false F S54 rfl (by decide) (by decide) fun cdv _ outer s H E g0 H0 hr => (zCons (sHput1 (rm1 hr) (v 0) (pInt) (bMod (fInt' (pOwn (bAdd (bMul (pIx (rm1 hr) (v 0) (pInt)) (pInt)) (pInt))) (A.fre 2 _ rfl)) (pInt))) (zOne (sRet1 (bMod (fInt' (bDiv (pIx (rm1 hr) (v 0) (pInt)) (pInt)) (A.fre 2 _ rfl)) (v 1)))))
theorem S55 : FnScope [Str.ofString "actual", Str.ofString "due", Str.ofString "k"] [Str.ofString "actual", Str.ofString "due"] (defScope (top 83)) := ⟨rfl, rfl, rfl, by decide +kernel, rfl, by decide +kernel, by decide +kernel⟩
theorem f55 (A : Fa P w K mg base k) (F : Fd K (Str.ofString "_law_same") 83 f fd) : FnOk P w K mg base CX0 (k + 1) f fd [Str.ofString "actual", Str.ofString "due"] (spF K (run ft (k + 1)) 55 true 2) :=
  fn_k k__law_same .pure true F S55 rfl (by decide) (by decide) fun cdv _ outer s H E g0 H0 hr => (zCons (sIf' (PW.pt (wOr (tTruth (fIsi1 .tuple (v 0) (A.fre 1 _ rfl) (A.fre 4 _ rfl))) (wOr1 (tTruth (fIsi1 .tuple (v 1) (A.fre 1 _ rfl) (A.fre 4 _ rfl)))))) (zCons (sIf' (PW.pt (wOr (tNot' (tTruth (fIsi1 .tuple (v 0) (A.fre 1 _ rfl) (A.fre 4 _ rfl)))) (wOr (tNot' (tTruth (fIsi1 .tuple (v 1) (A.fre 1 _ rfl) (A.fre 4 _ rfl)))) (wOr1 (cNe (fLen' (v 0) (A.fre 0 _ rfl)) (fLen' (v 1) (A.fre 0 _ rfl)) hr))))) (zOne (sRet1 (pBl))) z0) (zOne (sRet1 (fAll' (pOwn (pComp rfl S55.nd (jR1 (A.fre 13 _ rfl) (fLen' (v 1) (A.fre 0 _ rfl))) (blkOk_by (own := [(Str.ofString "k", 2)]) (by kernel_rfl)) (fun _ _ _ _ _ => g1 2 S55.nd) (fun _ _ _ _ _ => ifs0) (fun _ _ _ _ _ => pOwn (pC (A.cal 55 _ _ _ rfl) hr (pCons (pIx (rm1 hr) (v 0) (v 2)) (pCons (pIx (rm1 hr) (v 1) (v 2)) pNil)))))) (A.fre 8 _ rfl))))) z0) (zCons (sIf' (PW.pt (wOr (cIs (v 0) (pNon) hr) (wOr1 (cIs (v 1) (pNon) hr)))) (zOne (sRet1 (pAnd (eIs (v 0) (pNon) hr) (pOne (eIs (v 1) (pNon) hr))))) z0) (zCons (sIf' (PW.pt (wOr (cNe (fIsi1 .bool (v 0) (A.fre 1 _ rfl) (A.fre 6 _ rfl)) (fIsi1 .bool (v 1) (A.fre 1 _ rfl) (A.fre 6 _ rfl)) hr) (wOr1 (cNe (fIsi1 .str (v 0) (A.fre 1 _ rfl) (A.fre 3 _ rfl)) (fIsi1 .str (v 1) (A.fre 1 _ rfl) (A.fre 3 _ rfl)) hr)))) (zOne (sRet1 (pBl))) z0) (zOne (sRet1 (pAnd (fIsi2 (y := .int) (z := .str) (v 0) (A.fre 1 _ rfl) (A.fre 2 _ rfl) (A.fre 3 _ rfl)) (pOne (eEq (v 0) (v 1) hr))))))))
theorem S56 : FnScope [Str.ofString "state", Str.ofString "left", Str.ofString "pick_of"] [Str.ofString "state", Str.ofString "left"] (defScope (top 84)) := ⟨rfl, rfl, rfl, by decide +kernel, rfl, by decide +kernel, by decide +kernel⟩
theorem f56 (A : Fa P w K mg base k) (F : Fd K (Str.ofString "_law_sentence") 84 f fd) : FnOk P w K mg base CX0 (k + 1) f fd [Str.ofString "state", Str.ofString "left"] (spF K (run ft (k + 1)) 56 false 2) :=
  fn_k k__law_sentence .impure false F S56 rfl (by decide) (by decide) fun cdv _ outer s H E g0 H0 hr => (zCons (a1 2 S56.nd (pOwn (pC (A.cal 54 _ _ _ rfl) hr (pCons (v 0) (pCons (pInt) pNil))))) (zCons (sIf' (PW.pt (wOr (cEq (v 1) (pInt) hr) (wOr1 (cLt (v 2) (pInt) hr)))) (zOne (sRet1 (pIx (rm1 hr) (pTup (pCons (pStr (by kernel_rfl)) (pCons (pStr (by kernel_rfl)) (pCons (pStr (by kernel_rfl)) (pCons (pStr (by kernel_rfl)) (pCons (pStr (by kernel_rfl)) (pCons (pTup (pCons (pStr (by kernel_rfl)) pNil)) pNil))))))) (pOwn (pC (A.cal 54 _ _ _ rfl) hr (pCons (v 0) (pCons (pInt) pNil))))))) z0) (zOne (sRet1 (pTup (pCons (pIx (rm1 hr) (pTup (pCons (pStr (by kernel_rfl)) (pCons (pStr (by kernel_rfl)) (pCons (pStr (by kernel_rfl)) pNil)))) (bMod (v 2) (pInt))) (pCons (pOwn (pC (A.cal 56 _ _ _ rfl) hr (pCons (v 0) (pCons (bSub (v 1) (pInt)) pNil)))) (pCons (pOwn (pC (A.cal 56 _ _ _ rfl) hr (pCons (v 0) (pCons (bSub (v 1) (pInt)) pNil)))) pNil))))))))
theorem S57 : FnScope [Str.ofString "context", Str.ofString "label", Str.ofString "met", Str.ofString "name", Str.ofString "sentence"] [Str.ofString "context", Str.ofString "label"] (defScope (top 85)) := ⟨rfl, rfl, rfl, by decide +kernel, rfl, by decide +kernel, by decide +kernel⟩
theorem f57 (A : Fa P w K mg base k) (F : Fd K (Str.ofString "_law_find") 85 f fd) : FnOk P w K mg base CX0 (k + 1) f fd [Str.ofString "context", Str.ofString "label"] (spF K (run ft (k + 1)) 57 true 2) :=
  fn_k k__law_find .pure true F S57 rfl (by decide) (by decide) fun cdv _ outer s H E g0 H0 hr => (zCons (a1 2 S57.nd (pNon)) (zCons (sF (pSeq (v 0)) (gM (gC 3 S57.nd (gC 4 S57.nd gN))) (zOne (sIf' (cEq (v 3) (v 1) hr) (zOne (a1 2 S57.nd (v 4))) z0))) (zOne (sRet1 (v 2)))))
theorem S58 : FnScope [Str.ofString "sentence", Str.ofString "word"] [Str.ofString "sentence", Str.ofString "word"] (defScope (top 86)) := ⟨rfl, rfl, rfl, by decide +kernel, rfl, by decide +kernel, by decide +kernel⟩
theorem f58 (A : Fa P w K mg base k) (F : Fd K (Str.ofString "_law_kind") 86 f fd) : FnOk P w K mg base CX0 (k + 1) f fd [Str.ofString "sentence", Str.ofString "word"] (spF K (run ft (k + 1)) 58 true 2) :=
  fn_k k__law_kind .pure true F S58 rfl (by decide) (by decide) fun cdv _ outer s H E g0 H0 hr => (zOne (sRet1 (pAnd (fIsi1 .tuple (v 0) (A.fre 1 _ rfl) (A.fre 4 _ rfl)) (pOne (eEq (pIx (rm1 hr) (v 0) (pInt)) (v 1) hr)))))
theorem S59 : FnScope [Str.ofString "context", Str.ofString "term", Str.ofString "word", Str.ofString "one", Str.ofString "other", Str.ofString "two", Str.ofString "three"] [Str.ofString "context", Str.ofString "term"] (defScope (top 87)) := ⟨rfl, rfl, rfl, by decide +kernel, rfl, by decide +kernel, by decide +kernel⟩
theorem f59 (A : Fa P w K mg base k) (F : Fd K (Str.ofString "_law_borne") 87 f fd) : FnOk P w K mg base CX0 (k + 1) f fd [Str.ofString "context", Str.ofString "term"] (spF K (run ft (k + 1)) 59 true 2) :=
  fn_k k__law_borne .pure true F S59 rfl (by decide) (by decide) fun cdv _ outer s H E g0 H0 hr => (zCons (a1 2 S59.nd (pIx (rm1 hr) (v 1) (pInt))) (zCons (sIf' (cEq (v 2) (pStr (by kernel_rfl)) hr) (zOne (sRet2 (pC (A.cal 57 _ _ _ rfl) hr (pCons (v 0) (pCons (pIx (rm1 hr) (v 1) (pInt)) pNil))))) z0) (zCons (sIf' (cEq (v 2) (pStr (by kernel_rfl)) hr) (zCons (qPar 3 4 S59.nd (pCons (pOwn (pC (A.cal 59 _ _ _ rfl) hr (pCons (v 0) (pCons (pIx (rm1 hr) (v 1) (pInt)) pNil)))) (pCons (pOwn (pC (A.cal 59 _ _ _ rfl) hr (pCons (v 0) (pCons (pIx (rm1 hr) (v 1) (pInt)) pNil)))) pNil))) (zOne (sRet1 (pIf (PW.pt (wOr (cIs (v 3) (pNon) hr) (wOr1 (cIs (v 4) (pNon) hr)))) (pNon) (pTup (pCons (pStr (by kernel_rfl)) (pCons (v 3) (pCons (v 4) pNil)))))))) z0) (zCons (sIf' (cIn (v 2) (pTup (pCons (pStr (by kernel_rfl)) (pCons (pStr (by kernel_rfl)) pNil))) hr) (zCons (a1 3 S59.nd (pOwn (pC (A.cal 59 _ _ _ rfl) hr (pCons (v 0) (pCons (pIx (rm1 hr) (v 1) (pInt)) pNil))))) (zOne (sRet1 (pIf (tTruth (pOwn (pC (A.cal 58 _ _ _ rfl) hr (pCons (v 3) (pCons (pStr (by kernel_rfl)) pNil))))) (pIx (rm1 hr) (v 3) (pIf (cEq (v 2) (pStr (by kernel_rfl)) hr) (pInt) (pInt))) (pNon))))) z0) (zCons (sIf' (cEq (v 2) (pStr (by kernel_rfl)) hr) (zCons (a1 3 S59.nd (pOwn (pC (A.cal 59 _ _ _ rfl) hr (pCons (pOwn (bAdd (v 0) (pOwn (pLst (pCons (pTup (pCons (pIx (rm1 hr) (v 1) (pInt)) (pCons (pIx (rm1 hr) (v 1) (pInt)) pNil))) pNil))))) (pCons (pIx (rm1 hr) (v 1) (pInt)) pNil))))) (zOne (sRet1 (pIf (cIs (v 3) (pNon) hr) (pNon) (pTup (pCons (pStr (by kernel_rfl)) (pCons (pIx (rm1 hr) (v 1) (pInt)) (pCons (v 3) pNil)))))))) z0) (zCons (sIf' (cEq (v 2) (pStr (by kernel_rfl)) hr) (zCons (qPar 3 4 S59.nd (pCons (pOwn (pC (A.cal 59 _ _ _ rfl) hr (pCons (v 0) (pCons (pIx (rm1 hr) (v 1) (pInt)) pNil)))) (pCons (pOwn (pC (A.cal 59 _ _ _ rfl) hr (pCons (v 0) (pCons (pIx (rm1 hr) (v 1) (pInt)) pNil)))) pNil))) (zOne (sRet1 (pIf (PW.pt (wAnd (tTruth (pOwn (pC (A.cal 58 _ _ _ rfl) hr (pCons (v 3) (pCons (pStr (by kernel_rfl)) pNil))))) (wAnd (cIsNot (v 4) (pNon) hr) (wAnd1 (cEq (pIx (rm1 hr) (v 3) (pInt)) (v 4) hr))))) (pIx (rm1 hr) (v 3) (pInt)) (pNon))))) z0) (zCons (sIf' (cEq (v 2) (pStr (by kernel_rfl)) hr) (zCons (a1 3 S59.nd (pOwn (pC (A.cal 59 _ _ _ rfl) hr (pCons (v 0) (pCons (pIx (rm1 hr) (v 1) (pInt)) pNil))))) (zOne (sRet1 (pIf (cIs (v 3) (pNon) hr) (pNon) (pTup (pCons (pStr (by kernel_rfl)) (pCons (v 3) (pCons (pIx (rm1 hr) (v 1) (pInt)) pNil)))))))) z0) (zCons (sIf' (cEq (v 2) (pStr (by kernel_rfl)) hr) (zCons (a1 3 S59.nd (pOwn (pC (A.cal 59 _ _ _ rfl) hr (pCons (v 0) (pCons (pIx (rm1 hr) (v 1) (pInt)) pNil))))) (zOne (sRet1 (pIf (cIs (v 3) (pNon) hr) (pNon) (pTup (pCons (pStr (by kernel_rfl)) (pCons (pIx (rm1 hr) (v 1) (pInt)) (pCons (v 3) pNil)))))))) z0) (zCons (sIf' (cEq (v 2) (pStr (by kernel_rfl)) hr) (zOne (sRet1 (pIf (cEq (pOwn (pC (A.cal 59 _ _ _ rfl) hr (pCons (v 0) (pCons (pIx (rm1 hr) (v 1) (pInt)) pNil)))) (pTup (pCons (pStr (by kernel_rfl)) pNil)) hr) (pIx (rm1 hr) (v 1) (pInt)) (pNon)))) z0) (zCons (a1 3 S59.nd (pOwn (pC (A.cal 59 _ _ _ rfl) hr (pCons (v 0) (pCons (pIx (rm1 hr) (v 1) (pInt)) pNil))))) (zCons (sIf' (tNot' (tTruth (pOwn (pC (A.cal 58 _ _ _ rfl) hr (pCons (v 3) (pCons (pStr (by kernel_rfl)) pNil)))))) (zOne (sRet1 (pNon))) z0) (zCons (qPar 5 6 S59.nd (pCons (pOwn (pC (A.cal 59 _ _ _ rfl) hr (pCons (pOwn (bAdd (v 0) (pOwn (pLst (pCons (pTup (pCons (pIx (rm1 hr) (v 1) (pInt)) (pCons (pIx (rm1 hr) (v 3) (pInt)) pNil))) pNil))))) (pCons (pIx (rm1 hr) (v 1) (pInt)) pNil)))) (pCons (pOwn (pC (A.cal 59 _ _ _ rfl) hr (pCons (pOwn (bAdd (v 0) (pOwn (pLst (pCons (pTup (pCons (pIx (rm1 hr) (v 1) (pInt)) (pCons (pIx (rm1 hr) (v 3) (pInt)) pNil))) pNil))))) (pCons (pIx (rm1 hr) (v 1) (pInt)) pNil)))) pNil))) (zOne (sRet1 (pIf (PW.pt (wAnd (cIsNot (v 5) (pNon) hr) (wAnd1 (cEq (v 5) (v 6) hr)))) (v 5) (pNon))))))))))))))))
theorem S60 : FnScope [Str.ofString "term", Str.ofString "word", Str.ofString "labels", Str.ofString "part", Str.ofString "label"] [Str.ofString "term"] (defScope (top 88)) := ⟨rfl, rfl, rfl, by decide +kernel, rfl, by decide +kernel, by decide +kernel⟩
theorem f60 (A : Fa P w K mg base k) (F : Fd K (Str.ofString "_law_free") 88 f fd) : FnOk P w K mg base CX0 (k + 1) f fd [Str.ofString "term"] (spF K (run ft (k + 1)) 60 true 1) :=
  fn_k k__law_free .pure true F S60 rfl (by decide) (by decide) fun cdv _ outer s H E g0 H0 hr => (zCons (a1 1 S60.nd (pIx (rm1 hr) (v 0) (pInt))) (zCons (sIf' (cEq (v 1) (pStr (by kernel_rfl)) hr) (zOne (sRet2 (pLst (pCons (pIx (rm1 hr) (v 0) (pInt)) pNil)))) z0) (zCons (sIf' (cEq (v 1) (pStr (by kernel_rfl)) hr) (zOne (sRet2 (pComp rfl S60.nd (pSeq (pOwn (pC (A.cal 60 _ _ _ rfl) hr (pCons (pIx (rm1 hr) (v 0) (pInt)) pNil)))) (blkOk_by (own := [(Str.ofString "label", 4)]) (by kernel_rfl)) (fun _ _ _ _ _ => g1 4 S60.nd) (fun _ _ _ _ _ => ifs1 (cNe (v 4) (pIx (rm1 hr) (v 0) (pInt)) hr)) (fun _ _ _ _ _ => v 4)))) z0) (zCons (sIf' (cEq (v 1) (pStr (by kernel_rfl)) hr) (zOne (sRet2 (bAdd (pOwn (bAdd (pOwn (pC (A.cal 60 _ _ _ rfl) hr (pCons (pIx (rm1 hr) (v 0) (pInt)) pNil))) (pOwn (pComp rfl S60.nd (pSeq (pOwn (pC (A.cal 60 _ _ _ rfl) hr (pCons (pIx (rm1 hr) (v 0) (pInt)) pNil)))) (blkOk_by (own := [(Str.ofString "label", 4)]) (by kernel_rfl)) (fun _ _ _ _ _ => g1 4 S60.nd) (fun _ _ _ _ _ => ifs1 (cNe (v 4) (pIx (rm1 hr) (v 0) (pInt)) hr)) (fun _ _ _ _ _ => v 4))))) (pOwn (pComp rfl S60.nd (pSeq (pOwn (pC (A.cal 60 _ _ _ rfl) hr (pCons (pIx (rm1 hr) (v 0) (pInt)) pNil)))) (blkOk_by (own := [(Str.ofString "label", 4)]) (by kernel_rfl)) (fun _ _ _ _ _ => g1 4 S60.nd) (fun _ _ _ _ _ => ifs1 (cNe (v 4) (pIx (rm1 hr) (v 0) (pInt)) hr)) (fun _ _ _ _ _ => v 4)))))) z0) (zCons (a1 2 S60.nd (pOwn (pLst pNil))) (zCons (sF (pSeq (pOwn (pSl (v 0) (pPart1 (pInt)) (pPart0)))) (g1 3 S60.nd) (zOne (sIf' (tTruth (pOwn (pC (A.cal 61 _ _ _ rfl) hr (pCons (v 3) pNil)))) (zOne (a1 2 S60.nd (pOwn (bAdd (v 2) (pOwn (pC (A.cal 60 _ _ _ rfl) hr (pCons (v 3) pNil))))))) z0))) (zOne (sRet1 (v 2)))))))))
theorem S61 : FnScope [Str.ofString "part"] [Str.ofString "part"] (defScope (top 89)) := ⟨rfl, rfl, rfl, by decide +kernel, rfl, by decide +kernel, by decide +kernel⟩
theorem f61 (A : Fa P w K mg base k) (F : Fd K (Str.ofString "_law_is_term") 89 f fd) : FnOk P w K mg base CX0 (k + 1) f fd [Str.ofString "part"] (spF K (run ft (k + 1)) 61 true 1) :=
  fn_k k__law_is_term .pure true F S61 rfl (by decide) (by decide) fun cdv _ outer s H E g0 H0 hr => (zOne (sRet1 (pAnd (fIsi1 .tuple (v 0) (A.fre 1 _ rfl) (A.fre 4 _ rfl)) (pOne (eIn (pIx (rm1 hr) (v 0) (pInt)) (pTup (pCons (pStr (by kernel_rfl)) (pCons (pStr (by kernel_rfl)) (pCons (pStr (by kernel_rfl)) (pCons (pStr (by kernel_rfl)) (pCons (pStr (by kernel_rfl)) (pCons (pStr (by kernel_rfl)) (pCons (pStr (by kernel_rfl)) (pCons (pStr (by kernel_rfl)) (pCons (pStr (by kernel_rfl)) (pCons (pStr (by kernel_rfl)) pNil))))))))))) hr)))))
theorem S62 : FnScope [Str.ofString "state", Str.ofString "context", Str.ofString "sentence", Str.ofString "left", Str.ofString "found", Str.ofString "body", Str.ofString "one", Str.ofString "other", Str.ofString "name"] [Str.ofString "state", Str.ofString "context", Str.ofString "sentence", Str.ofString "left"] (defScope (top 90)) := ⟨rfl, rfl, rfl, by decide +kernel, rfl, by decide +kernel, by decide +kernel⟩
theorem f62 (A : Fa P w K mg base k) (F : Fd K (Str.ofString "_law_for") 90 f fd) : FnOk P w K mg base CX0 (k + 1) f fd [Str.ofString "state", Str.ofString "context", Str.ofString "sentence", Str.ofString "left"] (spF K (run ft (k + 1)) 62 false 4) :=
  fn_k k__law_for .impure false F S62 rfl (by decide) (by decide) fun cdv _ outer s H E g0 H0 hr => (zCons (sSetLcF (i := 4) rfl S62.nd rfl rfl rfl (pSeq (v 1)) (blkOk_by (own := [(Str.ofString "name", 8), (Str.ofString "one", 6)]) (by kernel_rfl)) (fun _ _ _ _ _ => gM (gC 8 S62.nd (gC 6 S62.nd gN))) (fun _ _ _ _ _ => ifs1 (PW.pt (wAnd (cEq (v 6) (v 2) hr) (wAnd1 (cEq (pOwn (pC (A.cal 57 _ _ _ rfl) hr (pCons (v 1) (pCons (v 8) pNil)) rfl rfl (fun _ => rfl))) (v 2) hr))))) (fun _ _ _ _ _ => v 8)) (zCons (sIf' (tTruth (v 4)) (zOne (sRet1 (pTup (pCons (pStr (by kernel_rfl)) (pCons (pIx (rm1 hr) (v 4) (pOwn (pC (A.cal 54 _ _ _ rfl) hr (pCons (v 0) (pCons (fLen' (v 4) (A.fre 0 _ rfl)) pNil))))) pNil))))) z0) (zCons (sIf' (PW.pt (wOr (cEq (v 3) (pInt) hr) (wOr (tTruth (fIsi1 .str (v 2) (A.fre 1 _ rfl) (A.fre 3 _ rfl))) (wOr1 (cEq (fLen' (v 2) (A.fre 0 _ rfl)) (pInt) hr))))) (zOne (sRet1 (pNon))) z0) (zCons (sIf' (cEq (pIx (rm1 hr) (v 2) (pInt)) (pStr (by kernel_rfl)) hr) (zCons (a1 5 S62.nd (pOwn (pC (A.cal 62 _ _ _ rfl) hr (pCons (v 0) (pCons (pOwn (bAdd (v 1) (pOwn (pLst (pCons (pTup (pCons (pStr (by kernel_rfl)) (pCons (pIx (rm1 hr) (v 2) (pInt)) pNil))) pNil))))) (pCons (pIx (rm1 hr) (v 2) (pInt)) (pCons (bSub (v 3) (pInt)) pNil))))))) (zOne (sRet1 (pIf (cIs (v 5) (pNon) hr) (pNon) (pTup (pCons (pStr (by kernel_rfl)) (pCons (pStr (by kernel_rfl)) (pCons (pIx (rm1 hr) (v 2) (pInt)) (pCons (v 5) pNil))))))))) z0) (zCons (qPar 6 7 S62.nd (pCons (pOwn (pC (A.cal 62 _ _ _ rfl) hr (pCons (v 0) (pCons (v 1) (pCons (pIx (rm1 hr) (v 2) (pInt)) (pCons (bSub (v 3) (pInt)) pNil)))))) (pCons (pOwn (pC (A.cal 62 _ _ _ rfl) hr (pCons (v 0) (pCons (v 1) (pCons (pIx (rm1 hr) (v 2) (pInt)) (pCons (bSub (v 3) (pInt)) pNil)))))) pNil))) (zCons (sIf' (cEq (pIx (rm1 hr) (v 2) (pInt)) (pStr (by kernel_rfl)) hr) (zOne (sRet1 (pIf (PW.pt (wOr (cIs (v 6) (pNon) hr) (wOr1 (cIs (v 7) (pNon) hr)))) (pNon) (pTup (pCons (pStr (by kernel_rfl)) (pCons (v 6) (pCons (v 7) pNil))))))) z0) (zCons (sIf' (cIsNot (v 6) (pNon) hr) (zOne (sRet1 (pTup (pCons (pStr (by kernel_rfl)) (pCons (v 6) (pCons (pIx (rm1 hr) (v 2) (pInt)) pNil)))))) z0) (zOne (sRet1 (pIf (cIs (v 7) (pNon) hr) (pNon) (pTup (pCons (pStr (by kernel_rfl)) (pCons (pIx (rm1 hr) (v 2) (pInt)) (pCons (v 7) pNil))))))))))))))
theorem S63 : FnScope [Str.ofString "state", Str.ofString "context", Str.ofString "left", Str.ofString "kind", Str.ofString "name", Str.ofString "label", Str.ofString "sentence", Str.ofString "body", Str.ofString "borne_here", Str.ofString "one", Str.ofString "other", Str.ofString "second"] [Str.ofString "state", Str.ofString "context", Str.ofString "left"] (defScope (top 91)) := ⟨rfl, rfl, rfl, by decide +kernel, rfl, by decide +kernel, by decide +kernel⟩
theorem f63 (A : Fa P w K mg base k) (F : Fd K (Str.ofString "_law_make") 91 f fd) : FnOk P w K mg base CX0 (k + 1) f fd [Str.ofString "state", Str.ofString "context", Str.ofString "left"] (spF K (run ft (k + 1)) 63 false 3) :=
  fn_k k__law_make .impure false F S63 rfl (by decide) (by decide) fun cdv _ outer s H E g0 H0 hr => (zCons (a1 3 S63.nd (pOwn (pC (A.cal 54 _ _ _ rfl) hr (pCons (v 0) (pCons (pInt) pNil))))) (zCons (sIf' (PW.pt (wOr (cEq (v 2) (pInt) hr) (wOr1 (cEq (v 3) (pInt) hr)))) (zCons (sIf' (cEq (v 1) (pOwn (pLst pNil)) hr) (zOne (sRet1 (pTup (pCons (pTup (pCons (pStr (by kernel_rfl)) (pCons (pStr (by kernel_rfl)) (pCons (pStr (by kernel_rfl)) (pCons (pTup (pCons (pStr (by kernel_rfl)) (pCons (pStr (by kernel_rfl)) pNil))) pNil))))) (pCons (pTup (pCons (pStr (by kernel_rfl)) (pCons (pStr (by kernel_rfl)) (pCons (pStr (by kernel_rfl)) pNil)))) pNil))))) z0) (zCons (a1 4 S63.nd (pIx (rm1 hr) (pIx (rm1 hr) (v 1) (pOwn (pC (A.cal 54 _ _ _ rfl) hr (pCons (v 0) (pCons (fLen' (v 1) (A.fre 0 _ rfl)) pNil))))) (pInt))) (zOne (sRet1 (pTup (pCons (pTup (pCons (pStr (by kernel_rfl)) (pCons (v 4) pNil))) (pCons (pOwn (pC (A.cal 57 _ _ _ rfl) hr (pCons (v 1) (pCons (v 4) pNil)) rfl rfl (fun _ => rfl))) pNil))))))) z0) (zCons (sIf' (cLt (v 3) (pInt) hr) (zCons (qPar 5 6 S63.nd (pCons (pIx (rm1 hr) (pTup (pCons (pStr (by kernel_rfl)) (pCons (pStr (by kernel_rfl)) (pCons (pStr (by kernel_rfl)) pNil)))) (pOwn (pC (A.cal 54 _ _ _ rfl) hr (pCons (v 0) (pCons (pInt) pNil))))) (pCons (pOwn (pC (A.cal 56 _ _ _ rfl) hr (pCons (v 0) (pCons (pInt) pNil)))) pNil))) (zCons (sUnp1 (pOwn (pC (A.cal 63 _ _ _ rfl) hr (pCons (v 0) (pCons (pOwn (bAdd (v 1) (pOwn (pLst (pCons (pTup (pCons (v 5) (pCons (v 6) pNil))) pNil))))) (pCons (bSub (v 2) (pInt)) pNil))))) (gM (gC 7 S63.nd (gC 8 S63.nd gN)))) (zOne (sRet1 (pTup (pCons (pTup (pCons (pStr (by kernel_rfl)) (pCons (v 5) (pCons (v 6) (pCons (v 7) pNil))))) (pCons (pTup (pCons (pStr (by kernel_rfl)) (pCons (v 6) (pCons (v 8) pNil)))) pNil))))))) z0) (zCons (sUnp1 (pOwn (pC (A.cal 63 _ _ _ rfl) hr (pCons (v 0) (pCons (v 1) (pCons (bSub (v 2) (pInt)) pNil))))) (gM (gC 9 S63.nd (gC 8 S63.nd gN)))) (zCons (sIf' (cEq (v 3) (pInt) hr) (zCons (sUnp1 (pOwn (pC (A.cal 63 _ _ _ rfl) hr (pCons (v 0) (pCons (v 1) (pCons (bSub (v 2) (pInt)) pNil))))) (gM (gC 10 S63.nd (gC 11 S63.nd gN)))) (zOne (sRet1 (pTup (pCons (pTup (pCons (pStr (by kernel_rfl)) (pCons (v 9) (pCons (v 10) pNil)))) (pCons (pTup (pCons (pStr (by kernel_rfl)) (pCons (v 8) (pCons (v 11) pNil)))) pNil)))))) z0) (zCons (sIf' (cEq (v 3) (pInt) hr) (zCons (a1 10 S63.nd (pOwn (pC (A.cal 56 _ _ _ rfl) hr (pCons (v 0) (pCons (pInt) pNil))))) (zOne (sRet1 (pIf (cEq (pOwn (pC (A.cal 54 _ _ _ rfl) hr (pCons (v 0) (pCons (pInt) pNil)))) (pInt) hr) (pTup (pCons (pTup (pCons (pStr (by kernel_rfl)) (pCons (v 9) (pCons (v 10) pNil)))) (pCons (pTup (pCons (pStr (by kernel_rfl)) (pCons (v 8) (pCons (v 10) pNil)))) pNil))) (pTup (pCons (pTup (pCons (pStr (by kernel_rfl)) (pCons (v 10) (pCons (v 9) pNil)))) (pCons (pTup (pCons (pStr (by kernel_rfl)) (pCons (v 10) (pCons (v 8) pNil)))) pNil))))))) z0) (zCons (sIf' (tTruth (pOwn (pC (A.cal 58 _ _ _ rfl) hr (pCons (v 8) (pCons (pStr (by kernel_rfl)) pNil)) rfl rfl (fun _ => rfl)))) (zOne (sRet1 (pIf (cEq (pOwn (pC (A.cal 54 _ _ _ rfl) hr (pCons (v 0) (pCons (pInt) pNil)))) (pInt) hr) (pTup (pCons (pTup (pCons (pStr (by kernel_rfl)) (pCons (v 9) pNil))) (pCons (pIx (rm1 hr) (v 8) (pInt)) pNil))) (pTup (pCons (pTup (pCons (pStr (by kernel_rfl)) (pCons (v 9) pNil))) (pCons (pIx (rm1 hr) (v 8) (pInt)) pNil)))))) z0) (zCons (sIf' (tTruth (pOwn (pC (A.cal 58 _ _ _ rfl) hr (pCons (v 8) (pCons (pStr (by kernel_rfl)) pNil)) rfl rfl (fun _ => rfl)))) (zCons (a1 10 S63.nd (pOwn (pC (A.cal 62 _ _ _ rfl) hr (pCons (v 0) (pCons (v 1) (pCons (pIx (rm1 hr) (v 8) (pInt)) (pCons (pInt) pNil))))))) (zOne (sRet1 (pIf (cIs (v 10) (pNon) hr) (pTup (pCons (v 9) (pCons (v 8) pNil))) (pTup (pCons (pTup (pCons (pStr (by kernel_rfl)) (pCons (v 9) (pCons (v 10) pNil)))) (pCons (pIx (rm1 hr) (v 8) (pInt)) pNil))))))) z0) (zCons (sIf' (tTruth (pOwn (pC (A.cal 58 _ _ _ rfl) hr (pCons (v 8) (pCons (pStr (by kernel_rfl)) pNil)) rfl rfl (fun _ => rfl)))) (zCons (sIf' (cEq (pOwn (pC (A.cal 54 _ _ _ rfl) hr (pCons (v 0) (pCons (pInt) pNil)))) (pInt) hr) (zOne (sRet1 (pTup (pCons (pTup (pCons (pStr (by kernel_rfl)) (pCons (v 9) (pCons (pStr (by kernel_rfl)) (pCons (pTup (pCons (pStr (by kernel_rfl)) (pCons (pIx (rm1 hr) (v 8) (pInt)) (pCons (pTup (pCons (pStr (by kernel_rfl)) (pCons (pStr (by kernel_rfl)) pNil))) pNil)))) (pCons (pStr (by kernel_rfl)) (pCons (pTup (pCons (pStr (by kernel_rfl)) (pCons (pTup (pCons (pStr (by kernel_rfl)) (pCons (pStr (by kernel_rfl)) pNil))) (pCons (pIx (rm1 hr) (v 8) (pInt)) pNil)))) pNil))))))) (pCons (pTup (pCons (pStr (by kernel_rfl)) (pCons (pIx (rm1 hr) (v 8) (pInt)) (pCons (pIx (rm1 hr) (v 8) (pInt)) pNil)))) pNil))))) z0) (zOne (sRet1 (pTup (pCons (pTup (pCons (pStr (by kernel_rfl)) (pCons (v 9) (pCons (pStr (by kernel_rfl)) (pCons (pTup (pCons (pStr (by kernel_rfl)) (pCons (pTup (pCons (pStr (by kernel_rfl)) (pCons (pStr (by kernel_rfl)) pNil))) (pCons (pIx (rm1 hr) (v 8) (pInt)) pNil)))) (pCons (pStr (by kernel_rfl)) (pCons (pTup (pCons (pStr (by kernel_rfl)) (pCons (pIx (rm1 hr) (v 8) (pInt)) (pCons (pTup (pCons (pStr (by kernel_rfl)) (pCons (pStr (by kernel_rfl)) pNil))) pNil)))) pNil))))))) (pCons (v 8) pNil)))))) z0) (zCons (sIf' (cEq (v 8) (pTup (pCons (pStr (by kernel_rfl)) pNil)) hr) (zCons (a1 10 S63.nd (pOwn (pC (A.cal 56 _ _ _ rfl) hr (pCons (v 0) (pCons (pInt) pNil))))) (zOne (sRet1 (pTup (pCons (pTup (pCons (pStr (by kernel_rfl)) (pCons (v 9) (pCons (v 10) pNil)))) (pCons (v 10) pNil)))))) z0) (zOne (sRet1 (pTup (pCons (pTup (pCons (pStr (by kernel_rfl)) (pCons (v 9) (pCons (v 9) pNil)))) (pCons (pTup (pCons (pStr (by kernel_rfl)) (pCons (v 8) (pCons (v 8) pNil)))) pNil)))))))))))))))
theorem S64 : FnScope [Str.ofString "sentence"] [Str.ofString "sentence"] (defScope (top 92)) := ⟨rfl, rfl, rfl, by decide +kernel, rfl, by decide +kernel, by decide +kernel⟩
theorem f64 (A : Fa P w K mg base k) (F : Fd K (Str.ofString "_law_knots") 92 f fd) : FnOk P w K mg base CX0 (k + 1) f fd [Str.ofString "sentence"] (spF K (run ft (k + 1)) 64 true 1) :=
  fn_k k__law_knots .pure true F S64 rfl (by decide) (by decide) fun cdv _ outer s H E g0 H0 hr => (zCons (sIf' (PW.pt (wOr (tTruth (fIsi1 .str (v 0) (A.fre 1 _ rfl) (A.fre 3 _ rfl))) (wOr1 (cEq (fLen' (v 0) (A.fre 0 _ rfl)) (pInt) hr)))) (zOne (sRet1 (pInt))) z0) (zOne (sRet2 (bAdd (pOwn (bAdd (pInt) (pOwn (pC (A.cal 64 _ _ _ rfl) hr (pCons (pIx (rm1 hr) (v 0) (pInt)) pNil))))) (pOwn (pC (A.cal 64 _ _ _ rfl) hr (pCons (pIx (rm1 hr) (v 0) (pInt)) pNil)))))))
theorem S65 : FnScope [Str.ofString "term", Str.ofString "part"] [Str.ofString "term"] (defScope (top 93)) := ⟨rfl, rfl, rfl, by decide +kernel, rfl, by decide +kernel, by decide +kernel⟩
theorem f65 (A : Fa P w K mg base k) (F : Fd K (Str.ofString "_law_size") 93 f fd) : FnOk P w K mg base CX0 (k + 1) f fd [Str.ofString "term"] (spF K (run ft (k + 1)) 65 true 1) :=
  fn_k k__law_size .pure true F S65 rfl (by decide) (by decide) fun cdv _ outer s H E g0 H0 hr => (zOne (sRet2 (bAdd (pInt) (fSum' (pOwn (pComp rfl S65.nd (pSeq (pOwn (pSl (v 0) (pPart1 (pInt)) (pPart0)))) (blkOk_by (own := [(Str.ofString "part", 1)]) (by kernel_rfl)) (fun _ _ _ _ _ => g1 1 S65.nd) (fun _ _ _ _ _ => ifs1 (tTruth (pOwn (pC (A.cal 61 _ _ _ rfl) hr (pCons (v 1) pNil))))) (fun _ _ _ _ _ => pOwn (pC (A.cal 65 _ _ _ rfl) hr (pCons (v 1) pNil))))) (A.fre 10 _ rfl)))))
theorem S66 : FnScope [Str.ofString "state", Str.ofString "most", Str.ofString "rows", Str.ofString "k", Str.ofString "context", Str.ofString "kind", Str.ofString "term", Str.ofString "borne_here", Str.ofString "name", Str.ofString "sentence"] [Str.ofString "state", Str.ofString "most"] (defScope (top 94)) := ⟨rfl, rfl, rfl, by decide +kernel, rfl, by decide +kernel, by decide +kernel⟩
theorem f66 (A : Fa P w K mg base k) (F : Fd K (Str.ofString "_law_book") 94 f fd) : FnOk P w K mg base CX0 (k + 1) f fd [Str.ofString "state", Str.ofString "most"] (spF K (run ft (k + 1)) 66 false 2) :=
  fn_k k__law_book .impure false F S66 rfl (by decide) (by decide) fun cdv _ outer s H E g0 H0 hr => (zCons (a2 2 S66.nd (pLst pNil)) (zCons (sF (jR1 (A.fre 13 _ rfl) (pOwn (bAdd (pInt) (pOwn (pC (A.cal 54 _ _ _ rfl) hr (pCons (v 0) (pCons (v 1) pNil))))))) (g1 3 S66.nd) (zCons (sSetLcF (i := 4) rfl S66.nd rfl rfl rfl (pSeq (vb 2)) (blkOk_by (own := [(Str.ofString "name", 8), (Str.ofString "sentence", 9), (Str.ofString "term", 6)]) (by kernel_rfl)) (fun _ _ _ _ _ => gM (gC 8 S66.nd (gC 9 S66.nd (gC 6 S66.nd gN)))) (fun _ _ _ _ _ => ifs0) (fun _ _ _ _ _ => pTup (pCons (v 8) (pCons (v 9) pNil)))) (zCons (a1 5 S66.nd (pOwn (pC (A.cal 54 _ _ _ rfl) hr (pCons (v 0) (pCons (pInt) pNil))))) (zOne (sIf' (PW.pt (wOr (cLt (v 5) (pInt) hr) (wOr1 (cEq (v 4) (pOwn (pLst pNil)) hr)))) (zOne (mApp 2 (pTup (pCons (pOwn (bAdd (pStr (by kernel_rfl)) (fStr' (v 3) (A.fre 3 _ rfl)))) (pCons (pOwn (pC (A.cal 56 _ _ _ rfl) hr (pCons (v 0) (pCons (pOwn (bAdd (pInt) (pOwn (pC (A.cal 54 _ _ _ rfl) hr (pCons (v 0) (pCons (pInt) pNil)))))) pNil)))) (pCons (pNon) pNil)))))) (zCons (sUnp1 (pOwn (pC (A.cal 63 _ _ _ rfl) hr (pCons (v 0) (pCons (v 4) (pCons (pOwn (bAdd (pInt) (pOwn (pC (A.cal 54 _ _ _ rfl) hr (pCons (v 0) (pCons (pInt) pNil)))))) pNil))))) (gM (gC 6 S66.nd (gC 7 S66.nd gN)))) (zCons (sIf' (PW.pt (wOr (cGt (pOwn (pC (A.cal 64 _ _ _ rfl) hr (pCons (v 7) pNil) rfl rfl (fun _ => rfl))) (pInt) hr) (wOr1 (cGt (pOwn (pC (A.cal 65 _ _ _ rfl) hr (pCons (v 6) pNil) rfl rfl (fun _ => rfl))) (pInt) hr)))) (zOne (qPar 6 7 S66.nd (pCons (pTup (pCons (pStr (by kernel_rfl)) (pCons (pIx (rm1 hr) (pIx (rm1 hr) (v 4) (pInt)) (pInt)) pNil))) (pCons (pIx (rm1 hr) (pIx (rm1 hr) (v 4) (pInt)) (pInt)) pNil)))) z0) (zOne (mApp 2 (pTup (pCons (pOwn (bAdd (pStr (by kernel_rfl)) (fStr' (v 3) (A.fre 3 _ rfl)))) (pCons (pOwn (pIfO (cLt (v 5) (pInt) hr) (pVal (v 7)) (pC (A.cal 56 _ _ _ rfl) hr (pCons (v 0) (pCons (pInt) pNil))))) (pCons (v 6) pNil))))))))))))) (zOne (sRet1 (fTuple' (vb 2) (A.fre 4 _ rfl))))))
theorem S67 : FnScope [Str.ofString "book", Str.ofString "number", Str.ofString "labels", Str.ofString "k"] [Str.ofString "book", Str.ofString "number"] (defScope (top 95)) := ⟨rfl, rfl, rfl, by decide +kernel, rfl, by decide +kernel, by decide +kernel⟩
theorem f67 (A : Fa P w K mg base k) (F : Fd K (Str.ofString "_law_leans") 95 f fd) : FnOk P w K mg base CX0 (k + 1) f fd [Str.ofString "book", Str.ofString "number"] (spF K (run ft (k + 1)) 67 true 2) :=
  fn_k k__law_leans .pure true F S67 rfl (by decide) (by decide) fun cdv _ outer s H E g0 H0 hr => (zCons (sIf' (cIs (pIx (rm1 hr) (pIx (rm1 hr) (v 0) (v 1)) (pInt)) (pNon) hr) (zOne (sRet2 (pLst pNil))) z0) (zCons (a1 2 S67.nd (pOwn (pC (A.cal 60 _ _ _ rfl) hr (pCons (pIx (rm1 hr) (pIx (rm1 hr) (v 0) (v 1)) (pInt)) pNil)))) (zOne (sRet2 (pComp rfl S67.nd (jR1 (A.fre 13 _ rfl) (v 1)) (blkOk_by (own := [(Str.ofString "k", 3)]) (by kernel_rfl)) (fun _ _ _ _ _ => g1 3 S67.nd) (fun _ _ _ _ _ => ifs1 (cIn (pIx (rm1 hr) (pIx (rm1 hr) (v 0) (v 3)) (pInt)) (v 2) hr)) (fun _ _ _ _ _ => v 3))))))
theorem S68 : FnScope [Str.ofString "book", Str.ofString "number", Str.ofString "row", Str.ofString "k", Str.ofString "one"] [Str.ofString "book", Str.ofString "number"] (defScope (top 96)) := ⟨rfl, rfl, rfl, by decide +kernel, rfl, by decide +kernel, by decide +kernel⟩
theorem f68 (A : Fa P w K mg base k) (F : Fd K (Str.ofString "_law_under") 96 f fd) : FnOk P w K mg base CX0 (k + 1) f fd [Str.ofString "book", Str.ofString "number"] (spF K (run ft (k + 1)) 68 true 2) :=
  fn_k k__law_under .pure true F S68 rfl (by decide) (by decide) fun cdv _ outer s H E g0 H0 hr => (zCons (a1 2 S68.nd (pOwn (pC (A.cal 67 _ _ _ rfl) hr (pCons (v 0) (pCons (v 1) pNil))))) (zCons (sF (jR3 (A.fre 13 _ rfl) (bSub (v 1) (pInt)) (kM)) (g1 3 S68.nd) (zOne (sIf' (cIn (v 3) (v 2) hr) (zOne (a1 2 S68.nd (pOwn (bAdd (v 2) (pOwn (pComp rfl S68.nd (pSeq (pOwn (pC (A.cal 67 _ _ _ rfl) hr (pCons (v 0) (pCons (v 3) pNil))))) (blkOk_by (own := [(Str.ofString "one", 4)]) (by kernel_rfl)) (fun _ _ _ _ _ => g1 4 S68.nd) (fun _ _ _ _ _ => ifs1 (cNotIn (v 4) (v 2) hr)) (fun _ _ _ _ _ => v 4))))))) z0))) (zOne (sRet2 (fSorted' (v 2) (A.fre 7 _ rfl))))))
theorem S69 : FnScope [Str.ofString "book", Str.ofString "number", Str.ofString "name", Str.ofString "sentence", Str.ofString "term"] [Str.ofString "book", Str.ofString "number"] (defScope (top 97)) := ⟨rfl, rfl, rfl, by decide +kernel, rfl, by decide +kernel, by decide +kernel⟩
theorem f69 (A : Fa P w K mg base k) (F : Fd K (Str.ofString "_law_taken") 97 f fd) : FnOk P w K mg base CX0 (k + 1) f fd [Str.ofString "book", Str.ofString "number"] (spF K (run ft (k + 1)) 69 true 2) :=
  fn_k k__law_taken .pure true F S69 rfl (by decide) (by decide) fun cdv _ outer s H E g0 H0 hr => (zCons (sIf' (cIs (pIx (rm1 hr) (pIx (rm1 hr) (v 0) (v 1)) (pInt)) (pNon) hr) (zOne (sRet1 (pBl))) z0) (zOne (sRet1 (eEq (pOwn (pC (A.cal 59 _ _ _ rfl) hr (pCons (pOwn (pComp rfl S69.nd (pSeq (pOwn (pSl (v 0) (pPart0) (pPart1 (v 1))))) (blkOk_by (own := [(Str.ofString "name", 2), (Str.ofString "sentence", 3), (Str.ofString "term", 4)]) (by kernel_rfl)) (fun _ _ _ _ _ => gM (gC 2 S69.nd (gC 3 S69.nd (gC 4 S69.nd gN)))) (fun _ _ _ _ _ => ifs0) (fun _ _ _ _ _ => pTup (pCons (v 2) (pCons (v 3) pNil))))) (pCons (pIx (rm1 hr) (pIx (rm1 hr) (v 0) (v 1)) (pInt)) pNil)))) (pIx (rm1 hr) (pIx (rm1 hr) (v 0) (v 1)) (pInt)) hr))))
theorem S70 : FnScope [Str.ofString "book", Str.ofString "number", Str.ofString "k"] [Str.ofString "book", Str.ofString "number"] (defScope (top 98)) := ⟨rfl, rfl, rfl, by decide +kernel, rfl, by decide +kernel, by decide +kernel⟩
theorem f70 (A : Fa P w K mg base k) (F : Fd K (Str.ofString "_law_stands") 98 f fd) : FnOk P w K mg base CX0 (k + 1) f fd [Str.ofString "book", Str.ofString "number"] (spF K (run ft (k + 1)) 70 true 2) :=
  fn_k k__law_stands .pure true F S70 rfl (by decide) (by decide) fun cdv _ outer s H E g0 H0 hr => (zOne (sRet1 (fAll' (pOwn (pComp rfl S70.nd (pSeq (pOwn (bAdd (pOwn (pC (A.cal 68 _ _ _ rfl) hr (pCons (v 0) (pCons (v 1) pNil)))) (pOwn (pLst (pCons (v 1) pNil)))))) (blkOk_by (own := [(Str.ofString "k", 2)]) (by kernel_rfl)) (fun _ _ _ _ _ => g1 2 S70.nd) (fun _ _ _ _ _ => ifs0) (fun _ _ _ _ _ => pOwn (pC (A.cal 69 _ _ _ rfl) hr (pCons (v 0) (pCons (v 2) pNil)))))) (A.fre 8 _ rfl))))
theorem S71 : FnScope [Str.ofString "book", Str.ofString "number", Str.ofString "k"] [Str.ofString "book", Str.ofString "number"] (defScope (top 99)) := ⟨rfl, rfl, rfl, by decide +kernel, rfl, by decide +kernel, by decide +kernel⟩
theorem f71 (A : Fa P w K mg base k) (F : Fd K (Str.ofString "_law_rests") 99 f fd) : FnOk P w K mg base CX0 (k + 1) f fd [Str.ofString "book", Str.ofString "number"] (spF K (run ft (k + 1)) 71 true 2) :=
  fn_k k__law_rests .pure true F S71 rfl (by decide) (by decide) fun cdv _ outer s H E g0 H0 hr => (zOne (sRet2 (pComp rfl S71.nd (pSeq (pOwn (bAdd (pOwn (pC (A.cal 68 _ _ _ rfl) hr (pCons (v 0) (pCons (v 1) pNil)))) (pOwn (pLst (pCons (v 1) pNil)))))) (blkOk_by (own := [(Str.ofString "k", 2)]) (by kernel_rfl)) (fun _ _ _ _ _ => g1 2 S71.nd) (fun _ _ _ _ _ => ifs1 (cIs (pIx (rm1 hr) (pIx (rm1 hr) (v 0) (v 2)) (pInt)) (pNon) hr)) (fun _ _ _ _ _ => v 2))))
theorem S72 : FnScope [Str.ofString "book", Str.ofString "many", Str.ofString "found", Str.ofString "bad", Str.ofString "pairs", Str.ofString "k", Str.ofString "more", Str.ofString "wrong_here", Str.ofString "name", Str.ofString "sentence", Str.ofString "term", Str.ofString "entry", Str.ofString "one"] [Str.ofString "book"] (defScope (top 100)) := ⟨rfl, rfl, rfl, by decide +kernel, rfl, by decide +kernel, by decide +kernel⟩
theorem f72 (A : Fa P w K mg base k) (F : Fd K (Str.ofString "_law_one") 100 f fd) : FnOk P w K mg base CX0 (k + 1) f fd [Str.ofString "book"] (spF K (run ft (k + 1)) 72 true 1) :=
  fn_k k__law_one .pure true F S72 rfl (by decide) (by decide) fun cdv _ outer s H E g0 H0 hr => (zCons (a1 1 S72.nd (fLen' (v 0) (A.fre 0 _ rfl))) (zCons (sIf' (PW.pt (wOr (tNot' (tTruth (pOwn (pC (A.cal 55 _ _ _ rfl) hr (pCons (pOwn (pC (A.cal 42 _ _ _ rfl) hr (pCons (v 0) pNil))) (pCons (pBl) pNil)))))) (wOr1 (tNot' (tTruth (pOwn (pC (A.cal 55 _ _ _ rfl) hr (pCons (pOwn (pC (A.cal 42 _ _ _ rfl) hr (pCons (pOwn (pComp rfl S72.nd (pSeq (v 0)) (blkOk_by (own := [(Str.ofString "entry", 11)]) (by kernel_rfl)) (fun _ _ _ _ _ => g1 11 S72.nd) (fun _ _ _ _ _ => ifs0) (fun _ _ _ _ _ => pOwn (fList' (v 11) (A.fre 5 _ rfl))))) pNil))) (pCons (pBl) pNil))))))))) (zOne (sRet1 (pBl))) z0) (zCons (sSetLcF (i := 2) rfl S72.nd rfl rfl rfl (jR1 (A.fre 13 _ rfl) (v 1)) (blkOk_by (own := [(Str.ofString "k", 5)]) (by kernel_rfl)) (fun _ _ _ _ _ => g1 5 S72.nd) (fun _ _ _ _ _ => ifs1 (tTruth (pOwn (pC (A.cal 70 _ _ _ rfl) hr (pCons (v 0) (pCons (v 5) pNil)))))) (fun _ _ _ _ _ => v 5)) (zCons (sSetLcF (i := 3) rfl S72.nd rfl rfl rfl (jR1 (A.fre 13 _ rfl) (v 1)) (blkOk_by (own := [(Str.ofString "k", 5)]) (by kernel_rfl)) (fun _ _ _ _ _ => g1 5 S72.nd) (fun _ _ _ _ _ => ifs1 (tNot' (tTruth (pOwn (pC (A.cal 69 _ _ _ rfl) hr (pCons (v 0) (pCons (v 5) pNil))))))) (fun _ _ _ _ _ => v 5)) (zCons (sIf' (PW.pt (wOr (tNot' (tTruth (pOwn (pC (A.cal 55 _ _ _ rfl) hr (pCons (pOwn (pC (A.cal 48 _ _ _ rfl) hr (pCons (v 0) pNil))) (pCons (fTuple' (v 2) (A.fre 4 _ rfl)) pNil)))))) (wOr (tNot' (tTruth (pOwn (pC (A.cal 55 _ _ _ rfl) hr (pCons (pOwn (pC (A.cal 50 _ _ _ rfl) hr (pCons (v 0) pNil))) (pCons (eEq (v 3) (pOwn (pLst pNil)) hr) pNil)))))) (wOr1 (tNot' (tTruth (pOwn (pC (A.cal 55 _ _ _ rfl) hr (pCons (pOwn (pC (A.cal 51 _ _ _ rfl) hr (pCons (v 0) pNil))) (pCons (pIf (tTruth (v 3)) (pIx (rm1 hr) (v 3) (pInt)) (pNon)) pNil)))))))))) (zOne (sRet1 (pBl))) z0) (zCons (a1 4 S72.nd (fTuple' (pOwn (pComp rfl S72.nd (pSeq (v 0)) (blkOk_by (own := [(Str.ofString "name", 8), (Str.ofString "sentence", 9), (Str.ofString "term", 10)]) (by kernel_rfl)) (fun _ _ _ _ _ => gM (gC 8 S72.nd (gC 9 S72.nd (gC 10 S72.nd gN)))) (fun _ _ _ _ _ => ifs0) (fun _ _ _ _ _ => pTup (pCons (v 8) (pCons (v 9) pNil))))) (A.fre 4 _ rfl))) (zCons (sIf' (PW.pt (wOr (tNot' (tTruth (pOwn (pC (A.cal 55 _ _ _ rfl) hr (pCons (pOwn (pC (A.cal 52 _ _ _ rfl) hr (pCons (v 0) pNil))) (pCons (fTuple' (pOwn (pComp rfl S72.nd (jR1 (A.fre 13 _ rfl) (v 1)) (blkOk_by (own := [(Str.ofString "k", 5)]) (by kernel_rfl)) (fun _ _ _ _ _ => g1 5 S72.nd) (fun _ _ _ _ _ => ifs1 (cIs (pIx (rm1 hr) (pIx (rm1 hr) (v 0) (v 5)) (pInt)) (pNon) hr)) (fun _ _ _ _ _ => pIx (rm1 hr) (v 4) (v 5)))) (A.fre 4 _ rfl)) pNil)))))) (wOr1 (tNot' (tTruth (pOwn (pC (A.cal 55 _ _ _ rfl) hr (pCons (pOwn (pC (A.cal 43 _ _ _ rfl) hr (pCons (v 0) (pCons (v 1) pNil)))) (pCons (v 4) pNil))))))))) (zOne (sRet1 (pBl))) z0) (zCons (sF (jR1 (A.fre 13 _ rfl) (v 1)) (g1 5 S72.nd) (zCons (sIf' (PW.pt (wOr (tNot' (tTruth (pOwn (pC (A.cal 55 _ _ _ rfl) hr (pCons (pOwn (pC (A.cal 44 _ _ _ rfl) hr (pCons (v 0) (pCons (v 5) pNil)))) (pCons (fTuple' (pOwn (pC (A.cal 67 _ _ _ rfl) hr (pCons (v 0) (pCons (v 5) pNil)))) (A.fre 4 _ rfl)) pNil)))))) (wOr (tNot' (tTruth (pOwn (pC (A.cal 55 _ _ _ rfl) hr (pCons (pOwn (pC (A.cal 45 _ _ _ rfl) hr (pCons (v 0) (pCons (v 5) pNil)))) (pCons (fTuple' (pOwn (pC (A.cal 68 _ _ _ rfl) hr (pCons (v 0) (pCons (v 5) pNil)))) (A.fre 4 _ rfl)) pNil)))))) (wOr1 (tNot' (tTruth (pOwn (pC (A.cal 55 _ _ _ rfl) hr (pCons (pOwn (pC (A.cal 47 _ _ _ rfl) hr (pCons (v 0) (pCons (v 5) pNil)))) (pCons (pOwn (pC (A.cal 69 _ _ _ rfl) hr (pCons (v 0) (pCons (v 5) pNil)))) pNil)))))))))) (zOne (sRet1 (pBl))) z0) (zCons (sIf' (PW.pt (wOr (tNot' (tTruth (pOwn (pC (A.cal 55 _ _ _ rfl) hr (pCons (pOwn (pC (A.cal 46 _ _ _ rfl) hr (pCons (v 0) (pCons (v 5) pNil)))) (pCons (fTuple' (pOwn (pComp rfl S72.nd (jR1 (A.fre 13 _ rfl) (v 1)) (blkOk_by (own := [(Str.ofString "one", 12)]) (by kernel_rfl)) (fun _ _ _ _ _ => g1 12 S72.nd) (fun _ _ _ _ _ => ifs1 (cIn (v 5) (pOwn (pC (A.cal 68 _ _ _ rfl) hr (pCons (v 0) (pCons (v 12) pNil)))) hr)) (fun _ _ _ _ _ => v 12))) (A.fre 4 _ rfl)) pNil)))))) (wOr1 (tNot' (tTruth (pOwn (pC (A.cal 55 _ _ _ rfl) hr (pCons (pOwn (pC (A.cal 49 _ _ _ rfl) hr (pCons (v 0) (pCons (v 5) pNil)))) (pCons (fTuple' (pOwn (pC (A.cal 71 _ _ _ rfl) hr (pCons (v 0) (pCons (v 5) pNil)))) (A.fre 4 _ rfl)) pNil))))))))) (zOne (sRet1 (pBl))) z0) (zOne (sIf' (tNot' (tTruth (pOwn (pC (A.cal 55 _ _ _ rfl) hr (pCons (pOwn (pC (A.cal 43 _ _ _ rfl) hr (pCons (v 0) (pCons (v 5) pNil)))) (pCons (pOwn (pSl (v 4) (pPart0) (pPart1 (v 5)))) pNil)))))) (zOne (sRet1 (pBl))) z0))))) (zCons (a1 6 S72.nd (pOwn (pLst (pCons (pTup (pCons (pStr (by kernel_rfl)) (pCons (pStr (by kernel_rfl)) (pCons (pTup (pCons (pStr (by kernel_rfl)) (pCons (pStr (by kernel_rfl)) pNil))) pNil)))) (pCons (pTup (pCons (pStr (by kernel_rfl)) (pCons (pStr (by kernel_rfl)) (pCons (pTup (pCons (pStr (by kernel_rfl)) (pCons (pStr (by kernel_rfl)) pNil))) pNil)))) (pCons (pTup (pCons (pStr (by kernel_rfl)) (pCons (pStr (by kernel_rfl)) (pCons (pNon) pNil)))) (pCons (pTup (pCons (pStr (by kernel_rfl)) (pCons (pStr (by kernel_rfl)) pNil))) (pCons (pTup (pCons (pStr (by kernel_rfl)) (pCons (pTup (pCons (pStr (by kernel_rfl)) (pCons (pStr (by kernel_rfl)) pNil))) (pCons (pNon) pNil)))) (pCons (pIx (rm1 hr) (v 0) (pInt)) pNil))))))))) (zCons (sF (pSeq (pOwn (bAdd (pOwn (pLst (pCons (pNon) (pCons (pInt) pNil)))) (pOwn (pComp rfl S72.nd (pSeq (v 6)) (blkOk_by (own := [(Str.ofString "entry", 11)]) (by kernel_rfl)) (fun _ _ _ _ _ => g1 11 S72.nd) (fun _ _ _ _ _ => ifs0) (fun _ _ _ _ _ => pOwn (bAdd (v 0) (pTup (pCons (v 11) pNil))))))))) (g1 7 S72.nd) (zOne (sIf' (tNot' (tTruth (pOwn (pC (A.cal 55 _ _ _ rfl) hr (pCons (pOwn (pC (A.cal 42 _ _ _ rfl) hr (pCons (v 7) pNil))) (pCons (pBl) pNil)))))) (zOne (sRet1 (pBl))) z0))) (zOne (sRet1 (pBl)))))))))))))
theorem S73 : FnScope [Str.ofString "script", Str.ofString "book", Str.ofString "twelve", Str.ofString "run", Str.ofString "k"] [Str.ofString "script"] (defScope (top 101)) := ⟨rfl, rfl, rfl, by decide +kernel, rfl, by decide +kernel, by decide +kernel⟩
theorem f73 (A : Fa P w K mg base k) (F : Fd K (Str.ofString "law") 101 f fd) : FnOk P w K mg base CX0 (k + 1) f fd [Str.ofString "script"] (spF K (run ft (k + 1)) 73 false 1) :=
  fn_k k_law .impure false F S73 rfl (by decide) (by decide) fun cdv _ outer s H E g0 H0 hr => (zCons (a1 1 S73.nd (pTup (pCons (pTup (pCons (pStr (by kernel_rfl)) (pCons (pStr (by kernel_rfl)) (pCons (pNon) pNil)))) (pCons (pTup (pCons (pStr (by kernel_rfl)) (pCons (pTup (pCons (pStr (by kernel_rfl)) (pCons (pStr (by kernel_rfl)) (pCons (pStr (by kernel_rfl)) pNil)))) (pCons (pNon) pNil)))) (pCons (pTup (pCons (pStr (by kernel_rfl)) (pCons (pStr (by kernel_rfl)) (pCons (pTup (pCons (pStr (by kernel_rfl)) (pCons (pTup (pCons (pStr (by kernel_rfl)) (pCons (pStr (by kernel_rfl)) pNil))) (pCons (pTup (pCons (pStr (by kernel_rfl)) (pCons (pStr (by kernel_rfl)) pNil))) pNil)))) pNil)))) (pCons (pTup (pCons (pStr (by kernel_rfl)) (pCons (pTup (pCons (pStr (by kernel_rfl)) (pCons (pStr (by kernel_rfl)) (pCons (pStr (by kernel_rfl)) pNil)))) (pCons (pTup (pCons (pStr (by kernel_rfl)) (pCons (pTup (pCons (pStr (by kernel_rfl)) (pCons (pStr (by kernel_rfl)) pNil))) (pCons (pTup (pCons (pStr (by kernel_rfl)) (pCons (pStr (by kernel_rfl)) pNil))) pNil)))) pNil)))) pNil)))))) (zCons (sIf' (PW.pt (wOr (tNot' (tTruth (pOwn (pC (A.cal 55 _ _ _ rfl) hr (pCons (pOwn (pC (A.cal 45 _ _ _ rfl) hr (pCons (v 1) (pCons (pInt) pNil)) rfl rfl (fun _ => rfl))) (pCons (pTup (pCons (pInt) (pCons (pInt) (pCons (pInt) pNil)))) pNil)) rfl rfl (fun _ => rfl))))) (wOr (tNot' (tTruth (pOwn (pC (A.cal 55 _ _ _ rfl) hr (pCons (pOwn (pC (A.cal 44 _ _ _ rfl) hr (pCons (v 1) (pCons (pInt) pNil)) rfl rfl (fun _ => rfl))) (pCons (pTup (pCons (pInt) (pCons (pInt) pNil))) pNil)) rfl rfl (fun _ => rfl))))) (wOr (tNot' (tTruth (pOwn (pC (A.cal 55 _ _ _ rfl) hr (pCons (pOwn (pC (A.cal 46 _ _ _ rfl) hr (pCons (v 1) (pCons (pInt) pNil)) rfl rfl (fun _ => rfl))) (pCons (pTup (pCons (pInt) (pCons (pInt) pNil))) pNil)) rfl rfl (fun _ => rfl))))) (wOr1 (tNot' (tTruth (pOwn (pC (A.cal 55 _ _ _ rfl) hr (pCons (pOwn (pC (A.cal 48 _ _ _ rfl) hr (pCons (v 1) pNil) rfl rfl (fun _ => rfl))) (pCons (pTup (pCons (pInt) (pCons (pInt) (pCons (pInt) (pCons (pInt) pNil))))) pNil)) rfl rfl (fun _ => rfl)))))))))) (zOne (sRet1 (pBl))) z0) (zCons (sIf' (tNot' (tTruth (pOwn (pC (A.cal 55 _ _ _ rfl) hr (pCons (pOwn (pC (A.cal 52 _ _ _ rfl) hr (pCons (pTup (pCons (pTup (pCons (pStr (by kernel_rfl)) (pCons (pStr (by kernel_rfl)) (pCons (pNon) pNil)))) (pCons (pTup (pCons (pStr (by kernel_rfl)) (pCons (pStr (by kernel_rfl)) (pCons (pTup (pCons (pStr (by kernel_rfl)) (pCons (pStr (by kernel_rfl)) pNil))) pNil)))) (pCons (pTup (pCons (pStr (by kernel_rfl)) (pCons (pStr (by kernel_rfl)) (pCons (pNon) pNil)))) pNil)))) pNil) rfl rfl (fun _ => rfl))) (pCons (pTup (pCons (pTup (pCons (pStr (by kernel_rfl)) (pCons (pStr (by kernel_rfl)) pNil))) (pCons (pTup (pCons (pStr (by kernel_rfl)) (pCons (pStr (by kernel_rfl)) pNil))) pNil))) pNil)) rfl rfl (fun _ => rfl))))) (zOne (sRet1 (pBl))) z0) (zCons (a1 2 S73.nd (fTuple' (pOwn (pComp rfl S73.nd (jR1 (A.fre 13 _ rfl) (pInt)) (blkOk_by (own := [(Str.ofString "k", 4)]) (by kernel_rfl)) (fun _ _ _ _ _ => g1 4 S73.nd) (fun _ _ _ _ _ => ifs0) (fun _ _ _ _ _ => pTup (pCons (pOwn (bAdd (pStr (by kernel_rfl)) (fStr' (v 4) (A.fre 3 _ rfl)))) (pCons (pStr (by kernel_rfl)) (pCons (pNon) pNil)))))) (A.fre 4 _ rfl))) (zCons (sIf' (PW.pt (wOr (tNot' (tTruth (pOwn (pC (A.cal 55 _ _ _ rfl) hr (pCons (pOwn (pC (A.cal 42 _ _ _ rfl) hr (pCons (v 2) pNil) rfl rfl (fun _ => rfl))) (pCons (pBl) pNil)) rfl rfl (fun _ => rfl))))) (wOr1 (tNot' (tTruth (pOwn (pC (A.cal 55 _ _ _ rfl) hr (pCons (pOwn (pC (A.cal 42 _ _ _ rfl) hr (pCons (pOwn (bAdd (v 2) (pTup (pCons (pTup (pCons (pStr (by kernel_rfl)) (pCons (pStr (by kernel_rfl)) (pCons (pNon) pNil)))) pNil)))) pNil) rfl rfl (fun _ => rfl))) (pCons (pBl) pNil)) rfl rfl (fun _ => rfl)))))))) (zOne (sRet1 (pBl))) z0) (zCons (sIf' (PW.pt (wOr (tNot' (tTruth (pOwn (pC (A.cal 55 _ _ _ rfl) hr (pCons (pOwn (pC (A.cal 48 _ _ _ rfl) hr (pCons (pTup pNil) pNil) rfl rfl (fun _ => rfl))) (pCons (pTup pNil) pNil)) rfl rfl (fun _ => rfl))))) (wOr1 (tNot' (tTruth (pOwn (pC (A.cal 55 _ _ _ rfl) hr (pCons (pOwn (pC (A.cal 42 _ _ _ rfl) hr (pCons (pOwn (pBack (v 1))) pNil) rfl rfl (fun _ => rfl))) (pCons (pBl) pNil)) rfl rfl (fun _ => rfl)))))))) (zOne (sRet1 (pBl))) z0) (zCons (sF (jR1 (A.fre 13 _ rfl) (pInt)) (g1 3 S73.nd) (zOne (sIf' (tNot' (tTruth (pOwn (pC (A.cal 72 _ _ _ rfl) hr (pCons (pOwn (pC (A.cal 66 _ _ _ rfl) hr (pCons (pNew (pLst (pCons (pIx (rm1 hr) (pOwn (pC (A.cal 53 _ _ _ rfl) hr (pCons (v 0) (pCons (v 3) (pCons (pInt) pNil))) rfl rfl (fun _ => rfl))) (pInt)) pNil))) (pCons (pInt) pNil)))) pNil) rfl rfl (fun _ => rfl))))) (zOne (sRet1 (pBl))) z0))) (zOne (sRet1 (pBl))))))))))
end
end Gt.k51
end
section
set_option Elab.async false
set_option linter.all false
set_option maxRecDepth 100000
set_option maxHeartbeats 0
namespace Gt.k51
open Gt PySem PySem.Spec PyProof.Rows L2
def dOf (x : Str) (i : Nat) : He.DefD := ⟨(x, none), x, x, defArgs (top i), defBody (top i), defScope (top i), [], []⟩
def fn : List He.DefD := [dOf (Str.ofString "is_number") 9, dOf (Str.ofString "in_range") 10, dOf (Str.ofString "is_name") 11, dOf (Str.ofString "is_sequence") 12, dOf (Str.ofString "is_too_deep") 13, dOf (Str.ofString "frozen") 14, dOf (Str.ofString "handed") 15, dOf (Str.ofString "number_given") 16, dOf (Str.ofString "knots_within") 22, dOf (Str.ofString "is_sentence_value") 23, dOf (Str.ofString "knots_of") 24, dOf (Str.ofString "deep_of") 25, dOf (Str.ofString "fits") 26, dOf (Str.ofString "sentence_of") 27, dOf (Str.ofString "with_label") 28, dOf (Str.ofString "has_labels_and_sentences") 38, dOf (Str.ofString "term_knots_within") 39, dOf (Str.ofString "is_term_value") 40, dOf (Str.ofString "bound_labels") 41, dOf (Str.ofString "add_free") 42, dOf (Str.ofString "free_in") 43, dOf (Str.ofString "is_made_by") 45, dOf (Str.ofString "grown") 46, dOf (Str.ofString "concluded") 47, dOf (Str.ofString "farther") 48, dOf (Str.ofString "told_of_cases") 49, dOf (Str.ofString "told_of") 50, dOf (Str.ofString "bears") 51, dOf (Str.ofString "is_entry_value") 54, dOf (Str.ofString "leans_within") 55, dOf (Str.ofString "is_book_value") 56, dOf (Str.ofString "book_given") 57, dOf (Str.ofString "context_ahead") 58, dOf (Str.ofString "leaned_on") 59, dOf (Str.ofString "unders") 60, dOf (Str.ofString "overs") 61, dOf (Str.ofString "takes_entry") 62, dOf (Str.ofString "does_entry_stand") 63, dOf (Str.ofString "standing_of") 64, dOf (Str.ofString "resting_on") 65, dOf (Str.ofString "assumed_context") 66, dOf (Str.ofString "entry_number_given") 68, dOf (Str.ofString "is_book") 69, dOf (Str.ofString "context_of") 70, dOf (Str.ofString "leans_on") 71, dOf (Str.ofString "under") 72, dOf (Str.ofString "over") 73, dOf (Str.ofString "is_taken") 74, dOf (Str.ofString "standing") 75, dOf (Str.ofString "rests_on") 76, dOf (Str.ofString "is_sound") 77, dOf (Str.ofString "first_not_taken") 78, dOf (Str.ofString "assumptions") 79, dOf (Str.ofString "_law_numbers") 81, dOf (Str.ofString "_law_draw") 82, dOf (Str.ofString "_law_same") 83, dOf (Str.ofString "_law_sentence") 84, dOf (Str.ofString "_law_find") 85, dOf (Str.ofString "_law_kind") 86, dOf (Str.ofString "_law_borne") 87, dOf (Str.ofString "_law_free") 88, dOf (Str.ofString "_law_is_term") 89, dOf (Str.ofString "_law_for") 90, dOf (Str.ofString "_law_make") 91, dOf (Str.ofString "_law_knots") 92, dOf (Str.ofString "_law_size") 93, dOf (Str.ofString "_law_book") 94, dOf (Str.ofString "_law_leans") 95, dOf (Str.ofString "_law_under") 96, dOf (Str.ofString "_law_taken") 97, dOf (Str.ofString "_law_stands") 98, dOf (Str.ofString "_law_rests") 99, dOf (Str.ofString "_law_one") 100, dOf (Str.ofString "law") 101]
def nm0 : List PySem.Str := [PySem.Str.ofString "is_number", PySem.Str.ofString "in_range", PySem.Str.ofString "is_name", PySem.Str.ofString "is_sequence", PySem.Str.ofString "is_too_deep", PySem.Str.ofString "frozen", PySem.Str.ofString "handed", PySem.Str.ofString "number_given", PySem.Str.ofString "knots_within", PySem.Str.ofString "is_sentence_value", PySem.Str.ofString "knots_of", PySem.Str.ofString "deep_of", PySem.Str.ofString "fits", PySem.Str.ofString "sentence_of", PySem.Str.ofString "with_label", PySem.Str.ofString "has_labels_and_sentences", PySem.Str.ofString "term_knots_within", PySem.Str.ofString "is_term_value", PySem.Str.ofString "bound_labels", PySem.Str.ofString "add_free", PySem.Str.ofString "free_in", PySem.Str.ofString "is_made_by", PySem.Str.ofString "grown", PySem.Str.ofString "concluded", PySem.Str.ofString "farther", PySem.Str.ofString "told_of_cases", PySem.Str.ofString "told_of", PySem.Str.ofString "bears", PySem.Str.ofString "is_entry_value", PySem.Str.ofString "leans_within"]
def nm1 : List PySem.Str := [PySem.Str.ofString "is_book_value", PySem.Str.ofString "book_given", PySem.Str.ofString "context_ahead", PySem.Str.ofString "leaned_on", PySem.Str.ofString "unders", PySem.Str.ofString "overs", PySem.Str.ofString "takes_entry", PySem.Str.ofString "does_entry_stand", PySem.Str.ofString "standing_of", PySem.Str.ofString "resting_on", PySem.Str.ofString "assumed_context", PySem.Str.ofString "entry_number_given", PySem.Str.ofString "is_book", PySem.Str.ofString "context_of", PySem.Str.ofString "leans_on", PySem.Str.ofString "under", PySem.Str.ofString "over", PySem.Str.ofString "is_taken", PySem.Str.ofString "standing", PySem.Str.ofString "rests_on", PySem.Str.ofString "is_sound", PySem.Str.ofString "first_not_taken", PySem.Str.ofString "assumptions", PySem.Str.ofString "_law_numbers", PySem.Str.ofString "_law_draw", PySem.Str.ofString "_law_same", PySem.Str.ofString "_law_sentence", PySem.Str.ofString "_law_find", PySem.Str.ofString "_law_kind", PySem.Str.ofString "_law_borne"]
def nm2 : List PySem.Str := [PySem.Str.ofString "_law_free", PySem.Str.ofString "_law_is_term", PySem.Str.ofString "_law_for", PySem.Str.ofString "_law_make", PySem.Str.ofString "_law_knots", PySem.Str.ofString "_law_size", PySem.Str.ofString "_law_book", PySem.Str.ofString "_law_leans", PySem.Str.ofString "_law_under", PySem.Str.ofString "_law_taken", PySem.Str.ofString "_law_stands", PySem.Str.ofString "_law_rests", PySem.Str.ofString "_law_one", PySem.Str.ofString "__name__", PySem.Str.ofString "TermError", PySem.Str.ofString "BadValue", PySem.Str.ofString "DEEPEST", PySem.Str.ofString "LETTERS", PySem.Str.ofString "NAME_SIGNS", PySem.Str.ofString "MOST_SIGNS", PySem.Str.ofString "NOTHING", PySem.Str.ofString "NONE", PySem.Str.ofString "WORDS", PySem.Str.ofString "MOST_KNOTS_sentences", PySem.Str.ofString "MOST_DEEP_sentences", PySem.Str.ofString "MOST_KNOTS_terms", PySem.Str.ofString "MOST_DEEP_terms", PySem.Str.ofString "MOST_HOLE", PySem.Str.ofString "LENGTHS", PySem.Str.ofString "CHILD_PLACES"]
def nm3 : List PySem.Str := [PySem.Str.ofString "BINDER_PLACES", PySem.Str.ofString "LABEL_PLACES", PySem.Str.ofString "SENTENCE_PLACES", PySem.Str.ofString "MOST_ENTRIES"]
def names : List PySem.Str := nm0 ++ nm1 ++ nm2 ++ nm3
section
variable {P : Program} {w : World} {K : PySem.W.Frag} {mg : Str → Option Value} {base : Heap} {h : Heap}
abbrev Says (K : PySem.W.Frag) (w : World) : Prop := obK fn cons dics frs K = vaK fn dics w
theorem lv0 (c : Says K w) (X : K.In h) (M : h.Ns mainGlobals mg) : Lv tab cons dics frs P w K mg base ft (0, Str.ofString "is_number", [Str.ofString "value"], true) := by
  obtain ⟨m, fd, F⟩ := ob_fn c X M (i := 0) rfl
  exact ⟨_, fd, m, F.kp, FunD.bindsN (ps := [Str.ofString "value"]) F fun _ _ _ _ _ _ us hl => match us, hl with | [_], _ => rfl, fun k A => f0 A F⟩
theorem lv1 (c : Says K w) (X : K.In h) (M : h.Ns mainGlobals mg) : Lv tab cons dics frs P w K mg base ft (1, Str.ofString "in_range", [Str.ofString "value", Str.ofString "low", Str.ofString "high"], true) := by
  obtain ⟨m, fd, F⟩ := ob_fn c X M (i := 1) rfl
  exact ⟨_, fd, m, F.kp, FunD.bindsN (ps := [Str.ofString "value", Str.ofString "low", Str.ofString "high"]) F fun _ _ _ _ _ _ us hl => match us, hl with | [_, _, _], _ => rfl, fun k A => f1 A F⟩
theorem lv2 (c : Says K w) (X : K.In h) (M : h.Ns mainGlobals mg) : Lv tab cons dics frs P w K mg base ft (2, Str.ofString "is_name", [Str.ofString "value"], true) := by
  obtain ⟨m, fd, F⟩ := ob_fn c X M (i := 2) rfl
  exact ⟨_, fd, m, F.kp, FunD.bindsN (ps := [Str.ofString "value"]) F fun _ _ _ _ _ _ us hl => match us, hl with | [_], _ => rfl, fun k A => f2 A F⟩
theorem lv3 (c : Says K w) (X : K.In h) (M : h.Ns mainGlobals mg) : Lv tab cons dics frs P w K mg base ft (3, Str.ofString "is_sequence", [Str.ofString "value"], true) := by
  obtain ⟨m, fd, F⟩ := ob_fn c X M (i := 3) rfl
  exact ⟨_, fd, m, F.kp, FunD.bindsN (ps := [Str.ofString "value"]) F fun _ _ _ _ _ _ us hl => match us, hl with | [_], _ => rfl, fun k A => f3 A F⟩
theorem lv4 (c : Says K w) (X : K.In h) (M : h.Ns mainGlobals mg) : Lv tab cons dics frs P w K mg base ft (4, Str.ofString "is_too_deep", [Str.ofString "value"], true) := by
  obtain ⟨m, fd, F⟩ := ob_fn c X M (i := 4) rfl
  exact ⟨_, fd, m, F.kp, FunD.bindsN (ps := [Str.ofString "value"]) F fun _ _ _ _ _ _ us hl => match us, hl with | [_], _ => rfl, fun k A => f4 A F⟩
theorem lv5 (c : Says K w) (X : K.In h) (M : h.Ns mainGlobals mg) : Lv tab cons dics frs P w K mg base ft (5, Str.ofString "frozen", [Str.ofString "value"], true) := by
  obtain ⟨m, fd, F⟩ := ob_fn c X M (i := 5) rfl
  exact ⟨_, fd, m, F.kp, FunD.bindsN (ps := [Str.ofString "value"]) F fun _ _ _ _ _ _ us hl => match us, hl with | [_], _ => rfl, fun k A => f5 A F⟩
theorem lv6 (c : Says K w) (X : K.In h) (M : h.Ns mainGlobals mg) : Lv tab cons dics frs P w K mg base ft (6, Str.ofString "handed", [Str.ofString "value"], true) := by
  obtain ⟨m, fd, F⟩ := ob_fn c X M (i := 6) rfl
  exact ⟨_, fd, m, F.kp, FunD.bindsN (ps := [Str.ofString "value"]) F fun _ _ _ _ _ _ us hl => match us, hl with | [_], _ => rfl, fun k A => f6 A F⟩
theorem lv7 (c : Says K w) (X : K.In h) (M : h.Ns mainGlobals mg) : Lv tab cons dics frs P w K mg base ft (7, Str.ofString "number_given", [Str.ofString "value", Str.ofString "low", Str.ofString "high", Str.ofString "at"], true) := by
  obtain ⟨m, fd, F⟩ := ob_fn c X M (i := 7) rfl
  exact ⟨_, fd, m, F.kp, FunD.bindsN (ps := [Str.ofString "value", Str.ofString "low", Str.ofString "high", Str.ofString "at"]) F fun _ _ _ _ _ _ us hl => match us, hl with | [_, _, _, _], _ => rfl, fun k A => f7 A F⟩
theorem lv8 (c : Says K w) (X : K.In h) (M : h.Ns mainGlobals mg) : Lv tab cons dics frs P w K mg base ft (8, Str.ofString "knots_within", [Str.ofString "value", Str.ofString "room"], true) := by
  obtain ⟨m, fd, F⟩ := ob_fn c X M (i := 8) rfl
  exact ⟨_, fd, m, F.kp, FunD.bindsN (ps := [Str.ofString "value", Str.ofString "room"]) F fun _ _ _ _ _ _ us hl => match us, hl with | [_, _], _ => rfl, fun k A => f8 A F⟩
theorem lv9 (c : Says K w) (X : K.In h) (M : h.Ns mainGlobals mg) : Lv tab cons dics frs P w K mg base ft (9, Str.ofString "is_sentence_value", [Str.ofString "value"], true) := by
  obtain ⟨m, fd, F⟩ := ob_fn c X M (i := 9) rfl
  exact ⟨_, fd, m, F.kp, FunD.bindsN (ps := [Str.ofString "value"]) F fun _ _ _ _ _ _ us hl => match us, hl with | [_], _ => rfl, fun k A => f9 A F⟩
theorem lv10 (c : Says K w) (X : K.In h) (M : h.Ns mainGlobals mg) : Lv tab cons dics frs P w K mg base ft (10, Str.ofString "knots_of", [Str.ofString "sentence"], true) := by
  obtain ⟨m, fd, F⟩ := ob_fn c X M (i := 10) rfl
  exact ⟨_, fd, m, F.kp, FunD.bindsN (ps := [Str.ofString "sentence"]) F fun _ _ _ _ _ _ us hl => match us, hl with | [_], _ => rfl, fun k A => f10 A F⟩
theorem lv11 (c : Says K w) (X : K.In h) (M : h.Ns mainGlobals mg) : Lv tab cons dics frs P w K mg base ft (11, Str.ofString "deep_of", [Str.ofString "sentence"], true) := by
  obtain ⟨m, fd, F⟩ := ob_fn c X M (i := 11) rfl
  exact ⟨_, fd, m, F.kp, FunD.bindsN (ps := [Str.ofString "sentence"]) F fun _ _ _ _ _ _ us hl => match us, hl with | [_], _ => rfl, fun k A => f11 A F⟩
theorem lv12 (c : Says K w) (X : K.In h) (M : h.Ns mainGlobals mg) : Lv tab cons dics frs P w K mg base ft (12, Str.ofString "fits", [Str.ofString "sentence"], true) := by
  obtain ⟨m, fd, F⟩ := ob_fn c X M (i := 12) rfl
  exact ⟨_, fd, m, F.kp, FunD.bindsN (ps := [Str.ofString "sentence"]) F fun _ _ _ _ _ _ us hl => match us, hl with | [_], _ => rfl, fun k A => f12 A F⟩
theorem lv13 (c : Says K w) (X : K.In h) (M : h.Ns mainGlobals mg) : Lv tab cons dics frs P w K mg base ft (13, Str.ofString "sentence_of", [Str.ofString "context", Str.ofString "label"], true) := by
  obtain ⟨m, fd, F⟩ := ob_fn c X M (i := 13) rfl
  exact ⟨_, fd, m, F.kp, FunD.bindsN (ps := [Str.ofString "context", Str.ofString "label"]) F fun _ _ _ _ _ _ us hl => match us, hl with | [_, _], _ => rfl, fun k A => f13 A F⟩
theorem lv14 (c : Says K w) (X : K.In h) (M : h.Ns mainGlobals mg) : Lv tab cons dics frs P w K mg base ft (14, Str.ofString "with_label", [Str.ofString "context", Str.ofString "label", Str.ofString "sentence"], true) := by
  obtain ⟨m, fd, F⟩ := ob_fn c X M (i := 14) rfl
  exact ⟨_, fd, m, F.kp, FunD.bindsN (ps := [Str.ofString "context", Str.ofString "label", Str.ofString "sentence"]) F fun _ _ _ _ _ _ us hl => match us, hl with | [_, _, _], _ => rfl, fun k A => f14 A F⟩
theorem lv15 (c : Says K w) (X : K.In h) (M : h.Ns mainGlobals mg) : Lv tab cons dics frs P w K mg base ft (15, Str.ofString "has_labels_and_sentences", [Str.ofString "value"], true) := by
  obtain ⟨m, fd, F⟩ := ob_fn c X M (i := 15) rfl
  exact ⟨_, fd, m, F.kp, FunD.bindsN (ps := [Str.ofString "value"]) F fun _ _ _ _ _ _ us hl => match us, hl with | [_], _ => rfl, fun k A => f15 A F⟩
theorem lv16 (c : Says K w) (X : K.In h) (M : h.Ns mainGlobals mg) : Lv tab cons dics frs P w K mg base ft (16, Str.ofString "term_knots_within", [Str.ofString "value", Str.ofString "room", Str.ofString "lets_holes"], true) := by
  obtain ⟨m, fd, F⟩ := ob_fn c X M (i := 16) rfl
  exact ⟨_, fd, m, F.kp, FunD.bindsN (ps := [Str.ofString "value", Str.ofString "room", Str.ofString "lets_holes"]) F fun _ _ _ _ _ _ us hl => match us, hl with | [_, _, _], _ => rfl, fun k A => f16 A F⟩
theorem lv17 (c : Says K w) (X : K.In h) (M : h.Ns mainGlobals mg) : Lv tab cons dics frs P w K mg base ft (17, Str.ofString "is_term_value", [Str.ofString "value"], true) := by
  obtain ⟨m, fd, F⟩ := ob_fn c X M (i := 17) rfl
  exact ⟨_, fd, m, F.kp, FunD.bindsN (ps := [Str.ofString "value"]) F fun _ _ _ _ _ _ us hl => match us, hl with | [_], _ => rfl, fun k A => f17 A F⟩
theorem lv18 (c : Says K w) (X : K.In h) (M : h.Ns mainGlobals mg) : Lv tab cons dics frs P w K mg base ft (18, Str.ofString "bound_labels", [Str.ofString "term"], true) := by
  obtain ⟨m, fd, F⟩ := ob_fn c X M (i := 18) rfl
  exact ⟨_, fd, m, F.kp, FunD.bindsN (ps := [Str.ofString "term"]) F fun _ _ _ _ _ _ us hl => match us, hl with | [_], _ => rfl, fun k A => f18 A F⟩
theorem lv19 (c : Says K w) (X : K.In h) (M : h.Ns mainGlobals mg) : Lv tab cons dics frs P w K mg base ft (19, Str.ofString "add_free", [Str.ofString "term", Str.ofString "bound", Str.ofString "found"], false) := by
  obtain ⟨m, fd, F⟩ := ob_fn c X M (i := 19) rfl
  exact ⟨_, fd, m, F.kp, FunD.bindsN (ps := [Str.ofString "term", Str.ofString "bound", Str.ofString "found"]) F fun _ _ _ _ _ _ us hl => match us, hl with | [_, _, _], _ => rfl, fun k A => f19 A F⟩
theorem lv20 (c : Says K w) (X : K.In h) (M : h.Ns mainGlobals mg) : Lv tab cons dics frs P w K mg base ft (20, Str.ofString "free_in", [Str.ofString "term"], true) := by
  obtain ⟨m, fd, F⟩ := ob_fn c X M (i := 20) rfl
  exact ⟨_, fd, m, F.kp, FunD.bindsN (ps := [Str.ofString "term"]) F fun _ _ _ _ _ _ us hl => match us, hl with | [_], _ => rfl, fun k A => f20 A F⟩
theorem lv21 (c : Says K w) (X : K.In h) (M : h.Ns mainGlobals mg) : Lv tab cons dics frs P w K mg base ft (21, Str.ofString "is_made_by", [Str.ofString "sentence", Str.ofString "word"], true) := by
  obtain ⟨m, fd, F⟩ := ob_fn c X M (i := 21) rfl
  exact ⟨_, fd, m, F.kp, FunD.bindsN (ps := [Str.ofString "sentence", Str.ofString "word"]) F fun _ _ _ _ _ _ us hl => match us, hl with | [_, _], _ => rfl, fun k A => f21 A F⟩
theorem lv22 (c : Says K w) (X : K.In h) (M : h.Ns mainGlobals mg) : Lv tab cons dics frs P w K mg base ft (22, Str.ofString "grown", [Str.ofString "sentence"], true) := by
  obtain ⟨m, fd, F⟩ := ob_fn c X M (i := 22) rfl
  exact ⟨_, fd, m, F.kp, FunD.bindsN (ps := [Str.ofString "sentence"]) F fun _ _ _ _ _ _ us hl => match us, hl with | [_], _ => rfl, fun k A => f22 A F⟩
theorem lv23 (c : Says K w) (X : K.In h) (M : h.Ns mainGlobals mg) : Lv tab cons dics frs P w K mg base ft (23, Str.ofString "concluded", [Str.ofString "term", Str.ofString "said"], true) := by
  obtain ⟨m, fd, F⟩ := ob_fn c X M (i := 23) rfl
  exact ⟨_, fd, m, F.kp, FunD.bindsN (ps := [Str.ofString "term", Str.ofString "said"]) F fun _ _ _ _ _ _ us hl => match us, hl with | [_, _], _ => rfl, fun k A => f23 A F⟩
theorem lv24 (c : Says K w) (X : K.In h) (M : h.Ns mainGlobals mg) : Lv tab cons dics frs P w K mg base ft (24, Str.ofString "farther", [Str.ofString "number", Str.ofString "fault"], true) := by
  obtain ⟨m, fd, F⟩ := ob_fn c X M (i := 24) rfl
  exact ⟨_, fd, m, F.kp, FunD.bindsN (ps := [Str.ofString "number", Str.ofString "fault"]) F fun _ _ _ _ _ _ us hl => match us, hl with | [_, _], _ => rfl, fun k A => f24 A F⟩
theorem lv25 (c : Says K w) (X : K.In h) (M : h.Ns mainGlobals mg) : Lv tab cons dics frs P w K mg base ft (25, Str.ofString "told_of_cases", [Str.ofString "context", Str.ofString "term"], true) := by
  obtain ⟨m, fd, F⟩ := ob_fn c X M (i := 25) rfl
  exact ⟨_, fd, m, F.kp, FunD.bindsN (ps := [Str.ofString "context", Str.ofString "term"]) F fun _ _ _ _ _ _ us hl => match us, hl with | [_, _], _ => rfl, fun k A => f25 A F⟩
theorem lv26 (c : Says K w) (X : K.In h) (M : h.Ns mainGlobals mg) : Lv tab cons dics frs P w K mg base ft (26, Str.ofString "told_of", [Str.ofString "context", Str.ofString "term"], true) := by
  obtain ⟨m, fd, F⟩ := ob_fn c X M (i := 26) rfl
  exact ⟨_, fd, m, F.kp, FunD.bindsN (ps := [Str.ofString "context", Str.ofString "term"]) F fun _ _ _ _ _ _ us hl => match us, hl with | [_, _], _ => rfl, fun k A => f26 A F⟩
theorem lv27 (c : Says K w) (X : K.In h) (M : h.Ns mainGlobals mg) : Lv tab cons dics frs P w K mg base ft (27, Str.ofString "bears", [Str.ofString "context", Str.ofString "term"], true) := by
  obtain ⟨m, fd, F⟩ := ob_fn c X M (i := 27) rfl
  exact ⟨_, fd, m, F.kp, FunD.bindsN (ps := [Str.ofString "context", Str.ofString "term"]) F fun _ _ _ _ _ _ us hl => match us, hl with | [_, _], _ => rfl, fun k A => f27 A F⟩
theorem lv28 (c : Says K w) (X : K.In h) (M : h.Ns mainGlobals mg) : Lv tab cons dics frs P w K mg base ft (28, Str.ofString "is_entry_value", [Str.ofString "value"], true) := by
  obtain ⟨m, fd, F⟩ := ob_fn c X M (i := 28) rfl
  exact ⟨_, fd, m, F.kp, FunD.bindsN (ps := [Str.ofString "value"]) F fun _ _ _ _ _ _ us hl => match us, hl with | [_], _ => rfl, fun k A => f28 A F⟩
theorem lv29 (c : Says K w) (X : K.In h) (M : h.Ns mainGlobals mg) : Lv tab cons dics frs P w K mg base ft (29, Str.ofString "leans_within", [Str.ofString "term", Str.ofString "names"], true) := by
  obtain ⟨m, fd, F⟩ := ob_fn c X M (i := 29) rfl
  exact ⟨_, fd, m, F.kp, FunD.bindsN (ps := [Str.ofString "term", Str.ofString "names"]) F fun _ _ _ _ _ _ us hl => match us, hl with | [_, _], _ => rfl, fun k A => f29 A F⟩
theorem lv30 (c : Says K w) (X : K.In h) (M : h.Ns mainGlobals mg) : Lv tab cons dics frs P w K mg base ft (30, Str.ofString "is_book_value", [Str.ofString "value"], true) := by
  obtain ⟨m, fd, F⟩ := ob_fn c X M (i := 30) rfl
  exact ⟨_, fd, m, F.kp, FunD.bindsN (ps := [Str.ofString "value"]) F fun _ _ _ _ _ _ us hl => match us, hl with | [_], _ => rfl, fun k A => f30 A F⟩
theorem lv31 (c : Says K w) (X : K.In h) (M : h.Ns mainGlobals mg) : Lv tab cons dics frs P w K mg base ft (31, Str.ofString "book_given", [Str.ofString "value", Str.ofString "at"], true) := by
  obtain ⟨m, fd, F⟩ := ob_fn c X M (i := 31) rfl
  exact ⟨_, fd, m, F.kp, FunD.bindsN (ps := [Str.ofString "value", Str.ofString "at"]) F fun _ _ _ _ _ _ us hl => match us, hl with | [_, _], _ => rfl, fun k A => f31 A F⟩
theorem lv32 (c : Says K w) (X : K.In h) (M : h.Ns mainGlobals mg) : Lv tab cons dics frs P w K mg base ft (32, Str.ofString "context_ahead", [Str.ofString "book", Str.ofString "number"], true) := by
  obtain ⟨m, fd, F⟩ := ob_fn c X M (i := 32) rfl
  exact ⟨_, fd, m, F.kp, FunD.bindsN (ps := [Str.ofString "book", Str.ofString "number"]) F fun _ _ _ _ _ _ us hl => match us, hl with | [_, _], _ => rfl, fun k A => f32 A F⟩
theorem lv33 (c : Says K w) (X : K.In h) (M : h.Ns mainGlobals mg) : Lv tab cons dics frs P w K mg base ft (33, Str.ofString "leaned_on", [Str.ofString "book", Str.ofString "number"], true) := by
  obtain ⟨m, fd, F⟩ := ob_fn c X M (i := 33) rfl
  exact ⟨_, fd, m, F.kp, FunD.bindsN (ps := [Str.ofString "book", Str.ofString "number"]) F fun _ _ _ _ _ _ us hl => match us, hl with | [_, _], _ => rfl, fun k A => f33 A F⟩
theorem lv34 (c : Says K w) (X : K.In h) (M : h.Ns mainGlobals mg) : Lv tab cons dics frs P w K mg base ft (34, Str.ofString "unders", [Str.ofString "book", Str.ofString "number"], true) := by
  obtain ⟨m, fd, F⟩ := ob_fn c X M (i := 34) rfl
  exact ⟨_, fd, m, F.kp, FunD.bindsN (ps := [Str.ofString "book", Str.ofString "number"]) F fun _ _ _ _ _ _ us hl => match us, hl with | [_, _], _ => rfl, fun k A => f34 A F⟩
theorem lv35 (c : Says K w) (X : K.In h) (M : h.Ns mainGlobals mg) : Lv tab cons dics frs P w K mg base ft (35, Str.ofString "overs", [Str.ofString "book", Str.ofString "number"], true) := by
  obtain ⟨m, fd, F⟩ := ob_fn c X M (i := 35) rfl
  exact ⟨_, fd, m, F.kp, FunD.bindsN (ps := [Str.ofString "book", Str.ofString "number"]) F fun _ _ _ _ _ _ us hl => match us, hl with | [_, _], _ => rfl, fun k A => f35 A F⟩
theorem lv36 (c : Says K w) (X : K.In h) (M : h.Ns mainGlobals mg) : Lv tab cons dics frs P w K mg base ft (36, Str.ofString "takes_entry", [Str.ofString "book", Str.ofString "number"], true) := by
  obtain ⟨m, fd, F⟩ := ob_fn c X M (i := 36) rfl
  exact ⟨_, fd, m, F.kp, FunD.bindsN (ps := [Str.ofString "book", Str.ofString "number"]) F fun _ _ _ _ _ _ us hl => match us, hl with | [_, _], _ => rfl, fun k A => f36 A F⟩
theorem lv37 (c : Says K w) (X : K.In h) (M : h.Ns mainGlobals mg) : Lv tab cons dics frs P w K mg base ft (37, Str.ofString "does_entry_stand", [Str.ofString "book", Str.ofString "number"], true) := by
  obtain ⟨m, fd, F⟩ := ob_fn c X M (i := 37) rfl
  exact ⟨_, fd, m, F.kp, FunD.bindsN (ps := [Str.ofString "book", Str.ofString "number"]) F fun _ _ _ _ _ _ us hl => match us, hl with | [_, _], _ => rfl, fun k A => f37 A F⟩
theorem lv38 (c : Says K w) (X : K.In h) (M : h.Ns mainGlobals mg) : Lv tab cons dics frs P w K mg base ft (38, Str.ofString "standing_of", [Str.ofString "book"], true) := by
  obtain ⟨m, fd, F⟩ := ob_fn c X M (i := 38) rfl
  exact ⟨_, fd, m, F.kp, FunD.bindsN (ps := [Str.ofString "book"]) F fun _ _ _ _ _ _ us hl => match us, hl with | [_], _ => rfl, fun k A => f38 A F⟩
theorem lv39 (c : Says K w) (X : K.In h) (M : h.Ns mainGlobals mg) : Lv tab cons dics frs P w K mg base ft (39, Str.ofString "resting_on", [Str.ofString "book", Str.ofString "number"], true) := by
  obtain ⟨m, fd, F⟩ := ob_fn c X M (i := 39) rfl
  exact ⟨_, fd, m, F.kp, FunD.bindsN (ps := [Str.ofString "book", Str.ofString "number"]) F fun _ _ _ _ _ _ us hl => match us, hl with | [_, _], _ => rfl, fun k A => f39 A F⟩
theorem lv40 (c : Says K w) (X : K.In h) (M : h.Ns mainGlobals mg) : Lv tab cons dics frs P w K mg base ft (40, Str.ofString "assumed_context", [Str.ofString "book"], true) := by
  obtain ⟨m, fd, F⟩ := ob_fn c X M (i := 40) rfl
  exact ⟨_, fd, m, F.kp, FunD.bindsN (ps := [Str.ofString "book"]) F fun _ _ _ _ _ _ us hl => match us, hl with | [_], _ => rfl, fun k A => f40 A F⟩
theorem lv41 (c : Says K w) (X : K.In h) (M : h.Ns mainGlobals mg) : Lv tab cons dics frs P w K mg base ft (41, Str.ofString "entry_number_given", [Str.ofString "book", Str.ofString "value", Str.ofString "at"], true) := by
  obtain ⟨m, fd, F⟩ := ob_fn c X M (i := 41) rfl
  exact ⟨_, fd, m, F.kp, FunD.bindsN (ps := [Str.ofString "book", Str.ofString "value", Str.ofString "at"]) F fun _ _ _ _ _ _ us hl => match us, hl with | [_, _, _], _ => rfl, fun k A => f41 A F⟩
theorem lv42 (c : Says K w) (X : K.In h) (M : h.Ns mainGlobals mg) : Lv tab cons dics frs P w K mg base ft (42, Str.ofString "is_book", [Str.ofString "value"], true) := by
  obtain ⟨m, fd, F⟩ := ob_fn c X M (i := 42) rfl
  exact ⟨_, fd, m, F.kp, FunD.bindsN (ps := [Str.ofString "value"]) F fun _ _ _ _ _ _ us hl => match us, hl with | [_], _ => rfl, fun k A => f42 A F⟩
theorem lv43 (c : Says K w) (X : K.In h) (M : h.Ns mainGlobals mg) : Lv tab cons dics frs P w K mg base ft (43, Str.ofString "context_of", [Str.ofString "book", Str.ofString "number"], true) := by
  obtain ⟨m, fd, F⟩ := ob_fn c X M (i := 43) rfl
  exact ⟨_, fd, m, F.kp, FunD.bindsN (ps := [Str.ofString "book", Str.ofString "number"]) F fun _ _ _ _ _ _ us hl => match us, hl with | [_, _], _ => rfl, fun k A => f43 A F⟩
theorem lv44 (c : Says K w) (X : K.In h) (M : h.Ns mainGlobals mg) : Lv tab cons dics frs P w K mg base ft (44, Str.ofString "leans_on", [Str.ofString "book", Str.ofString "number"], true) := by
  obtain ⟨m, fd, F⟩ := ob_fn c X M (i := 44) rfl
  exact ⟨_, fd, m, F.kp, FunD.bindsN (ps := [Str.ofString "book", Str.ofString "number"]) F fun _ _ _ _ _ _ us hl => match us, hl with | [_, _], _ => rfl, fun k A => f44 A F⟩
theorem lv45 (c : Says K w) (X : K.In h) (M : h.Ns mainGlobals mg) : Lv tab cons dics frs P w K mg base ft (45, Str.ofString "under", [Str.ofString "book", Str.ofString "number"], true) := by
  obtain ⟨m, fd, F⟩ := ob_fn c X M (i := 45) rfl
  exact ⟨_, fd, m, F.kp, FunD.bindsN (ps := [Str.ofString "book", Str.ofString "number"]) F fun _ _ _ _ _ _ us hl => match us, hl with | [_, _], _ => rfl, fun k A => f45 A F⟩
theorem lv46 (c : Says K w) (X : K.In h) (M : h.Ns mainGlobals mg) : Lv tab cons dics frs P w K mg base ft (46, Str.ofString "over", [Str.ofString "book", Str.ofString "number"], true) := by
  obtain ⟨m, fd, F⟩ := ob_fn c X M (i := 46) rfl
  exact ⟨_, fd, m, F.kp, FunD.bindsN (ps := [Str.ofString "book", Str.ofString "number"]) F fun _ _ _ _ _ _ us hl => match us, hl with | [_, _], _ => rfl, fun k A => f46 A F⟩
theorem lv47 (c : Says K w) (X : K.In h) (M : h.Ns mainGlobals mg) : Lv tab cons dics frs P w K mg base ft (47, Str.ofString "is_taken", [Str.ofString "book", Str.ofString "number"], true) := by
  obtain ⟨m, fd, F⟩ := ob_fn c X M (i := 47) rfl
  exact ⟨_, fd, m, F.kp, FunD.bindsN (ps := [Str.ofString "book", Str.ofString "number"]) F fun _ _ _ _ _ _ us hl => match us, hl with | [_, _], _ => rfl, fun k A => f47 A F⟩
theorem lv48 (c : Says K w) (X : K.In h) (M : h.Ns mainGlobals mg) : Lv tab cons dics frs P w K mg base ft (48, Str.ofString "standing", [Str.ofString "book"], true) := by
  obtain ⟨m, fd, F⟩ := ob_fn c X M (i := 48) rfl
  exact ⟨_, fd, m, F.kp, FunD.bindsN (ps := [Str.ofString "book"]) F fun _ _ _ _ _ _ us hl => match us, hl with | [_], _ => rfl, fun k A => f48 A F⟩
theorem lv49 (c : Says K w) (X : K.In h) (M : h.Ns mainGlobals mg) : Lv tab cons dics frs P w K mg base ft (49, Str.ofString "rests_on", [Str.ofString "book", Str.ofString "number"], true) := by
  obtain ⟨m, fd, F⟩ := ob_fn c X M (i := 49) rfl
  exact ⟨_, fd, m, F.kp, FunD.bindsN (ps := [Str.ofString "book", Str.ofString "number"]) F fun _ _ _ _ _ _ us hl => match us, hl with | [_, _], _ => rfl, fun k A => f49 A F⟩
theorem lv50 (c : Says K w) (X : K.In h) (M : h.Ns mainGlobals mg) : Lv tab cons dics frs P w K mg base ft (50, Str.ofString "is_sound", [Str.ofString "book"], true) := by
  obtain ⟨m, fd, F⟩ := ob_fn c X M (i := 50) rfl
  exact ⟨_, fd, m, F.kp, FunD.bindsN (ps := [Str.ofString "book"]) F fun _ _ _ _ _ _ us hl => match us, hl with | [_], _ => rfl, fun k A => f50 A F⟩
theorem lv51 (c : Says K w) (X : K.In h) (M : h.Ns mainGlobals mg) : Lv tab cons dics frs P w K mg base ft (51, Str.ofString "first_not_taken", [Str.ofString "book"], true) := by
  obtain ⟨m, fd, F⟩ := ob_fn c X M (i := 51) rfl
  exact ⟨_, fd, m, F.kp, FunD.bindsN (ps := [Str.ofString "book"]) F fun _ _ _ _ _ _ us hl => match us, hl with | [_], _ => rfl, fun k A => f51 A F⟩
theorem lv52 (c : Says K w) (X : K.In h) (M : h.Ns mainGlobals mg) : Lv tab cons dics frs P w K mg base ft (52, Str.ofString "assumptions", [Str.ofString "book"], true) := by
  obtain ⟨m, fd, F⟩ := ob_fn c X M (i := 52) rfl
  exact ⟨_, fd, m, F.kp, FunD.bindsN (ps := [Str.ofString "book"]) F fun _ _ _ _ _ _ us hl => match us, hl with | [_], _ => rfl, fun k A => f52 A F⟩
theorem lv53 (c : Says K w) (X : K.In h) (M : h.Ns mainGlobals mg) : Lv tab cons dics frs P w K mg base ft (53, Str.ofString "_law_numbers", [Str.ofString "script", Str.ofString "place", Str.ofString "many"], true) := by
  obtain ⟨m, fd, F⟩ := ob_fn c X M (i := 53) rfl
  exact ⟨_, fd, m, F.kp, FunD.bindsN (ps := [Str.ofString "script", Str.ofString "place", Str.ofString "many"]) F fun _ _ _ _ _ _ us hl => match us, hl with | [_, _, _], _ => rfl, fun k A => f53 A F⟩
theorem lv54 (c : Says K w) (X : K.In h) (M : h.Ns mainGlobals mg) : Lv tab cons dics frs P w K mg base ft (54, Str.ofString "_law_draw", [Str.ofString "state", Str.ofString "many"], false) := by
  obtain ⟨m, fd, F⟩ := ob_fn c X M (i := 54) rfl
  exact ⟨_, fd, m, F.kp, FunD.bindsN (ps := [Str.ofString "state", Str.ofString "many"]) F fun _ _ _ _ _ _ us hl => match us, hl with | [_, _], _ => rfl, fun k A => f54 A F⟩
theorem lv55 (c : Says K w) (X : K.In h) (M : h.Ns mainGlobals mg) : Lv tab cons dics frs P w K mg base ft (55, Str.ofString "_law_same", [Str.ofString "actual", Str.ofString "due"], true) := by
  obtain ⟨m, fd, F⟩ := ob_fn c X M (i := 55) rfl
  exact ⟨_, fd, m, F.kp, FunD.bindsN (ps := [Str.ofString "actual", Str.ofString "due"]) F fun _ _ _ _ _ _ us hl => match us, hl with | [_, _], _ => rfl, fun k A => f55 A F⟩
theorem lv56 (c : Says K w) (X : K.In h) (M : h.Ns mainGlobals mg) : Lv tab cons dics frs P w K mg base ft (56, Str.ofString "_law_sentence", [Str.ofString "state", Str.ofString "left"], false) := by
  obtain ⟨m, fd, F⟩ := ob_fn c X M (i := 56) rfl
  exact ⟨_, fd, m, F.kp, FunD.bindsN (ps := [Str.ofString "state", Str.ofString "left"]) F fun _ _ _ _ _ _ us hl => match us, hl with | [_, _], _ => rfl, fun k A => f56 A F⟩
theorem lv57 (c : Says K w) (X : K.In h) (M : h.Ns mainGlobals mg) : Lv tab cons dics frs P w K mg base ft (57, Str.ofString "_law_find", [Str.ofString "context", Str.ofString "label"], true) := by
  obtain ⟨m, fd, F⟩ := ob_fn c X M (i := 57) rfl
  exact ⟨_, fd, m, F.kp, FunD.bindsN (ps := [Str.ofString "context", Str.ofString "label"]) F fun _ _ _ _ _ _ us hl => match us, hl with | [_, _], _ => rfl, fun k A => f57 A F⟩
theorem lv58 (c : Says K w) (X : K.In h) (M : h.Ns mainGlobals mg) : Lv tab cons dics frs P w K mg base ft (58, Str.ofString "_law_kind", [Str.ofString "sentence", Str.ofString "word"], true) := by
  obtain ⟨m, fd, F⟩ := ob_fn c X M (i := 58) rfl
  exact ⟨_, fd, m, F.kp, FunD.bindsN (ps := [Str.ofString "sentence", Str.ofString "word"]) F fun _ _ _ _ _ _ us hl => match us, hl with | [_, _], _ => rfl, fun k A => f58 A F⟩
theorem lv59 (c : Says K w) (X : K.In h) (M : h.Ns mainGlobals mg) : Lv tab cons dics frs P w K mg base ft (59, Str.ofString "_law_borne", [Str.ofString "context", Str.ofString "term"], true) := by
  obtain ⟨m, fd, F⟩ := ob_fn c X M (i := 59) rfl
  exact ⟨_, fd, m, F.kp, FunD.bindsN (ps := [Str.ofString "context", Str.ofString "term"]) F fun _ _ _ _ _ _ us hl => match us, hl with | [_, _], _ => rfl, fun k A => f59 A F⟩
theorem lv60 (c : Says K w) (X : K.In h) (M : h.Ns mainGlobals mg) : Lv tab cons dics frs P w K mg base ft (60, Str.ofString "_law_free", [Str.ofString "term"], true) := by
  obtain ⟨m, fd, F⟩ := ob_fn c X M (i := 60) rfl
  exact ⟨_, fd, m, F.kp, FunD.bindsN (ps := [Str.ofString "term"]) F fun _ _ _ _ _ _ us hl => match us, hl with | [_], _ => rfl, fun k A => f60 A F⟩
theorem lv61 (c : Says K w) (X : K.In h) (M : h.Ns mainGlobals mg) : Lv tab cons dics frs P w K mg base ft (61, Str.ofString "_law_is_term", [Str.ofString "part"], true) := by
  obtain ⟨m, fd, F⟩ := ob_fn c X M (i := 61) rfl
  exact ⟨_, fd, m, F.kp, FunD.bindsN (ps := [Str.ofString "part"]) F fun _ _ _ _ _ _ us hl => match us, hl with | [_], _ => rfl, fun k A => f61 A F⟩
theorem lv62 (c : Says K w) (X : K.In h) (M : h.Ns mainGlobals mg) : Lv tab cons dics frs P w K mg base ft (62, Str.ofString "_law_for", [Str.ofString "state", Str.ofString "context", Str.ofString "sentence", Str.ofString "left"], false) := by
  obtain ⟨m, fd, F⟩ := ob_fn c X M (i := 62) rfl
  exact ⟨_, fd, m, F.kp, FunD.bindsN (ps := [Str.ofString "state", Str.ofString "context", Str.ofString "sentence", Str.ofString "left"]) F fun _ _ _ _ _ _ us hl => match us, hl with | [_, _, _, _], _ => rfl, fun k A => f62 A F⟩
theorem lv63 (c : Says K w) (X : K.In h) (M : h.Ns mainGlobals mg) : Lv tab cons dics frs P w K mg base ft (63, Str.ofString "_law_make", [Str.ofString "state", Str.ofString "context", Str.ofString "left"], false) := by
  obtain ⟨m, fd, F⟩ := ob_fn c X M (i := 63) rfl
  exact ⟨_, fd, m, F.kp, FunD.bindsN (ps := [Str.ofString "state", Str.ofString "context", Str.ofString "left"]) F fun _ _ _ _ _ _ us hl => match us, hl with | [_, _, _], _ => rfl, fun k A => f63 A F⟩
theorem lv64 (c : Says K w) (X : K.In h) (M : h.Ns mainGlobals mg) : Lv tab cons dics frs P w K mg base ft (64, Str.ofString "_law_knots", [Str.ofString "sentence"], true) := by
  obtain ⟨m, fd, F⟩ := ob_fn c X M (i := 64) rfl
  exact ⟨_, fd, m, F.kp, FunD.bindsN (ps := [Str.ofString "sentence"]) F fun _ _ _ _ _ _ us hl => match us, hl with | [_], _ => rfl, fun k A => f64 A F⟩
theorem lv65 (c : Says K w) (X : K.In h) (M : h.Ns mainGlobals mg) : Lv tab cons dics frs P w K mg base ft (65, Str.ofString "_law_size", [Str.ofString "term"], true) := by
  obtain ⟨m, fd, F⟩ := ob_fn c X M (i := 65) rfl
  exact ⟨_, fd, m, F.kp, FunD.bindsN (ps := [Str.ofString "term"]) F fun _ _ _ _ _ _ us hl => match us, hl with | [_], _ => rfl, fun k A => f65 A F⟩
theorem lv66 (c : Says K w) (X : K.In h) (M : h.Ns mainGlobals mg) : Lv tab cons dics frs P w K mg base ft (66, Str.ofString "_law_book", [Str.ofString "state", Str.ofString "most"], false) := by
  obtain ⟨m, fd, F⟩ := ob_fn c X M (i := 66) rfl
  exact ⟨_, fd, m, F.kp, FunD.bindsN (ps := [Str.ofString "state", Str.ofString "most"]) F fun _ _ _ _ _ _ us hl => match us, hl with | [_, _], _ => rfl, fun k A => f66 A F⟩
theorem lv67 (c : Says K w) (X : K.In h) (M : h.Ns mainGlobals mg) : Lv tab cons dics frs P w K mg base ft (67, Str.ofString "_law_leans", [Str.ofString "book", Str.ofString "number"], true) := by
  obtain ⟨m, fd, F⟩ := ob_fn c X M (i := 67) rfl
  exact ⟨_, fd, m, F.kp, FunD.bindsN (ps := [Str.ofString "book", Str.ofString "number"]) F fun _ _ _ _ _ _ us hl => match us, hl with | [_, _], _ => rfl, fun k A => f67 A F⟩
theorem lv68 (c : Says K w) (X : K.In h) (M : h.Ns mainGlobals mg) : Lv tab cons dics frs P w K mg base ft (68, Str.ofString "_law_under", [Str.ofString "book", Str.ofString "number"], true) := by
  obtain ⟨m, fd, F⟩ := ob_fn c X M (i := 68) rfl
  exact ⟨_, fd, m, F.kp, FunD.bindsN (ps := [Str.ofString "book", Str.ofString "number"]) F fun _ _ _ _ _ _ us hl => match us, hl with | [_, _], _ => rfl, fun k A => f68 A F⟩
theorem lv69 (c : Says K w) (X : K.In h) (M : h.Ns mainGlobals mg) : Lv tab cons dics frs P w K mg base ft (69, Str.ofString "_law_taken", [Str.ofString "book", Str.ofString "number"], true) := by
  obtain ⟨m, fd, F⟩ := ob_fn c X M (i := 69) rfl
  exact ⟨_, fd, m, F.kp, FunD.bindsN (ps := [Str.ofString "book", Str.ofString "number"]) F fun _ _ _ _ _ _ us hl => match us, hl with | [_, _], _ => rfl, fun k A => f69 A F⟩
theorem lv70 (c : Says K w) (X : K.In h) (M : h.Ns mainGlobals mg) : Lv tab cons dics frs P w K mg base ft (70, Str.ofString "_law_stands", [Str.ofString "book", Str.ofString "number"], true) := by
  obtain ⟨m, fd, F⟩ := ob_fn c X M (i := 70) rfl
  exact ⟨_, fd, m, F.kp, FunD.bindsN (ps := [Str.ofString "book", Str.ofString "number"]) F fun _ _ _ _ _ _ us hl => match us, hl with | [_, _], _ => rfl, fun k A => f70 A F⟩
theorem lv71 (c : Says K w) (X : K.In h) (M : h.Ns mainGlobals mg) : Lv tab cons dics frs P w K mg base ft (71, Str.ofString "_law_rests", [Str.ofString "book", Str.ofString "number"], true) := by
  obtain ⟨m, fd, F⟩ := ob_fn c X M (i := 71) rfl
  exact ⟨_, fd, m, F.kp, FunD.bindsN (ps := [Str.ofString "book", Str.ofString "number"]) F fun _ _ _ _ _ _ us hl => match us, hl with | [_, _], _ => rfl, fun k A => f71 A F⟩
theorem lv72 (c : Says K w) (X : K.In h) (M : h.Ns mainGlobals mg) : Lv tab cons dics frs P w K mg base ft (72, Str.ofString "_law_one", [Str.ofString "book"], true) := by
  obtain ⟨m, fd, F⟩ := ob_fn c X M (i := 72) rfl
  exact ⟨_, fd, m, F.kp, FunD.bindsN (ps := [Str.ofString "book"]) F fun _ _ _ _ _ _ us hl => match us, hl with | [_], _ => rfl, fun k A => f72 A F⟩
theorem lv73 (c : Says K w) (X : K.In h) (M : h.Ns mainGlobals mg) : Lv tab cons dics frs P w K mg base ft (73, Str.ofString "law", [Str.ofString "script"], false) := by
  obtain ⟨m, fd, F⟩ := ob_fn c X M (i := 73) rfl
  exact ⟨_, fd, m, F.kp, FunD.bindsN (ps := [Str.ofString "script"]) F fun _ _ _ _ _ _ us hl => match us, hl with | [_], _ => rfl, fun k A => f73 A F⟩
theorem lv (c : Says K w) (X : K.In h) (M : h.Ns mainGlobals mg) : Al (Lv tab cons dics frs P w K mg base ft) tab :=
  .cons (lv0 c X M) (.cons (lv1 c X M) (.cons (lv2 c X M) (.cons (lv3 c X M) (.cons (lv4 c X M) (.cons (lv5 c X M) (.cons (lv6 c X M) (.cons (lv7 c X M) (.cons (lv8 c X M) (.cons (lv9 c X M) (.cons (lv10 c X M) (.cons (lv11 c X M) (.cons (lv12 c X M) (.cons (lv13 c X M) (.cons (lv14 c X M) (.cons (lv15 c X M) (.cons (lv16 c X M) (.cons (lv17 c X M) (.cons (lv18 c X M) (.cons (lv19 c X M) (.cons (lv20 c X M) (.cons (lv21 c X M) (.cons (lv22 c X M) (.cons (lv23 c X M) (.cons (lv24 c X M) (.cons (lv25 c X M) (.cons (lv26 c X M) (.cons (lv27 c X M) (.cons (lv28 c X M) (.cons (lv29 c X M) (.cons (lv30 c X M) (.cons (lv31 c X M) (.cons (lv32 c X M) (.cons (lv33 c X M) (.cons (lv34 c X M) (.cons (lv35 c X M) (.cons (lv36 c X M) (.cons (lv37 c X M) (.cons (lv38 c X M) (.cons (lv39 c X M) (.cons (lv40 c X M) (.cons (lv41 c X M) (.cons (lv42 c X M) (.cons (lv43 c X M) (.cons (lv44 c X M) (.cons (lv45 c X M) (.cons (lv46 c X M) (.cons (lv47 c X M) (.cons (lv48 c X M) (.cons (lv49 c X M) (.cons (lv50 c X M) (.cons (lv51 c X M) (.cons (lv52 c X M) (.cons (lv53 c X M) (.cons (lv54 c X M) (.cons (lv55 c X M) (.cons (lv56 c X M) (.cons (lv57 c X M) (.cons (lv58 c X M) (.cons (lv59 c X M) (.cons (lv60 c X M) (.cons (lv61 c X M) (.cons (lv62 c X M) (.cons (lv63 c X M) (.cons (lv64 c X M) (.cons (lv65 c X M) (.cons (lv66 c X M) (.cons (lv67 c X M) (.cons (lv68 c X M) (.cons (lv69 c X M) (.cons (lv70 c X M) (.cons (lv71 c X M) (.cons (lv72 c X M) (.cons (lv73 c X M) (.nil))))))))))))))))))))))))))))))))))))))))))))))))))))))))))))))))))))))))))
end
abbrev R : PySem.W.OpenRow := PySem.W.OpenLaw.row PySem.Challenge.rw_groundterm_k51_what_leans_on_what
abbrev hk : PySem.W.Hook := hook fn cons dics frs
abbrev ob (s : PySem.W.SharedT) : Ob := obG fn cons dics frs s
theorem run_false (w : World) : HandSHeadRun.RunEq R (PySem.W.view R.prog [101]) hk ob 6000 names (w.withFollow "special-get-raises" false) := by
  intro os
  kernel_rfl
theorem run_true (w : World) : HandSHeadRun.RunEq R (PySem.W.view R.prog [101]) hk ob 6000 names (w.withFollow "special-get-raises" true) := by
  intro os
  kernel_rfl
theorem run_all (w : World) : HandSHeadRun.RunEq R (PySem.W.view R.prog [101]) hk ob 6000 names w := PySem.W.byRow2 "special-get-raises" (P := fun w => HandSHeadRun.RunEq R (PySem.W.view R.prog [101]) hk ob 6000 names w) run_false run_true w
end Gt.k51
end
section
set_option Elab.async false
set_option linter.all false
namespace GtS
open Gt
/-- by computing, but no row for dsimp: the kernel need not run the code again -/
theorem nrfl {α : Sort u} {a b : α} (h : a = b) : a = b := h
def wE1 (f : Hs → T → Option T) : R T → R T
  | .ok x h => .opt (f h x) h | .exc c v h => .exc c v h | .bad => .bad
def wE2 (f : Hs → T → T → Option T) (b : EC) (c : Call) (e : List Slot) : R T → R T
  | .ok x h => wE1 (fun h y => f h x y) (b c e h) | .exc c v h => .exc c v h | .bad => .bad
def wO1 (f : Hs → T → Option RV) : R T → R RV
  | .ok x h => .opt (f h x) h | .exc c v h => .exc c v h | .bad => .bad
def wO2 (f : Hs → T → T → Option RV) (b : EC) (c : Call) (e : List Slot) : R T → R RV
  | .ok x h => wO1 (fun h y => f h x y) (b c e h) | .exc c v h => .exc c v h | .bad => .bad
def wVal : R T → R RV
  | .ok x h => .ok (.val x) h | .exc c v h => .exc c v h | .bad => .bad
def wOwn : R RV → R T
  | .ok x h => .ok x.toT h | .exc c v h => .exc c v h | .bad => .bad
def wC2 (t : T) : R (List T) → R (List T)
  | .ok ts h => .ok (t :: ts) h | .exc c v h => .exc c v h | .bad => .bad
def wC1 (r : AC) (c : Call) (e : List Slot) : R T → R (List T)
  | .ok t h => wC2 t (r c e h) | .exc c v h => .exc c v h | .bad => .bad
def wTup : R (List T) → R T
  | .ok x h => .ok (.tup x) h | .exc c v h => .exc c v h | .bad => .bad
def wLst : R (List T) → R RV
  | .ok x h => .ok (.own (.lst x)) h | .exc c v h => .exc c v h | .bad => .bad
def wCall (f : Nat) (c : Call) : R (List T) → R RV
  | .ok x h => c f x h | .exc c v h => .exc c v h | .bad => .bad
def wFlat (h0 : Hs) : R RV → R T
  | .ok (.val t) _ => if flat t = true then .ok t h0 else .bad
  | .ok (.own _) _ => .bad | .exc c v h => .exc c v h | .bad => .bad
def wCallB (f : Nat) (c : Call) : R (List T) → R T
  | .ok x h => wFlat h (c f x h) | .exc c v h => .exc c v h | .bad => .bad
def wIfE (a b : EC) (c : Call) (e : List Slot) : R Bool → R T
  | .ok true h => a c e h | .ok false h => b c e h | .exc c v h => .exc c v h | .bad => .bad
def wIfO (a b : OC) (c : Call) (e : List Slot) : R Bool → R RV
  | .ok true h => a c e h | .ok false h => b c e h | .exc c v h => .exc c v h | .bad => .bad
def wAnd2 (b : EC) (c : Call) (e : List Slot) (x : T) (h : Hs) : Option Bool → R T
  | some true => b c e h | some false => .ok x h | none => .bad
def wAnd (b : EC) (c : Call) (e : List Slot) : R T → R T
  | .ok x h => wAnd2 b c e x h (truth h x) | .exc c v h => .exc c v h | .bad => .bad
def wOr2 (b : EC) (c : Call) (e : List Slot) (x : T) (h : Hs) : Option Bool → R T
  | some false => b c e h | some true => .ok x h | none => .bad
def wOr (b : EC) (c : Call) (e : List Slot) : R T → R T
  | .ok x h => wOr2 b c e x h (truth h x) | .exc c v h => .exc c v h | .bad => .bad
def wNot2 (h : Hs) : Option Bool → R T
  | some k => .ok (.bl (!k)) h | none => .bad
def wNot : R T → R T
  | .ok x h => wNot2 h (truth h x) | .exc c v h => .exc c v h | .bad => .bad
def wBl2 (h : Hs) : Option T → R T
  | some (.bl k) => .ok (.bl k) h | _ => .bad
def wCh3 (g : Hs → T → T → Option T) (y : T) : R T → R T
  | .ok z h => wBl2 h (g h y z) | .exc c v h => .exc c v h | .bad => .bad
def wBoth (d : EC) (g : Hs → T → T → Option T) (y : T) (c : Call) (e : List Slot) (h : Hs) : Option T → R T
  | some (.bl true) => wCh3 g y (d c e h)
  | some (.bl false) => .ok (.bl false) h
  | _ => .bad
def wCh2 (f g : Hs → T → T → Option T) (d : EC) (x : T) (c : Call) (e : List Slot) : R T → R T
  | .ok y h => wBoth d g y c e h (f h x y) | .exc c v h => .exc c v h | .bad => .bad
def wCh1 (f g : Hs → T → T → Option T) (b d : EC) (c : Call) (e : List Slot) : R T → R T
  | .ok x h => wCh2 f g d x c e (b c e h) | .exc c v h => .exc c v h | .bad => .bad
def wTru : R T → R Bool
  | .ok x h => .opt (truth h x) h | .exc c v h => .exc c v h | .bad => .bad
def wBl : R T → R Bool
  | .ok (.bl k) h => .ok k h | .ok _ _ => .bad | .exc c v h => .exc c v h | .bad => .bad
def wTNot : R Bool → R Bool
  | .ok k h => .ok (!k) h | .exc c v h => .exc c v h | .bad => .bad
def wTAnd (b : TC) (c : Call) (e : List Slot) : R Bool → R Bool
  | .ok true h => b c e h | .ok false h => .ok false h | .exc c v h => .exc c v h | .bad => .bad
def wTOr (b : TC) (c : Call) (e : List Slot) : R Bool → R Bool
  | .ok false h => b c e h | .ok true h => .ok true h | .exc c v h => .exc c v h | .bad => .bad
def wSeq (b : SC) (c : Call) : SR → SR
  | .next e h => b c e h | r => r
def wRet : R T → SR
  | .ok t h => .ret (.val t) h | .exc c v h => .exc c v h | .bad => .bad
def wRetO : R RV → SR
  | .ok t h => .ret t h | .exc c v h => .exc c v h | .bad => .bad
def wIf (a b : SC) (c : Call) (e : List Slot) : R Bool → SR
  | .ok true h => a c e h | .ok false h => b c e h | .exc c v h => .exc c v h | .bad => .bad
def wDrop (e : List Slot) : R RV → SR
  | .ok _ h => .next e h | .exc c v h => .exc c v h | .bad => .bad
def wSet (i : Nat) (e : List Slot) : R T → SR
  | .ok t h => .next (e.set i (.val t)) h | .exc c v h => .exc c v h | .bad => .bad
def wSetO (i : Nat) (e : List Slot) : R RV → SR
  | .ok t h => .next (e.set i t.toSlot) h | .exc c v h => .exc c v h | .bad => .bad
def wNx (h : Hs) : Option (List Slot) → SR
  | some e => .next e h | none => .bad
def wUnp (is : List Nat) (e : List Slot) : R T → SR
  | .ok t h => wNx h ((Tg.many is).put e t) | .exc c v h => .exc c v h | .bad => .bad
def wAug2 (i : Nat) (e : List Slot) (h : Hs) : Option T → SR
  | some t => .next (e.set i (.val t)) h | none => .bad
def wAug1 (i : Nat) (f : Hs → T → T → Option T) (x : T) (e : List Slot) : R T → SR
  | .ok y h => wAug2 i e h (f h x y) | .exc c v h => .exc c v h | .bad => .bad
def wAug (i : Nat) (f : Hs → T → T → Option T) (a : EC) (c : Call) (e : List Slot) (h : Hs) : Option Slot → SR
  | some (.val x) => wAug1 i f x e (a c e h) | _ => .bad
def wFor (g : Tg) (b : SC) (c : Call) (e : List Slot) : R (List T) → SR
  | .ok ts h => forL g (b c) ts e h | .exc c v h => .exc c v h | .bad => .bad
def wL : R (List T) → R RV
  | .ok l h => .ok (.own (.lst l)) h | .exc c v h => .exc c v h | .bad => .bad
def wComp (is : List Nat) (g : Tg) (t : TC) (b : EC) (c : Call) (e : List Slot) : R (List T) → R RV
  | .ok ts h => wL (compL g (t c) (b c) (wipeE e is) ts [] h) | .exc c v h => .exc c v h | .bad => .bad
def wOwn3 (i : Nat) (e : List Slot) (h : Hs) : Option Cell → SR
  | some y => .next (e.set i (.own y)) h | none => .bad
def wOwn2 (i : Nat) (f : Hs → Cell → T → Option Cell) (t : T) (e : List Slot) (h : Hs) : Option Slot → SR
  | some (.own x) => wOwn3 i e h (f h x t) | _ => .bad
def wOwn1 (i : Nat) (f : Hs → Cell → T → Option Cell) (e : List Slot) : R T → SR
  | .ok t h => wOwn2 i f t e h e[i]? | .exc c v h => .exc c v h | .bad => .bad
def itemsOf (h : Hs) : T → R (List T)
  | .tup l => .ok l h | .lst l => .ok l h | .scr l => .ok l h
  | .str s => .ok (s.map fun n => .str [n]) h
  | _ => .bad
def wSeqI : R T → R (List T)
  | .ok x h => itemsOf h x | .exc c v h => .exc c v h | .bad => .bad
def vOf (h : Hs) : Option Slot → R T
  | some (.val t) => .ok t h | _ => .bad
def bOf (h : Hs) : Option Slot → R T
  | some (.val t) => .ok t h | some (.own c) => .ok c.toT h | _ => .bad
def rOf (h : Hs) : Option Slot → SR
  | some (.val t) => .ret (.val t) h | some (.own c) => .ret (.own c) h | _ => .bad
section
variable {c : Call} {e : List Slot} {h : Hs} {i : Nat} {a b d : EC} {oa ob : OC} {ta tb : TC} {ar : AC} {sa sb : SC} {t x y : T} {f : Nat} {ic : IC} {tg : Tg} {g g' : Hs → T → T → Option T} {k : Bool}
@[simp] theorem x_eVar : eVar i c e h = vOf h e[i]? := nrfl rfl
@[simp] theorem x_eBor : eBor i c e h = bOf h e[i]? := nrfl rfl
@[simp] theorem x_eK : eK t c e h = .ok t h := nrfl rfl
@[simp] theorem x_aNil : aNil c e h = .ok [] h := nrfl rfl
@[simp] theorem x_aCons : aCons a ar c e h = wC1 ar c e (a c e h) := by
  unfold aCons
  cases a c e h with
  | ok t h1 => show (ar c e h1).bind _ = wC2 t (ar c e h1); cases ar c e h1 <;> rfl
  | exc => rfl
  | bad => rfl
@[simp] theorem x_eTup : eTup ar c e h = wTup (ar c e h) := by
  unfold eTup
  cases ar c e h <;> rfl
@[simp] theorem x_oLst : oLst ar c e h = wLst (ar c e h) := by
  unfold oLst
  cases ar c e h <;> rfl
@[simp] theorem x_eOwn : eOwn oa c e h = wOwn (oa c e h) := by
  unfold eOwn
  cases oa c e h <;> rfl
@[simp] theorem x_oVal : oVal a c e h = wVal (a c e h) := by
  unfold oVal
  cases a c e h <;> rfl
@[simp] theorem x_eOp1 (f : Hs → T → Option T) : eOp1 f a c e h = wE1 f (a c e h) := by
  unfold eOp1
  cases a c e h <;> rfl
@[simp] theorem x_oOp1 (f : Hs → T → Option RV) : oOp1 f a c e h = wO1 f (a c e h) := by
  unfold oOp1
  cases a c e h <;> rfl
@[simp] theorem x_eOp2 : eOp2 g a b c e h = wE2 g b c e (a c e h) := by
  unfold eOp2
  cases a c e h with
  | ok x h1 => show (b c e h1).bind _ = wE1 _ (b c e h1); cases b c e h1 <;> rfl
  | exc => rfl
  | bad => rfl
@[simp] theorem x_oOp2 (f : Hs → T → T → Option RV) : oOp2 f a b c e h = wO2 f b c e (a c e h) := by
  unfold oOp2
  cases a c e h with
  | ok x h1 => show (b c e h1).bind _ = wO1 _ (b c e h1); cases b c e h1 <;> rfl
  | exc => rfl
  | bad => rfl
@[simp] theorem x_eCall : eCall f ar c e h = wCall f c (ar c e h) := by
  unfold eCall
  cases ar c e h <;> rfl
@[simp] theorem x_eCallB : eCallB f ar c e h = wCallB f c (ar c e h) := by
  unfold eCallB
  cases ar c e h with
  | ok x h1 => show (c f x h1).bind _ = wFlat h1 (c f x h1); cases z : c f x h1 with
    | ok r _ => cases r <;> rfl
    | exc => rfl
    | bad => rfl
  | exc => rfl
  | bad => rfl
@[simp] theorem x_eIf : eIf ta a b c e h = wIfE a b c e (ta c e h) := by
  unfold eIf
  cases ta c e h with
  | ok k h1 => cases k <;> rfl
  | exc => rfl
  | bad => rfl
@[simp] theorem x_oIf : oIf ta oa ob c e h = wIfO oa ob c e (ta c e h) := by
  unfold oIf
  cases ta c e h with
  | ok k h1 => cases k <;> rfl
  | exc => rfl
  | bad => rfl
@[simp] theorem x_eAnd : eAnd a b c e h = wAnd b c e (a c e h) := by
  unfold eAnd
  cases a c e h with
  | ok x h1 => show (match truth h1 x with | some true => b c e h1 | some false => .ok x h1 | none => .bad) = wAnd2 b c e x h1 (truth h1 x); cases truth h1 x with
    | none => rfl
    | some k => cases k <;> rfl
  | exc => rfl
  | bad => rfl
@[simp] theorem x_eOr : eOr a b c e h = wOr b c e (a c e h) := by
  unfold eOr
  cases a c e h with
  | ok x h1 => show (match truth h1 x with | some false => b c e h1 | some true => .ok x h1 | none => .bad) = wOr2 b c e x h1 (truth h1 x); cases truth h1 x with
    | none => rfl
    | some k => cases k <;> rfl
  | exc => rfl
  | bad => rfl
@[simp] theorem x_eNot : eNot a c e h = wNot (a c e h) := by
  unfold eNot
  cases a c e h with
  | ok x h1 => show (match truth h1 x with | some k => .ok (.bl (!k)) h1 | none => .bad) = wNot2 h1 (truth h1 x); cases truth h1 x <;> rfl
  | exc => rfl
  | bad => rfl
@[simp] theorem x_eChain : eChain g g' a b d c e h = wCh1 g g' b d c e (a c e h) := by
  unfold eChain
  cases a c e h with
  | ok x h1 =>
    show (b c e h1).bind _ = wCh2 g g' d x c e (b c e h1)
    cases b c e h1 with
    | ok y h2 =>
      show (match g h2 x y with | some (.bl true) => ((d c e h2).bind fun z h3 => (match g' h3 y z with | some (.bl k) => .ok (.bl k) h3 | _ => .bad)) | some (.bl false) => .ok (.bl false) h2 | _ => .bad) = wBoth d g' y c e h2 (g h2 x y)
      cases g h2 x y with
      | none => rfl
      | some u =>
        cases u with
        | bl k =>
          cases k with
          | false => rfl
          | true =>
            show (d c e h2).bind _ = wCh3 g' y (d c e h2)
            cases d c e h2 with
            | ok z h3 => show (match g' h3 y z with | some (.bl k) => .ok (.bl k) h3 | _ => .bad) = wBl2 h3 (g' h3 y z); cases g' h3 y z with
              | none => rfl
              | some u => cases u <;> rfl
            | exc => rfl
            | bad => rfl
        | _ => rfl
    | exc => rfl
    | bad => rfl
  | exc => rfl
  | bad => rfl
@[simp] theorem x_tTru : tTru a c e h = wTru (a c e h) := by
  unfold tTru
  cases a c e h <;> rfl
@[simp] theorem x_tBl : tBl a c e h = wBl (a c e h) := by
  unfold tBl
  cases a c e h with
  | ok x h1 => cases x <;> rfl
  | exc => rfl
  | bad => rfl
@[simp] theorem x_tNot : tNot ta c e h = wTNot (ta c e h) := by
  unfold tNot
  cases ta c e h <;> rfl
@[simp] theorem x_tAnd : tAnd ta tb c e h = wTAnd tb c e (ta c e h) := by
  unfold tAnd
  cases ta c e h with
  | ok k h1 => cases k <;> rfl
  | exc => rfl
  | bad => rfl
@[simp] theorem x_tOr : tOr ta tb c e h = wTOr tb c e (ta c e h) := by
  unfold tOr
  cases ta c e h with
  | ok k h1 => cases k <;> rfl
  | exc => rfl
  | bad => rfl
@[simp] theorem x_tYes : tYes c e h = .ok true h := nrfl rfl
@[simp] theorem x_sSkip : sSkip c e h = .next e h := nrfl rfl
@[simp] theorem x_sSeq : sSeq sa sb c e h = wSeq sb c (sa c e h) := by
  unfold sSeq
  cases sa c e h <;> rfl
@[simp] theorem x_sRet : sRet a c e h = wRet (a c e h) := by
  unfold sRet
  cases a c e h <;> rfl
@[simp] theorem x_sRetO : sRetO oa c e h = wRetO (oa c e h) := by
  unfold sRetO
  cases oa c e h <;> rfl
@[simp] theorem x_sRetN : sRetN i c e h = rOf h e[i]? := nrfl rfl
@[simp] theorem x_sIf : sIf ta sa sb c e h = wIf sa sb c e (ta c e h) := by
  unfold sIf
  cases ta c e h with
  | ok k h1 => cases k <;> rfl
  | exc => rfl
  | bad => rfl
@[simp] theorem x_sDrop : sDrop oa c e h = wDrop e (oa c e h) := by
  unfold sDrop
  cases oa c e h <;> rfl
@[simp] theorem x_sSet : sSet i a c e h = wSet i e (a c e h) := by
  unfold sSet
  cases a c e h <;> rfl
@[simp] theorem x_sSetO : sSetO i oa c e h = wSetO i e (oa c e h) := by
  unfold sSetO
  cases oa c e h <;> rfl
@[simp] theorem x_sFreeze (is : List Nat) : sFreeze is sa c e h = sa c (is.foldl freeze1 e) h := nrfl rfl
@[simp] theorem x_sUnp (is : List Nat) : sUnp is a c e h = wUnp is e (a c e h) := by
  unfold sUnp
  cases a c e h with
  | ok t h1 => show (match (Tg.many is).put e t with | some e1 => .next e1 h1 | none => .bad) = wNx h1 ((Tg.many is).put e t); cases (Tg.many is).put e t <;> rfl
  | exc => rfl
  | bad => rfl
@[simp] theorem x_sAug : sAug i g a c e h = wAug i g a c e h e[i]? := by
  unfold sAug
  cases e[i]? with
  | none => rfl
  | some s =>
    cases s with
    | val x =>
      show (a c e h).bindS _ = wAug1 i g x e (a c e h)
      cases a c e h with
      | ok y h1 => show (match g h1 x y with | some t => .next (e.set i (.val t)) h1 | none => .bad) = wAug2 i e h1 (g h1 x y); cases g h1 x y <;> rfl
      | exc => rfl
      | bad => rfl
    | _ => rfl
@[simp] theorem x_sFor : sFor tg ic sa c e h = wFor tg sa c e (ic c e h) := by
  unfold sFor
  cases ic c e h <;> rfl
@[simp] theorem x_oComp (is : List Nat) : oComp is tg ic ta a c e h = wComp is tg ta a c e (ic c e h) := by
  unfold oComp
  cases ic c e h with
  | ok ts h1 => show (compL tg (ta c) (a c) (wipeE e is) ts [] h1).bind _ = wL (compL tg (ta c) (a c) (wipeE e is) ts [] h1); cases compL tg (ta c) (a c) (wipeE e is) ts [] h1 <;> rfl
  | exc => rfl
  | bad => rfl
@[simp] theorem x_sOwn (f : Hs → Cell → T → Option Cell) : sOwn i f a c e h = wOwn1 i f e (a c e h) := by
  unfold sOwn
  cases a c e h with
  | ok t h1 =>
    show (match e[i]? with | some (.own x) => (match f h1 x t with | some y => .next (e.set i (.own y)) h1 | none => .bad) | _ => .bad) = wOwn2 i f t e h1 e[i]?
    cases e[i]? with
    | none => rfl
    | some s =>
      cases s with
      | own x => show (match f h1 x t with | some y => .next (e.set i (.own y)) h1 | none => .bad) = wOwn3 i e h1 (f h1 x t); cases f h1 x t <;> rfl
      | _ => rfl
  | exc => rfl
  | bad => rfl
@[simp] theorem x_iSeq : iSeq a c e h = wSeqI (a c e h) := by
  unfold iSeq
  cases a c e h with
  | ok x h1 => cases x <;> rfl
  | exc => rfl
  | bad => rfl
@[simp] theorem w1 (f : Hs → T → Option T) : wE1 f (.ok x h) = .opt (f h x) h := nrfl rfl
@[simp] theorem w2 : wE2 g b c e (.ok x h) = wE1 (fun h y => g h x y) (b c e h) := nrfl rfl
@[simp] theorem w3 (f : Hs → T → Option RV) : wO1 f (.ok x h) = .opt (f h x) h := nrfl rfl
@[simp] theorem w4 (f : Hs → T → T → Option RV) : wO2 f b c e (.ok x h) = wO1 (fun h y => f h x y) (b c e h) := nrfl rfl
@[simp] theorem w5 : wVal (.ok x h) = .ok (.val x) h := nrfl rfl
@[simp] theorem w6 (r : RV) : wOwn (.ok r h) = .ok r.toT h := nrfl rfl
@[simp] theorem w7 (ts : List T) : wC2 t (.ok ts h) = .ok (t :: ts) h := nrfl rfl
@[simp] theorem w8 : wC1 ar c e (.ok t h) = wC2 t (ar c e h) := nrfl rfl
@[simp] theorem w9 (ts : List T) : wTup (.ok ts h) = .ok (.tup ts) h := nrfl rfl
@[simp] theorem w10 (ts : List T) : wLst (.ok ts h) = .ok (.own (.lst ts)) h := nrfl rfl
@[simp] theorem w11 (ts : List T) : wCall f c (.ok ts h) = c f ts h := nrfl rfl
@[simp] theorem w12 (h1 : Hs) : wFlat h1 (.ok (.val t) h) = if flat t = true then .ok t h1 else .bad := nrfl rfl
@[simp] theorem w13 (ts : List T) : wCallB f c (.ok ts h) = wFlat h (c f ts h) := nrfl rfl
@[simp] theorem w14 : wIfE a b c e (.ok true h) = a c e h := nrfl rfl
@[simp] theorem w15 : wIfE a b c e (.ok false h) = b c e h := nrfl rfl
@[simp] theorem w16 : wIfO oa ob c e (.ok true h) = oa c e h := nrfl rfl
@[simp] theorem w17 : wIfO oa ob c e (.ok false h) = ob c e h := nrfl rfl
@[simp] theorem w18 : wAnd b c e (.ok x h) = wAnd2 b c e x h (truth h x) := nrfl rfl
@[simp] theorem w19 : wAnd2 b c e x h (some true) = b c e h := nrfl rfl
@[simp] theorem w20 : wAnd2 b c e x h (some false) = .ok x h := nrfl rfl
@[simp] theorem w21 : wOr b c e (.ok x h) = wOr2 b c e x h (truth h x) := nrfl rfl
@[simp] theorem w22 : wOr2 b c e x h (some false) = b c e h := nrfl rfl
@[simp] theorem w23 : wOr2 b c e x h (some true) = .ok x h := nrfl rfl
@[simp] theorem w24 : wNot (.ok x h) = wNot2 h (truth h x) := nrfl rfl
@[simp] theorem w25 : wNot2 h (some k) = .ok (.bl (!k)) h := nrfl rfl
@[simp] theorem w26 : wBl2 h (some (.bl k)) = .ok (.bl k) h := nrfl rfl
@[simp] theorem w27 : wCh3 g y (.ok x h) = wBl2 h (g h y x) := nrfl rfl
@[simp] theorem w28 : wBoth d g y c e h (some (.bl true)) = wCh3 g y (d c e h) := nrfl rfl
@[simp] theorem w29 : wBoth d g y c e h (some (.bl false)) = .ok (.bl false) h := nrfl rfl
@[simp] theorem w30 : wCh2 g g' d x c e (.ok y h) = wBoth d g' y c e h (g h x y) := nrfl rfl
@[simp] theorem w31 : wCh1 g g' b d c e (.ok x h) = wCh2 g g' d x c e (b c e h) := nrfl rfl
@[simp] theorem w32 : wTru (.ok x h) = .opt (truth h x) h := nrfl rfl
@[simp] theorem w33 : wBl (.ok (.bl k) h) = .ok k h := nrfl rfl
@[simp] theorem w34 : wTNot (.ok k h) = .ok (!k) h := nrfl rfl
@[simp] theorem w35 : wTAnd tb c e (.ok true h) = tb c e h := nrfl rfl
@[simp] theorem w36 : wTAnd tb c e (.ok false h) = .ok false h := nrfl rfl
@[simp] theorem w37 : wTOr tb c e (.ok true h) = .ok true h := nrfl rfl
@[simp] theorem w38 : wTOr tb c e (.ok false h) = tb c e h := nrfl rfl
@[simp] theorem w39 : wSeq sb c (.next e h) = sb c e h := nrfl rfl
@[simp] theorem w40 (v : RV) : wSeq sb c (.ret v h) = .ret v h := nrfl rfl
@[simp] theorem w41 : wSeq sb c (.cnt e h) = .cnt e h := nrfl rfl
@[simp] theorem w42 : wSeq sb c (.brk e h) = .brk e h := nrfl rfl
@[simp] theorem w43 : wRet (.ok t h) = .ret (.val t) h := nrfl rfl
@[simp] theorem w44 (v : RV) : wRetO (.ok v h) = .ret v h := nrfl rfl
@[simp] theorem w45 : wIf sa sb c e (.ok true h) = sa c e h := nrfl rfl
@[simp] theorem w46 : wIf sa sb c e (.ok false h) = sb c e h := nrfl rfl
@[simp] theorem w47 (v : RV) : wDrop e (.ok v h) = .next e h := nrfl rfl
@[simp] theorem w48 : wSet i e (.ok t h) = .next (e.set i (.val t)) h := nrfl rfl
@[simp] theorem w49 (v : RV) : wSetO i e (.ok v h) = .next (e.set i v.toSlot) h := nrfl rfl
@[simp] theorem w50 : wNx h (some e) = .next e h := nrfl rfl
@[simp] theorem w51 (is : List Nat) : wUnp is e (.ok t h) = wNx h ((Tg.many is).put e t) := nrfl rfl
@[simp] theorem w52 : wAug2 i e h (some t) = .next (e.set i (.val t)) h := nrfl rfl
@[simp] theorem w53 : wAug1 i g x e (.ok y h) = wAug2 i e h (g h x y) := nrfl rfl
@[simp] theorem w54 : wAug i g a c e h (some (.val x)) = wAug1 i g x e (a c e h) := nrfl rfl
@[simp] theorem w55 (ts : List T) : wFor tg sa c e (.ok ts h) = forL tg (sa c) ts e h := nrfl rfl
@[simp] theorem w56 (ts : List T) : wL (.ok ts h) = .ok (.own (.lst ts)) h := nrfl rfl
@[simp] theorem w57 (is : List Nat) (ts : List T) : wComp is tg ta a c e (.ok ts h) = wL (compL tg (ta c) (a c) (wipeE e is) ts [] h) := nrfl rfl
@[simp] theorem w58 (y : Cell) : wOwn3 i e h (some y) = .next (e.set i (.own y)) h := nrfl rfl
@[simp] theorem w59 (f : Hs → Cell → T → Option Cell) (y : Cell) : wOwn2 i f t e h (some (.own y)) = wOwn3 i e h (f h y t) := nrfl rfl
@[simp] theorem w60 (f : Hs → Cell → T → Option Cell) : wOwn1 i f e (.ok t h) = wOwn2 i f t e h e[i]? := nrfl rfl
@[simp] theorem w61 (l : List T) : itemsOf h (.tup l) = .ok l h := nrfl rfl
@[simp] theorem w62 (l : List T) : itemsOf h (.lst l) = .ok l h := nrfl rfl
@[simp] theorem w63 (l : List T) : itemsOf h (.scr l) = .ok l h := nrfl rfl
@[simp] theorem w64 (s : S) : itemsOf h (.str s) = .ok (s.map fun n => .str [n]) h := nrfl rfl
@[simp] theorem w65 : wSeqI (.ok x h) = itemsOf h x := nrfl rfl
@[simp] theorem w66 : vOf h (some (.val t)) = .ok t h := nrfl rfl
@[simp] theorem w67 : bOf h (some (.val t)) = .ok t h := nrfl rfl
@[simp] theorem w68 (y : Cell) : bOf h (some (.own y)) = .ok y.toT h := nrfl rfl
@[simp] theorem w69 : rOf h (some (.val t)) = .ret (.val t) h := nrfl rfl
@[simp] theorem w70 (y : Cell) : rOf h (some (.own y)) = .ret (.own y) h := nrfl rfl
@[simp] theorem x_opt {α : Type} (z : α) : R.opt (some z) h = .ok z h := nrfl rfl
@[simp] theorem x_fin1 : fin (.next e h) = .ok (.val .non) h := nrfl rfl
@[simp] theorem x_fin2 (v : RV) : fin (.ret v h) = .ok v h := nrfl rfl
@[simp] theorem x_toT1 : (RV.val t).toT = t := nrfl rfl
@[simp] theorem x_toT2 (l : List T) : (RV.own (.lst l)).toT = .lst l := nrfl rfl
@[simp] theorem x_toS1 : (RV.val t).toSlot = .val t := nrfl rfl
@[simp] theorem x_toS2 (l : Cell) : (RV.own l).toSlot = .own l := nrfl rfl
@[simp] theorem x_cell (l : List T) : (Cell.lst l).toT = .lst l := nrfl rfl
@[simp] theorem x_cellD (l : List (Ky × T)) : (Cell.dic l).toT = .dic l := nrfl rfl
@[simp] theorem x_put1 : (Tg.one i).put e t = some (e.set i (.val t)) := nrfl rfl
@[simp] theorem x_putM (is : List Nat) (ts : List T) : (Tg.many is).put e (.tup ts) = setAll e is ts := nrfl rfl
@[simp] theorem x_all0 : setAll e [] [] = some e := nrfl rfl
@[simp] theorem x_all1 (is : List Nat) (ts : List T) : setAll e (i :: is) (t :: ts) = setAll (e.set i (.val t)) is ts := nrfl rfl
@[simp] theorem o1 (m n : Int) : fAdd h (.int m) (.int n) = some (.val (.int (m + n))) := nrfl rfl
@[simp] theorem o2 (m n : Int) : fSub h (.int m) (.int n) = some (.int (m - n)) := nrfl rfl
@[simp] theorem o3 (m n : Int) : fLt h (.int m) (.int n) = some (.bl (decide (m < n))) := nrfl rfl
@[simp] theorem o4 (m n : Int) : fLe h (.int m) (.int n) = some (.bl (decide (m ≤ n))) := nrfl rfl
@[simp] theorem o5 (m n : Int) : fGt h (.int m) (.int n) = some (.bl (decide (n < m))) := nrfl rfl
@[simp] theorem o6 (m n : Int) : fGe h (.int m) (.int n) = some (.bl (decide (n ≤ m))) := nrfl rfl
@[simp] theorem o7 : fIs h x .non = some (.bl (isNon x)) := nrfl rfl
@[simp] theorem o8 : fIsNot h x .non = some (.bl (!isNon x)) := nrfl rfl
@[simp] theorem o9 (l : List T) (n : Int) : fIx h (.tup l) (.int n) = atIx l n := nrfl rfl
@[simp] theorem o10 (l : List T) (n : Int) : fIx h (.lst l) (.int n) = atIx l n := nrfl rfl
@[simp] theorem o11 (l : List T) (n : Int) : fIx h (.scr l) (.int n) = atIx l n := nrfl rfl
@[simp] theorem o12 (l : List T) : fLen h (.tup l) = some (.int l.length) := nrfl rfl
@[simp] theorem o13 (l : List T) : fLen h (.lst l) = some (.int l.length) := nrfl rfl
@[simp] theorem o14 (l : List T) : fLen h (.scr l) = some (.int l.length) := nrfl rfl
@[simp] theorem o15 (l : List T) : fTuple h (.lst l) = some (.tup l) := nrfl rfl
@[simp] theorem o16 (l : List T) : fTuple h (.tup l) = some (.tup l) := nrfl rfl
@[simp] theorem o17 (l : List T) : fList h (.lst l) = some (.own (.lst l)) := nrfl rfl
@[simp] theorem o18 (l : List T) : fList h (.tup l) = some (.own (.lst l)) := nrfl rfl
@[simp] theorem o19 (m n : Int) : fAddI h (.int m) (.int n) = some (.int (m + n)) := nrfl rfl
@[simp] theorem o20 (m n : Int) : fMax2 h (.int m) (.int n) = some (.int (if n > m then n else m)) := nrfl rfl
@[simp] theorem o21 : truth h (.bl k) = some k := nrfl rfl
@[simp] theorem o22 : truth h .non = some false := nrfl rfl
@[simp] theorem o23 (l : List T) : truth h (.tup l) = some (!l.isEmpty) := nrfl rfl
@[simp] theorem o24 (l : List T) : truth h (.lst l) = some (!l.isEmpty) := nrfl rfl
@[simp] theorem o25 : isNon .non = true := nrfl rfl
@[simp] theorem o26 (n : Int) : isNon (.int n) = false := nrfl rfl
@[simp] theorem o27 (s : S) : isNon (.str s) = false := nrfl rfl
@[simp] theorem o28 (l : List T) : isNon (.tup l) = false := nrfl rfl
@[simp] theorem o29 (l : List T) : isNon (.lst l) = false := nrfl rfl
@[simp] theorem o30 (n : Bool) : isNon (.bl n) = false := nrfl rfl
@[simp] theorem o31 (s : S) (n : Int) (hs : s.length ≤ LIM) : fIx h (.str s) (.int n) = (atIx s n).map fun c => .str [c] := if_pos hs
@[simp] theorem o32 (s : S) (hs : s.length ≤ LIM) : fLen h (.str s) = some (.int s.length) := if_pos hs
end
/-- a def is run -/
theorem run_pure {ft : Nat → Option Fn} {f : Nat} {F : Fn} (hf : ft f = some F) (hk : F.kind ≠ .opens) {args : List T} (hl : args.length = F.np) (k : Nat) (h : Hs) : run ft (k + 1) f args h = fin (F.body (run ft k) (mkEnv args F.ns) h) := by
  show (match ft f with | none => _ | some F => _) = _
  rw [hf]
  dsimp only
  rw [if_pos hl]
  cases z : F.kind with
  | opens => exact absurd z hk
  | pure => rfl
  | impure => rfl
def foldS {α : Type} (f : α → T → α ⊕ RV) : α → List T → α ⊕ RV
  | a, [] => .inl a
  | a, t :: ts => match f a t with
    | .inl a' => foldS f a' ts
    | .inr r => .inr r
/-- what a for does: E tells the slots by what is kept (a) and by what is not (j) -/
theorem forL_run {α β : Type} {tg : Tg} {b : List Slot → Hs → SR} {h : Hs} (E : α → β → List Slot) (f : α → T → α ⊕ RV) : ∀ (ts : List T)
    (hb : ∀ a j t, t ∈ ts → ∃ e1, tg.put (E a j) t = some e1 ∧ match f a t with
      | .inl a' => ∃ j', b e1 h = .next (E a' j') h ∨ b e1 h = .cnt (E a' j') h
      | .inr r => b e1 h = .ret r h) (a : α) (j : β), match foldS f a ts with
      | .inl a' => ∃ j', forL tg b ts (E a j) h = .next (E a' j') h
      | .inr r => forL tg b ts (E a j) h = .ret r h
  | [], _, a, j => ⟨j, rfl⟩
  | t :: ts, hb, a, j => by
    obtain ⟨e1, h1, h2⟩ := hb a j t List.mem_cons_self
    unfold foldS forL
    rw [h1]
    dsimp only
    cases z : f a t with
    | inl a' =>
      rw [z] at h2
      obtain ⟨j', h2⟩ := h2
      have ih := forL_run E f ts (fun a j t m => hb a j t (List.mem_cons_of_mem _ m)) a' j'
      rcases h2 with h2 | h2
      · rw [h2]; exact ih
      · rw [h2]; exact ih
    | inr r =>
      rw [z] at h2
      replace h2 : b e1 h = .ret r h := h2
      rw [h2]
theorem compL_run {tg : Tg} {tt : List Slot → Hs → R Bool} {b : List Slot → Hs → R T} {e : List Slot} {h : Hs} (p : T → Bool) (g : T → T) : ∀ (ts acc : List T)
    (hb : ∀ t ∈ ts, ∃ e1, tg.put e t = some e1 ∧ tt e1 h = .ok (p t) h ∧ (p t = true → b e1 h = .ok (g t) h)) (hl : acc.length + ts.length ≤ LIM), compL tg tt b e ts acc h = .ok (acc ++ (ts.filter p).map g) h
  | [], acc, _, _ => by simp [compL]
  | t :: ts, acc, hb, hl => by
    obtain ⟨e1, h1, h2, h3⟩ := hb t List.mem_cons_self
    have hl' : acc.length + (ts.length + 1) ≤ LIM := hl
    unfold compL
    rw [h1]
    dsimp only
    rw [h2]
    dsimp only [R.bind]
    cases z : p t with
    | true =>
      rw [if_pos rfl, h3 z]
      dsimp only [R.bind]
      rw [if_pos (by omega), compL_run p g ts (acc ++ [g t]) (fun t m => hb t (List.mem_cons_of_mem _ m)) (by simp; omega)]
      simp [z]
    | false =>
      rw [if_neg Bool.false_ne_true, compL_run p g ts acc (fun t m => hb t (List.mem_cons_of_mem _ m)) (by omega)]
      simp [z]
/-- a for that goes on, or ends the def -/
theorem foldS_all (p : T → Bool) (r : RV) : ∀ ts : List T, foldS (fun (_ : Unit) t => if p t = true then .inl () else .inr r) () ts = if ts.all p = true then .inl () else .inr r
  | [] => rfl
  | t :: ts => by
    cases z : p t with
    | true => simp [foldS, z, foldS_all p r ts]
    | false => simp [foldS, z]
/-- a for that appends -/
theorem forL_map {β : Type} {tg : Tg} {b : List Slot → Hs → SR} {h : Hs} {M : Nat} (E : List T → β → List Slot) (g : T → T) : ∀ (ts : List T)
    (hb : ∀ a j t, t ∈ ts → a.length < M → ∃ e1, tg.put (E a j) t = some e1 ∧ ∃ j', b e1 h = .next (E (a ++ [g t]) j') h) (a : List T) (j : β), a.length + ts.length ≤ M → ∃ j', forL tg b ts (E a j) h = .next (E (a ++ ts.map g) j') h
  | [], _, a, j, _ => ⟨j, by simp [forL]⟩
  | t :: ts, hb, a, j, hl => by
    have hl' : a.length + (ts.length + 1) ≤ M := hl
    obtain ⟨e1, h1, j', h2⟩ := hb a j t List.mem_cons_self (by omega)
    obtain ⟨j2, ih⟩ := forL_map E g ts (fun a j t m => hb a j t (List.mem_cons_of_mem _ m)) (a ++ [g t]) j' (by simp; omega)
    refine ⟨j2, ?_⟩
    unfold forL
    rw [h1]
    dsimp only
    rw [h2]
    dsimp only
    rw [ih]
    simp
def numOf (h : Hs) : T → R (List T)
  | .tup l => .ok (numL 0 l) h | .lst l => .ok (numL 0 l) h | _ => .bad
def wNum : R T → R (List T)
  | .ok x h => numOf h x | .exc c v h => .exc c v h | .bad => .bad
def revOf (h : Hs) : T → R (List T)
  | .tup l => .ok l.reverse h | .lst l => .ok l.reverse h | _ => .bad
def wRev : R T → R (List T)
  | .ok x h => revOf h x | .exc c v h => .exc c v h | .bad => .bad
def wR1 : R T → R (List T)
  | .ok (.int j) h => if in62 j = true then .ok (upL 1 j.toNat 0) h else .bad
  | .ok _ _ => .bad | .exc c v h => .exc c v h | .bad => .bad
def wR2b (x : T) : R T → R (List T)
  | .ok y h => (match x with
    | .int i => (match y with
      | .int j => if (in62 i && in62 j) = true then .ok (upL 1 (j - i).toNat i) h else .bad
      | _ => .bad)
    | _ => .bad)
  | .exc c v h => .exc c v h | .bad => .bad
def wR2 (b : EC) (c : Call) (e : List Slot) : R T → R (List T)
  | .ok x h => wR2b x (b c e h) | .exc c v h => .exc c v h | .bad => .bad
def wR3b (x : T) : R T → R (List T)
  | .ok y h => (match x with
    | .int i => (match y with
      | .int j => if (in62 i && in62 j) = true then .ok (upL (-1) (i - j).toNat i) h else .bad
      | _ => .bad)
    | _ => .bad)
  | .exc c v h => .exc c v h | .bad => .bad
def wR3 (b : EC) (c : Call) (e : List Slot) : R T → R (List T)
  | .ok x h => wR3b x (b c e h) | .exc c v h => .exc c v h | .bad => .bad
def wPart : R T → R (Option Int)
  | .ok (.int i) h => .ok (some i) h
  | .ok _ _ => .bad | .exc c v h => .exc c v h | .bad => .bad
def wSl3 (x : T) (l : Option Int) : R (Option Int) → R RV
  | .ok u h => .opt (fSl h x l u) h | .exc c v h => .exc c v h | .bad => .bad
def wSl2 (x : T) (hi : Option EC) (c : Call) (e : List Slot) : R (Option Int) → R RV
  | .ok l h => wSl3 x l (part hi c e h) | .exc c v h => .exc c v h | .bad => .bad
def wSl1 (lo hi : Option EC) (c : Call) (e : List Slot) : R T → R RV
  | .ok x h => wSl2 x hi c e (part lo c e h) | .exc c v h => .exc c v h | .bad => .bad
def backOf (h : Hs) : T → R RV
  | .lst l => .ok (.own (.lst l.reverse)) h | .tup l => .ok (.val (.tup l.reverse)) h | _ => .bad
def wBack : R T → R RV
  | .ok x h => backOf h (deref h x) | .exc c v h => .exc c v h | .bad => .bad
def frz (e : List Slot) (i : Nat) : Option Slot → List Slot
  | some (.own c) => e.set i (.val c.toT) | _ => e
def wTurn (g : Tg) (b : List Slot → Hs → SR) (ts : List T) : SR → SR
  | .next e2 h2 => forL g b ts e2 h2 | .cnt e2 h2 => forL g b ts e2 h2 | .brk e2 h2 => .next e2 h2 | r => r
def wItem (g : Tg) (b : List Slot → Hs → SR) (ts : List T) (h : Hs) : Option (List Slot) → SR
  | some e1 => wTurn g b ts (b e1 h) | none => .bad
def putIx (i : Nat) (e : List Slot) (t : T) (h : Hs) (l : List T) : Option Nat → SR
  | some j => .next (e.set i (.own (.lst (l.set j t)))) h | none => .bad
def wPut3 (i : Nat) (e : List Slot) (t y : T) (h : Hs) : Option Slot → SR
  | some (.own (.lst l)) => (match y with
    | .int n => putIx i e t h l (ixOf l.length n)
    | _ => .bad)
  | some (.own (.dic l)) => (match keyOf y with
    | some ky => if l.length < LIM then .next (e.set i (.own (.dic (putK l ky t)))) h else .bad
    | none => .bad)
  | _ => .bad
def wPut2 (i : Nat) (e : List Slot) (t : T) : R T → SR
  | .ok y h => wPut3 i e t y h e[i]? | .exc c v h => .exc c v h | .bad => .bad
def wPut1 (i : Nat) (k : EC) (c : Call) (e : List Slot) : R T → SR
  | .ok t h => wPut2 i e t (k c e h) | .exc c v h => .exc c v h | .bad => .bad
def wHp4 (e : List Slot) (n : Nat) (t y : T) (h : Hs) : Option Cell → SR
  | some (.lst l) => (match y with
    | .int z => (match ixOf l.length z with
      | some j => .next e (h.set n (.lst (l.set j t)))
      | none => .bad)
    | _ => .bad)
  | some (.dic l) => (match keyOf y with
    | some ky => if l.length < LIM then .next e (h.set n (.dic (putK l ky t))) else .bad
    | none => .bad)
  | none => .bad
def wHp3 (e : List Slot) (t x : T) : R T → SR
  | .ok y h => (match x with
    | .ref n => wHp4 e n t y h h[n]?
    | _ => .bad)
  | .exc c v h => .exc c v h | .bad => .bad
def wHp2 (k : EC) (c : Call) (e : List Slot) (t : T) : R T → SR
  | .ok x h => wHp3 e t x (k c e h) | .exc c v h => .exc c v h | .bad => .bad
def wHp1 (o k : EC) (c : Call) (e : List Slot) : R T → SR
  | .ok t h => wHp2 k c e t (o c e h) | .exc c v h => .exc c v h | .bad => .bad
def wNew : R RV → R T
  | .ok (.own x) h => .ok (.ref h.length) (h ++ [x])
  | .ok (.val _) _ => .bad | .exc c v h => .exc c v h | .bad => .bad
def wPop (g : Option Tg) (i : Nat) (e : List Slot) (h : Hs) : Option Slot → SR
  | some (.own (.lst l)) => (match l.getLast? with
    | some t => popE g (e.set i (.own (.lst l.dropLast))) t h
    | none => .bad)
  | _ => .bad
def wDel2 (i : Nat) (e : List Slot) (t : T) (h : Hs) : Option Slot → SR
  | some (.own (.lst l)) => (match t with
    | .int n => if 0 ≤ n ∧ n ≤ l.length then .next (e.set i (.own (.lst (l.take n.toNat)))) h else .bad
    | _ => .bad)
  | _ => .bad
def wDel (i : Nat) (e : List Slot) : R T → SR
  | .ok t h => wDel2 i e t h e[i]? | .exc c v h => .exc c v h | .bad => .bad
section
variable {c : Call} {e : List Slot} {h : Hs} {i : Nat} {a b d : EC} {oa : OC} {sa : SC} {t x y : T} {tg : Tg}
@[simp] theorem y_iNum : iNum a c e h = wNum (a c e h) := by
  unfold iNum
  cases a c e h with
  | ok x h1 => cases x <;> rfl
  | exc => rfl
  | bad => rfl
@[simp] theorem y_iRev : iRev a c e h = wRev (a c e h) := by
  unfold iRev
  cases a c e h with
  | ok x h1 => cases x <;> rfl
  | exc => rfl
  | bad => rfl
@[simp] theorem y_iR1 : iR1 a c e h = wR1 (a c e h) := by
  unfold iR1
  cases a c e h with
  | ok x h1 => cases x <;> rfl
  | exc => rfl
  | bad => rfl
@[simp] theorem y_iR2 : iR2 a b c e h = wR2 b c e (a c e h) := by
  unfold iR2
  cases a c e h with
  | ok x h1 => show (b c e h1).bind _ = wR2b x (b c e h1); cases b c e h1 <;> rfl
  | exc => rfl
  | bad => rfl
@[simp] theorem y_iR3 : iR3 a b c e h = wR3 b c e (a c e h) := by
  unfold iR3
  cases a c e h with
  | ok x h1 => show (b c e h1).bind _ = wR3b x (b c e h1); cases b c e h1 <;> rfl
  | exc => rfl
  | bad => rfl
@[simp] theorem y_part0 : part none c e h = .ok none h := nrfl rfl
@[simp] theorem y_part1 : part (some a) c e h = wPart (a c e h) := by
  show (a c e h).bind _ = _
  cases a c e h with
  | ok x h1 => cases x <;> rfl
  | exc => rfl
  | bad => rfl
@[simp] theorem y_oSl (lo hi : Option EC) : oSl a lo hi c e h = wSl1 lo hi c e (a c e h) := by
  unfold oSl
  cases a c e h with
  | ok x h1 =>
    show (part lo c e h1).bind _ = wSl2 x hi c e (part lo c e h1)
    cases part lo c e h1 with
    | ok l h2 => show (part hi c e h2).bind _ = wSl3 x l (part hi c e h2); cases part hi c e h2 <;> rfl
    | exc => rfl
    | bad => rfl
  | exc => rfl
  | bad => rfl
@[simp] theorem y_eBack : eBack a c e h = wBack (a c e h) := by
  unfold eBack
  cases a c e h with
  | ok x h1 => show (match deref h1 x with | .lst l => _ | .tup l => _ | _ => _) = backOf h1 (deref h1 x); cases deref h1 x <;> rfl
  | exc => rfl
  | bad => rfl
@[simp] theorem y_frz : freeze1 e i = frz e i e[i]? := nrfl rfl
@[simp] theorem y_frz1 (z : Cell) : frz e i (some (.own z)) = e.set i (.val z.toT) := nrfl rfl
@[simp] theorem y_frz2 : frz e i (some (.val t)) = e := nrfl rfl
@[simp] theorem y_frz3 : frz e i (some .un) = e := nrfl rfl
@[simp] theorem y_forL0 (g : List Slot → Hs → SR) : forL tg g [] e h = .next e h := nrfl rfl
@[simp] theorem y_forL1 (g : List Slot → Hs → SR) (ts : List T) : forL tg g (t :: ts) e h = wItem tg g ts h (tg.put e t) := by
  show (match tg.put e t with | none => _ | some e1 => _) = _
  cases tg.put e t with
  | none => rfl
  | some e1 => show (match g e1 h with | .next e2 h2 => _ | .cnt e2 h2 => _ | .brk e2 h2 => _ | r => _) = wTurn tg g ts (g e1 h); cases g e1 h <;> rfl
@[simp] theorem y_item (g : List Slot → Hs → SR) (ts : List T) : wItem tg g ts h (some e) = wTurn tg g ts (g e h) := nrfl rfl
@[simp] theorem y_turn1 (g : List Slot → Hs → SR) (ts : List T) : wTurn tg g ts (.next e h) = forL tg g ts e h := nrfl rfl
@[simp] theorem y_turn2 (g : List Slot → Hs → SR) (ts : List T) : wTurn tg g ts (.cnt e h) = forL tg g ts e h := nrfl rfl
@[simp] theorem y_turn3 (g : List Slot → Hs → SR) (ts : List T) : wTurn tg g ts (.brk e h) = .next e h := nrfl rfl
@[simp] theorem y_turn4 (g : List Slot → Hs → SR) (ts : List T) (v : RV) : wTurn tg g ts (.ret v h) = .ret v h := nrfl rfl
@[simp] theorem y_num (x : T) : wNum (.ok x h) = numOf h x := nrfl rfl
@[simp] theorem y_num1 (l : List T) : numOf h (.tup l) = .ok (numL 0 l) h := nrfl rfl
@[simp] theorem y_num2 (l : List T) : numOf h (.lst l) = .ok (numL 0 l) h := nrfl rfl
@[simp] theorem y_numL0 (n : Int) : numL n [] = [] := nrfl rfl
@[simp] theorem y_numL1 (n : Int) (l : List T) : numL n (x :: l) = .tup [.int n, x] :: numL (n + 1) l := nrfl rfl
@[simp] theorem y_rev (x : T) : wRev (.ok x h) = revOf h x := nrfl rfl
@[simp] theorem y_rev1 (l : List T) : revOf h (.tup l) = .ok l.reverse h := nrfl rfl
@[simp] theorem y_rev2 (l : List T) : revOf h (.lst l) = .ok l.reverse h := nrfl rfl
@[simp] theorem y_r1 (n : Int) : wR1 (.ok (.int n) h) = if in62 n = true then .ok (upL 1 n.toNat 0) h else .bad := nrfl rfl
@[simp] theorem y_r2 : wR2 b c e (.ok x h) = wR2b x (b c e h) := nrfl rfl
@[simp] theorem y_r2b (m n : Int) : wR2b (.int m) (.ok (.int n) h) = if (in62 m && in62 n) = true then .ok (upL 1 (n - m).toNat m) h else .bad := nrfl rfl
@[simp] theorem y_r3 : wR3 b c e (.ok x h) = wR3b x (b c e h) := nrfl rfl
@[simp] theorem y_r3b (m n : Int) : wR3b (.int m) (.ok (.int n) h) = if (in62 m && in62 n) = true then .ok (upL (-1) (m - n).toNat m) h else .bad := nrfl rfl
@[simp] theorem y_partw (n : Int) : wPart (.ok (.int n) h) = .ok (some n) h := nrfl rfl
@[simp] theorem y_sl1 (lo hi : Option EC) : wSl1 lo hi c e (.ok x h) = wSl2 x hi c e (part lo c e h) := nrfl rfl
@[simp] theorem y_sl2 (hi : Option EC) (l : Option Int) : wSl2 x hi c e (.ok l h) = wSl3 x l (part hi c e h) := nrfl rfl
@[simp] theorem y_sl3 (l u : Option Int) : wSl3 x l (.ok u h) = .opt (fSl h x l u) h := nrfl rfl
@[simp] theorem y_sl4 (l : List T) (lo hi : Option Int) : fSl h (.tup l) lo hi = some (.val (.tup (cutL l lo hi))) := nrfl rfl
@[simp] theorem y_sl5 (l : List T) (lo hi : Option Int) : fSl h (.lst l) lo hi = some (.own (.lst (cutL l lo hi))) := nrfl rfl
@[simp] theorem y_back : wBack (.ok x h) = backOf h (deref h x) := nrfl rfl
@[simp] theorem y_back1 (l : List T) : backOf h (.tup l) = .ok (.val (.tup l.reverse)) h := nrfl rfl
@[simp] theorem y_back2 (l : List T) : backOf h (.lst l) = .ok (.own (.lst l.reverse)) h := nrfl rfl
@[simp] theorem y_sPut (k : EC) : sPut i k a c e h = wPut1 i k c e (a c e h) := by
  unfold sPut
  cases a c e h with
  | ok t h1 =>
    show (k c e h1).bindS _ = wPut2 i e t (k c e h1)
    cases k c e h1 with
    | ok y h2 =>
      show (match e[i]? with | some (.own (.lst l)) => _ | some (.own (.dic l)) => _ | _ => _) = wPut3 i e t y h2 e[i]?
      cases e[i]? with
      | none => rfl
      | some s =>
        cases s with
        | own x =>
          cases x with
          | lst l => cases y with
            | int n => show (match ixOf l.length n with | some j => _ | none => _) = putIx i e t h2 l (ixOf l.length n); cases ixOf l.length n <;> rfl
            | _ => rfl
          | dic l => rfl
        | _ => rfl
    | exc => rfl
    | bad => rfl
  | exc => rfl
  | bad => rfl
@[simp] theorem y_put1 (k : EC) : wPut1 i k c e (.ok t h) = wPut2 i e t (k c e h) := nrfl rfl
@[simp] theorem y_put2 : wPut2 i e t (.ok y h) = wPut3 i e t y h e[i]? := nrfl rfl
@[simp] theorem y_put3 (l : List T) (n : Int) : wPut3 i e t (.int n) h (some (.own (.lst l))) = putIx i e t h l (ixOf l.length n) := nrfl rfl
@[simp] theorem y_putIx (l : List T) (j : Nat) : putIx i e t h l (some j) = .next (e.set i (.own (.lst (l.set j t)))) h := nrfl rfl
@[simp] theorem y_sHput (k : EC) : sHput a k b c e h = wHp1 a k c e (b c e h) := by
  unfold sHput
  cases b c e h with
  | ok t h1 =>
    show (a c e h1).bindS _ = wHp2 k c e t (a c e h1)
    cases a c e h1 with
    | ok x h2 =>
      show (k c e h2).bindS _ = wHp3 e t x (k c e h2)
      cases k c e h2 with
      | ok y h3 =>
        cases x with
        | ref n =>
          show (match h3[n]? with | some (.lst l) => _ | some (.dic l) => _ | none => _) = wHp4 e n t y h3 h3[n]?
          cases h3[n]? with
          | none => rfl
          | some s => cases s <;> rfl
        | _ => rfl
      | exc => rfl
      | bad => rfl
    | exc => rfl
    | bad => rfl
  | exc => rfl
  | bad => rfl
@[simp] theorem y_hp1 (k : EC) : wHp1 a k c e (.ok t h) = wHp2 k c e t (a c e h) := nrfl rfl
@[simp] theorem y_hp2 (k : EC) : wHp2 k c e t (.ok x h) = wHp3 e t x (k c e h) := nrfl rfl
@[simp] theorem y_hp3 (n : Nat) : wHp3 e t (.ref n) (.ok y h) = wHp4 e n t y h h[n]? := nrfl rfl
@[simp] theorem y_eNew : eNew oa c e h = wNew (oa c e h) := by
  unfold eNew
  cases oa c e h with
  | ok r h1 => cases r <;> rfl
  | exc => rfl
  | bad => rfl
@[simp] theorem y_new (z : Cell) : wNew (.ok (.own z) h) = .ok (.ref h.length) (h ++ [z]) := nrfl rfl
@[simp] theorem y_sPop (g : Option Tg) : sPop g i c e h = wPop g i e h e[i]? := nrfl rfl
@[simp] theorem y_sDel : sDelFrom i a c e h = wDel i e (a c e h) := by
  unfold sDelFrom
  cases a c e h with
  | ok t h1 => rfl
  | exc => rfl
  | bad => rfl
@[simp] theorem y_del : wDel i e (.ok t h) = wDel2 i e t h e[i]? := nrfl rfl
@[simp] theorem y_kd (q : List (S × T)) (s : S) : fKdIx q h (.str s) = lookS q s := nrfl rfl
@[simp] theorem y_kdn (q : List (S × T)) (s : S) : fKdNotIn q h (.str s) = some (.bl (!(lookS q s).isSome)) := nrfl rfl
@[simp] theorem y_kdi (q : List (S × T)) (s : S) : fKdIn q h (.str s) = some (.bl (lookS q s).isSome) := nrfl rfl
end
end GtS
end
section
set_option Elab.async false
set_option linter.all false
namespace GtS
open Gt
variable {ft : Nat → Option Fn} {h : Hs} {k : Nat}
/-- a value without cells, defs, script -/
def isStr : T → Option S
  | .str x => some x
  | _ => none
def plainT : T → Bool
  | .ref _ => false | .scr _ => false | .fn _ => false | .ty _ => false
  | _ => true
def isSeq : T → Option (List T)
  | .tup l => some l
  | .lst l => some l
  | _ => none
def letters : S := [97, 98, 99, 100, 101, 102, 103, 104, 105, 106, 107, 108, 109, 110, 111, 112, 113, 114, 115, 116, 117, 118, 119, 120, 121, 122]
def signs : S := [97, 98, 99, 100, 101, 102, 103, 104, 105, 106, 107, 108, 109, 110, 111, 112, 113, 114, 115, 116, 117, 118, 119, 120, 121, 122, 48, 49, 50, 51, 52, 53, 54, 55, 56, 57, 95]
theorem c_signs : c_NAME_SIGNS = .str signs := rfl
theorem c_letters : c_LETTERS = .str letters := rfl
def nameOk (x : S) : Bool := match x with
  | [] => false
  | c :: r => decide ((c :: r).length ≤ 12) && (decide (c ∈ letters) && (c :: r).all fun c => decide (c ∈ signs))
theorem q_is_sequence (hf : ft i_is_sequence = some F_is_sequence) (t : T) (hp : plainT t = true) : run ft (k + 1) i_is_sequence [t] h = .ok (.val (.bl (isSeq t).isSome)) h := by
  rw [run_pure hf (by decide) rfl]
  cases t <;> first
    | (cases hp; done)
    | simp [F_is_sequence, k_is_sequence, mkEnv, fIsi, anyTy, Ty.has, deref, isSeq]
theorem q_is_name (hf : ft i_is_name = some F_is_name) (t : T) (hp : plainT t = true) (hx : ∀ x, t = .str x → x.length ≤ LIM) : run ft (k + 1) i_is_name [t] h = .ok (.val (.bl (match t with | .str x => nameOk x | _ => false))) h := by
  rw [run_pure hf (by decide) rfl]
  cases t with
  | ref n => cases hp
  | scr n => cases hp
  | fn n => cases hp
  | ty n => cases hp
  | str x =>
    have hx := hx x rfl
    have loop := forL_run (tg := .one 1) (b := sIf (tBl (eOp2 fNotIn (eVar 1) (eK c_NAME_SIGNS))) (sRet (eK (.bl false))) sSkip (run ft k)) (h := h) (α := Unit) (β := Slot) (fun _ y => [.val (.str x), y]) (fun _ t => if (match t with | .str [n] => decide (n ∈ signs) | _ => false) = true then .inl () else .inr (.val (.bl false)))
      (x.map fun n => .str [n]) (fun a j t m => by
        obtain ⟨n, hn, rfl⟩ := List.mem_map.mp m
        refine ⟨_, rfl, ?_⟩
        by_cases hs : n ∈ signs
        · have hs' : decide (n ∈ signs) = true := decide_eq_true hs
          simp only [hs', if_true]
          exact ⟨.val (.str [n]), .inl (by simp [fNotIn, inT, deref, c_signs, hs])⟩
        · have hs' : decide (n ∈ signs) = false := decide_eq_false hs
          simp only [hs', Bool.false_eq_true, if_false]
          simp [fNotIn, inT, deref, c_signs, hs]) () .un
    rw [foldS_all] at loop
    cases x with
    | nil => simp [F_is_name, k_is_name, mkEnv, fIsi, anyTy, Ty.has, deref, nameOk]
    | cons c r =>
      have hx2 : r.length + 1 ≤ LIM := hx
      have b1 : decide ((1 : Int) ≤ (r.length : Int) + 1) = true := decide_eq_true (by omega)
      have nin (s : S) (n : Nat) : fNotIn h (.str [n]) (.str s) = some (.bl (!decide (n ∈ s))) := rfl
      have at0 : atIx (c :: r) 0 = some c := by simp [atIx, ixOf]
      by_cases h12 : r.length + 1 ≤ 12
      · have b2 : decide ((r.length : Int) + 1 ≤ 12) = true := decide_eq_true (by omega)
        by_cases hc : c ∈ letters
        · simp [F_is_name, k_is_name, mkEnv, fIsi, anyTy, Ty.has, deref, hx2, c_MOST_SIGNS, b1, b2, c_letters, at0, nin, hc, -y_forL1]
          have al : ((c :: r).map fun n => T.str [n]).all (fun t => match t with | .str [n] => decide (n ∈ signs) | _ => false) = (c :: r).all fun n => decide (n ∈ signs) := by rw [List.all_map]; rfl
          rw [al] at loop
          have hn : nameOk (c :: r) = (c :: r).all fun n => decide (n ∈ signs) := by simp [nameOk, h12, hc]
          rw [hn]
          cases z : (c :: r).all fun n => decide (n ∈ signs) with
          | true =>
            rw [z] at loop
            obtain ⟨j, e⟩ := loop
            rw [List.map_cons] at e
            rw [e]; simp
          | false =>
            rw [z] at loop
            rw [List.map_cons] at loop
            have e := loop
            simp only [Bool.false_eq_true, if_false] at e
            rw [e]; simp
        · simp [F_is_name, k_is_name, mkEnv, fIsi, anyTy, Ty.has, deref, hx2, c_MOST_SIGNS, b1, b2, c_letters, at0, nin, hc, nameOk]
      · have b2 : decide ((r.length : Int) + 1 ≤ 12) = false := decide_eq_false (by omega)
        simp [F_is_name, k_is_name, mkEnv, fIsi, anyTy, Ty.has, deref, hx2, c_MOST_SIGNS, b1, b2, nameOk, h12]
  | _ => simp [F_is_name, k_is_name, mkEnv, fIsi, anyTy, Ty.has, deref]
end GtS
end
section
set_option Elab.async false
set_option linter.all false
namespace GtS
open Gt
variable {ft : Nat → Option Fn} {h : Hs} {k : Nat}
inductive Wd where
  | and | or | iff
  deriving DecidableEq
def Wd.s : Wd → S
  | .and => [97, 110, 100] | .or => [111, 114] | .iff => [105, 102]
inductive Sn where
  | atom (a : S) | non | bin (w : Wd) (l r : Sn)
  deriving DecidableEq
def sNone : S := [110, 111, 110, 101]
def Sn.enc : Sn → T
  | .atom a => .str a
  | .non => .tup [.str sNone]
  | .bin w l r => .tup [.str w.s, l.enc, r.enc]
def Sn.ok : Sn → Bool
  | .atom a => nameOk a
  | .non => true
  | .bin _ l r => l.ok && r.ok
def Sn.knots : Sn → Nat
  | .bin _ l r => l.knots + r.knots + 1
  | _ => 1
def Sn.deep : Sn → Nat
  | .bin _ l r => max l.deep r.deep + 1
  | _ => 1
theorem Sn.knots_pos (s : Sn) : 1 ≤ s.knots := by cases s <;> simp [Sn.knots]
theorem Sn.deep_pos (s : Sn) : 1 ≤ s.deep := by cases s <;> simp [Sn.deep]
theorem nameOk_len {x : S} (hx : nameOk x = true) : x.length ≤ 12 := by
  cases x with
  | nil => simp
  | cons c r =>
    simp only [nameOk, Bool.and_eq_true, decide_eq_true_eq] at hx
    exact hx.1
theorem le_LIM {n : Nat} (hn : n ≤ 1000000) : n ≤ LIM := Nat.le_trans hn (by decide)
theorem enc_plain (s : Sn) : plainT s.enc = true := by cases s <;> rfl
theorem enc_str {s : Sn} (hs : s.ok = true) : ∀ x, s.enc = .str x → x.length ≤ LIM := fun x e => by
  cases s with
  | atom a => cases e; exact le_LIM (Nat.le_trans (nameOk_len hs) (by decide))
  | non => cases e
  | bin w l r => cases e
/-- rows for equality with small things -/
@[simp] theorem eq1 (m n : Int) : fEq h (.int m) (.int n) = some (.bl (decide (m = n))) := nrfl rfl
@[simp] theorem eq2 (x y : S) : fEq h (.str x) (.str y) = some (.bl (decide (x = y))) := nrfl rfl
@[simp] theorem eq3 (x : S) (l : List T) : fEq h (.str x) (.tup l) = some (.bl false) := nrfl rfl
@[simp] theorem ne1 (m n : Int) : fNe h (.int m) (.int n) = some (.bl (!decide (m = n))) := nrfl rfl
theorem none_atom (x : S) : fEq h (.str x) c_NONE = some (.bl false) := rfl
theorem none_non : fEq h (.tup [.str sNone]) c_NONE = some (.bl true) := rfl
theorem none_bin (w : Wd) (a b : T) : fEq h (.tup [.str w.s, a, b]) c_NONE = some (.bl false) := by cases w <;> rfl
theorem words_in (w : Wd) : fNotIn h (.str w.s) c_WORDS = some (.bl false) := by cases w <;> rfl
theorem atN {α : Type} (l : List α) (n : Nat) : atIx l (n : Int) = l[n]? := by
  unfold atIx ixOf
  rw [if_pos (by omega)]
  by_cases z : n < l.length
  · rw [if_pos (by omega)]; simp
  · rw [if_neg (by omega), List.getElem?_eq_none (by omega)]; rfl
@[simp] theorem at0 (a : T) (l : List T) : atIx (a :: l) 0 = some a := atN (a :: l) 0
@[simp] theorem at1 (a b : T) (l : List T) : atIx (a :: b :: l) 1 = some b := atN (a :: b :: l) 1
@[simp] theorem at2 (a b c : T) (l : List T) : atIx (a :: b :: c :: l) 2 = some c := atN (a :: b :: c :: l) 2
@[simp] theorem at3 (a b c d : T) (l : List T) : atIx (a :: b :: c :: d :: l) 3 = some d := atN (a :: b :: c :: d :: l) 3
@[simp] theorem at4 (a b c d e : T) (l : List T) : atIx (a :: b :: c :: d :: e :: l) 4 = some e := atN (a :: b :: c :: d :: e :: l) 4
@[simp] theorem at5 (a b c d e f : T) (l : List T) : atIx (a :: b :: c :: d :: e :: f :: l) 5 = some f := atN (a :: b :: c :: d :: e :: f :: l) 5
theorem q_knots (hn : ft i_is_name = some F_is_name) (hf : ft i_knots_within = some F_knots_within) : ∀ (s : Sn) (room k : Nat), s.ok = true → s.deep ≤ room → s.deep + 1 ≤ k → run ft k i_knots_within [s.enc, .int room] h = .ok (.val (.int s.knots)) h
  | s, room, 0, _, _, hk => by omega
  | s, 0, _ + 1, _, hd, _ => by have := s.deep_pos; omega
  | s, room + 1, 1, _, _, hk => by have := s.deep_pos; omega
  | s, room + 1, k + 1 + 1, hs, hd, hk => by
    rw [run_pure hf (by decide) rfl]
    have r0 : decide (((room : Int) + 1) = 0) = false := decide_eq_false (by omega)
    have nm := q_is_name (k := k) (h := h) hn s.enc (enc_plain s) (enc_str hs)
    have sub1 : ((room : Int) + 1) - 1 = (room : Int) := by omega
    cases s with
    | atom a =>
      have nm' : run ft (k + 1) i_is_name [.str a] h = .ok (.val (.bl true)) h := by
        have z : nameOk a = true := hs
        rw [← z]; exact nm
      simp [F_knots_within, k_knots_within, mkEnv, Sn.enc, Sn.knots, r0, nm']
    | non =>
      have nm' : run ft (k + 1) i_is_name [.tup [.str sNone]] h = .ok (.val (.bl false)) h := nm
      simp [F_knots_within, k_knots_within, mkEnv, Sn.enc, Sn.knots, r0, nm', none_non]
    | bin w l r =>
      have nm' : run ft (k + 1) i_is_name [.tup [.str w.s, l.enc, r.enc]] h = .ok (.val (.bl false)) h := nm
      have hs' : l.ok = true ∧ r.ok = true := by simpa [Sn.ok] using hs
      have hd' : max l.deep r.deep + 1 ≤ room + 1 := hd
      have hk' : max l.deep r.deep + 1 + 1 ≤ k + 1 + 1 := hk
      have kl := q_knots hn hf l room (k + 1) hs'.1 (by omega) (by omega)
      have kr := q_knots hn hf r room (k + 1) hs'.2 (by omega) (by omega)
      have l0 : decide (l.knots = 0) = false := decide_eq_false (by have := l.knots_pos; omega)
      have r1 : decide (r.knots = 0) = false := decide_eq_false (by have := r.knots_pos; omega)
      have isi : fIsi [.tuple] h (.tup [.str w.s, l.enc, r.enc]) = some (.bl true) := rfl
      simp [F_knots_within, k_knots_within, mkEnv, Sn.enc, Sn.knots, r0, nm', none_bin, isi, words_in, sub1, kl, kr, l0, r1]
end GtS
end
section
set_option Elab.async false
set_option linter.all false
namespace GtS
open Gt
variable {ft : Nat → Option Fn} {h : Hs} {k : Nat}
structure HasS (ft : Nat → Option Fn) : Prop where
  h1 : ft i_is_name = some F_is_name
  h2 : ft i_knots_within = some F_knots_within
  h3 : ft i_is_sentence_value = some F_is_sentence_value
  h4 : ft i_knots_of = some F_knots_of
  h5 : ft i_deep_of = some F_deep_of
  h6 : ft i_fits = some F_fits
  h7 : ft i_sentence_of = some F_sentence_of
  h8 : ft i_with_label = some F_with_label
theorem q_is_sent (A : HasS ft) (s : Sn) (hs : s.ok = true) (hd : s.deep ≤ 20) (hk : s.knots ≤ 60) (k : Nat) (h1 : s.deep + 2 ≤ k) : run ft k i_is_sentence_value [s.enc] h = .ok (.val (.bl true)) h := by
  obtain ⟨k, rfl⟩ : ∃ j, k = j + 1 := ⟨k - 1, by omega⟩
  rw [run_pure A.h3 (by decide) rfl]
  have e := q_knots (h := h) A.h1 A.h2 s 20 k hs hd (by omega)
  have e' : run ft k i_knots_within [s.enc, .int 20] h = .ok (.val (.int s.knots)) h := e
  have b1 : decide ((1 : Int) ≤ (s.knots : Int)) = true := decide_eq_true (by have := s.knots_pos; omega)
  have b2 : decide ((s.knots : Int) ≤ 60) = true := decide_eq_true (by omega)
  simp [F_is_sentence_value, k_is_sentence_value, mkEnv, c_MOST_DEEP_sentences, c_MOST_KNOTS_sentences, e', b1, b2]
theorem isi_str (s : S) : fIsi [.str] h (.str s) = some (.bl true) := rfl
theorem isi_strT (l : List T) : fIsi [.str] h (.tup l) = some (.bl false) := rfl
theorem q_knots_of (A : HasS ft) : ∀ (s : Sn) (k : Nat), s.deep ≤ k → run ft k i_knots_of [s.enc] h = .ok (.val (.int s.knots)) h
  | s, 0, hk => by have := s.deep_pos; omega
  | .atom a, k + 1, _ => by
    rw [run_pure A.h4 (by decide) rfl]
    simp [F_knots_of, k_knots_of, mkEnv, Sn.enc, Sn.knots, isi_str]
  | .non, k + 1, _ => by
    rw [run_pure A.h4 (by decide) rfl]
    simp [F_knots_of, k_knots_of, mkEnv, Sn.enc, Sn.knots, isi_strT, none_non]
  | .bin w l r, k + 1, hk => by
    rw [run_pure A.h4 (by decide) rfl]
    have hk' : max l.deep r.deep + 1 ≤ k + 1 := hk
    have kl := q_knots_of A l k (by omega)
    have kr := q_knots_of A r k (by omega)
    simp [F_knots_of, k_knots_of, mkEnv, Sn.enc, Sn.knots, isi_strT, none_bin, kl, kr]
theorem q_deep_of (A : HasS ft) : ∀ (s : Sn) (k : Nat), s.deep ≤ k → run ft k i_deep_of [s.enc] h = .ok (.val (.int s.deep)) h
  | s, 0, hk => by have := s.deep_pos; omega
  | .atom a, k + 1, _ => by
    rw [run_pure A.h5 (by decide) rfl]
    simp [F_deep_of, k_deep_of, mkEnv, Sn.enc, Sn.deep, isi_str]
  | .non, k + 1, _ => by
    rw [run_pure A.h5 (by decide) rfl]
    simp [F_deep_of, k_deep_of, mkEnv, Sn.enc, Sn.deep, isi_strT, none_non]
  | .bin w l r, k + 1, hk => by
    rw [run_pure A.h5 (by decide) rfl]
    have hk' : max l.deep r.deep + 1 ≤ k + 1 := hk
    have kl := q_deep_of A l k (by omega)
    have kr := q_deep_of A r k (by omega)
    have e : (if (r.deep : Int) > (l.deep : Int) then (r.deep : Int) else (l.deep : Int)) = ((max l.deep r.deep : Nat) : Int) := by split <;> omega
    simp only [F_deep_of, k_deep_of, mkEnv, Sn.enc, Sn.deep]
    simp [isi_strT, none_bin, kl, kr]
    omega
def Sn.fits (s : Sn) : Bool := decide (s.deep ≤ 20) && decide (s.knots ≤ 60)
theorem q_fits (A : HasS ft) (s : Sn) (k : Nat) (hk : s.deep + 1 ≤ k) : run ft k i_fits [s.enc] h = .ok (.val (.bl s.fits)) h := by
  obtain ⟨k, rfl⟩ : ∃ j, k = j + 1 := ⟨k - 1, by omega⟩
  rw [run_pure A.h6 (by decide) rfl]
  have e1 := q_deep_of (h := h) A s k (by omega)
  have e2 := q_knots_of (h := h) A s k (by omega)
  by_cases z : s.deep ≤ 20
  · have b1 : decide ((s.deep : Int) ≤ 20) = true := decide_eq_true (by omega)
    have b2 : decide ((s.knots : Int) ≤ 60) = decide (s.knots ≤ 60) := by
      by_cases y : s.knots ≤ 60
      · rw [decide_eq_true y, decide_eq_true (by omega)]
      · rw [decide_eq_false y, decide_eq_false (by omega)]
    simp [F_fits, k_fits, mkEnv, c_MOST_DEEP_sentences, c_MOST_KNOTS_sentences, e1, e2, b1, b2, Sn.fits, z]
  · have b1 : decide ((s.deep : Int) ≤ 20) = false := decide_eq_false (by omega)
    simp [F_fits, k_fits, mkEnv, c_MOST_DEEP_sentences, c_MOST_KNOTS_sentences, e1, e2, b1, Sn.fits, z]
abbrev Cn := List (S × Sn)
def pr (p : S × Sn) : T := .tup [.str p.1, p.2.enc]
def encC (c : Cn) : T := .tup (c.map pr)
def lookC : Cn → S → Option Sn
  | [], _ => none
  | p :: r, l => if p.1 = l then some p.2 else lookC r l
def encO : Option Sn → T
  | none => .non
  | some s => s.enc
theorem foldS_look (l : S) : ∀ c : Cn, foldS (fun (_ : Unit) t => match t with | .tup [.str x, s] => if x = l then .inr (.val s) else .inl () | _ => .inl ()) () (c.map pr) = match lookC c l with | none => .inl () | some s => .inr (.val s.enc)
  | [] => rfl
  | p :: r => by
    by_cases z : p.1 = l
    · simp [foldS, pr, lookC, z]
    · simp [foldS, pr, lookC, z, foldS_look l r]
theorem q_sentence_of (A : HasS ft) (c : Cn) (l : S) (k : Nat) (hk : 1 ≤ k) : run ft k i_sentence_of [encC c, .str l] h = .ok (.val (encO (lookC c l))) h := by
  obtain ⟨k, rfl⟩ : ∃ j, k = j + 1 := ⟨k - 1, by omega⟩
  rw [run_pure A.h7 (by decide) rfl]
  have loop := forL_run (tg := .many [2, 3]) (b := sIf (tBl (eOp2 fEq (eVar 2) (eVar 1))) (sRet (eVar 3)) sSkip (run ft k)) (h := h) (α := Unit) (β := Slot × Slot) (fun _ y => [.val (encC c), .val (.str l), y.1, y.2])
    (fun _ t => match t with | .tup [.str x, s] => if x = l then .inr (.val s) else .inl () | _ => .inl ()) (c.map pr) (fun a j t m => by
      obtain ⟨p, hp, rfl⟩ := List.mem_map.mp m
      refine ⟨[.val (encC c), .val (.str l), .val (.str p.1), .val p.2.enc], by simp [pr], ?_⟩
      by_cases z : p.1 = l
      · simp [pr, z]
      · simp only [pr, z, if_false]
        exact ⟨(.val (.str p.1), .val p.2.enc), .inl (by simp [z])⟩) () (.un, .un)
  rw [foldS_look] at loop
  cases z : lookC c l with
  | none =>
    rw [z] at loop
    obtain ⟨j, e⟩ := loop
    simp only [encC] at e
    simp [F_sentence_of, k_sentence_of, mkEnv, encC, e, encO]
  | some s =>
    rw [z] at loop
    have e := loop
    simp only [encC] at e
    simp [F_sentence_of, k_sentence_of, mkEnv, encC, e, encO]
end GtS
end
section
set_option Elab.async false
set_option linter.all false
namespace GtS
open Gt
variable {ft : Nat → Option Fn} {h : Hs} {k : Nat}
theorem Wd.s_inj {w v : Wd} : w.s = v.s ↔ w = v := by cases w <;> cases v <;> decide
theorem Wd.s_none (w : Wd) : w.s ≠ sNone := by cases w <;> decide
theorem eqT_enc : ∀ (n : Nat) (s t : Sn), s.deep + 1 ≤ n → t.deep + 1 ≤ n → eqT n s.enc t.enc = some (decide (s = t))
  | 0, s, _, hs, _ => by omega
  | 1, s, _, hs, _ => by have := s.deep_pos; omega
  | n + 1 + 1, s, t, hs, ht => by
    cases s with
    | atom a =>
      cases t with
      | atom b => simp [Sn.enc, eqT]
      | non => simp [Sn.enc, eqT]
      | bin w l r => simp [Sn.enc, eqT]
    | non =>
      cases t with
      | atom b => simp [Sn.enc, eqT]
      | non => simp [Sn.enc, eqT, eqL]
      | bin w l r => simp [Sn.enc, eqT, eqL]
    | bin w l r =>
      cases t with
      | atom b => simp [Sn.enc, eqT]
      | non => simp [Sn.enc, eqT, eqL]
      | bin v p q =>
        have hs' : max l.deep r.deep + 1 + 1 ≤ n + 1 + 1 := hs
        have ht' : max p.deep q.deep + 1 + 1 ≤ n + 1 + 1 := ht
        have e1 := eqT_enc (n + 1) l p (by omega) (by omega)
        have e2 := eqT_enc (n + 1) r q (by omega) (by omega)
        have e0 : eqT (n + 1) (.str w.s) (.str v.s) = some (decide (w = v)) := by
          show some (decide (w.s = v.s)) = _
          by_cases z : w = v
          · subst z; simp
          · rw [decide_eq_false z, decide_eq_false (fun y => z (Wd.s_inj.mp y))]
        show eqL (eqT (n + 1)) [.str w.s, l.enc, r.enc] [.str v.s, p.enc, q.enc] = _
        simp only [eqL, e0, e1, e2]
        congr 1
        by_cases z1 : w = v <;> by_cases z2 : l = p <;> by_cases z3 : r = q <;> simp [z1, z2, z3]
theorem deref_enc (s : Sn) : deref h s.enc = s.enc := by cases s <;> rfl
theorem eq_enc {s t : Sn} (hs : s.deep ≤ 100) (ht : t.deep ≤ 100) : fEq h s.enc t.enc = some (.bl (decide (s = t))) := by
  unfold fEq eqV
  rw [deref_enc, deref_enc, eqT_enc DEEP s t (by unfold DEEP; omega) (by unfold DEEP; omega)]
  rfl
theorem ne_enc {s t : Sn} (hs : s.deep ≤ 100) (ht : t.deep ≤ 100) : fNe h s.enc t.enc = some (.bl (!decide (s = t))) := by
  unfold fNe eqV
  rw [deref_enc, deref_enc, eqT_enc DEEP s t (by unfold DEEP; omega) (by unfold DEEP; omega)]
  rfl
theorem isNon_enc (s : Sn) : isNon s.enc = false := by cases s <;> rfl
theorem cat_tup {a b : List T} (hl : a.length + b.length ≤ LIM) : fAdd h (.tup a) (.tup b) = some (.val (.tup (a ++ b))) := if_pos hl
theorem cat_lst {a b : List T} (hl : a.length + b.length ≤ LIM) : fAdd h (.lst a) (.lst b) = some (.own (.lst (a ++ b))) := if_pos hl
theorem app_lst {a : List T} {t : T} (hl : a.length < LIM) : fAppend h (.lst a) t = some (.lst (a ++ [t])) := if_pos hl
/-- with_label -/
def withC (c : Cn) (l : S) (s : Sn) : Cn := match lookC c l with
  | none => c ++ [(l, s)]
  | some _ => c.map fun p => if p.1 = l then (p.1, s) else p
theorem look_app (l : S) (s : Sn) (x : S) : ∀ c : Cn, lookC (c ++ [(l, s)]) x = match lookC c x with
    | some t => some t
    | none => if l = x then some s else none
  | [] => rfl
  | p :: r => by
    by_cases z : p.1 = x
    · simp [lookC, z]
    · simp [lookC, z, look_app l s x r]
theorem look_map (l : S) (s : Sn) (x : S) : ∀ c : Cn, lookC (c.map fun p => if p.1 = l then (p.1, s) else p) x = if l = x then (lookC c x).map fun _ => s else lookC c x
  | [] => by simp [lookC]
  | p :: r => by
    rw [List.map_cons]
    unfold lookC
    rw [look_map l s x r]
    by_cases z : p.1 = l
    · rw [if_pos z]
      by_cases y : p.1 = x
      · have : l = x := z.symm.trans y
        simp [y, this]
      · simp [y]
    · rw [if_neg z]
      by_cases y : p.1 = x
      · have : l ≠ x := fun q => z (y.trans q.symm)
        simp [y, this]
      · simp [y]
theorem look_with (c : Cn) (l : S) (s : Sn) (x : S) : lookC (withC c l s) x = if l = x then some s else lookC c x := by
  unfold withC
  cases z : lookC c l with
  | none =>
    dsimp only
    rw [look_app]
    by_cases y : l = x
    · subst y; simp [z]
    · simp only [if_neg y]
      cases lookC c x <;> rfl
  | some t =>
    dsimp only
    rw [look_map]
    by_cases y : l = x
    · subst y; simp [z]
    · simp [y]
theorem with_len (c : Cn) (l : S) (s : Sn) : (withC c l s).length ≤ c.length + 1 := by
  unfold withC
  cases lookC c l <;> simp
theorem q_with_label (A : HasS ft) (c : Cn) (l : S) (s : Sn) (k : Nat) (hk : 2 ≤ k) (hl : c.length < 100000) : run ft k i_with_label [encC c, .str l, s.enc] h = .ok (.val (encC (withC c l s))) h := by
  obtain ⟨k, rfl⟩ : ∃ j, k = j + 1 := ⟨k - 1, by omega⟩
  rw [run_pure A.h8 (by decide) rfl]
  have e1 := q_sentence_of (h := h) A c l k (by omega)
  simp only [encC] at e1
  unfold withC
  cases z : lookC c l with
  | none =>
    rw [z] at e1
    have cat : fAdd h (.tup (c.map pr)) (.tup [.tup [.str l, s.enc]]) = some (.val (.tup (c.map pr ++ [.tup [.str l, s.enc]]))) := cat_tup (by simp; exact le_LIM (by omega))
    simp [F_with_label, k_with_label, mkEnv, encC, e1, encO, cat, pr]
  | some t =>
    rw [z] at e1
    obtain ⟨j, e⟩ := forL_map (tg := .many [4, 5]) (b := sIf (tBl (eOp2 fEq (eVar 4) (eVar 1))) (sOwn 3 fAppend (eTup (aCons (eVar 4) (aCons (eVar 2) aNil)))) (sOwn 3 fAppend (eTup (aCons (eVar 4) (aCons (eVar 5) aNil)))) (run ft k)) (h := h) (M := LIM) (β := Slot × Slot)
      (fun a y => [.val (.tup (c.map pr)), .val (.str l), .val s.enc, .own (.lst a), y.1, y.2]) (fun t => match t with | .tup [.str x, u] => if x = l then .tup [.str x, s.enc] else .tup [.str x, u] | t => t) (c.map pr) (fun a j t m ha => by
        obtain ⟨p, hp, rfl⟩ := List.mem_map.mp m
        refine ⟨_, by simp [pr]; rfl, (.val (.str p.1), .val p.2.enc), ?_⟩
        by_cases y : p.1 = l
        · simp [pr, y, app_lst ha]
        · simp [pr, y, app_lst ha]) [] (.un, .un) (by simp; exact le_LIM (by omega))
    have em : (c.map pr).map (fun t => match t with | .tup [.str x, u] => if x = l then T.tup [.str x, s.enc] else .tup [.str x, u] | t => t) = (c.map fun p => if p.1 = l then (p.1, s) else p).map pr := by
      rw [List.map_map, List.map_map]
      refine List.map_congr_left fun p _ => ?_
      by_cases y : p.1 = l
      · simp [pr, y]
      · simp [pr, y]
    rw [em] at e
    simp only [List.nil_append] at e
    simp [F_with_label, k_with_label, mkEnv, encC, e1, encO, isNon_enc, e]
end GtS
end
section
set_option Elab.async false
set_option linter.all false
namespace GtS
open Gt
variable {ft : Nat → Option Fn} {h : Hs} {k : Nat}
inductive Tm where
  | var (l : S) | pair (a b : Tm) | left (a : Tm) | right (a : Tm) | lam (l : S) (s : Sn) (b : Tm) | app (a b : Tm) | first (a : Tm) (s : Sn) | second (s : Sn) (a : Tm)
  | cases (a : Tm) (l : S) (b : Tm) (m : S) (d : Tm) | void (a : Tm) (s : Sn)
def wVar : S := [118, 97, 114]
def wPair : S := [112, 97, 105, 114]
def wLeft : S := [108, 101, 102, 116]
def wRight : S := [114, 105, 103, 104, 116]
def wFun : S := [102, 117, 110]
def wApp : S := [97, 112, 112]
def wFirst : S := [102, 105, 114, 115, 116]
def wSecond : S := [115, 101, 99, 111, 110, 100]
def wCases : S := [99, 97, 115, 101, 115]
def wVoid : S := [118, 111, 105, 100]
def Tm.enc : Tm → T
  | .var l => .tup [.str wVar, .str l]
  | .pair a b => .tup [.str wPair, a.enc, b.enc]
  | .left a => .tup [.str wLeft, a.enc]
  | .right a => .tup [.str wRight, a.enc]
  | .lam l s b => .tup [.str wFun, .str l, s.enc, b.enc]
  | .app a b => .tup [.str wApp, a.enc, b.enc]
  | .first a s => .tup [.str wFirst, a.enc, s.enc]
  | .second s a => .tup [.str wSecond, s.enc, a.enc]
  | .cases a l b m d => .tup [.str wCases, a.enc, .str l, b.enc, .str m, d.enc]
  | .void a s => .tup [.str wVoid, a.enc, s.enc]
def Tm.ht : Tm → Nat
  | .var _ => 1
  | .pair a b => max a.ht b.ht + 1
  | .left a => a.ht + 1
  | .right a => a.ht + 1
  | .lam _ _ b => b.ht + 1
  | .app a b => max a.ht b.ht + 1
  | .first a _ => a.ht + 1
  | .second _ a => a.ht + 1
  | .cases a _ b _ d => max a.ht (max b.ht d.ht) + 1
  | .void a _ => a.ht + 1
abbrev Rho := S → Option Sn
def Rho.up (ρ : Rho) (l : S) (s : Sn) : Rho := fun x => if l = x then some s else ρ x
/-- a term bears a sentence; what is built fits -/
inductive Ty' : Rho → Tm → Sn → Prop where
  | var {ρ : Rho} {l : S} {s : Sn} (e : ρ l = some s) : Ty' ρ (.var l) s
  | pair {ρ : Rho} {a b : Tm} {s t : Sn} (ha : Ty' ρ a s) (hb : Ty' ρ b t) (f : (Sn.bin .and s t).fits = true) : Ty' ρ (.pair a b) (.bin .and s t)
  | left {ρ : Rho} {a : Tm} {s t : Sn} (ha : Ty' ρ a (.bin .and s t)) : Ty' ρ (.left a) s
  | right {ρ : Rho} {a : Tm} {s t : Sn} (ha : Ty' ρ a (.bin .and s t)) : Ty' ρ (.right a) t
  | lam {ρ : Rho} {l : S} {s t : Sn} {b : Tm} (hb : Ty' (ρ.up l s) b t) (f : (Sn.bin .iff s t).fits = true) : Ty' ρ (.lam l s b) (.bin .iff s t)
  | app {ρ : Rho} {a b : Tm} {s t : Sn} (ha : Ty' ρ a (.bin .iff s t)) (hb : Ty' ρ b s) : Ty' ρ (.app a b) t
  | first {ρ : Rho} {a : Tm} {s t : Sn} (ha : Ty' ρ a s) (f : (Sn.bin .or s t).fits = true) : Ty' ρ (.first a t) (.bin .or s t)
  | second {ρ : Rho} {a : Tm} {s t : Sn} (ha : Ty' ρ a t) (f : (Sn.bin .or s t).fits = true) : Ty' ρ (.second s a) (.bin .or s t)
  | cases {ρ : Rho} {a b d : Tm} {l m : S} {s t u : Sn} (ha : Ty' ρ a (.bin .or s t)) (hb : Ty' (ρ.up l s) b u) (hd : Ty' (ρ.up m t) d u) : Ty' ρ (.cases a l b m d) u
  | void {ρ : Rho} {a : Tm} {s : Sn} (ha : Ty' ρ a .non) (f : s.deep ≤ 60) : Ty' ρ (.void a s) s
def Rho.small (ρ : Rho) : Prop := ∀ l s, ρ l = some s → s.deep ≤ 60
theorem fits_deep {s : Sn} (f : s.fits = true) : s.deep ≤ 20 := by
  simp only [Sn.fits, Bool.and_eq_true, decide_eq_true_eq] at f
  exact f.1
theorem up_small {ρ : Rho} {l : S} {s : Sn} (hr : ρ.small) (hs : s.deep ≤ 60) : (ρ.up l s).small := fun x t e => by
  unfold Rho.up at e
  by_cases z : l = x
  · rw [if_pos z] at e; cases e; exact hs
  · rw [if_neg z] at e; exact hr x t e
theorem bin_deep {w : Wd} {s t : Sn} {n : Nat} (hd : (Sn.bin w s t).deep ≤ n) : s.deep ≤ n ∧ t.deep ≤ n := by
  have : max s.deep t.deep + 1 ≤ n := hd
  omega
theorem Ty'.small {ρ : Rho} {a : Tm} {s : Sn} (ty : Ty' ρ a s) : ρ.small → s.deep ≤ 60 := by
  induction ty with
  | var e => exact fun hr => hr _ _ e
  | pair _ _ f => exact fun _ => Nat.le_trans (fits_deep f) (by decide)
  | left _ ih => exact fun hr => (bin_deep (ih hr)).1
  | right _ ih => exact fun hr => (bin_deep (ih hr)).2
  | lam _ f _ => exact fun _ => Nat.le_trans (fits_deep f) (by decide)
  | app _ _ ih _ => exact fun hr => (bin_deep (ih hr)).2
  | first _ f _ => exact fun _ => Nat.le_trans (fits_deep f) (by decide)
  | second _ f _ => exact fun _ => Nat.le_trans (fits_deep f) (by decide)
  | cases _ _ _ i1 i2 _ => exact fun hr => i2 (up_small hr (bin_deep (i1 hr)).1)
  | void _ f _ => exact fun _ => f
section
set_option maxRecDepth 10000
@[simp] theorem lk0_var : lookS d_LENGTHS [118, 97, 114] = some (.int 2) := nrfl rfl
@[simp] theorem lk1_var : lookS d_CHILD_PLACES [118, 97, 114] = some (.tup []) := nrfl rfl
@[simp] theorem lk2_var : lookS d_BINDER_PLACES [118, 97, 114] = some (.tup []) := nrfl rfl
@[simp] theorem lk3_var : lookS d_LABEL_PLACES [118, 97, 114] = some (.tup [.int 1]) := nrfl rfl
@[simp] theorem lk4_var : lookS d_SENTENCE_PLACES [118, 97, 114] = some (.tup []) := nrfl rfl
@[simp] theorem lk0_pair : lookS d_LENGTHS [112, 97, 105, 114] = some (.int 3) := nrfl rfl
@[simp] theorem lk1_pair : lookS d_CHILD_PLACES [112, 97, 105, 114] = some (.tup [.int 1, .int 2]) := nrfl rfl
@[simp] theorem lk2_pair : lookS d_BINDER_PLACES [112, 97, 105, 114] = some (.tup [.int 0, .int 0]) := nrfl rfl
@[simp] theorem lk3_pair : lookS d_LABEL_PLACES [112, 97, 105, 114] = some (.tup []) := nrfl rfl
@[simp] theorem lk4_pair : lookS d_SENTENCE_PLACES [112, 97, 105, 114] = some (.tup []) := nrfl rfl
@[simp] theorem lk0_left : lookS d_LENGTHS [108, 101, 102, 116] = some (.int 2) := nrfl rfl
@[simp] theorem lk1_left : lookS d_CHILD_PLACES [108, 101, 102, 116] = some (.tup [.int 1]) := nrfl rfl
@[simp] theorem lk2_left : lookS d_BINDER_PLACES [108, 101, 102, 116] = some (.tup [.int 0]) := nrfl rfl
@[simp] theorem lk3_left : lookS d_LABEL_PLACES [108, 101, 102, 116] = some (.tup []) := nrfl rfl
@[simp] theorem lk4_left : lookS d_SENTENCE_PLACES [108, 101, 102, 116] = some (.tup []) := nrfl rfl
@[simp] theorem lk0_right : lookS d_LENGTHS [114, 105, 103, 104, 116] = some (.int 2) := nrfl rfl
@[simp] theorem lk1_right : lookS d_CHILD_PLACES [114, 105, 103, 104, 116] = some (.tup [.int 1]) := nrfl rfl
@[simp] theorem lk2_right : lookS d_BINDER_PLACES [114, 105, 103, 104, 116] = some (.tup [.int 0]) := nrfl rfl
@[simp] theorem lk3_right : lookS d_LABEL_PLACES [114, 105, 103, 104, 116] = some (.tup []) := nrfl rfl
@[simp] theorem lk4_right : lookS d_SENTENCE_PLACES [114, 105, 103, 104, 116] = some (.tup []) := nrfl rfl
@[simp] theorem lk0_fun : lookS d_LENGTHS [102, 117, 110] = some (.int 4) := nrfl rfl
@[simp] theorem lk1_fun : lookS d_CHILD_PLACES [102, 117, 110] = some (.tup [.int 3]) := nrfl rfl
@[simp] theorem lk2_fun : lookS d_BINDER_PLACES [102, 117, 110] = some (.tup [.int 1]) := nrfl rfl
@[simp] theorem lk3_fun : lookS d_LABEL_PLACES [102, 117, 110] = some (.tup [.int 1]) := nrfl rfl
@[simp] theorem lk4_fun : lookS d_SENTENCE_PLACES [102, 117, 110] = some (.tup [.int 2]) := nrfl rfl
@[simp] theorem lk0_app : lookS d_LENGTHS [97, 112, 112] = some (.int 3) := nrfl rfl
@[simp] theorem lk1_app : lookS d_CHILD_PLACES [97, 112, 112] = some (.tup [.int 1, .int 2]) := nrfl rfl
@[simp] theorem lk2_app : lookS d_BINDER_PLACES [97, 112, 112] = some (.tup [.int 0, .int 0]) := nrfl rfl
@[simp] theorem lk3_app : lookS d_LABEL_PLACES [97, 112, 112] = some (.tup []) := nrfl rfl
@[simp] theorem lk4_app : lookS d_SENTENCE_PLACES [97, 112, 112] = some (.tup []) := nrfl rfl
@[simp] theorem lk0_first : lookS d_LENGTHS [102, 105, 114, 115, 116] = some (.int 3) := nrfl rfl
@[simp] theorem lk1_first : lookS d_CHILD_PLACES [102, 105, 114, 115, 116] = some (.tup [.int 1]) := nrfl rfl
@[simp] theorem lk2_first : lookS d_BINDER_PLACES [102, 105, 114, 115, 116] = some (.tup [.int 0]) := nrfl rfl
@[simp] theorem lk3_first : lookS d_LABEL_PLACES [102, 105, 114, 115, 116] = some (.tup []) := nrfl rfl
@[simp] theorem lk4_first : lookS d_SENTENCE_PLACES [102, 105, 114, 115, 116] = some (.tup [.int 2]) := nrfl rfl
@[simp] theorem lk0_second : lookS d_LENGTHS [115, 101, 99, 111, 110, 100] = some (.int 3) := nrfl rfl
@[simp] theorem lk1_second : lookS d_CHILD_PLACES [115, 101, 99, 111, 110, 100] = some (.tup [.int 2]) := nrfl rfl
@[simp] theorem lk2_second : lookS d_BINDER_PLACES [115, 101, 99, 111, 110, 100] = some (.tup [.int 0]) := nrfl rfl
@[simp] theorem lk3_second : lookS d_LABEL_PLACES [115, 101, 99, 111, 110, 100] = some (.tup []) := nrfl rfl
@[simp] theorem lk4_second : lookS d_SENTENCE_PLACES [115, 101, 99, 111, 110, 100] = some (.tup [.int 1]) := nrfl rfl
@[simp] theorem lk0_cases : lookS d_LENGTHS [99, 97, 115, 101, 115] = some (.int 6) := nrfl rfl
@[simp] theorem lk1_cases : lookS d_CHILD_PLACES [99, 97, 115, 101, 115] = some (.tup [.int 1, .int 3, .int 5]) := nrfl rfl
@[simp] theorem lk2_cases : lookS d_BINDER_PLACES [99, 97, 115, 101, 115] = some (.tup [.int 0, .int 2, .int 4]) := nrfl rfl
@[simp] theorem lk3_cases : lookS d_LABEL_PLACES [99, 97, 115, 101, 115] = some (.tup [.int 2, .int 4]) := nrfl rfl
@[simp] theorem lk4_cases : lookS d_SENTENCE_PLACES [99, 97, 115, 101, 115] = some (.tup []) := nrfl rfl
@[simp] theorem lk0_void : lookS d_LENGTHS [118, 111, 105, 100] = some (.int 3) := nrfl rfl
@[simp] theorem lk1_void : lookS d_CHILD_PLACES [118, 111, 105, 100] = some (.tup [.int 1]) := nrfl rfl
@[simp] theorem lk2_void : lookS d_BINDER_PLACES [118, 111, 105, 100] = some (.tup [.int 0]) := nrfl rfl
@[simp] theorem lk3_void : lookS d_LABEL_PLACES [118, 111, 105, 100] = some (.tup []) := nrfl rfl
@[simp] theorem lk4_void : lookS d_SENTENCE_PLACES [118, 111, 105, 100] = some (.tup [.int 2]) := nrfl rfl
end
structure HasK (ft : Nat → Option Fn) : Prop where
  s : HasS ft
  k1 : ft i_is_made_by = some F_is_made_by
  k2 : ft i_grown = some F_grown
  k3 : ft i_concluded = some F_concluded
  k4 : ft i_told_of_cases = some F_told_of_cases
  k5 : ft i_told_of = some F_told_of
  k6 : ft i_bears = some F_bears
theorem q_is_made_by (A : HasK ft) (w : Wd) (a b : T) (v : Wd) (k : Nat) (hk : 1 ≤ k) : run ft k i_is_made_by [.tup [.str w.s, a, b], .str v.s] h = .ok (.val (.bl (decide (w = v)))) h := by
  obtain ⟨k, rfl⟩ : ∃ j, k = j + 1 := ⟨k - 1, by omega⟩
  rw [run_pure A.k1 (by decide) rfl]
  have i1 : fIsi [.tuple] h (.tup [.str w.s, a, b]) = some (.bl true) := rfl
  have e : decide (w.s = v.s) = decide (w = v) := by
    by_cases z : w = v
    · subst z; simp
    · rw [decide_eq_false z, decide_eq_false (fun y => z (Wd.s_inj.mp y))]
  simp [F_is_made_by, k_is_made_by, mkEnv, i1, e]
theorem q_grown (A : HasK ft) (s : Sn) (f : s.fits = true) (k : Nat) (hk : 22 ≤ k) : run ft k i_grown [s.enc] h = .ok (.val (.tup [s.enc, .str []])) h := by
  obtain ⟨k, rfl⟩ : ∃ j, k = j + 1 := ⟨k - 1, by omega⟩
  rw [run_pure A.k2 (by decide) rfl]
  have e := q_fits (h := h) A.s s k (by have := fits_deep f; omega)
  rw [f] at e
  simp [F_grown, k_grown, mkEnv, e]
/-- what the kernel concludes, by the term's word and what its parts bear -/
theorem q_c_pair (A : HasK ft) (a b : T) {s t : Sn} (f : (Sn.bin .and s t).fits = true) (k : Nat) (hk : 23 ≤ k) : run ft k i_concluded [.tup [.str wPair, a, b], .lst [s.enc, t.enc]] h = .ok (.val (.tup [(Sn.bin .and s t).enc, .str []])) h := by
  obtain ⟨k, rfl⟩ : ∃ j, k = j + 1 := ⟨k - 1, by omega⟩
  rw [run_pure A.k3 (by decide) rfl]
  have e := q_grown (h := h) A _ f k (by omega)
  simp only [Sn.enc, Wd.s] at e
  simp [F_concluded, k_concluded, mkEnv, wPair, e, Sn.enc, Wd.s]
theorem q_c_fun (A : HasK ft) (a b : T) {s t : Sn} (f : (Sn.bin .iff s t).fits = true) (k : Nat) (hk : 23 ≤ k) : run ft k i_concluded [.tup [.str wFun, a, s.enc, b], .lst [t.enc]] h = .ok (.val (.tup [(Sn.bin .iff s t).enc, .str []])) h := by
  obtain ⟨k, rfl⟩ : ∃ j, k = j + 1 := ⟨k - 1, by omega⟩
  rw [run_pure A.k3 (by decide) rfl]
  have e := q_grown (h := h) A _ f k (by omega)
  simp only [Sn.enc, Wd.s] at e
  simp [F_concluded, k_concluded, mkEnv, wFun, e, Sn.enc, Wd.s]
theorem q_c_first (A : HasK ft) (a : T) {s t : Sn} (f : (Sn.bin .or s t).fits = true) (k : Nat) (hk : 23 ≤ k) : run ft k i_concluded [.tup [.str wFirst, a, t.enc], .lst [s.enc]] h = .ok (.val (.tup [(Sn.bin .or s t).enc, .str []])) h := by
  obtain ⟨k, rfl⟩ : ∃ j, k = j + 1 := ⟨k - 1, by omega⟩
  rw [run_pure A.k3 (by decide) rfl]
  have e := q_grown (h := h) A _ f k (by omega)
  simp only [Sn.enc, Wd.s] at e
  simp [F_concluded, k_concluded, mkEnv, wFirst, e, Sn.enc, Wd.s]
theorem q_c_second (A : HasK ft) (a : T) {s t : Sn} (f : (Sn.bin .or s t).fits = true) (k : Nat) (hk : 23 ≤ k) : run ft k i_concluded [.tup [.str wSecond, s.enc, a], .lst [t.enc]] h = .ok (.val (.tup [(Sn.bin .or s t).enc, .str []])) h := by
  obtain ⟨k, rfl⟩ : ∃ j, k = j + 1 := ⟨k - 1, by omega⟩
  rw [run_pure A.k3 (by decide) rfl]
  have e := q_grown (h := h) A _ f k (by omega)
  simp only [Sn.enc, Wd.s] at e
  simp [F_concluded, k_concluded, mkEnv, wSecond, e, Sn.enc, Wd.s]
theorem q_c_void (A : HasK ft) (a : T) (s : Sn) (k : Nat) (hk : 1 ≤ k) : run ft k i_concluded [.tup [.str wVoid, a, s.enc], .lst [Sn.non.enc]] h = .ok (.val (.tup [s.enc, .str []])) h := by
  obtain ⟨k, rfl⟩ : ∃ j, k = j + 1 := ⟨k - 1, by omega⟩
  rw [run_pure A.k3 (by decide) rfl]
  have e : fEq h (.tup [.str [110, 111, 110, 101]]) (.tup [.str [110, 111, 110, 101]]) = some (.bl true) := eq_enc (h := h) (s := .non) (t := .non) (by decide) (by decide)
  simp [F_concluded, k_concluded, mkEnv, wVoid, Sn.enc, c_NONE, sNone, e]
theorem q_c_app (A : HasK ft) (a b : T) (s t : Sn) (hs : s.deep ≤ 100) (k : Nat) (hk : 2 ≤ k) : run ft k i_concluded [.tup [.str wApp, a, b], .lst [(Sn.bin .iff s t).enc, s.enc]] h = .ok (.val (.tup [t.enc, .str []])) h := by
  obtain ⟨k, rfl⟩ : ∃ j, k = j + 1 := ⟨k - 1, by omega⟩
  rw [run_pure A.k3 (by decide) rfl]
  have e := ne_enc (h := h) (s := s) (t := s) hs hs
  have m := q_is_made_by (h := h) A .iff s.enc t.enc .iff k (by omega)
  simp only [Wd.s] at m
  simp [F_concluded, k_concluded, mkEnv, wApp, Sn.enc, Wd.s, m, e]
theorem q_c_left (A : HasK ft) (a : T) (s t : Sn) (k : Nat) (hk : 2 ≤ k) : run ft k i_concluded [.tup [.str wLeft, a], .lst [(Sn.bin .and s t).enc]] h = .ok (.val (.tup [s.enc, .str []])) h := by
  obtain ⟨k, rfl⟩ : ∃ j, k = j + 1 := ⟨k - 1, by omega⟩
  rw [run_pure A.k3 (by decide) rfl]
  have m := q_is_made_by (h := h) A .and s.enc t.enc .and k (by omega)
  simp only [Wd.s] at m
  simp [F_concluded, k_concluded, mkEnv, wLeft, Sn.enc, Wd.s, m]
theorem q_c_right (A : HasK ft) (a : T) (s t : Sn) (k : Nat) (hk : 2 ≤ k) : run ft k i_concluded [.tup [.str wRight, a], .lst [(Sn.bin .and s t).enc]] h = .ok (.val (.tup [t.enc, .str []])) h := by
  obtain ⟨k, rfl⟩ : ∃ j, k = j + 1 := ⟨k - 1, by omega⟩
  rw [run_pure A.k3 (by decide) rfl]
  have m := q_is_made_by (h := h) A .and s.enc t.enc .and k (by omega)
  simp only [Wd.s] at m
  simp [F_concluded, k_concluded, mkEnv, wRight, Sn.enc, Wd.s, m]
@[simp] theorem app0 (a : T) : fAppend h (.lst []) a = some (.lst [a]) := app_lst (a := []) (by decide)
@[simp] theorem app1 (a b : T) : fAppend h (.lst [a]) b = some (.lst [a, b]) := app_lst (a := [a]) (show 1 < LIM by decide)
@[simp] theorem app2 (a b d : T) : fAppend h (.lst [a, b]) d = some (.lst [a, b, d]) := app_lst (a := [a, b]) (show 2 < LIM by decide)
/-- the kernel tells the sentence that the term bears -/
def lookR (c : Cn) : Rho := fun l => lookC c l
theorem look_up (c : Cn) (l : S) (s : Sn) : lookR (withC c l s) = (lookR c).up l s := funext fun x => look_with c l s x
theorem ht_pos (t : Tm) : 1 ≤ t.ht := by cases t <;> exact Nat.le_add_left 1 _
theorem q_told (A : HasK ft) {ρ : Rho} {t : Tm} {s : Sn} (ty : Ty' ρ t s) : ∀ (c : Cn) (k : Nat), lookR c = ρ → ρ.small → c.length + t.ht < 100000 → 2 * t.ht + 30 ≤ k → run ft k i_told_of [encC c, t.enc] h = .ok (.val (.tup [s.enc, .non])) h := by
  induction ty with
  | @var ρ l s e =>
    intro c k hc hr hl hk
    subst hc
    obtain ⟨k, rfl⟩ : ∃ j, k = j + 1 := ⟨k - 1, by omega⟩
    rw [run_pure A.k5 (by decide) rfl]
    have q := q_sentence_of (h := h) A.s c l k (by omega)
    have e' : lookC c l = some s := e
    rw [e'] at q
    simp [F_told_of, k_told_of, mkEnv, Tm.enc, wVar, q, encO, isNon_enc]
  | @pair ρ a b s t ha hb f ia ib =>
    intro c k hc hr hl hk
    have hh : (Tm.pair a b).ht = max a.ht b.ht + 1 := rfl
    obtain ⟨k, rfl⟩ : ∃ j, k = j + 1 := ⟨k - 1, by omega⟩
    rw [run_pure A.k5 (by decide) rfl]
    have qa := ia c k hc hr (by omega) (by omega)
    have qb := ib c k hc hr (by omega) (by omega)
    have qc := q_c_pair (h := h) A a.enc b.enc f k (by omega)
    simp only [wPair] at qc
    simp [F_told_of, k_told_of, mkEnv, Tm.enc, wPair, qa, qb, qc, isNon_enc]
  | @left ρ a s t ha ia =>
    intro c k hc hr hl hk
    have hh : (Tm.left a).ht = a.ht + 1 := rfl
    obtain ⟨k, rfl⟩ : ∃ j, k = j + 1 := ⟨k - 1, by omega⟩
    rw [run_pure A.k5 (by decide) rfl]
    have qa := ia c k hc hr (by omega) (by omega)
    have qc := q_c_left (h := h) A a.enc s t k (by omega)
    simp only [wLeft] at qc
    simp [F_told_of, k_told_of, mkEnv, Tm.enc, wLeft, qa, qc, isNon_enc]
  | @right ρ a s t ha ia =>
    intro c k hc hr hl hk
    have hh : (Tm.right a).ht = a.ht + 1 := rfl
    obtain ⟨k, rfl⟩ : ∃ j, k = j + 1 := ⟨k - 1, by omega⟩
    rw [run_pure A.k5 (by decide) rfl]
    have qa := ia c k hc hr (by omega) (by omega)
    have qc := q_c_right (h := h) A a.enc s t k (by omega)
    simp only [wRight] at qc
    simp [F_told_of, k_told_of, mkEnv, Tm.enc, wRight, qa, qc, isNon_enc]
  | @lam ρ l s t b hb f ib =>
    intro c k hc hr hl hk
    have hh : (Tm.lam l s b).ht = b.ht + 1 := rfl
    obtain ⟨k, rfl⟩ : ∃ j, k = j + 1 := ⟨k - 1, by omega⟩
    rw [run_pure A.k5 (by decide) rfl]
    have hs : s.deep ≤ 60 := by
      have := (bin_deep (fits_deep f)).1
      omega
    have wl := with_len c l s
    have qw := q_with_label (h := h) A.s c l s k (by omega) (by omega)
    have qb := ib (withC c l s) k (by rw [look_up, hc]) (up_small hr hs) (by omega) (by omega)
    have qc := q_c_fun (h := h) A (.str l) b.enc f k (by omega)
    simp only [wFun] at qc
    simp [F_told_of, k_told_of, mkEnv, Tm.enc, wFun, qw, qb, qc, isNon_enc]
  | @app ρ a b s t ha hb ia ib =>
    intro c k hc hr hl hk
    have hh : (Tm.app a b).ht = max a.ht b.ht + 1 := rfl
    obtain ⟨k, rfl⟩ : ∃ j, k = j + 1 := ⟨k - 1, by omega⟩
    rw [run_pure A.k5 (by decide) rfl]
    have qa := ia c k hc hr (by omega) (by omega)
    have qb := ib c k hc hr (by omega) (by omega)
    have qc := q_c_app (h := h) A a.enc b.enc s t (by have := hb.small hr; omega) k (by omega)
    simp only [wApp] at qc
    simp [F_told_of, k_told_of, mkEnv, Tm.enc, wApp, qa, qb, qc, isNon_enc]
  | @first ρ a s t ha f ia =>
    intro c k hc hr hl hk
    have hh : (Tm.first a t).ht = a.ht + 1 := rfl
    obtain ⟨k, rfl⟩ : ∃ j, k = j + 1 := ⟨k - 1, by omega⟩
    rw [run_pure A.k5 (by decide) rfl]
    have qa := ia c k hc hr (by omega) (by omega)
    have qc := q_c_first (h := h) A a.enc f k (by omega)
    simp only [wFirst] at qc
    simp [F_told_of, k_told_of, mkEnv, Tm.enc, wFirst, qa, qc, isNon_enc]
  | @second ρ a s t ha f ia =>
    intro c k hc hr hl hk
    have hh : (Tm.second s a).ht = a.ht + 1 := rfl
    obtain ⟨k, rfl⟩ : ∃ j, k = j + 1 := ⟨k - 1, by omega⟩
    rw [run_pure A.k5 (by decide) rfl]
    have qa := ia c k hc hr (by omega) (by omega)
    have qc := q_c_second (h := h) A a.enc f k (by omega)
    simp only [wSecond] at qc
    simp [F_told_of, k_told_of, mkEnv, Tm.enc, wSecond, qa, qc, isNon_enc]
  | @void ρ a s ha f ia =>
    intro c k hc hr hl hk
    have hh : (Tm.void a s).ht = a.ht + 1 := rfl
    obtain ⟨k, rfl⟩ : ∃ j, k = j + 1 := ⟨k - 1, by omega⟩
    rw [run_pure A.k5 (by decide) rfl]
    have qa := ia c k hc hr (by omega) (by omega)
    have qc := q_c_void (h := h) A a.enc s k (by omega)
    simp only [wVoid] at qc
    simp [F_told_of, k_told_of, mkEnv, Tm.enc, wVoid, qa, qc, isNon_enc]
  | @cases ρ a b d l m s t u ha hb hd ia ib id =>
    intro c k hc hr hl hk
    have hh : (Tm.cases a l b m d).ht = max a.ht (max b.ht d.ht) + 1 := rfl
    have := ht_pos a
    obtain ⟨k, rfl⟩ : ∃ j, k = j + 1 + 1 := ⟨k - 2, by omega⟩
    have wl := with_len c l s
    have wm := with_len c m t
    have hs := bin_deep (ha.small hr)
    have qa := ia c k hc hr (by omega) (by omega)
    have qw := q_with_label (h := h) A.s c l s k (by omega) (by omega)
    have qv := q_with_label (h := h) A.s c m t k (by omega) (by omega)
    have qb := ib (withC c l s) k (by rw [look_up, hc]) (up_small hr hs.1) (by omega) (by omega)
    have qd := id (withC c m t) k (by rw [look_up, hc]) (up_small hr hs.2) (by omega) (by omega)
    have hu : u.deep ≤ 60 := hb.small (up_small hr hs.1)
    have qn := ne_enc (h := h) (s := u) (t := u) (by omega) (by omega)
    have qm := q_is_made_by (h := h) A .or s.enc t.enc .or k (by omega)
    have qt : run ft (k + 1) i_told_of_cases [encC c, .tup [.str wCases, a.enc, .str l, b.enc, .str m, d.enc]] h = .ok (.val (.tup [u.enc, .non])) h := by
      rw [run_pure A.k4 (by decide) rfl]
      simp only [Sn.enc, Wd.s] at qa qm
      simp [F_told_of_cases, k_told_of_cases, mkEnv, qa, qw, qv, qb, qd, qm, qn, Wd.s]
    rw [run_pure A.k5 (by decide) rfl]
    simp only [wCases] at qt
    simp [F_told_of, k_told_of, mkEnv, Tm.enc, wCases, qt]
theorem q_bears (A : HasK ft) {t : Tm} {s : Sn} (c : Cn) (ty : Ty' (lookR c) t s) (hr : (lookR c).small) (hl : c.length + t.ht < 100000) (k : Nat) (hk : 2 * t.ht + 31 ≤ k) : run ft k i_bears [encC c, t.enc] h = .ok (.val s.enc) h := by
  obtain ⟨k, rfl⟩ : ∃ j, k = j + 1 := ⟨k - 1, by omega⟩
  rw [run_pure A.k6 (by decide) rfl]
  have e := q_told (h := h) A ty c k rfl hr hl (by omega)
  simp [F_bears, k_bears, mkEnv, e]
end GtS
end
section
set_option Elab.async false
set_option linter.all false
namespace GtS
open Gt
variable {ft : Nat → Option Fn} {h : Hs} {k : Nat}
def Sn.good (s : Sn) : Bool := s.ok && s.fits
theorem good_ok {s : Sn} (g : s.good = true) : s.ok = true ∧ s.deep ≤ 20 ∧ s.knots ≤ 60 := by
  simpa [Sn.good, Sn.fits, Bool.and_eq_true, decide_eq_true_eq] using g
def Tm.wf : Tm → Bool
  | .var l => nameOk l
  | .pair a b => a.wf && b.wf
  | .left a => a.wf
  | .right a => a.wf
  | .lam l s b => nameOk l && s.good && b.wf
  | .app a b => a.wf && b.wf
  | .first a s => a.wf && s.good
  | .second s a => s.good && a.wf
  | .cases a l b m d => a.wf && nameOk l && b.wf && nameOk m && d.wf
  | .void a s => a.wf && s.good
def Tm.kn : Tm → Nat
  | .var _ => 1
  | .pair a b => 1 + a.kn + b.kn
  | .left a => 1 + a.kn
  | .right a => 1 + a.kn
  | .lam _ _ b => 1 + b.kn
  | .app a b => 1 + a.kn + b.kn
  | .first a _ => 1 + a.kn
  | .second _ a => 1 + a.kn
  | .cases a _ b _ d => 1 + a.kn + b.kn + d.kn
  | .void a _ => 1 + a.kn
theorem Tm.kn_pos (t : Tm) : 1 ≤ t.kn := by cases t <;> simp [Tm.kn] <;> omega
theorem Tm.ht_kn (t : Tm) : t.ht ≤ t.kn := by
  induction t with
  | var _ => exact Nat.le_refl _
  | pair a b ia ib => simp only [Tm.ht, Tm.kn]; omega
  | left a ia => simp only [Tm.ht, Tm.kn]; omega
  | right a ia => simp only [Tm.ht, Tm.kn]; omega
  | lam l s b ib => simp only [Tm.ht, Tm.kn]; omega
  | app a b ia ib => simp only [Tm.ht, Tm.kn]; omega
  | first a s ia => simp only [Tm.ht, Tm.kn]; omega
  | second s a ia => simp only [Tm.ht, Tm.kn]; omega
  | cases a l b m d ia ib id => simp only [Tm.ht, Tm.kn]; omega
  | void a s ia => simp only [Tm.ht, Tm.kn]; omega
structure HasT (ft : Nat → Option Fn) : Prop where
  s : HasK ft
  t1 : ft i_has_labels_and_sentences = some F_has_labels_and_sentences
  t2 : ft i_term_knots_within = some F_term_knots_within
  t3 : ft i_is_term_value = some F_is_term_value
  t4 : ft i_bound_labels = some F_bound_labels
  t5 : ft i_add_free = some F_add_free
  t6 : ft i_free_in = some F_free_in
theorem q_good (A : HasS ft) {s : Sn} (g : s.good = true) (k : Nat) (hk : 22 ≤ k) : run ft k i_is_sentence_value [s.enc] h = .ok (.val (.bl true)) h := by
  have := good_ok g
  exact q_is_sent A s this.1 this.2.1 this.2.2 k (by omega)
theorem q_nm (A : HasS ft) {l : S} (g : nameOk l = true) (k : Nat) (hk : 1 ≤ k) : run ft k i_is_name [.str l] h = .ok (.val (.bl true)) h := by
  obtain ⟨k, rfl⟩ : ∃ j, k = j + 1 := ⟨k - 1, by omega⟩
  have : run ft (k + 1) i_is_name [.str l] h = .ok (.val (.bl (nameOk l))) h := q_is_name (k := k) (h := h) A.h1 (.str l) rfl (fun x e => by cases e; exact le_LIM (Nat.le_trans (nameOk_len g) (by decide)))
  rw [this, g]
theorem q_labels (A : HasT ft) (t : Tm) (w : t.wf = true) (k : Nat) (hk : 23 ≤ k) : run ft k i_has_labels_and_sentences [t.enc] h = .ok (.val (.bl true)) h := by
  obtain ⟨k, rfl⟩ : ∃ j, k = j + 1 := ⟨k - 1, by omega⟩
  rw [run_pure A.t1 (by decide) rfl]
  cases t with
  | var l =>
    have q := q_nm (h := h) A.s.s (l := l) w k (by omega)
    simp [F_has_labels_and_sentences, k_has_labels_and_sentences, mkEnv, Tm.enc, wVar, q]
  | lam l s b =>
    have w' : (nameOk l = true ∧ s.good = true) ∧ b.wf = true := by simpa [Tm.wf] using w
    have q := q_nm (h := h) A.s.s w'.1.1 k (by omega)
    have q2 := q_good (h := h) A.s.s w'.1.2 k (by omega)
    simp [F_has_labels_and_sentences, k_has_labels_and_sentences, mkEnv, Tm.enc, wFun, q, q2]
  | cases a l b m d =>
    have w' : (((a.wf = true ∧ nameOk l = true) ∧ b.wf = true) ∧ nameOk m = true) ∧ d.wf = true := by simpa [Tm.wf] using w
    have q := q_nm (h := h) A.s.s w'.1.1.1.2 k (by omega)
    have q2 := q_nm (h := h) A.s.s w'.1.2 k (by omega)
    simp [F_has_labels_and_sentences, k_has_labels_and_sentences, mkEnv, Tm.enc, wCases, q, q2]
  | first a s =>
    have w' : a.wf = true ∧ s.good = true := by simpa [Tm.wf] using w
    have q2 := q_good (h := h) A.s.s w'.2 k (by omega)
    simp [F_has_labels_and_sentences, k_has_labels_and_sentences, mkEnv, Tm.enc, wFirst, q2]
  | second s a =>
    have w' : s.good = true ∧ a.wf = true := by simpa [Tm.wf] using w
    have q2 := q_good (h := h) A.s.s w'.1 k (by omega)
    simp [F_has_labels_and_sentences, k_has_labels_and_sentences, mkEnv, Tm.enc, wSecond, q2]
  | void a s =>
    have w' : a.wf = true ∧ s.good = true := by simpa [Tm.wf] using w
    have q2 := q_good (h := h) A.s.s w'.2 k (by omega)
    simp [F_has_labels_and_sentences, k_has_labels_and_sentences, mkEnv, Tm.enc, wVoid, q2]
  | pair a b => simp [F_has_labels_and_sentences, k_has_labels_and_sentences, mkEnv, Tm.enc, wPair]
  | app a b => simp [F_has_labels_and_sentences, k_has_labels_and_sentences, mkEnv, Tm.enc, wApp]
  | left a => simp [F_has_labels_and_sentences, k_has_labels_and_sentences, mkEnv, Tm.enc, wLeft]
  | right a => simp [F_has_labels_and_sentences, k_has_labels_and_sentences, mkEnv, Tm.enc, wRight]
theorem isi_tup (l : List T) : fIsi [.tuple] h (.tup l) = some (.bl true) := rfl
theorem q_tknots (A : HasT ft) : ∀ (t : Tm) (room k : Nat), t.wf = true → t.ht ≤ room → t.ht + 24 ≤ k → run ft k i_term_knots_within [t.enc, .int room, .bl false] h = .ok (.val (.int t.kn)) h
  | t, 0, _, _, hd, _ => by have := ht_pos t; omega
  | t, room + 1, 0, _, _, hk => by omega
  | t, room + 1, k + 1, w, hd, hk => by
    have hl := q_labels (h := h) A t w k (by have := ht_pos t; omega)
    rw [run_pure A.t2 (by decide) rfl]
    have r0 : decide (((room : Int) + 1) = 0) = false := decide_eq_false (by omega)
    have sub1 : ((room : Int) + 1) - 1 = (room : Int) := by omega
    cases t with
    | var l =>
      simp only [Tm.enc, wVar] at hl
      simp [F_term_knots_within, k_term_knots_within, mkEnv, Tm.enc, Tm.kn, wVar, r0, isi_tup, isi_str, hl]
    | pair a b =>
      have w' : a.wf = true ∧ b.wf = true := by simpa [Tm.wf] using w
      have hd' : max a.ht b.ht + 1 ≤ room + 1 := hd
      have hk' : max a.ht b.ht + 1 + 24 ≤ k + 1 := hk
      have ka := q_tknots A a room k w'.1 (by omega) (by omega)
      have kb := q_tknots A b room k w'.2 (by omega) (by omega)
      have a0 : decide (a.kn = 0) = false := decide_eq_false (by have := a.kn_pos; omega)
      have b0 : decide (b.kn = 0) = false := decide_eq_false (by have := b.kn_pos; omega)
      simp only [Tm.enc, wPair] at hl
      simp [F_term_knots_within, k_term_knots_within, mkEnv, Tm.enc, Tm.kn, wPair, r0, isi_tup, isi_str, hl, sub1, ka, kb, a0, b0]
    | left a =>
      have w' : a.wf = true := w
      have hd' : a.ht + 1 ≤ room + 1 := hd
      have hk' : a.ht + 1 + 24 ≤ k + 1 := hk
      have ka := q_tknots A a room k w' (by omega) (by omega)
      have a0 : decide (a.kn = 0) = false := decide_eq_false (by have := a.kn_pos; omega)
      simp only [Tm.enc, wLeft] at hl
      simp [F_term_knots_within, k_term_knots_within, mkEnv, Tm.enc, Tm.kn, wLeft, r0, isi_tup, isi_str, hl, sub1, ka, a0]
    | right a =>
      have w' : a.wf = true := w
      have hd' : a.ht + 1 ≤ room + 1 := hd
      have hk' : a.ht + 1 + 24 ≤ k + 1 := hk
      have ka := q_tknots A a room k w' (by omega) (by omega)
      have a0 : decide (a.kn = 0) = false := decide_eq_false (by have := a.kn_pos; omega)
      simp only [Tm.enc, wRight] at hl
      simp [F_term_knots_within, k_term_knots_within, mkEnv, Tm.enc, Tm.kn, wRight, r0, isi_tup, isi_str, hl, sub1, ka, a0]
    | lam l s b =>
      have w' : (nameOk l = true ∧ s.good = true) ∧ b.wf = true := by simpa [Tm.wf] using w
      have hd' : b.ht + 1 ≤ room + 1 := hd
      have hk' : b.ht + 1 + 24 ≤ k + 1 := hk
      have kb := q_tknots A b room k w'.2 (by omega) (by omega)
      have b0 : decide (b.kn = 0) = false := decide_eq_false (by have := b.kn_pos; omega)
      simp only [Tm.enc, wFun] at hl
      simp [F_term_knots_within, k_term_knots_within, mkEnv, Tm.enc, Tm.kn, wFun, r0, isi_tup, isi_str, hl, sub1, kb, b0]
    | app a b =>
      have w' : a.wf = true ∧ b.wf = true := by simpa [Tm.wf] using w
      have hd' : max a.ht b.ht + 1 ≤ room + 1 := hd
      have hk' : max a.ht b.ht + 1 + 24 ≤ k + 1 := hk
      have ka := q_tknots A a room k w'.1 (by omega) (by omega)
      have a0 : decide (a.kn = 0) = false := decide_eq_false (by have := a.kn_pos; omega)
      have kb := q_tknots A b room k w'.2 (by omega) (by omega)
      have b0 : decide (b.kn = 0) = false := decide_eq_false (by have := b.kn_pos; omega)
      simp only [Tm.enc, wApp] at hl
      simp [F_term_knots_within, k_term_knots_within, mkEnv, Tm.enc, Tm.kn, wApp, r0, isi_tup, isi_str, hl, sub1, ka, a0, kb, b0]
    | first a s =>
      have w' : a.wf = true ∧ s.good = true := by simpa [Tm.wf] using w
      have hd' : a.ht + 1 ≤ room + 1 := hd
      have hk' : a.ht + 1 + 24 ≤ k + 1 := hk
      have ka := q_tknots A a room k w'.1 (by omega) (by omega)
      have a0 : decide (a.kn = 0) = false := decide_eq_false (by have := a.kn_pos; omega)
      simp only [Tm.enc, wFirst] at hl
      simp [F_term_knots_within, k_term_knots_within, mkEnv, Tm.enc, Tm.kn, wFirst, r0, isi_tup, isi_str, hl, sub1, ka, a0]
    | second s a =>
      have w' : s.good = true ∧ a.wf = true := by simpa [Tm.wf] using w
      have hd' : a.ht + 1 ≤ room + 1 := hd
      have hk' : a.ht + 1 + 24 ≤ k + 1 := hk
      have ka := q_tknots A a room k w'.2 (by omega) (by omega)
      have a0 : decide (a.kn = 0) = false := decide_eq_false (by have := a.kn_pos; omega)
      simp only [Tm.enc, wSecond] at hl
      simp [F_term_knots_within, k_term_knots_within, mkEnv, Tm.enc, Tm.kn, wSecond, r0, isi_tup, isi_str, hl, sub1, ka, a0]
    | void a s =>
      have w' : a.wf = true ∧ s.good = true := by simpa [Tm.wf] using w
      have hd' : a.ht + 1 ≤ room + 1 := hd
      have hk' : a.ht + 1 + 24 ≤ k + 1 := hk
      have ka := q_tknots A a room k w'.1 (by omega) (by omega)
      have a0 : decide (a.kn = 0) = false := decide_eq_false (by have := a.kn_pos; omega)
      simp only [Tm.enc, wVoid] at hl
      simp [F_term_knots_within, k_term_knots_within, mkEnv, Tm.enc, Tm.kn, wVoid, r0, isi_tup, isi_str, hl, sub1, ka, a0]
    | cases a l b m d =>
      have w' : (((a.wf = true ∧ nameOk l = true) ∧ b.wf = true) ∧ nameOk m = true) ∧ d.wf = true := by simpa [Tm.wf] using w
      have hd' : max a.ht (max b.ht d.ht) + 1 ≤ room + 1 := hd
      have hk' : max a.ht (max b.ht d.ht) + 1 + 24 ≤ k + 1 := hk
      have ka := q_tknots A a room k w'.1.1.1.1 (by omega) (by omega)
      have a0 : decide (a.kn = 0) = false := decide_eq_false (by have := a.kn_pos; omega)
      have kb := q_tknots A b room k w'.1.1.2 (by omega) (by omega)
      have b0 : decide (b.kn = 0) = false := decide_eq_false (by have := b.kn_pos; omega)
      have kd := q_tknots A d room k w'.2 (by omega) (by omega)
      have d0 : decide (d.kn = 0) = false := decide_eq_false (by have := d.kn_pos; omega)
      simp only [Tm.enc, wCases] at hl
      simp [F_term_knots_within, k_term_knots_within, mkEnv, Tm.enc, Tm.kn, wCases, r0, isi_tup, isi_str, hl, sub1, ka, a0, kb, b0, kd, d0]
theorem q_is_term (A : HasT ft) (t : Tm) (w : t.wf = true) (hd : t.kn ≤ 100) (k : Nat) (hk : t.ht + 25 ≤ k) : run ft k i_is_term_value [t.enc] h = .ok (.val (.bl true)) h := by
  obtain ⟨k, rfl⟩ : ∃ j, k = j + 1 := ⟨k - 1, by omega⟩
  rw [run_pure A.t3 (by decide) rfl]
  have e : run ft k i_term_knots_within [t.enc, .int 150, .bl false] h = .ok (.val (.int t.kn)) h := q_tknots A t 150 k w (by have := t.ht_kn; omega) (by omega)
  have b1 : decide ((1 : Int) ≤ (t.kn : Int)) = true := decide_eq_true (by have := t.kn_pos; omega)
  have b2 : decide ((t.kn : Int) ≤ 20000) = true := decide_eq_true (by omega)
  simp [F_is_term_value, k_is_term_value, mkEnv, c_MOST_DEEP_terms, c_MOST_KNOTS_terms, e, b1, b2]
end GtS
end
section
set_option Elab.async false
set_option linter.all false
namespace GtS
open Gt
variable {ft : Nat → Option Fn} {h : Hs} {k : Nat}
def addS (K : List S) (x : S) : List S := if x ∈ K then K else K ++ [x]
def dK (K : List S) : Cell := .dic (K.map fun x => (.s x, .bl true))
theorem lookK_map (x : S) : ∀ K : List S, lookK (K.map fun x => (Ky.s x, T.bl true)) (.s x) = if x ∈ K then some (.bl true) else none
  | [] => rfl
  | y :: r => by
    simp only [List.map_cons, lookK]
    by_cases z : y = x
    · subst z; simp
    · have z' : x ≠ y := fun q => z q.symm
      simp [z, z', lookK_map x r]
theorem putK_map (x : S) (K : List S) : putK (K.map fun x => (Ky.s x, T.bl true)) (.s x) (.bl true) = (addS K x).map fun x => (.s x, .bl true) := by
  unfold putK addS
  rw [lookK_map]
  by_cases z : x ∈ K
  · rw [if_pos z, if_pos z]
    dsimp only
    rw [List.map_map]
    refine List.map_congr_left fun y m => ?_
    by_cases q : y = x <;> simp [q]
  · rw [if_neg z, if_neg z]
    simp
theorem isIn_str (x : S) : ∀ B : List S, isIn (.str x) (B.map .str) = some (decide (x ∈ B))
  | [] => rfl
  | y :: r => by
    have e : eqV (.str y) (.str x) = some (decide (y = x)) := rfl
    simp only [List.map_cons, isIn, e, isIn_str x r]
    by_cases z : y = x
    · subst z; simp
    · have z' : x ≠ y := fun q => z q.symm
      simp [z, z']
theorem notIn_str (x : S) (B : List S) : fNotIn h (.str x) (.tup (B.map .str)) = some (.bl (!decide (x ∈ B))) := by
  show (isIn (.str x) (B.map .str)).map _ = _
  rw [isIn_str]; rfl
theorem in_str (x : S) (B : List S) : fIn h (.str x) (.tup (B.map .str)) = some (.bl (decide (x ∈ B))) := by
  show (isIn (.str x) (B.map .str)).map _ = _
  rw [isIn_str]; rfl
theorem in_strL (x : S) (B : List S) : fIn h (.str x) (.lst (B.map .str)) = some (.bl (decide (x ∈ B))) := by
  show (isIn (.str x) (B.map .str)).map _ = _
  rw [isIn_str]; rfl
def addF : Tm → List S → List S → List S
  | .var l, B, K => if l ∈ B then K else addS K l
  | .pair a b, B, K => addF b B (addF a B K)
  | .left a, B, K => addF a B K
  | .right a, B, K => addF a B K
  | .lam l _ b, B, K => addF b (B ++ [l]) K
  | .app a b, B, K => addF b B (addF a B K)
  | .first a _, B, K => addF a B K
  | .second _ a, B, K => addF a B K
  | .cases a l b m d, B, K => addF d (B ++ [m]) (addF b (B ++ [l]) (addF a B K))
  | .void a _, B, K => addF a B K
def Tm.fr : Tm → List S
  | .var l => [l]
  | .pair a b => a.fr ++ b.fr
  | .left a => a.fr
  | .right a => a.fr
  | .lam l _ b => b.fr.filter fun x => !decide (x = l)
  | .app a b => a.fr ++ b.fr
  | .first a _ => a.fr
  | .second _ a => a.fr
  | .cases a l b m d => a.fr ++ (b.fr.filter fun x => !decide (x = l)) ++ d.fr.filter fun x => !decide (x = m)
  | .void a _ => a.fr
theorem mem_addS (K : List S) (x y : S) : y ∈ addS K x ↔ y ∈ K ∨ y = x := by
  unfold addS
  by_cases z : x ∈ K
  · rw [if_pos z]
    constructor
    · exact Or.inl
    · rintro (q | rfl)
      · exact q
      · exact z
  · rw [if_neg z]; simp
theorem mem_addF (t : Tm) : ∀ (B K : List S) (y : S), y ∈ addF t B K ↔ y ∈ K ∨ (y ∈ t.fr ∧ y ∉ B) := by
  induction t with
  | var l =>
    intro B K y
    unfold addF Tm.fr
    by_cases z : l ∈ B
    · rw [if_pos z]
      simp only [List.mem_singleton]
      constructor
      · exact Or.inl
      · rintro (q | ⟨rfl, q⟩)
        · exact q
        · exact absurd z q
    · rw [if_neg z, mem_addS]
      simp only [List.mem_singleton]
      constructor
      · rintro (q | rfl)
        · exact .inl q
        · exact .inr ⟨rfl, z⟩
      · rintro (q | ⟨rfl, q⟩)
        · exact .inl q
        · exact .inr rfl
  | pair a b ia ib => intro B K y; simp only [addF, Tm.fr, ib, ia, List.mem_append]; grind
  | left a ia => intro B K y; exact ia B K y
  | right a ia => intro B K y; exact ia B K y
  | lam l s b ib => intro B K y; simp only [addF, Tm.fr, ib, List.mem_append, List.mem_filter, List.mem_singleton, Bool.not_eq_true', decide_eq_false_iff_not]; grind
  | app a b ia ib => intro B K y; simp only [addF, Tm.fr, ib, ia, List.mem_append]; grind
  | first a s ia => intro B K y; exact ia B K y
  | second s a ia => intro B K y; exact ia B K y
  | cases a l b m d ia ib id => intro B K y; simp only [addF, Tm.fr, ib, ia, id, List.mem_append, List.mem_filter, List.mem_singleton, Bool.not_eq_true', decide_eq_false_iff_not]; grind
  | void a s ia => intro B K y; exact ia B K y
theorem addS_len (K : List S) (x : S) : (addS K x).length ≤ K.length + 1 := by
  unfold addS
  by_cases z : x ∈ K
  · rw [if_pos z]; omega
  · rw [if_neg z]; simp
theorem addF_len (t : Tm) : ∀ (B K : List S), (addF t B K).length ≤ K.length + t.kn := by
  induction t with
  | var l =>
    intro B K
    unfold addF Tm.kn
    by_cases z : l ∈ B
    · rw [if_pos z]; omega
    · rw [if_neg z]; exact addS_len K l
  | pair a b ia ib => intro B K; have := ia B K; have := ib B (addF a B K); simp only [addF, Tm.kn]; omega
  | left a ia => intro B K; have := ia B K; simp only [addF, Tm.kn]; omega
  | right a ia => intro B K; have := ia B K; simp only [addF, Tm.kn]; omega
  | lam l s b ib => intro B K; have := ib (B ++ [l]) K; simp only [addF, Tm.kn]; omega
  | app a b ia ib => intro B K; have := ia B K; have := ib B (addF a B K); simp only [addF, Tm.kn]; omega
  | first a s ia => intro B K; have := ia B K; simp only [addF, Tm.kn]; omega
  | second s a ia => intro B K; have := ia B K; simp only [addF, Tm.kn]; omega
  | cases a l b m d ia ib id => intro B K; have := ia B K; have := ib (B ++ [l]) (addF a B K); have := id (B ++ [m]) (addF b (B ++ [l]) (addF a B K)); simp only [addF, Tm.kn]; omega
  | void a s ia => intro B K; have := ia B K; simp only [addF, Tm.kn]; omega
end GtS
end
section
set_option Elab.async false
set_option linter.all false
namespace GtS
open Gt
variable {ft : Nat → Option Fn} {h : Hs} {k : Nat}
def Tm.bnd : Tm → List T
  | .var _ => []
  | .pair _ _ => [.non, .non]
  | .left _ => [.non]
  | .right _ => [.non]
  | .lam l _ _ => [.str l]
  | .app _ _ => [.non, .non]
  | .first _ _ => [.non]
  | .second _ _ => [.non]
  | .cases _ l _ m _ => [.non, .str l, .str m]
  | .void _ _ => [.non]
theorem q_bound (A : HasT ft) (t : Tm) (k : Nat) (hk : 1 ≤ k) (h : Hs) : run ft k i_bound_labels [t.enc] h = .ok (.val (.tup t.bnd)) h := by
  obtain ⟨k, rfl⟩ : ∃ j, k = j + 1 := ⟨k - 1, by omega⟩
  rw [run_pure A.t4 (by decide) rfl]
  cases t with
  | var l => simp [F_bound_labels, k_bound_labels, mkEnv, Tm.enc, Tm.bnd, wVar]
  | pair a b => simp [F_bound_labels, k_bound_labels, mkEnv, Tm.enc, Tm.bnd, wPair]
  | left a => simp [F_bound_labels, k_bound_labels, mkEnv, Tm.enc, Tm.bnd, wLeft]
  | right a => simp [F_bound_labels, k_bound_labels, mkEnv, Tm.enc, Tm.bnd, wRight]
  | lam l s b => simp [F_bound_labels, k_bound_labels, mkEnv, Tm.enc, Tm.bnd, wFun]
  | app a b => simp [F_bound_labels, k_bound_labels, mkEnv, Tm.enc, Tm.bnd, wApp]
  | first a s => simp [F_bound_labels, k_bound_labels, mkEnv, Tm.enc, Tm.bnd, wFirst]
  | second s a => simp [F_bound_labels, k_bound_labels, mkEnv, Tm.enc, Tm.bnd, wSecond]
  | cases a l b m d => simp [F_bound_labels, k_bound_labels, mkEnv, Tm.enc, Tm.bnd, wCases]
  | void a s => simp [F_bound_labels, k_bound_labels, mkEnv, Tm.enc, Tm.bnd, wVoid]
theorem setget {n : Nat} {x y : Cell} (e : h[n]? = some x) : (h.set n y)[n]? = some y := by
  have : n < h.length := by
    rcases Nat.lt_or_ge n h.length with q | q
    · exact q
    · rw [List.getElem?_eq_none q] at e; cases e
  simp [this]
theorem setself {n : Nat} {x : Cell} (e : h[n]? = some x) : h.set n x = h := by
  apply List.ext_getElem?
  intro i
  by_cases z : n = i
  · subst z; rw [setget e, e]
  · rw [List.getElem?_set_ne z]
theorem q_addf (A : HasT ft) : ∀ (t : Tm) (k n : Nat) (B K : List S) (h : Hs), h[n]? = some (dK K) → 2 * t.ht + 2 ≤ k → B.length + t.ht ≤ 1000 → K.length + t.kn ≤ 1000 → run ft k i_add_free [t.enc, .tup (B.map .str), .ref n] h = .ok (.val .non) (h.set n (dK (addF t B K)))
  | t, 0, _, _, _, _, _, hk, _, _ => by omega
  | t, k + 1, n, B, K, h, hc, hk, hB, hK => by
    have qb := q_bound A t k (by have := ht_pos t; omega)
    rw [run_pure A.t5 (by decide) rfl]
    have cat : ∀ (l : S) (h : Hs), B.length < 1000 → fAdd h (.tup (B.map .str)) (.tup [.str l]) = some (.val (.tup ((B ++ [l]).map .str))) := fun l h hl => by
      rw [cat_tup (by simp; exact le_LIM (by omega))]
      simp
    cases t with
    | var l =>
      by_cases z : l ∈ B
      · have e : addF (.var l) B K = K := if_pos z
        rw [e, setself hc]
        simp [F_add_free, k_add_free, mkEnv, Tm.enc, wVar, notIn_str, z]
      · have e : addF (.var l) B K = addS K l := if_neg z
        have hK' : K.length < LIM := Nat.lt_of_lt_of_le (by omega : K.length < 1001) (by decide)
        rw [e]
        simp [F_add_free, k_add_free, mkEnv, Tm.enc, wVar, notIn_str, z, hc, dK, wHp4, keyOf, putK_map, hK']
    | pair a b =>
      have hk' : 2 * (max a.ht b.ht + 1) + 2 ≤ k + 1 := hk
      have hB' : B.length + (max a.ht b.ht + 1) ≤ 1000 := hB
      have hK' : K.length + (1 + a.kn + b.kn) ≤ 1000 := by have q := hK; simp only [Tm.kn] at q; omega
      have k0 := q_addf A a k n B K h hc (by omega) (by omega) (by omega)
      have k1 := q_addf A b k n B (addF a B K) (h.set n (dK (addF a B K))) (setget hc) (by omega) (by omega) (by have := addF_len a B K; omega)
      simp only [Tm.enc, Tm.bnd, wPair] at qb
      simp [F_add_free, k_add_free, mkEnv, Tm.enc, wPair, qb, addF, List.set_set, k0, k1]
    | left a =>
      have hk' : 2 * (a.ht + 1) + 2 ≤ k + 1 := hk
      have hB' : B.length + (a.ht + 1) ≤ 1000 := hB
      have hK' : K.length + (1 + a.kn) ≤ 1000 := by have q := hK; simp only [Tm.kn] at q; omega
      have k0 := q_addf A a k n B K h hc (by omega) (by omega) (by omega)
      simp only [Tm.enc, Tm.bnd, wLeft] at qb
      simp [F_add_free, k_add_free, mkEnv, Tm.enc, wLeft, qb, addF, List.set_set, k0]
    | right a =>
      have hk' : 2 * (a.ht + 1) + 2 ≤ k + 1 := hk
      have hB' : B.length + (a.ht + 1) ≤ 1000 := hB
      have hK' : K.length + (1 + a.kn) ≤ 1000 := by have q := hK; simp only [Tm.kn] at q; omega
      have k0 := q_addf A a k n B K h hc (by omega) (by omega) (by omega)
      simp only [Tm.enc, Tm.bnd, wRight] at qb
      simp [F_add_free, k_add_free, mkEnv, Tm.enc, wRight, qb, addF, List.set_set, k0]
    | lam l s b =>
      have hk' : 2 * (b.ht + 1) + 2 ≤ k + 1 := hk
      have hB' : B.length + (b.ht + 1) ≤ 1000 := hB
      have hK' : K.length + (1 + b.kn) ≤ 1000 := by have q := hK; simp only [Tm.kn] at q; omega
      have k0 := q_addf A b k n (B ++ [l]) K h hc (by omega) (by simp only [List.length_append, List.length_cons, List.length_nil]; omega) (by omega)
      have c0 : ∀ h, fAdd h (.tup (B.map .str)) (.tup [.str l]) = some (.val (.tup ((B ++ [l]).map .str))) := fun h => cat l h (by omega)
      simp only [Tm.enc, Tm.bnd, wFun] at qb
      simp only [List.map_append, List.map_cons, List.map_nil] at k0 c0
      simp [F_add_free, k_add_free, mkEnv, Tm.enc, wFun, qb, addF, List.set_set, k0, c0]
    | app a b =>
      have hk' : 2 * (max a.ht b.ht + 1) + 2 ≤ k + 1 := hk
      have hB' : B.length + (max a.ht b.ht + 1) ≤ 1000 := hB
      have hK' : K.length + (1 + a.kn + b.kn) ≤ 1000 := by have q := hK; simp only [Tm.kn] at q; omega
      have k0 := q_addf A a k n B K h hc (by omega) (by omega) (by omega)
      have k1 := q_addf A b k n B (addF a B K) (h.set n (dK (addF a B K))) (setget hc) (by omega) (by omega) (by have := addF_len a B K; omega)
      simp only [Tm.enc, Tm.bnd, wApp] at qb
      simp [F_add_free, k_add_free, mkEnv, Tm.enc, wApp, qb, addF, List.set_set, k0, k1]
    | first a s =>
      have hk' : 2 * (a.ht + 1) + 2 ≤ k + 1 := hk
      have hB' : B.length + (a.ht + 1) ≤ 1000 := hB
      have hK' : K.length + (1 + a.kn) ≤ 1000 := by have q := hK; simp only [Tm.kn] at q; omega
      have k0 := q_addf A a k n B K h hc (by omega) (by omega) (by omega)
      simp only [Tm.enc, Tm.bnd, wFirst] at qb
      simp [F_add_free, k_add_free, mkEnv, Tm.enc, wFirst, qb, addF, List.set_set, k0]
    | second s a =>
      have hk' : 2 * (a.ht + 1) + 2 ≤ k + 1 := hk
      have hB' : B.length + (a.ht + 1) ≤ 1000 := hB
      have hK' : K.length + (1 + a.kn) ≤ 1000 := by have q := hK; simp only [Tm.kn] at q; omega
      have k0 := q_addf A a k n B K h hc (by omega) (by omega) (by omega)
      simp only [Tm.enc, Tm.bnd, wSecond] at qb
      simp [F_add_free, k_add_free, mkEnv, Tm.enc, wSecond, qb, addF, List.set_set, k0]
    | cases a l b m d =>
      have hk' : 2 * (max a.ht (max b.ht d.ht) + 1) + 2 ≤ k + 1 := hk
      have hB' : B.length + (max a.ht (max b.ht d.ht) + 1) ≤ 1000 := hB
      have hK' : K.length + (1 + a.kn + b.kn + d.kn) ≤ 1000 := by have q := hK; simp only [Tm.kn] at q; omega
      have k0 := q_addf A a k n B K h hc (by omega) (by omega) (by omega)
      have k1 := q_addf A b k n (B ++ [l]) (addF a B K) (h.set n (dK (addF a B K))) (setget hc) (by omega) (by simp only [List.length_append, List.length_cons, List.length_nil]; omega) (by have := addF_len a B K; omega)
      have k2 := q_addf A d k n (B ++ [m]) (addF b (B ++ [l]) (addF a B K)) (h.set n (dK (addF b (B ++ [l]) (addF a B K)))) (setget hc) (by omega) (by simp only [List.length_append, List.length_cons, List.length_nil]; omega) (by have := addF_len a B K; have := addF_len b (B ++ [l]) (addF a B K); omega)
      have c0 : ∀ h, fAdd h (.tup (B.map .str)) (.tup [.str l]) = some (.val (.tup ((B ++ [l]).map .str))) := fun h => cat l h (by omega)
      have c1 : ∀ h, fAdd h (.tup (B.map .str)) (.tup [.str m]) = some (.val (.tup ((B ++ [m]).map .str))) := fun h => cat m h (by omega)
      simp only [Tm.enc, Tm.bnd, wCases] at qb
      simp only [List.map_append, List.map_cons, List.map_nil] at k0 k1 k2 c0 c1
      simp [F_add_free, k_add_free, mkEnv, Tm.enc, wCases, qb, addF, List.set_set, k0, k1, k2, c0, c1]
    | void a s =>
      have hk' : 2 * (a.ht + 1) + 2 ≤ k + 1 := hk
      have hB' : B.length + (a.ht + 1) ≤ 1000 := hB
      have hK' : K.length + (1 + a.kn) ≤ 1000 := by have q := hK; simp only [Tm.kn] at q; omega
      have k0 := q_addf A a k n B K h hc (by omega) (by omega) (by omega)
      simp only [Tm.enc, Tm.bnd, wVoid] at qb
      simp [F_add_free, k_add_free, mkEnv, Tm.enc, wVoid, qb, addF, List.set_set, k0]
end GtS
end
section
set_option Elab.async false
set_option linter.all false
namespace GtS
open Gt
variable {ft : Nat → Option Fn} {h : Hs} {k : Nat}
theorem nr_str (n : Nat) (x : S) : noRef (n + 1) (.str x) = true := rfl
theorem noRef_sn : ∀ (s : Sn) (n : Nat), s.deep + 1 ≤ n → noRef n s.enc = true
  | s, 0, hn => by omega
  | .atom a, n + 1, _ => rfl
  | .non, 0 + 1, hn => absurd hn (by decide)
  | .non, n + 1 + 1, _ => rfl
  | .bin w l r, 0 + 1, hn => by have : max l.deep r.deep + 1 + 1 ≤ 0 + 1 := hn; omega
  | .bin w l r, n + 1 + 1, hn => by
    have hd : max l.deep r.deep + 1 + 1 ≤ n + 1 + 1 := hn
    have e1 := noRef_sn l (n + 1) (by omega)
    have e2 := noRef_sn r (n + 1) (by omega)
    show ([T.str w.s, l.enc, r.enc].all (noRef (n + 1))) = true
    simp [e1, e2, nr_str]
theorem noRef_tm (t : Tm) : ∀ n : Nat, t.wf = true → t.ht + 25 ≤ n → noRef n t.enc = true := by
  have hs : ∀ (s : Sn) (n : Nat), s.good = true → 22 ≤ n → noRef n s.enc = true := fun s n g hn => noRef_sn s n (by have := good_ok g; omega)
  induction t with
  | var l => intro n _ hn; obtain ⟨n, rfl⟩ : ∃ j, n = j + 1 + 1 := ⟨n - 2, by omega⟩; rfl
  | pair a b ia ib =>
    intro n w hn
    have hn' : max a.ht b.ht + 1 + 25 ≤ n := hn
    have w' : a.wf = true ∧ b.wf = true := by simpa [Tm.wf] using w
    obtain ⟨n, rfl⟩ : ∃ j, n = j + 1 + 1 := ⟨n - 2, by omega⟩
    have e1 := ia (n + 1) w'.1 (by omega)
    have e2 := ib (n + 1) w'.2 (by omega)
    show ([T.str _, a.enc, b.enc].all (noRef (n + 1))) = true
    simp [e1, e2, nr_str]
  | app a b ia ib =>
    intro n w hn
    have hn' : max a.ht b.ht + 1 + 25 ≤ n := hn
    have w' : a.wf = true ∧ b.wf = true := by simpa [Tm.wf] using w
    obtain ⟨n, rfl⟩ : ∃ j, n = j + 1 + 1 := ⟨n - 2, by omega⟩
    have e1 := ia (n + 1) w'.1 (by omega)
    have e2 := ib (n + 1) w'.2 (by omega)
    show ([T.str _, a.enc, b.enc].all (noRef (n + 1))) = true
    simp [e1, e2, nr_str]
  | left a ia =>
    intro n w hn
    have hn' : a.ht + 1 + 25 ≤ n := hn
    obtain ⟨n, rfl⟩ : ∃ j, n = j + 1 + 1 := ⟨n - 2, by omega⟩
    have e1 := ia (n + 1) w (by omega)
    show ([T.str _, a.enc].all (noRef (n + 1))) = true
    simp [e1, nr_str]
  | right a ia =>
    intro n w hn
    have hn' : a.ht + 1 + 25 ≤ n := hn
    obtain ⟨n, rfl⟩ : ∃ j, n = j + 1 + 1 := ⟨n - 2, by omega⟩
    have e1 := ia (n + 1) w (by omega)
    show ([T.str _, a.enc].all (noRef (n + 1))) = true
    simp [e1, nr_str]
  | lam l s b ib =>
    intro n w hn
    have hn' : b.ht + 1 + 25 ≤ n := hn
    have w' : (nameOk l = true ∧ s.good = true) ∧ b.wf = true := by simpa [Tm.wf] using w
    obtain ⟨n, rfl⟩ : ∃ j, n = j + 1 + 1 := ⟨n - 2, by omega⟩
    have e1 := ib (n + 1) w'.2 (by omega)
    have e2 := hs s (n + 1) w'.1.2 (by omega)
    show ([T.str _, T.str _, s.enc, b.enc].all (noRef (n + 1))) = true
    simp [e1, e2, nr_str]
  | first a s ia =>
    intro n w hn
    have hn' : a.ht + 1 + 25 ≤ n := hn
    have w' : a.wf = true ∧ s.good = true := by simpa [Tm.wf] using w
    obtain ⟨n, rfl⟩ : ∃ j, n = j + 1 + 1 := ⟨n - 2, by omega⟩
    have e1 := ia (n + 1) w'.1 (by omega)
    have e2 := hs s (n + 1) w'.2 (by omega)
    show ([T.str _, a.enc, s.enc].all (noRef (n + 1))) = true
    simp [e1, e2, nr_str]
  | second s a ia =>
    intro n w hn
    have hn' : a.ht + 1 + 25 ≤ n := hn
    have w' : s.good = true ∧ a.wf = true := by simpa [Tm.wf] using w
    obtain ⟨n, rfl⟩ : ∃ j, n = j + 1 + 1 := ⟨n - 2, by omega⟩
    have e1 := ia (n + 1) w'.2 (by omega)
    have e2 := hs s (n + 1) w'.1 (by omega)
    show ([T.str _, s.enc, a.enc].all (noRef (n + 1))) = true
    simp [e1, e2, nr_str]
  | void a s ia =>
    intro n w hn
    have hn' : a.ht + 1 + 25 ≤ n := hn
    have w' : a.wf = true ∧ s.good = true := by simpa [Tm.wf] using w
    obtain ⟨n, rfl⟩ : ∃ j, n = j + 1 + 1 := ⟨n - 2, by omega⟩
    have e1 := ia (n + 1) w'.1 (by omega)
    have e2 := hs s (n + 1) w'.2 (by omega)
    show ([T.str _, a.enc, s.enc].all (noRef (n + 1))) = true
    simp [e1, e2, nr_str]
  | cases a l b m d ia ib id =>
    intro n w hn
    have hn' : max a.ht (max b.ht d.ht) + 1 + 25 ≤ n := hn
    have w' : (((a.wf = true ∧ nameOk l = true) ∧ b.wf = true) ∧ nameOk m = true) ∧ d.wf = true := by simpa [Tm.wf] using w
    obtain ⟨n, rfl⟩ : ∃ j, n = j + 1 + 1 := ⟨n - 2, by omega⟩
    have e1 := ia (n + 1) w'.1.1.1.1 (by omega)
    have e2 := ib (n + 1) w'.1.1.2 (by omega)
    have e3 := id (n + 1) w'.2 (by omega)
    show ([T.str _, a.enc, T.str _, b.enc, T.str _, d.enc].all (noRef (n + 1))) = true
    simp [e1, e2, e3, nr_str]
theorem mem_insS (x y : S) : ∀ l : List S, y ∈ insS x l ↔ y = x ∨ y ∈ l
  | [] => by simp [insS]
  | z :: r => by
    unfold insS
    by_cases q : ltS z x = true
    · rw [if_pos q]; simp only [List.mem_cons, mem_insS x y r]; grind
    · rw [if_neg q]; simp only [List.mem_cons]
theorem mem_sortS (y : S) : ∀ l : List S, y ∈ sortS l ↔ y ∈ l
  | [] => by simp [sortS]
  | z :: r => by simp only [sortS, mem_insS, mem_sortS y r, List.mem_cons]
theorem keysS_map : ∀ K : List S, keysS (K.map fun x => (Ky.s x, T.bl true)) = some K
  | [] => rfl
  | x :: r => by
    show (keysS (r.map fun x => (Ky.s x, T.bl true))).map _ = _
    rw [keysS_map r]; rfl
theorem run_opens {f : Nat} {F : Fn} (hf : ft f = some F) (hk : F.kind = .opens) {args : List T} (hl : args.length = F.np) (k : Nat) (h : Hs) (ha : args.all (noRef WIDE) = true) {t : T} {h2 : Hs} (e : fin (F.body (run ft k) (mkEnv args F.ns) []) = .ok (.val t) h2) (ht : noRef WIDE t = true) : run ft (k + 1) f args h = .ok (.val t) h := by
  show (match ft f with | none => _ | some F => _) = _
  rw [hf]
  dsimp only
  rw [if_pos hl, hk]
  dsimp only
  rw [if_pos ha, e]
  dsimp only
  rw [if_pos ht]
def Tm.frs (t : Tm) : List S := sortS (addF t [] [])
theorem mem_frs (t : Tm) (x : S) : x ∈ t.frs ↔ x ∈ t.fr := by
  unfold Tm.frs
  rw [mem_sortS, mem_addF]
  simp
theorem q_free_in (A : HasT ft) (t : Tm) (w : t.wf = true) (hn : t.kn ≤ 62) (k : Nat) (hk : 2 * t.ht + 3 ≤ k) : run ft k i_free_in [t.enc] h = .ok (.val (.tup (t.frs.map .str))) h := by
  obtain ⟨k, rfl⟩ : ∃ j, k = j + 1 := ⟨k - 1, by omega⟩
  have hkn := t.ht_kn
  have hW : WIDE = 1000 := rfl
  have q := q_addf A t k 0 [] [] [dK []] rfl (by omega) (by simp only [List.length_nil]; omega) (by simp only [List.length_nil]; omega)
  have hlen : (addF t [] []).length < 64 := by have := addF_len t [] []; simp only [List.length_nil] at this; omega
  refine run_opens A.t6 rfl rfl k h (by simp [noRef_tm t WIDE w (by omega)]) (h2 := [dK (addF t [] [])]) ?_ ?_
  · have srt : fSorted [dK (addF t [] [])] (.ref 0) = some (.own (.lst (t.frs.map .str))) := by
      show (match keysS ((addF t [] []).map fun x => (Ky.s x, T.bl true)) with | some ns => _ | none => _) = _
      rw [keysS_map]
      dsimp only
      rw [if_pos hlen]
      rfl
    simp only [List.map_nil, List.set_cons_zero] at q
    have q' : run ft k i_add_free [t.enc, .tup [], .ref 0] [.dic []] = .ok (.val .non) [dK (addF t [] [])] := q
    simp [F_free_in, k_free_in, mkEnv, q', srt]
  · show ((t.frs.map T.str).all (noRef 999)) = true
    simp [nr_str 998]
end GtS
end
section
set_option Elab.async false
set_option linter.all false
namespace GtS
open Gt
variable {ft : Nat → Option Fn} {h : Hs} {k : Nat}
def okD : Nat → T → Prop
  | 0, _ => False
  | n + 1, v => match v with
    | .tup l => ∀ x ∈ l, okD n x
    | .lst l => ∀ x ∈ l, okD n x
    | v => plainT v = true
def szN : Nat → T → Nat
  | 0, _ => 1
  | n + 1, v => match v with
    | .tup l => 1 + (l.map (szN n)).sum
    | .lst l => 1 + (l.map (szN n)).sum
    | _ => 1
def frzN : Nat → T → T
  | 0, v => v
  | n + 1, v => match v with
    | .tup l => .tup (l.map (frzN n))
    | .lst l => .tup (l.map (frzN n))
    | v => v
def kids (L : List T) : List T := L.flatMap fun v => (isSeq v).getD []
theorem okD_plain {n : Nat} {v : T} (o : okD n v) : plainT v = true := by
  cases n with
  | zero => exact o.elim
  | succ n => cases v <;> first | rfl | exact o
theorem okD_kids {n : Nat} {L : List T} (o : ∀ v ∈ L, okD (n + 1) v) : ∀ v ∈ kids L, okD n v := fun x m => by
  obtain ⟨v, hv, hx⟩ := List.mem_flatMap.mp m
  have := o v hv
  cases v <;> first | exact this x hx | exact absurd hx List.not_mem_nil
theorem szN_pos (n : Nat) (v : T) : 1 ≤ szN n v := by
  cases n with
  | zero => exact Nat.le_refl _
  | succ n => cases v <;> simp [szN]
theorem len_sum (n : Nat) : ∀ L : List T, L.length ≤ (L.map (szN n)).sum
  | [] => Nat.le_refl _
  | v :: r => by
    have := szN_pos n v
    have := len_sum n r
    simp only [List.map_cons, List.sum_cons, List.length_cons]
    omega
theorem kids_sum (n : Nat) : ∀ L : List T, ((kids L).map (szN n)).sum ≤ (L.map (szN (n + 1))).sum
  | [] => Nat.le_refl _
  | v :: r => by
    have ih := kids_sum n r
    have e : kids (v :: r) = (isSeq v).getD [] ++ kids r := rfl
    rw [e]
    simp only [List.map_cons, List.sum_cons, List.map_append, List.sum_append]
    have : (((isSeq v).getD []).map (szN n)).sum ≤ szN (n + 1) v := by
      cases v <;> simp [isSeq, szN]
    omega
structure HasV (ft : Nat → Option Fn) : Prop where
  v1 : ft i_is_sequence = some F_is_sequence
  v2 : ft i_is_too_deep = some F_is_too_deep
  v3 : ft i_frozen = some F_frozen
  v4 : ft i_handed = some F_handed
def sLevel : SC := sIf (tTru (eOwn (eCall i_is_sequence (aCons (eVar 4) (aNil))))) (sOwn 3 fExtend (eOwn (oOp1 fList (eVar 4)))) (sSkip)
theorem ext_lst {a b : List T} (hl : a.length + b.length ≤ LIM) : fExtend h (.lst a) (.lst b) = some (.lst (a ++ b)) := if_pos hl
theorem level_run (A : HasV ft) (k : Nat) (s0 s1 s2 : Slot) : ∀ (L acc : List T) (s4 : Slot), (∀ v ∈ L, plainT v = true) → acc.length + (kids L).length ≤ LIM →
    ∃ s4', forL (.one 4) (sLevel (run ft (k + 1))) L [s0, s1, s2, .own (.lst acc), s4] h = .next [s0, s1, s2, .own (.lst (acc ++ kids L)), s4'] h
  | [], acc, s4, _, _ => ⟨s4, by simp [kids]⟩
  | v :: r, acc, s4, hp, hl => by
    have pv := hp v List.mem_cons_self
    have q := q_is_sequence (k := k) (h := h) A.v1 v pv
    have e : kids (v :: r) = (isSeq v).getD [] ++ kids r := rfl
    rw [e] at hl ⊢
    rw [List.length_append] at hl
    obtain ⟨s4', ih⟩ := level_run A k s0 s1 s2 r (acc ++ (isSeq v).getD []) (.val v) (fun v m => hp v (List.mem_cons_of_mem _ m)) (by rw [List.length_append]; omega)
    refine ⟨s4', ?_⟩
    rw [List.append_assoc] at ih
    rw [y_forL1, x_put1, y_item]
    cases z : isSeq v with
    | none =>
      rw [z] at q ih
      simp only [Option.getD_none, List.append_nil, List.nil_append] at ih ⊢
      have : sLevel (run ft (k + 1)) ([s0, s1, s2, .own (.lst acc), s4].set 4 (.val v)) h = .next [s0, s1, s2, .own (.lst acc), .val v] h := by
        simp [sLevel, q]
      rw [this]; exact ih
    | some l =>
      rw [z] at q ih hl
      simp only [Option.getD_some] at ih hl ⊢
      have fl : fList h v = some (.own (.lst l)) := by
        cases v <;> first | (cases z; rfl) | cases z
      have : sLevel (run ft (k + 1)) ([s0, s1, s2, .own (.lst acc), s4].set 4 (.val v)) h = .next [s0, s1, s2, .own (.lst (acc ++ l)), .val v] h := by
        simp [sLevel, q, fl, ext_lst (h := h) (a := acc) (b := l) (by omega)]
      rw [this]; exact ih
def sRounds : SC := sSeq (sSetO 3 (oLst (aNil))) (sSeq (sFor (.one 4) (iSeq (eVar 1)) sLevel) (sSeq (sIf (tNot (tTru (eBor 3))) (sRet (eK (.bl false))) (sSkip)) (sFreeze [3] (sSet 1 (eVar 3)))))
theorem rounds_run (A : HasV ft) (k : Nat) (s0 : Slot) : ∀ (n : Nat) (L ts : List T) (s2 s3 s4 : Slot), (∀ v ∈ L, okD n v) → (L.map (szN n)).sum ≤ 1000000 → n + 1 ≤ ts.length →
    forL (.one 2) (sRounds (run ft (k + 1))) ts [s0, .val (.lst L), s2, s3, s4] h = .ret (.val (.bl false)) h
  | n, L, [], s2, s3, s4, _, _, hn => absurd hn (by simp)
  | n, L, t :: ts, s2, s3, s4, ho, hs, hn => by
    have hl := len_sum n (kids L)
    have step : ∀ (hz : (kids L).length ≤ 1000000), ∃ s4', sRounds (run ft (k + 1)) ([s0, .val (.lst L), s2, s3, s4].set 2 (.val t)) h = if kids L = [] then .ret (.val (.bl false)) h else .next [s0, .val (.lst (kids L)), .val t, .val (.lst (kids L)), s4'] h := fun hz => by
      obtain ⟨s4', e⟩ := level_run (h := h) A k s0 (.val (.lst L)) (.val t) L [] s4 (fun v m => okD_plain (ho v m)) (by simp only [List.length_nil]; exact le_LIM (by omega))
      refine ⟨s4', ?_⟩
      simp only [List.nil_append] at e
      cases z : kids L with
      | nil =>
        rw [z] at e
        simp [sRounds, e]
      | cons x r =>
        rw [z] at e
        simp [sRounds, e]
    rw [y_forL1, x_put1, y_item]
    cases n with
    | zero =>
      have : L = [] := by
        cases L with
        | nil => rfl
        | cons v r => exact (ho v List.mem_cons_self).elim
      subst this
      obtain ⟨s4', e⟩ := step (by simp [kids])
      rw [e, if_pos (show kids [] = [] from rfl)]; rfl
    | succ n =>
      have ks := kids_sum n L
      have kl := len_sum n (kids L)
      obtain ⟨s4', e⟩ := step (by omega)
      rw [e]
      by_cases z : kids L = []
      · rw [if_pos z]; rfl
      · rw [if_neg z, y_turn1]
        exact rounds_run A k s0 n (kids L) ts _ _ _ (okD_kids ho) (by omega) (by simp only [List.length_cons] at hn; omega)
theorem upL_len (d : Int) : ∀ (n : Nat) (lo : Int), (upL d n lo).length = n
  | 0, _ => rfl
  | n + 1, lo => by simp [upL, upL_len d n]
theorem q_too_deep (A : HasV ft) (v : T) (n : Nat) (ho : okD n v) (hn : n ≤ 399) (hs : szN n v ≤ 1000000) (k : Nat) (hk : 2 ≤ k) : run ft k i_is_too_deep [v] h = .ok (.val (.bl false)) h := by
  obtain ⟨k, rfl⟩ : ∃ j, k = j + 1 + 1 := ⟨k - 2, by omega⟩
  rw [run_pure A.v2 (by decide) rfl]
  have e := rounds_run (h := h) A k (.val v) n [v] (upL 1 400 0) .un .un .un (fun x m => by rw [List.mem_singleton.mp m]; exact ho) (by simpa using hs) (by rw [upL_len]; omega)
  have i62 : in62 400 = true := by decide
  unfold sRounds sLevel at e
  simp [F_is_too_deep, k_is_too_deep, mkEnv, c_DEEPEST, i62, e]
end GtS
end
section
set_option Elab.async false
set_option linter.all false
namespace GtS
open Gt
variable {ft : Nat → Option Fn} {h : Hs} {k : Nat}
def cN : Nat → T → Nat
  | 0, _ => 1
  | n + 1, v => match v with
    | .tup l => 2 + (l.map (cN n)).sum
    | .lst l => 2 + (l.map (cN n)).sum
    | _ => 1
def wF (v : T) : T := .tup [v, .bl false]
def sThaw : SC := sSeq (sPop (some (.many [3, 4])) 2) (sIf (tNot (tTru (eOwn (eCall i_is_sequence (aCons (eVar 3) (aNil)))))) (sOwn 1 fAppend (eVar 3)) (sIf (tTru (eVar 4)) (sSeq (sSet 5 (eOp2 fSub (eOp1 fLen (eBor 1)) (eOp1 fLen (eVar 3)))) (sSeq (sSet 6 (eOp1 fTuple (eOwn (oSl (eBor 1) (some (eVar 5)) (none))))) (sSeq (sDelFrom 1 (eVar 5)) (sOwn 1 fAppend (eVar 6))))) (sSeq (sOwn 2 fAppend (eTup (aCons (eVar 3) (aCons (eK (.bl true)) (aNil))))) (sFor (.one 7) (iRev (eVar 3)) (sOwn 2 fAppend (eTup (aCons (eVar 7) (aCons (eK (.bl false)) (aNil)))))))))
def eE (v : T) (D W : List T) (s3 s4 s5 s6 s7 : Slot) : List Slot := [.val v, .own (.lst D), .own (.lst W), s3, s4, s5, s6, s7]
theorem pop_row (i : Nat) (e : List Slot) (W : List T) (a b : T) : wPop (some (.many [3, 4])) i e h (some (.own (.lst (W ++ [.tup [a, b]])))) = .next (((e.set i (.own (.lst W))).set 3 (.val a)).set 4 (.val b)) h := by
  show (match (W ++ [T.tup [a, b]]).getLast? with | some t => _ | none => _) = _
  rw [show (W ++ [T.tup [a, b]]).getLast? = some (T.tup [a, b]) by simp, List.dropLast_concat]
  rfl
theorem push_run (k : Nat) (v : T) (D : List T) (s3 s4 s5 s6 : Slot) : ∀ (ts W : List T) (s7 : Slot), W.length + ts.length ≤ LIM →
    ∃ s7', forL (.one 7) (sOwn 2 fAppend (eTup (aCons (eVar 7) (aCons (eK (.bl false)) (aNil)))) (run ft k)) ts (eE v D W s3 s4 s5 s6 s7) h = .next (eE v D (W ++ ts.map wF) s3 s4 s5 s6 s7') h
  | [], W, s7, _ => ⟨s7, by simp⟩
  | t :: ts, W, s7, hl => by
    simp only [List.length_cons] at hl
    obtain ⟨s7', ih⟩ := push_run k v D s3 s4 s5 s6 ts (W ++ [wF t]) (.val t) (by simp only [List.length_append, List.length_cons, List.length_nil]; omega)
    refine ⟨s7', ?_⟩
    rw [y_forL1, x_put1, y_item]
    have : sOwn 2 fAppend (eTup (aCons (eVar 7) (aCons (eK (.bl false)) (aNil)))) (run ft k) ((eE v D W s3 s4 s5 s6 s7).set 7 (.val t)) h = .next (eE v D (W ++ [wF t]) s3 s4 s5 s6 (.val t)) h := by
      simp [eE, app_lst (h := h) (a := W) (by omega), wF]
    rw [this, y_turn1, ih]
    simp
theorem thaw_leaf (A : HasV ft) (k : Nat) (v x : T) (D W : List T) (s3 s4 s5 s6 s7 : Slot) (hx : plainT x = true) (z : isSeq x = none) (hD : D.length < LIM) :
    sThaw (run ft (k + 1)) (eE v D (W ++ [wF x]) s3 s4 s5 s6 s7) h = .next (eE v (D ++ [x]) W (.val x) (.val (.bl false)) s5 s6 s7) h := by
  have q := q_is_sequence (k := k) (h := h) A.v1 x hx
  rw [z] at q
  simp [sThaw, eE, wF, pop_row, q, app_lst (h := h) (a := D) hD]
theorem thaw_open (A : HasV ft) (k : Nat) (v x : T) (l : List T) (D W : List T) (s3 s4 s5 s6 s7 : Slot) (hx : plainT x = true) (z : isSeq x = some l) (hW : W.length + 1 + l.length ≤ LIM) :
    ∃ s7', sThaw (run ft (k + 1)) (eE v D (W ++ [wF x]) s3 s4 s5 s6 s7) h = .next (eE v D (W ++ [.tup [x, .bl true]] ++ l.reverse.map wF) (.val x) (.val (.bl false)) s5 s6 s7') h := by
  have q := q_is_sequence (k := k) (h := h) A.v1 x hx
  rw [z] at q
  obtain ⟨s7', e⟩ := push_run (ft := ft) (h := h) (k + 1) v D (.val x) (.val (.bl false)) s5 s6 l.reverse (W ++ [.tup [x, .bl true]]) s7 (by simp only [List.length_append, List.length_cons, List.length_nil, List.length_reverse]; omega)
  refine ⟨s7', ?_⟩
  have rv : revOf h x = .ok l.reverse h := by
    cases x <;> first | (cases z; rfl) | cases z
  unfold eE at e
  simp [sThaw, eE, wF, pop_row, q, app_lst (h := h) (a := W) (by omega), rv]
  simpa [wF] using e
theorem thaw_ripe (A : HasV ft) (k : Nat) (v x : T) (l : List T) (D X W : List T) (s3 s4 s5 s6 s7 : Slot) (hx : plainT x = true) (z : isSeq x = some l) (hX : X.length = l.length) (hD : D.length < LIM) :
    ∃ s5' s6', sThaw (run ft (k + 1)) (eE v (D ++ X) (W ++ [.tup [x, .bl true]]) s3 s4 s5 s6 s7) h = .next (eE v (D ++ [.tup X]) W (.val x) (.val (.bl true)) s5' s6' s7) h := by
  have q := q_is_sequence (k := k) (h := h) A.v1 x hx
  rw [z] at q
  have ln : fLen h x = some (.int l.length) := by
    cases x <;> first | (cases z; rfl) | cases z
  have sb : ((D.length + X.length : Nat) : Int) - (l.length : Int) = (D.length : Int) := by omega
  have ct : cutL (D ++ X) (some (D.length : Int)) none = X := by
    have c1 : cutAt (D ++ X).length 0 (some (D.length : Int)) = D.length := by
      show (if (D.length : Int) < 0 then ((D.length : Int) + ((D ++ X).length : Int)).toNat else min (D.length : Int).toNat (D ++ X).length) = _
      rw [if_neg (by omega)]
      simp
    unfold cutL
    rw [c1]
    show (List.drop D.length (D ++ X)).take ((D ++ X).length - D.length) = X
    simp
  refine ⟨.val (.int D.length), .val (.tup X), ?_⟩
  have dl : wDel2 1 [Slot.val v, .own (.lst (D ++ X)), .own (.lst W), .val x, .val (.bl true), .val (.int D.length), .val (.tup X), s7] (.int D.length) h (some (.own (.lst (D ++ X)))) = .next [Slot.val v, .own (.lst D), .own (.lst W), .val x, .val (.bl true), .val (.int D.length), .val (.tup X), s7] h := by
    show (if (0 : Int) ≤ D.length ∧ (D.length : Int) ≤ ((D ++ X).length : Nat) then _ else _) = _
    rw [if_pos ⟨by omega, by rw [List.length_append]; omega⟩]
    simp
  have sb' : (D.length : Int) + (X.length : Int) - (l.length : Int) = (D.length : Int) := by omega
  simp [sThaw, eE, wF, pop_row, q, ln, sb', ct, dl, app_lst (h := h) (a := D) hD]
end GtS
end
section
set_option Elab.async false
set_option linter.all false
namespace GtS
open Gt
variable {ft : Nat → Option Fn} {h : Hs} {k : Nat}
theorem while_step {t : List Slot → Hs → R Bool} {b : List Slot → Hs → SR} {n : Nat} {e e2 : List Slot} {h2 : Hs} (ht : t e h = .ok true h) (hb : b e h = .next e2 h2) : whileN t b (n + 1) e h = whileN t b n e2 h2 := by
  simp only [whileN, ht, R.bindS, if_true, hb]
theorem while_stop {t : List Slot → Hs → R Bool} {b : List Slot → Hs → SR} {n : Nat} {e : List Slot} (ht : t e h = .ok false h) : whileN t b (n + 1) e h = .next e h := by
  show (t e h).bindS _ = _
  rw [ht]; rfl
theorem x_sWhile {t : TC} {b : SC} {c : Call} {e : List Slot} : sWhile t b c e h = whileN (t c) (b c) FUEL e h := rfl
def tW : TC := tTru (eBor 2)
theorem tW_run (c : Call) (v x : T) (D W : List T) (s3 s4 s5 s6 s7 : Slot) : tW c (eE v D (W ++ [x]) s3 s4 s5 s6 s7) h = .ok true h := by
  have : (!(W ++ [x]).isEmpty) = true := by cases W <;> rfl
  simp only [tW, eE, x_tTru, x_eBor]
  show wTru (.ok (.lst (W ++ [x])) h) = _
  show R.opt (some (!(W ++ [x]).isEmpty)) h = _
  rw [this]; rfl
theorem thaw_all (A : HasV ft) (k : Nat) (v0 : T) : ∀ (n : Nat) (v : T), okD n v → ∀ (D W : List T) (f : Nat) (s3 s4 s5 s6 s7 : Slot), D.length + szN n v ≤ 1000000 → W.length + 2 * szN n v ≤ 2000000 →
    ∃ t3 t4 t5 t6 t7, whileN (tW (run ft (k + 1))) (sThaw (run ft (k + 1))) (cN n v + f) (eE v0 D (W ++ [wF v]) s3 s4 s5 s6 s7) h = whileN (tW (run ft (k + 1))) (sThaw (run ft (k + 1))) f (eE v0 (D ++ [frzN n v]) W t3 t4 t5 t6 t7) h
  | 0, v, o => o.elim
  | n + 1, v, o => fun D W f s3 s4 s5 s6 s7 hD hW => by
    have many : ∀ (l : List T), (∀ x ∈ l, okD n x) → ∀ (D W : List T) (f : Nat) (s3 s4 s5 s6 s7 : Slot), D.length + (l.map (szN n)).sum ≤ 1000000 → W.length + 2 * (l.map (szN n)).sum ≤ 2000000 →
      ∃ t3 t4 t5 t6 t7, whileN (tW (run ft (k + 1))) (sThaw (run ft (k + 1))) ((l.map (cN n)).sum + f) (eE v0 D (W ++ l.reverse.map wF) s3 s4 s5 s6 s7) h = whileN (tW (run ft (k + 1))) (sThaw (run ft (k + 1))) f (eE v0 (D ++ l.map (frzN n)) W t3 t4 t5 t6 t7) h := by
      intro l
      induction l with
      | nil => intro _ D W f s3 s4 s5 s6 s7 _ _; exact ⟨s3, s4, s5, s6, s7, by simp⟩
      | cons x r ih =>
        intro ho D W f s3 s4 s5 s6 s7 hD hW
        simp only [List.map_cons, List.sum_cons] at hD hW ⊢
        have hr := len_sum n r
        obtain ⟨t3, t4, t5, t6, t7, e1⟩ := thaw_all A k v0 n x (ho x List.mem_cons_self) D (W ++ r.reverse.map wF) ((r.map (cN n)).sum + f) s3 s4 s5 s6 s7 (by omega) (by simp only [List.length_append, List.length_map, List.length_reverse]; omega)
        obtain ⟨u3, u4, u5, u6, u7, e2⟩ := ih (fun y m => ho y (List.mem_cons_of_mem _ m)) (D ++ [frzN n x]) W f t3 t4 t5 t6 t7 (by have := szN_pos n x; simp only [List.length_append, List.length_cons, List.length_nil]; omega) (by omega)
        refine ⟨u3, u4, u5, u6, u7, ?_⟩
        rw [List.reverse_cons, List.map_append, ← List.append_assoc, Nat.add_assoc]
        rw [show [x].map wF = [wF x] from rfl, e1, e2]
        simp
    have seq : ∀ (l : List T), isSeq v = some l → (∀ x ∈ l, okD n x) → szN (n + 1) v = 1 + (l.map (szN n)).sum → cN (n + 1) v = 2 + (l.map (cN n)).sum → frzN (n + 1) v = .tup (l.map (frzN n)) →
      ∃ t3 t4 t5 t6 t7, whileN (tW (run ft (k + 1))) (sThaw (run ft (k + 1))) (cN (n + 1) v + f) (eE v0 D (W ++ [wF v]) s3 s4 s5 s6 s7) h = whileN (tW (run ft (k + 1))) (sThaw (run ft (k + 1))) f (eE v0 (D ++ [frzN (n + 1) v]) W t3 t4 t5 t6 t7) h := by
      intro l z ho e1 e2 e3
      rw [e1] at hD hW
      rw [e2, e3]
      have hl := len_sum n l
      obtain ⟨s7', a1⟩ := thaw_open (h := h) A k v0 v l D W s3 s4 s5 s6 s7 (okD_plain o) z (Nat.le_trans (show W.length + 1 + l.length ≤ 2000000 by omega) (by decide))
      obtain ⟨t3, t4, t5, t6, t7, a2⟩ := many l ho D (W ++ [.tup [v, .bl true]]) (1 + f) (.val v) (.val (.bl false)) s5 s6 s7' (by omega) (by simp only [List.length_append, List.length_cons, List.length_nil]; omega)
      obtain ⟨u5, u6, a3⟩ := thaw_ripe (h := h) A k v0 v l D (l.map (frzN n)) W t3 t4 t5 t6 t7 (okD_plain o) z (by simp) (Nat.lt_of_le_of_lt (show D.length ≤ 1000000 by omega) (by decide))
      refine ⟨.val v, .val (.bl true), u5, u6, t7, ?_⟩
      rw [show 2 + (l.map (cN n)).sum + f = ((l.map (cN n)).sum + (1 + f)) + 1 by omega, while_step (tW_run ..) a1, a2, Nat.add_comm 1 f, while_step (tW_run ..) a3]
    have leaf : isSeq v = none → cN (n + 1) v = 1 → frzN (n + 1) v = v →
      ∃ t3 t4 t5 t6 t7, whileN (tW (run ft (k + 1))) (sThaw (run ft (k + 1))) (cN (n + 1) v + f) (eE v0 D (W ++ [wF v]) s3 s4 s5 s6 s7) h = whileN (tW (run ft (k + 1))) (sThaw (run ft (k + 1))) f (eE v0 (D ++ [frzN (n + 1) v]) W t3 t4 t5 t6 t7) h := by
      intro z e2 e3
      have := szN_pos (n + 1) v
      rw [e2, e3]
      have a1 := thaw_leaf (h := h) A k v0 v D W s3 s4 s5 s6 s7 (okD_plain o) z (Nat.lt_of_le_of_lt (show D.length ≤ 1000000 by omega) (by decide))
      refine ⟨.val v, .val (.bl false), s5, s6, s7, ?_⟩
      rw [Nat.add_comm 1 f, while_step (tW_run ..) a1]
    cases v with
    | tup l => exact seq l rfl o rfl rfl rfl
    | lst l => exact seq l rfl o rfl rfl rfl
    | _ => exact leaf rfl rfl rfl
theorem cN_le : ∀ (n : Nat) (v : T), cN n v ≤ 2 * szN n v
  | 0, v => by simp [cN, szN]
  | n + 1, v => by
    have many : ∀ l : List T, (l.map (cN n)).sum ≤ 2 * (l.map (szN n)).sum := by
      intro l
      induction l with
      | nil => simp
      | cons x r ih => have := cN_le n x; simp only [List.map_cons, List.sum_cons]; omega
    cases v with
    | tup l => have := many l; simp only [cN, szN]; omega
    | lst l => have := many l; simp only [cN, szN]; omega
    | _ => simp [cN, szN]
theorem q_frozen (A : HasV ft) (v : T) (n : Nat) (ho : okD n v) (hs : szN n v ≤ 900000) (k : Nat) (hk : 2 ≤ k) : run ft k i_frozen [v] h = .ok (.val (frzN n v)) h := by
  obtain ⟨k, rfl⟩ : ∃ j, k = j + 1 + 1 := ⟨k - 2, by omega⟩
  rw [run_pure A.v3 (by decide) rfl]
  have hc := cN_le n v
  obtain ⟨f, hf⟩ : ∃ f, FUEL = cN n v + (f + 1) := ⟨FUEL - cN n v - 1, by
    have : (2000000 : Nat) ≤ FUEL := Nat.le_of_ble_eq_true rfl
    generalize FUEL = z at this ⊢
    omega⟩
  obtain ⟨t3, t4, t5, t6, t7, e⟩ := thaw_all (h := h) A k v n v ho [] [] (f + 1) .un .un .un .un .un (by simp only [List.length_nil]; omega) (by simp only [List.length_nil]; omega)
  rw [while_stop (by simp [tW, eE])] at e
  have e' : sWhile tW sThaw (run ft (k + 1)) [.val v, .own (.lst []), .own (.lst [.tup [v, .bl false]]), .un, .un, .un, .un, .un] h = .next (eE v [frzN n v] [] t3 t4 t5 t6 t7) h := by
    rw [x_sWhile, hf]; exact e
  have code : k_frozen = sSeq (sSetO 1 (oLst aNil)) (sSeq (sSetO 2 (oLst (aCons (eTup (aCons (eVar 0) (aCons (eK (.bl false)) aNil))) aNil))) (sSeq (sWhile tW sThaw) (sRet (eOp2 fIx (eBor 1) (eK (.int 0)))))) := rfl
  simp [F_frozen, code, mkEnv, e', eE]
theorem q_handed (A : HasV ft) (v : T) (n : Nat) (ho : okD n v) (hn : n ≤ 399) (hs : szN n v ≤ 900000) (k : Nat) (hk : 3 ≤ k) : run ft k i_handed [v] h = .ok (.val (frzN n v)) h := by
  obtain ⟨k, rfl⟩ : ∃ j, k = j + 1 := ⟨k - 1, by omega⟩
  rw [run_pure A.v4 (by decide) rfl]
  have e1 := q_too_deep (h := h) A v n ho hn (by omega) k (by omega)
  have e2 := q_frozen (h := h) A v n ho hs k (by omega)
  simp [F_handed, k_handed, mkEnv, e1, e2]
end GtS
end
section
set_option Elab.async false
set_option linter.all false
namespace GtS
open Gt
variable {ft : Nat → Option Fn} {h : Hs} {k : Nat}
theorem frz_sn : ∀ (n : Nat) (s : Sn), frzN n s.enc = s.enc
  | 0, _ => rfl
  | n + 1, .atom _ => rfl
  | n + 1, .non => by show T.tup [frzN n (.str sNone)] = _; cases n <;> rfl
  | n + 1, .bin w l r => by
    show T.tup [frzN n (.str w.s), frzN n l.enc, frzN n r.enc] = _
    rw [frz_sn n l, frz_sn n r]
    cases n <;> rfl
theorem frz_str (n : Nat) (x : S) : frzN n (.str x) = .str x := by cases n <;> rfl
theorem frz_non (n : Nat) : frzN n .non = .non := by cases n <;> rfl
theorem frz_tup (n : Nat) (l : List T) : frzN (n + 1) (.tup l) = .tup (l.map (frzN n)) := rfl
theorem frz_tm : ∀ (n : Nat) (t : Tm), frzN n t.enc = t.enc
  | 0, _ => rfl
  | n + 1, .var _ => by simp [Tm.enc, frz_tup, frz_str]
  | n + 1, .pair a b => by simp [Tm.enc, frz_tup, frz_str, frz_tm n a, frz_tm n b]
  | n + 1, .left a => by simp [Tm.enc, frz_tup, frz_str, frz_tm n a]
  | n + 1, .right a => by simp [Tm.enc, frz_tup, frz_str, frz_tm n a]
  | n + 1, .lam l s b => by simp [Tm.enc, frz_tup, frz_str, frz_tm n b, frz_sn]
  | n + 1, .app a b => by simp [Tm.enc, frz_tup, frz_str, frz_tm n a, frz_tm n b]
  | n + 1, .first a s => by simp [Tm.enc, frz_tup, frz_str, frz_tm n a, frz_sn]
  | n + 1, .second s a => by simp [Tm.enc, frz_tup, frz_str, frz_tm n a, frz_sn]
  | n + 1, .cases a l b m d => by simp [Tm.enc, frz_tup, frz_str, frz_tm n a, frz_tm n b, frz_tm n d]
  | n + 1, .void a s => by simp [Tm.enc, frz_tup, frz_str, frz_tm n a, frz_sn]
theorem okD_str (n : Nat) (x : S) : okD (n + 1) (.str x) := rfl
theorem okD_sn : ∀ (n : Nat) (s : Sn), s.deep + 1 ≤ n → okD n s.enc
  | 0, s, hn => by omega
  | n + 1, .atom _, _ => rfl
  | 0 + 1, .non, hn => absurd hn (by decide)
  | n + 1 + 1, .non, _ => fun x m => by rw [List.mem_singleton.mp m]; rfl
  | n + 1, .bin w l r, hn => fun x m => by
    have hd : max l.deep r.deep + 1 + 1 ≤ n + 1 := hn
    have := l.deep_pos
    obtain ⟨n, rfl⟩ : ∃ j, n = j + 1 := ⟨n - 1, by omega⟩
    simp only [List.mem_cons, List.not_mem_nil, or_false] at m
    rcases m with rfl | rfl | rfl
    · rfl
    · exact okD_sn _ _ (by omega)
    · exact okD_sn _ _ (by omega)
theorem okD_tm : ∀ (n : Nat) (t : Tm), t.wf = true → t.ht + 30 ≤ n → okD n t.enc
  | 0, t, _, hn => by omega
  | n + 1, t, w, hn => by
    obtain ⟨n, rfl⟩ : ∃ j, n = j + 1 := ⟨n - 1, by omega⟩
    cases t with
    | var l => intro x m; simp only [List.mem_cons, List.not_mem_nil, or_false] at m; rcases m with rfl | rfl <;> rfl
    | pair a b =>
      have w' : a.wf = true ∧ b.wf = true := by simpa [Tm.wf] using w
      have hd : max a.ht b.ht + 1 + 30 ≤ n + 1 + 1 := hn
      intro x m; simp only [List.mem_cons, List.not_mem_nil, or_false] at m
      rcases m with rfl | rfl | rfl
      · rfl
      · exact okD_tm _ _ w'.1 (by omega)
      · exact okD_tm _ _ w'.2 (by omega)
    | app a b =>
      have w' : a.wf = true ∧ b.wf = true := by simpa [Tm.wf] using w
      have hd : max a.ht b.ht + 1 + 30 ≤ n + 1 + 1 := hn
      intro x m; simp only [List.mem_cons, List.not_mem_nil, or_false] at m
      rcases m with rfl | rfl | rfl
      · rfl
      · exact okD_tm _ _ w'.1 (by omega)
      · exact okD_tm _ _ w'.2 (by omega)
    | left a =>
      have hd : a.ht + 1 + 30 ≤ n + 1 + 1 := hn
      intro x m; simp only [List.mem_cons, List.not_mem_nil, or_false] at m
      rcases m with rfl | rfl
      · rfl
      · exact okD_tm _ _ w (by omega)
    | right a =>
      have hd : a.ht + 1 + 30 ≤ n + 1 + 1 := hn
      intro x m; simp only [List.mem_cons, List.not_mem_nil, or_false] at m
      rcases m with rfl | rfl
      · rfl
      · exact okD_tm _ _ w (by omega)
    | lam l s b =>
      have w' : (nameOk l = true ∧ s.good = true) ∧ b.wf = true := by simpa [Tm.wf] using w
      have hd : b.ht + 1 + 30 ≤ n + 1 + 1 := hn
      have := good_ok w'.1.2
      intro x m; simp only [List.mem_cons, List.not_mem_nil, or_false] at m
      rcases m with rfl | rfl | rfl | rfl
      · rfl
      · rfl
      · exact okD_sn _ _ (by omega)
      · exact okD_tm _ _ w'.2 (by omega)
    | first a s =>
      have w' : a.wf = true ∧ s.good = true := by simpa [Tm.wf] using w
      have hd : a.ht + 1 + 30 ≤ n + 1 + 1 := hn
      have := good_ok w'.2
      intro x m; simp only [List.mem_cons, List.not_mem_nil, or_false] at m
      rcases m with rfl | rfl | rfl
      · rfl
      · exact okD_tm _ _ w'.1 (by omega)
      · exact okD_sn _ _ (by omega)
    | second s a =>
      have w' : s.good = true ∧ a.wf = true := by simpa [Tm.wf] using w
      have hd : a.ht + 1 + 30 ≤ n + 1 + 1 := hn
      have := good_ok w'.1
      intro x m; simp only [List.mem_cons, List.not_mem_nil, or_false] at m
      rcases m with rfl | rfl | rfl
      · rfl
      · exact okD_sn _ _ (by omega)
      · exact okD_tm _ _ w'.2 (by omega)
    | cases a l b p d =>
      have w' : (((a.wf = true ∧ nameOk l = true) ∧ b.wf = true) ∧ nameOk p = true) ∧ d.wf = true := by simpa [Tm.wf] using w
      have hd : max a.ht (max b.ht d.ht) + 1 + 30 ≤ n + 1 + 1 := hn
      intro x m; simp only [List.mem_cons, List.not_mem_nil, or_false] at m
      rcases m with rfl | rfl | rfl | rfl | rfl | rfl
      · rfl
      · exact okD_tm _ _ w'.1.1.1.1 (by omega)
      · rfl
      · exact okD_tm _ _ w'.1.1.2 (by omega)
      · rfl
      · exact okD_tm _ _ w'.2 (by omega)
    | void a s =>
      have w' : a.wf = true ∧ s.good = true := by simpa [Tm.wf] using w
      have hd : a.ht + 1 + 30 ≤ n + 1 + 1 := hn
      have := good_ok w'.2
      intro x m; simp only [List.mem_cons, List.not_mem_nil, or_false] at m
      rcases m with rfl | rfl | rfl
      · rfl
      · exact okD_tm _ _ w'.1 (by omega)
      · exact okD_sn _ _ (by omega)
theorem sz_tup (n : Nat) (l : List T) : szN (n + 1) (.tup l) = 1 + (l.map (szN n)).sum := rfl
theorem sz_lst (n : Nat) (l : List T) : szN (n + 1) (.lst l) = 1 + (l.map (szN n)).sum := rfl
theorem sz_str (n : Nat) (x : S) : szN n (.str x) = 1 := by cases n <;> rfl
theorem sz_non (n : Nat) : szN n .non = 1 := by cases n <;> rfl
theorem sz_zero (v : T) : szN 0 v = 1 := rfl
theorem sz_sn : ∀ (n : Nat) (s : Sn), szN n s.enc ≤ 2 * s.knots
  | 0, s => by have := s.knots_pos; simp only [sz_zero]; omega
  | n + 1, .atom _ => by show 1 ≤ 2; decide
  | n + 1, .non => by simp [Sn.enc, sz_tup, sz_str, Sn.knots]
  | n + 1, .bin w l r => by
    have := sz_sn n l
    have := sz_sn n r
    simp only [Sn.enc, sz_tup, sz_str, Sn.knots, List.map_cons, List.map_nil, List.sum_cons, List.sum_nil]
    omega
theorem sz_tm : ∀ (n : Nat) (t : Tm), t.wf = true → szN n t.enc ≤ 130 * t.kn
  | 0, t, _ => by have := t.kn_pos; simp only [sz_zero]; omega
  | n + 1, .var l, _ => by simp [Tm.enc, sz_tup, sz_str, Tm.kn]
  | n + 1, .pair a b, w => by
    have w' : a.wf = true ∧ b.wf = true := by simpa [Tm.wf] using w
    have := sz_tm n a w'.1
    have := sz_tm n b w'.2
    simp only [Tm.enc, sz_tup, sz_str, Tm.kn, List.map_cons, List.map_nil, List.sum_cons, List.sum_nil]; omega
  | n + 1, .app a b, w => by
    have w' : a.wf = true ∧ b.wf = true := by simpa [Tm.wf] using w
    have := sz_tm n a w'.1
    have := sz_tm n b w'.2
    simp only [Tm.enc, sz_tup, sz_str, Tm.kn, List.map_cons, List.map_nil, List.sum_cons, List.sum_nil]; omega
  | n + 1, .left a, w => by
    have := sz_tm n a w
    simp only [Tm.enc, sz_tup, sz_str, Tm.kn, List.map_cons, List.map_nil, List.sum_cons, List.sum_nil]; omega
  | n + 1, .right a, w => by
    have := sz_tm n a w
    simp only [Tm.enc, sz_tup, sz_str, Tm.kn, List.map_cons, List.map_nil, List.sum_cons, List.sum_nil]; omega
  | n + 1, .lam l s b, w => by
    have w' : (nameOk l = true ∧ s.good = true) ∧ b.wf = true := by simpa [Tm.wf] using w
    have := good_ok w'.1.2
    have := sz_sn n s
    have := sz_tm n b w'.2
    simp only [Tm.enc, sz_tup, sz_str, Tm.kn, List.map_cons, List.map_nil, List.sum_cons, List.sum_nil]; omega
  | n + 1, .first a s, w => by
    have w' : a.wf = true ∧ s.good = true := by simpa [Tm.wf] using w
    have := good_ok w'.2
    have := sz_sn n s
    have := sz_tm n a w'.1
    simp only [Tm.enc, sz_tup, sz_str, Tm.kn, List.map_cons, List.map_nil, List.sum_cons, List.sum_nil]; omega
  | n + 1, .second s a, w => by
    have w' : s.good = true ∧ a.wf = true := by simpa [Tm.wf] using w
    have := good_ok w'.1
    have := sz_sn n s
    have := sz_tm n a w'.2
    simp only [Tm.enc, sz_tup, sz_str, Tm.kn, List.map_cons, List.map_nil, List.sum_cons, List.sum_nil]; omega
  | n + 1, .cases a l b p d, w => by
    have w' : (((a.wf = true ∧ nameOk l = true) ∧ b.wf = true) ∧ nameOk p = true) ∧ d.wf = true := by simpa [Tm.wf] using w
    have := sz_tm n a w'.1.1.1.1
    have := sz_tm n b w'.1.1.2
    have := sz_tm n d w'.2
    simp only [Tm.enc, sz_tup, sz_str, Tm.kn, List.map_cons, List.map_nil, List.sum_cons, List.sum_nil]; omega
  | n + 1, .void a s, w => by
    have w' : a.wf = true ∧ s.good = true := by simpa [Tm.wf] using w
    have := good_ok w'.2
    have := sz_sn n s
    have := sz_tm n a w'.1
    simp only [Tm.enc, sz_tup, sz_str, Tm.kn, List.map_cons, List.map_nil, List.sum_cons, List.sum_nil]; omega
structure En where
  nm : S
  sn : Sn
  /-- the term, and what it bears in the context ahead -/
  tm : Option (Tm × Sn)
def encT : Option (Tm × Sn) → T
  | none => .non
  | some p => p.1.enc
def partsE (e : En) : List T := [.str e.nm, e.sn.enc, encT e.tm]
def encE (e : En) : T := .tup (partsE e)
def encEL (e : En) : T := .lst (partsE e)
abbrev Bk := List En
def encB (b : Bk) : T := .tup (b.map encE)
def encBL (b : Bk) : T := .lst (b.map encEL)
def ctx (b : Bk) : Cn := b.map fun e => (e.nm, e.sn)
def nmsB (b : Bk) : List S := b.map (·.nm)
/-- an entry behind others -/
structure GoodE (b : Bk) (e : En) : Prop where
  nm : nameOk e.nm = true
  new : e.nm ∉ nmsB b
  sn : e.sn.good = true
  tm : ∀ t s, e.tm = some (t, s) → t.wf = true ∧ t.kn ≤ 60 ∧ Ty' (lookR (ctx b)) t s ∧ ∀ x ∈ t.fr, x ∈ nmsB b
inductive Good : Bk → Prop where
  | nil : Good []
  | snoc {b : Bk} {e : En} (hb : Good b) (he : GoodE b e) : Good (b ++ [e])
theorem Good.all {b : Bk} (g : Good b) : ∀ e ∈ b, nameOk e.nm = true ∧ e.sn.good = true ∧ ∀ t s, e.tm = some (t, s) → t.wf = true ∧ t.kn ≤ 60 := by
  induction g with
  | nil => intro e m; cases m
  | snoc hb he ih =>
    intro e m
    rcases List.mem_append.mp m with m | m
    · exact ih e m
    · rw [List.mem_singleton.mp m]; exact ⟨he.nm, he.sn, fun t s z => ⟨(he.tm t s z).1, (he.tm t s z).2.1⟩⟩
theorem frz_encT (n : Nat) : ∀ o : Option (Tm × Sn), frzN n (encT o) = encT o
  | none => frz_non n
  | some p => frz_tm n p.1
theorem frz_parts (n : Nat) (e : En) : (partsE e).map (frzN n) = partsE e := by
  simp [partsE, frz_str, frz_sn, frz_encT]
theorem frz_encB (n : Nat) (b : Bk) : frzN n (encB b) = encB b := by
  cases n with
  | zero => rfl
  | succ n =>
    show T.tup ((b.map encE).map (frzN n)) = _
    rw [List.map_map]
    congr 1
    refine List.map_congr_left fun e _ => ?_
    cases n with
    | zero => rfl
    | succ n => show T.tup ((partsE e).map (frzN n)) = _; rw [frz_parts]; rfl
theorem frz_encBL (n : Nat) (b : Bk) : frzN (n + 1 + 1) (encBL b) = encB b := by
  show T.tup ((b.map encEL).map (frzN (n + 1))) = _
  rw [List.map_map]
  congr 1
  refine List.map_congr_left fun e _ => ?_
  show T.tup ((partsE e).map (frzN n)) = _; rw [frz_parts]; rfl
def okE (e : En) : Prop := e.sn.good = true ∧ ∀ t s, e.tm = some (t, s) → t.wf = true ∧ t.kn ≤ 60
theorem okD_parts (n : Nat) {e : En} (o : okE e) : ∀ x ∈ partsE e, okD (n + 100) x := fun x m => by
  simp only [partsE, List.mem_cons, List.not_mem_nil, or_false] at m
  rcases m with rfl | rfl | rfl
  · rfl
  · have := good_ok o.1; exact okD_sn _ _ (by omega)
  · cases z : e.tm with
    | none => rfl
    | some p =>
      obtain ⟨t, s⟩ := p
      have q := o.2 t s z
      have := t.ht_kn
      exact okD_tm (n + 100) t q.1 (by omega)
theorem sz_parts (n : Nat) {e : En} (o : okE e) : ((partsE e).map (szN n)).sum ≤ 8000 := by
  have := good_ok o.1
  have q1 := sz_sn n e.sn
  have q2 : szN n (encT e.tm) ≤ 7800 := by
    cases z : e.tm with
    | none => show szN n .non ≤ _; rw [sz_non]; decide
    | some p =>
      obtain ⟨t, s⟩ := p
      have q := o.2 t s z
      have := sz_tm n t q.1
      show szN n t.enc ≤ _
      omega
  simp only [partsE, List.map_cons, List.map_nil, List.sum_cons, List.sum_nil, sz_str]
  omega
theorem okD_encB {b : Bk} (o : ∀ e ∈ b, okE e) : okD 300 (encB b) := fun x m => by
  obtain ⟨e, he, rfl⟩ := List.mem_map.mp m
  exact fun y hy => okD_parts 198 (o e he) y hy
theorem okD_encBL {b : Bk} (o : ∀ e ∈ b, okE e) : okD 300 (encBL b) := fun x m => by
  obtain ⟨e, he, rfl⟩ := List.mem_map.mp m
  exact fun y hy => okD_parts 198 (o e he) y hy
theorem sum_le {α : Type} (f : α → Nat) (m : Nat) : ∀ l : List α, (∀ x ∈ l, f x ≤ m) → (l.map f).sum ≤ m * l.length
  | [], _ => by simp
  | x :: r, hx => by
    have := sum_le f m r fun y q => hx y (List.mem_cons_of_mem _ q)
    have := hx x List.mem_cons_self
    simp only [List.map_cons, List.sum_cons, List.length_cons, Nat.mul_add, Nat.mul_one]
    omega
theorem sz_encB {b : Bk} (o : ∀ e ∈ b, okE e) (hl : b.length ≤ 20) : szN 300 (encB b) ≤ 200000 := by
  show 1 + ((b.map encE).map (szN 299)).sum ≤ _
  rw [List.map_map]
  have := sum_le (szN 299 ∘ encE) 8001 b fun e he => by
    show 1 + ((partsE e).map (szN 298)).sum ≤ _
    have := sz_parts 298 (o e he)
    omega
  omega
theorem sz_encBL {b : Bk} (o : ∀ e ∈ b, okE e) (hl : b.length ≤ 20) : szN 300 (encBL b) ≤ 200000 := by
  show 1 + ((b.map encEL).map (szN 299)).sum ≤ _
  rw [List.map_map]
  have := sum_le (szN 299 ∘ encEL) 8001 b fun e he => by
    show 1 + ((partsE e).map (szN 298)).sum ≤ _
    have := sz_parts 298 (o e he)
    omega
  omega
end GtS
end
section
set_option Elab.async false
set_option linter.all false
namespace GtS
open Gt
variable {ft : Nat → Option Fn} {h : Hs} {k : Nat}
theorem comp_map {α : Type} {tg : Tg} {tt : List Slot → Hs → R Bool} {b : List Slot → Hs → R T} {e : List Slot} (f : α → T) (p : α → Bool) (g : α → T) : ∀ (xs : List α) (acc : List T)
    (hb : ∀ x ∈ xs, ∃ e1, tg.put e (f x) = some e1 ∧ tt e1 h = .ok (p x) h ∧ (p x = true → b e1 h = .ok (g x) h)) (hl : acc.length + xs.length ≤ LIM), compL tg tt b e (xs.map f) acc h = .ok (acc ++ (xs.filter p).map g) h
  | [], acc, _, _ => by simp [compL]
  | x :: xs, acc, hb, hl => by
    obtain ⟨e1, h1, h2, h3⟩ := hb x List.mem_cons_self
    have hl' : acc.length + (xs.length + 1) ≤ LIM := hl
    rw [List.map_cons]
    unfold compL
    rw [h1]
    dsimp only
    rw [h2]
    show (if p x = true then _ else _) = _
    cases z : p x with
    | true =>
      rw [if_pos rfl, h3 z]
      show (if acc.length < LIM then _ else _) = _
      rw [if_pos (by omega), comp_map f p g xs (acc ++ [g x]) (fun y m => hb y (List.mem_cons_of_mem _ m)) (by simp; omega)]
      simp [z]
    | false =>
      rw [if_neg Bool.false_ne_true, comp_map f p g xs acc (fun y m => hb y (List.mem_cons_of_mem _ m)) (by omega)]
      simp [z]
theorem comp_map0 {α : Type} {tg : Tg} {tt : List Slot → Hs → R Bool} {b : List Slot → Hs → R T} {e : List Slot} (f : α → T) (p : α → Bool) (g : α → T) (xs : List α) (hb : ∀ x ∈ xs, ∃ e1, tg.put e (f x) = some e1 ∧ tt e1 h = .ok (p x) h ∧ (p x = true → b e1 h = .ok (g x) h)) (hl : xs.length ≤ LIM) : compL tg tt b e (xs.map f) [] h = .ok ((xs.filter p).map g) h := by
  rw [comp_map f p g xs [] hb (by simpa using hl)]; simp
theorem for_map {α β γ : Type} {tg : Tg} {b : List Slot → Hs → SR} (E : α → γ → List Slot) (I : α → Prop) (f : β → T) (step : α → β → α) : ∀ (xs : List β)
    (hb : ∀ a j x, x ∈ xs → I a → I (step a x) ∧ ∃ e1, tg.put (E a j) (f x) = some e1 ∧ ∃ j', b e1 h = .next (E (step a x) j') h) (a : α) (j : γ) (ha : I a), ∃ j', forL tg b (xs.map f) (E a j) h = .next (E (xs.foldl step a) j') h ∧ I (xs.foldl step a)
  | [], _, a, j, ha => ⟨j, rfl, ha⟩
  | x :: xs, hb, a, j, ha => by
    obtain ⟨i1, e1, h1, j1, h2⟩ := hb a j x List.mem_cons_self ha
    obtain ⟨j', ih, i2⟩ := for_map E I f step xs (fun a j y m => hb a j y (List.mem_cons_of_mem _ m)) (step a x) j1 i1
    refine ⟨j', ?_, i2⟩
    rw [List.map_cons]
    unfold forL
    rw [h1]
    dsimp only
    rw [h2]
    exact ih
theorem forL_app {tg : Tg} {b : List Slot → Hs → SR} {e2 : List Slot} {h2 : Hs} : ∀ (xs ys : List T) (e : List Slot) (h : Hs), forL tg b xs e h = .next e2 h2 → (∀ e h e' h', b e h ≠ .brk e' h') → forL tg b (xs ++ ys) e h = forL tg b ys e2 h2
  | [], ys, e, h, q, _ => by cases q; rfl
  | x :: xs, ys, e, h, q, nb => by
    rw [List.cons_append]
    rw [y_forL1] at q ⊢
    cases z : tg.put e x with
    | none => rw [z] at q; cases q
    | some e1 =>
      rw [z, y_item] at q
      rw [y_item]
      cases y : b e1 h with
      | next e3 h3 => rw [y] at q; exact forL_app xs ys e3 h3 q nb
      | cnt e3 h3 => rw [y] at q; exact forL_app xs ys e3 h3 q nb
      | brk e3 h3 => exact absurd y (nb _ _ _ _)
      | ret v h3 => rw [y] at q; cases q
      | exc c v h3 => rw [y] at q; cases q
      | bad => rw [y] at q; cases q
abbrev tI (n : Nat) : T := .int n
def tIs (l : List Nat) : List T := l.map tI
theorem up_from : ∀ (n lo : Nat), upL 1 n (lo : Int) = (List.range' lo n).map tI
  | 0, _ => rfl
  | n + 1, lo => by
    have := up_from n (lo + 1)
    rw [List.range'_succ, List.map_cons, ← this]
    rfl
theorem up_range (n : Nat) : upL 1 n 0 = (List.range n).map tI := by
  rw [List.range_eq_range']; exact up_from n 0
theorem down_range : ∀ (n : Nat), upL (-1) n ((n : Int) - 1) = (List.range n).reverse.map tI
  | 0 => rfl
  | n + 1 => by
    have := down_range n
    rw [List.range_succ, List.reverse_append]
    show T.int (((n + 1 : Nat) : Int) - 1) :: upL (-1) n (((n + 1 : Nat) : Int) - 1 + -1) = tI n :: (List.range n).reverse.map tI
    rw [← this]
    have e : ((n + 1 : Nat) : Int) - 1 = (n : Int) := by omega
    rw [e]
    rfl
theorem in62_nat {n : Nat} (hn : n ≤ 1000000) : in62 (n : Int) = true := in62_mk (by omega)
theorem bools_map {α : Type} (f : α → Bool) : ∀ l : List α, boolsT (l.map fun x => T.bl (f x)) = some (l.map f)
  | [] => rfl
  | x :: r => by
    show (boolsT (r.map fun x => T.bl (f x))).map _ = _
    rw [bools_map f r]; rfl
theorem all_map {α : Type} (f : α → Bool) (l : List α) : fAll h (.lst (l.map fun x => T.bl (f x))) = some (.bl (l.all f)) := by
  show (boolsT (l.map fun x => T.bl (f x))).map _ = _
  rw [bools_map]
  show some (T.bl ((l.map f).all id)) = _
  rw [List.all_map]; rfl
theorem isIn_nat (x : Nat) : ∀ B : List Nat, isIn (tI x) (tIs B) = some (decide (x ∈ B))
  | [] => rfl
  | y :: r => by
    have e : eqV (tI y) (tI x) = some (decide ((y : Int) = x)) := rfl
    have ih := isIn_nat x r
    simp only [tIs] at ih
    simp only [tIs, List.map_cons, isIn, e, ih]
    by_cases z : y = x
    · subst z; simp
    · have z' : x ≠ y := fun q => z q.symm
      have z2 : ¬ ((y : Int) = x) := by omega
      simp [z', z2]
theorem in_nat (x : Nat) (B : List Nat) : fIn h (.int x) (.tup (tIs B)) = some (.bl (decide (x ∈ B))) := by
  show (isIn (tI x) (tIs B)).map _ = _
  rw [isIn_nat]; rfl
theorem in_natL (x : Nat) (B : List Nat) : fIn h (.int x) (.lst (tIs B)) = some (.bl (decide (x ∈ B))) := by
  show (isIn (tI x) (tIs B)).map _ = _
  rw [isIn_nat]; rfl
theorem notIn_natL (x : Nat) (B : List Nat) : fNotIn h (.int x) (.lst (tIs B)) = some (.bl (!decide (x ∈ B))) := by
  show (isIn (tI x) (tIs B)).map _ = _
  rw [isIn_nat]; rfl
structure HasB (ft : Nat → Option Fn) : Prop where
  s : HasT ft
  v : HasV ft
  b1 : ft i_is_entry_value = some F_is_entry_value
  b2 : ft i_leans_within = some F_leans_within
  b3 : ft i_is_book_value = some F_is_book_value
  b4 : ft i_book_given = some F_book_given
  b5 : ft i_context_ahead = some F_context_ahead
  b6 : ft i_leaned_on = some F_leaned_on
  b7 : ft i_unders = some F_unders
  b8 : ft i_overs = some F_overs
  b9 : ft i_takes_entry = some F_takes_entry
  b10 : ft i_does_entry_stand = some F_does_entry_stand
  b11 : ft i_standing_of = some F_standing_of
  b12 : ft i_resting_on = some F_resting_on
  b13 : ft i_assumed_context = some F_assumed_context
  b14 : ft i_entry_number_given = some F_entry_number_given
  b15 : ft i_is_book = some F_is_book
  b16 : ft i_number_given = some F_number_given
  b17 : ft i_in_range = some F_in_range
  b18 : ft i_is_number = some F_is_number
theorem isNon_tm (t : Tm) : isNon t.enc = false := by cases t <;> rfl
theorem q_entry (A : HasB ft) {e : En} (hn : nameOk e.nm = true) (o : okE e) (k : Nat) (hk : 100 ≤ k) : run ft k i_is_entry_value [encE e] h = .ok (.val (.bl true)) h := by
  obtain ⟨k, rfl⟩ : ∃ j, k = j + 1 := ⟨k - 1, by omega⟩
  rw [run_pure A.b1 (by decide) rfl]
  have q1 := q_nm (h := h) A.s.s.s hn k (by omega)
  have q2 := q_good (h := h) A.s.s.s o.1 k (by omega)
  cases z : e.tm with
  | none => simp [F_is_entry_value, k_is_entry_value, mkEnv, encE, partsE, isi_tup, q1, q2, z, encT]
  | some p =>
    obtain ⟨t, s⟩ := p
    have w := o.2 t s z
    have := t.ht_kn
    have q3 := q_is_term (h := h) A.s t w.1 (by omega) k (by omega)
    simp [F_is_entry_value, k_is_entry_value, mkEnv, encE, partsE, isi_tup, q1, q2, z, encT, q3, isNon_tm]
def leansW (o : Option (Tm × Sn)) (names : List S) : Bool := match o with
  | none => true
  | some p => p.1.frs.all fun x => decide (x ∈ names)
theorem q_leansw (A : HasB ft) {o : Option (Tm × Sn)} (hw : ∀ t s, o = some (t, s) → t.wf = true ∧ t.kn ≤ 60) (names : List S) (k : Nat) (hk : 130 ≤ k) : run ft k i_leans_within [encT o, .lst (names.map .str)] h = .ok (.val (.bl (leansW o names))) h := by
  obtain ⟨k, rfl⟩ : ∃ j, k = j + 1 := ⟨k - 1, by omega⟩
  rw [run_pure A.b2 (by decide) rfl]
  cases z : o with
  | none => simp [F_leans_within, k_leans_within, mkEnv, encT, leansW]
  | some p =>
    obtain ⟨t, s⟩ := p
    have w := hw t s z
    have := t.ht_kn
    have q3 := q_free_in (h := h) A.s t w.1 (by omega) k (by omega)
    have hl : t.frs.length ≤ LIM := by
      have e : ∀ l : List S, (sortS l).length = l.length := by
        have ins : ∀ (x : S) (l : List S), (insS x l).length = l.length + 1 := by
          intro x l
          induction l with
          | nil => rfl
          | cons y r ih => unfold insS; split <;> simp [ih]
        intro l
        induction l with
        | nil => rfl
        | cons y r ih => simp [sortS, ins, ih]
      have := addF_len t [] []
      unfold Tm.frs
      rw [e]
      simp only [List.length_nil] at this
      exact le_LIM (by omega)
    have cm := comp_map0 (h := h) (tg := .one 2) (tt := tYes (run ft k)) (b := eOp2 fIn (eVar 2) (eVar 1) (run ft k)) (e := [.val t.enc, .val (.lst (names.map .str)), .un]) (fun x => T.str x) (fun _ => true) (fun x => .bl (decide (x ∈ names))) t.frs (fun x m => ⟨_, rfl, rfl, fun _ => by simp [in_strL]⟩) hl
    rw [List.filter_eq_self.mpr (fun _ _ => rfl)] at cm
    simp [F_leans_within, k_leans_within, mkEnv, encT, leansW, isNon_tm, q3, wipeE, cm, all_map]
/-- one turn of is_book_value -/
def sBook : SC := sSeq (sIf (tOr (tNot (tTru (eOwn (eCall i_is_entry_value (aCons (eVar 2) (aNil)))))) (tOr (tBl (eOp2 fIn (eOp2 fIx (eVar 2) (eK (.int 0))) (eBor 1))) (tNot (tTru (eCallB i_leans_within (aCons (eOp2 fIx (eVar 2) (eK (.int 2))) (aCons (eBor 1) (aNil)))))))) (sRet (eK (.bl false))) (sSkip)) (sOwn 1 fAppend (eOp2 fIx (eVar 2) (eK (.int 0))))
theorem book_code : k_is_book_value = sSeq (sIf (tOr (tNot (tTru (eOp1 (fIsi [.tuple]) (eVar 0)))) (tBl (eOp2 fGt (eOp1 fLen (eVar 0)) (eK c_MOST_ENTRIES)))) (sRet (eK (.bl false))) (sSkip)) (sSeq (sSetO 1 (oLst (aNil))) (sSeq (sFor (.one 2) (iSeq (eVar 0)) sBook) (sRet (eK (.bl true))))) := rfl
theorem book_turn (A : HasB ft) {e : En} (hn : nameOk e.nm = true) (o : okE e) (v : T) (names : List S) (hl : names.length ≤ 100) (k : Nat) (hk : 140 ≤ k) : sBook (run ft k) [.val v, .own (.lst (names.map .str)), .val (encE e)] h = if e.nm ∈ names ∨ leansW e.tm names = false then .ret (.val (.bl false)) h else .next [.val v, .own (.lst ((names ++ [e.nm]).map .str)), .val (encE e)] h := by
  have q1 := q_entry (h := h) A hn o k (by omega)
  have q2 := q_leansw (h := h) A o.2 names k (by omega)
  have ap : fAppend h (.lst (names.map .str)) (.str e.nm) = some (.lst (names.map T.str ++ [.str e.nm])) := app_lst (by simp; exact Nat.lt_of_le_of_lt hl (by decide))
  simp only [encE, partsE] at q1
  by_cases z : e.nm ∈ names
  · simp [sBook, encE, partsE, q1, in_strL, z]
  · cases y : leansW e.tm names with
    | false => rw [y] at q2; simp [sBook, encE, partsE, q1, in_strL, z, q2, flat]
    | true => rw [y] at q2; simp [sBook, encE, partsE, q1, in_strL, z, q2, flat, ap]
theorem GoodE.ok {b : Bk} {e : En} (g : GoodE b e) : okE e := ⟨g.sn, fun t s z => ⟨(g.tm t s z).1, (g.tm t s z).2.1⟩⟩
theorem GoodE.leans {b : Bk} {e : En} (g : GoodE b e) : leansW e.tm (nmsB b) = true := by
  cases z : e.tm with
  | none => rfl
  | some p =>
    obtain ⟨t, s⟩ := p
    have := (g.tm t s z).2.2.2
    show (t.frs.all fun x => decide (x ∈ nmsB b)) = true
    simp only [List.all_eq_true, decide_eq_true_eq]
    exact fun x m => this x ((mem_frs t x).mp m)
theorem Good.at_ {b : Bk} (g : Good b) : ∀ b1 e b2, b = b1 ++ e :: b2 → GoodE b1 e := by
  induction g with
  | nil => intro b1 e b2 z; simp at z
  | @snoc b x hb he ih =>
    intro b1 e b2 z
    rcases List.eq_nil_or_concat b2 with rfl | ⟨c, y, rfl⟩
    · have z' : b ++ [x] = b1 ++ [e] := z
      have := List.append_inj' z' rfl
      obtain ⟨rfl, q⟩ := this
      cases q
      exact he
    · rw [List.concat_eq_append, ← List.cons_append, ← List.append_assoc] at z
      have := List.append_inj' z rfl
      exact ih b1 e c this.1
theorem Good.pre {b : Bk} (g : Good b) : ∀ b1 b2, b = b1 ++ b2 → Good b1 := by
  induction g with
  | nil => intro b1 b2 z; have : b1 = [] := by simp at z; exact z.1
           subst this; exact .nil
  | @snoc b x hb he ih =>
    intro b1 b2 z
    rcases List.eq_nil_or_concat b2 with rfl | ⟨c, y, rfl⟩
    · rw [List.append_nil] at z; subst z; exact .snoc hb he
    · rw [List.concat_eq_append, ← List.append_assoc] at z
      exact ih b1 c (List.append_inj' z rfl).1
theorem book_loop (A : HasB ft) (v : T) (k : Nat) (hk : 140 ≤ k) : ∀ (b2 b1 : Bk) (s2 : Slot), Good (b1 ++ b2) → b1.length + b2.length ≤ 100 → ∃ s2', forL (.one 2) (sBook (run ft k)) (b2.map encE) [.val v, .own (.lst ((nmsB b1).map .str)), s2] h = .next [.val v, .own (.lst ((nmsB (b1 ++ b2)).map .str)), s2'] h
  | [], b1, s2, _, _ => ⟨s2, by simp⟩
  | e :: b2, b1, s2, g, hl => by
    have ge := g.at_ b1 e b2 rfl
    have hl' : b1.length + (b2.length + 1) ≤ 100 := hl
    have t := book_turn (h := h) A ge.nm ge.ok v (nmsB b1) (by simp [nmsB]; omega) k hk
    rw [if_neg (by rintro (q | q); exact ge.new q; rw [ge.leans] at q; cases q)] at t
    obtain ⟨s2', ih⟩ := book_loop A v k hk b2 (b1 ++ [e]) (.val (encE e)) (by simpa using g) (by simp; omega)
    refine ⟨s2', ?_⟩
    have n1 : nmsB (b1 ++ [e]) = nmsB b1 ++ [e.nm] := by simp [nmsB]
    rw [n1] at ih
    rw [List.map_cons, y_forL1, x_put1, y_item]
    show wTurn _ _ _ (sBook (run ft k) [.val v, .own (.lst ((nmsB b1).map .str)), .val (encE e)] h) = _
    rw [t, y_turn1, ih]
    simp
theorem sBook_nobrk (c : Call) : ∀ e h e' h', sBook c e h ≠ .brk e' h' := by
  intro e h e' h'
  simp only [sBook, x_sSeq, x_sIf, x_sOwn]
  generalize (tOr _ _ : TC) c e h = r
  cases r with
  | ok k h1 =>
    cases k with
    | true => simp only [wIf, x_sRet, wSeq]; intro q; cases q
    | false =>
      simp only [wIf, x_sSkip, wSeq, x_sOwn]
      generalize (eOp2 fIx (eVar 2) (eK (.int 0)) : EC) c e h1 = r2
      cases r2 with
      | ok t h2 =>
        show wOwn2 _ _ _ _ _ e[1]? ≠ _
        cases e[1]? with
        | none => intro q; cases q
        | some s =>
          cases s with
          | own x => show wOwn3 _ _ _ (fAppend h2 x t) ≠ _; cases fAppend h2 x t <;> (intro q; cases q)
          | _ => intro q; cases q
      | exc => intro q; cases q
      | bad => intro q; cases q
  | exc => intro q; cases q
  | bad => intro q; cases q
theorem q_is_book_value (A : HasB ft) {b : Bk} (g : Good b) (hl : b.length ≤ 12) (k : Nat) (hk : 141 ≤ k) : run ft k i_is_book_value [encB b] h = .ok (.val (.bl true)) h := by
  obtain ⟨k, rfl⟩ : ∃ j, k = j + 1 := ⟨k - 1, by omega⟩
  rw [run_pure A.b3 (by decide) rfl]
  obtain ⟨s2', e⟩ := book_loop (h := h) A (encB b) k (by omega) b [] .un (by simpa using g) (by simp; omega)
  have b2 : decide ((12 : Int) < (b.length : Int)) = false := decide_eq_false (by omega)
  simp only [encB, nmsB, List.nil_append, List.map_nil] at e
  simp [F_is_book_value, book_code, mkEnv, encB, isi_tup, c_MOST_ENTRIES, b2, e]
theorem q_book_bad (A : HasB ft) {b : Bk} (g : Good b) (hl : b.length ≤ 11) (v : T) (k : Nat) (hk : 141 ≤ k) (hv : ∀ w, sBook (run ft (k - 1)) [.val w, .own (.lst ((nmsB b).map .str)), .val v] h = .ret (.val (.bl false)) h) : run ft k i_is_book_value [.tup (b.map encE ++ [v])] h = .ok (.val (.bl false)) h := by
  obtain ⟨k, rfl⟩ : ∃ j, k = j + 1 := ⟨k - 1, by omega⟩
  rw [run_pure A.b3 (by decide) rfl]
  obtain ⟨s2', e⟩ := book_loop (h := h) A (.tup (b.map encE ++ [v])) k (by omega) b [] .un (by simpa using g) (by simp; omega)
  have b2 : decide ((12 : Int) < ((b.map encE ++ [v]).length : Int)) = false := decide_eq_false (by simp; omega)
  have t := hv (.tup (b.map encE ++ [v]))
  have fl := forL_app _ [v] _ _ e (sBook_nobrk _)
  rw [y_forL1, x_put1, y_item] at fl
  simp only [List.nil_append] at fl
  rw [show [Slot.val (.tup (b.map encE ++ [v])), .own (.lst ((nmsB b).map .str)), s2'].set 2 (.val v) = [Slot.val (.tup (b.map encE ++ [v])), .own (.lst ((nmsB b).map .str)), .val v] from rfl] at fl
  rw [show k + 1 - 1 = k from rfl] at t
  rw [t, y_turn4] at fl
  simp only [nmsB, List.map_nil] at fl
  have b3 : decide ((12 : Int) < (b.length : Int) + 1) = false := decide_eq_false (by omega)
  simp [F_is_book_value, book_code, mkEnv, isi_tup, c_MOST_ENTRIES, b3, fl]
end GtS
end
section
set_option Elab.async false
set_option linter.all false
namespace GtS
open Gt
variable {ft : Nat → Option Fn} {h : Hs} {k : Nat}
theorem cut_take {α : Type} (l : List α) (n : Nat) : cutL l none (some (n : Int)) = l.take n := by
  unfold cutL cutAt
  dsimp only
  rw [if_neg (by omega)]
  simp only [List.drop_zero, Nat.sub_zero, Int.toNat_natCast]
  rcases Nat.le_total n l.length with q | q
  · rw [Nat.min_eq_left q]
  · rw [Nat.min_eq_right q, List.take_length, List.take_of_length_le q]
theorem at_map {α : Type} (f : α → T) (l : List α) (n : Nat) : atIx (l.map f) (n : Int) = (l[n]?).map f := by
  rw [atN, List.getElem?_map]
def leanQ (b : Bk) (n k : Nat) : Bool := match b[n]?, b[k]? with
  | some e, some f => match e.tm with
    | some p => decide (f.nm ∈ p.1.fr)
    | none => false
  | _, _ => false
def leansB (b : Bk) (n : Nat) : List Nat := (List.range n).filter (leanQ b n)
theorem leansB_lt {b : Bk} {n k : Nat} (m : k ∈ leansB b n) : k < n := List.mem_range.mp (List.mem_filter.mp m).1
theorem q_ahead (A : HasB ft) (b : Bk) (n : Nat) (hl : b.length ≤ 100) (k : Nat) (hk : 1 ≤ k) : run ft k i_context_ahead [encB b, .int n] h = .ok (.val (encC (ctx (b.take n)))) h := by
  obtain ⟨k, rfl⟩ : ∃ j, k = j + 1 := ⟨k - 1, by omega⟩
  rw [run_pure A.b5 (by decide) rfl]
  have cm := comp_map0 (h := h) (tg := .many [2, 3, 4]) (tt := tYes (run ft k)) (b := eTup (aCons (eVar 2) (aCons (eVar 3) aNil)) (run ft k)) (e := [.val (encB b), .val (.int n), .un, .un, .un]) encE (fun _ => true) (fun e => pr (e.nm, e.sn)) (b.take n) (fun x m => ⟨_, rfl, rfl, fun _ => by simp [pr]⟩) (by rw [List.length_take]; exact le_LIM (by omega))
  rw [List.filter_eq_self.mpr (fun _ _ => rfl), List.map_take] at cm
  simp only [encB] at cm
  simp [F_context_ahead, k_context_ahead, mkEnv, encB, cut_take, wipeE, cm, encC, ctx, List.map_take, Function.comp_def]
theorem Good.get {b : Bk} (g : Good b) {n : Nat} {e : En} (z : b[n]? = some e) : GoodE (b.take n) e := by
  have hn : n < b.length := by
    rcases Nat.lt_or_ge n b.length with q | q
    · exact q
    · rw [List.getElem?_eq_none q] at z; cases z
  have e1 : b = b.take n ++ e :: b.drop (n + 1) := by
    rw [List.getElem?_eq_getElem hn] at z
    cases z
    rw [← List.drop_eq_getElem_cons hn, List.take_append_drop]
  exact g.at_ _ _ _ e1
theorem frs_len {t : Tm} (hk : t.kn ≤ 60) : t.frs.length ≤ LIM := by
  have e : ∀ l : List S, (sortS l).length = l.length := by
    have ins : ∀ (x : S) (l : List S), (insS x l).length = l.length + 1 := by
      intro x l
      induction l with
      | nil => rfl
      | cons y r ih => unfold insS; split <;> simp [ih]
    intro l
    induction l with
    | nil => rfl
    | cons y r ih => simp [sortS, ins, ih]
  have := addF_len t [] []
  unfold Tm.frs
  rw [e]
  simp only [List.length_nil] at this
  exact le_LIM (by omega)
theorem r1_nat {n : Nat} (hn : n ≤ 1000000) : wR1 (.ok (.int (n : Int)) h) = .ok ((List.range n).map tI) h := by
  rw [y_r1, if_pos (in62_nat hn), Int.toNat_natCast, up_range]
theorem r3_nat {n : Nat} (hn : n ≤ 1000000) : wR3b (.int ((n : Int) - 1)) (.ok (.int (-1)) h) = .ok ((List.range n).reverse.map tI) h := by
  have c : (in62 ((n : Int) - 1) && in62 (-1)) = true := by
    rw [in62_mk (by omega), in62_mk (by omega)]; rfl
  have t : ((n : Int) - 1 - -1).toNat = n := by omega
  rw [y_r3b, if_pos c, t, down_range]
theorem getE {b : Bk} {n : Nat} (hn : n < b.length) : ∃ e, b[n]? = some e := ⟨b[n], List.getElem?_eq_getElem hn⟩
theorem q_leaned (A : HasB ft) {b : Bk} (g : Good b) (hl : b.length ≤ 100) (n : Nat) (hn : n < b.length) (k : Nat) (hk : 130 ≤ k) : run ft k i_leaned_on [encB b, .int n] h = .ok (.val (.tup (tIs (leansB b n)))) h := by
  obtain ⟨k, rfl⟩ : ∃ j, k = j + 1 := ⟨k - 1, by omega⟩
  rw [run_pure A.b6 (by decide) rfl]
  obtain ⟨e, he⟩ := getE hn
  have ge := g.get he
  cases z : e.tm with
  | none =>
    have : leansB b n = [] := by
      unfold leansB
      rw [List.filter_eq_nil_iff]
      intro x _
      simp only [leanQ, he]
      cases b[x]? with
      | none => simp
      | some f => simp [z]
    rw [this]
    simp [F_leaned_on, k_leaned_on, mkEnv, encB, at_map, he, encE, partsE, z, encT, tIs]
  | some p =>
    obtain ⟨t, s⟩ := p
    have w := ge.tm t s z
    have := t.ht_kn
    have q3 := q_free_in (h := h) A.s t w.1 (by omega) k (by omega)
    have cm := comp_map0 (h := h) (tg := .one 4) (tt := tBl (eOp2 fIn (eOp2 fIx (eOp2 fIx (eVar 0) (eVar 4)) (eK (.int 0))) (eVar 3)) (run ft k)) (b := eVar 4 (run ft k)) (e := [.val (encB b), .val (.int n), .val t.enc, .val (.tup (t.frs.map .str)), .un]) tI (leanQ b n) tI (List.range n) (fun x m => ⟨_, rfl, by
      have hx : x < b.length := by have := List.mem_range.mp m; omega
      obtain ⟨f, hf⟩ := getE hx
      have : leanQ b n x = decide (f.nm ∈ t.frs) := by
        simp only [leanQ, he, z, hf]
        by_cases q : f.nm ∈ t.fr
        · rw [decide_eq_true q, decide_eq_true ((mem_frs t _).mpr q)]
        · rw [decide_eq_false q, decide_eq_false (fun y => q ((mem_frs t _).mp y))]
      simp [encB, at_map, hf, encE, partsE, in_str, this], fun _ => by simp⟩) (by rw [List.length_range]; exact le_LIM (by omega))
    have r1 := r1_nat (h := h) (n := n) (by omega)
    simp only [encB] at cm
    simp [F_leaned_on, k_leaned_on, mkEnv, encB, at_map, he, encE, partsE, z, encT, isNon_tm, q3, -y_r1, r1, wipeE, cm, tIs, leansB]
abbrev Pr := Nat → Bool
def stepU (b : Bk) (P : Pr) (k : Nat) : Pr := if P k = true then fun x => P x || decide (x ∈ leansB b k) else P
def PU (b : Bk) (n : Nat) : Pr := (List.range n).reverse.foldl (stepU b) (fun x => decide (x ∈ leansB b n))
def undersB (b : Bk) (n : Nat) : List Nat := (List.range b.length).filter (PU b n)
def mks (L : Nat) (P : Pr) : List T := (List.range L).map fun x => .bl (P x)
theorem mks_set (L : Nat) (P : Pr) (n : Nat) : (mks L P).set n (.bl true) = mks L fun x => P x || decide (x = n) := by
  apply List.ext_getElem?
  intro i
  unfold mks
  rw [List.getElem?_map]
  by_cases z : n = i
  · subst z
    by_cases y : n < L
    · rw [List.getElem?_set_self (by simpa using y)]; simp [y]
    · rw [List.getElem?_eq_none (by simp; omega), List.getElem?_eq_none (by simp; omega)]; rfl
  · have z' : ¬ i = n := fun q => z q.symm
    rw [List.getElem?_set_ne z, List.getElem?_map]
    by_cases q : i < L
    · rw [List.getElem?_range q]; simp [z']
    · rw [List.getElem?_eq_none (by simp; omega)]; rfl
theorem mks_at {L : Nat} {P : Pr} {n : Nat} (hn : n < L) : atIx (mks L P) (n : Int) = some (.bl (P n)) := by
  unfold mks
  rw [at_map]
  simp [hn]
theorem ixOf_nat {n L : Nat} (hn : n < L) : ixOf L (n : Int) = some n := by
  unfold ixOf
  rw [if_pos (by omega), if_pos (by omega)]
  simp
end GtS
end
section
set_option Elab.async false
set_option linter.all false
namespace GtS
open Gt
variable {ft : Nat → Option Fn} {h : Hs} {k : Nat}
theorem fold_mark (b : Bk) (k : Nat) (l : List Nat) : ∀ P : Pr, l.foldl (fun (P : Pr) m x => P x || decide (x = m)) P = fun x => P x || decide (x ∈ l) := by
  induction l with
  | nil => intro P; simp
  | cons y r ih =>
    intro P
    rw [List.foldl_cons, ih]
    funext x
    simp [Bool.or_assoc]
def uE (b : Bk) (n : Nat) (P : Pr) (j : Slot × Slot × Slot) : List Slot := [.val (encB b), .val (.int n), .own (.lst (mks b.length P)), j.1, j.2.1, j.2.2]
theorem q_unders (A : HasB ft) {b : Bk} (g : Good b) (hl : b.length ≤ 100) (n : Nat) (hn : n < b.length) (k : Nat) (hk : 131 ≤ k) : run ft k i_unders [encB b, .int n] h = .ok (.val (.tup (tIs (undersB b n)))) h := by
  obtain ⟨k, rfl⟩ : ∃ j, k = j + 1 := ⟨k - 1, by omega⟩
  rw [run_pure A.b7 (by decide) rfl]
  have q0 := q_leaned (h := h) A g hl n hn k (by omega)
  have cm := comp_map0 (h := h) (tg := .one 5) (tt := tYes (run ft k)) (b := eK (.bl false) (run ft k)) (e := [.val (encB b), .val (.int n), .un, .un, .un, .un]) encE (fun _ => true) (fun _ => .bl false) b (fun x m => ⟨_, rfl, rfl, fun _ => rfl⟩) (le_LIM (by omega))
  rw [List.filter_eq_self.mpr (fun _ _ => rfl)] at cm
  have mk0 : b.map (fun _ => T.bl false) = mks b.length fun _ => false := by
    unfold mks
    apply List.ext_getElem?
    intro i
    rw [List.getElem?_map, List.getElem?_map]
    by_cases q : i < b.length
    · rw [List.getElem?_range q, List.getElem?_eq_getElem q]; rfl
    · rw [List.getElem?_eq_none (by omega), List.getElem?_eq_none (by simp; omega)]; rfl
  rw [mk0] at cm
  obtain ⟨j1, l1, _⟩ := for_map (tg := .one 3) (b := sPut 2 (eVar 3) (eK (.bl true)) (run ft k)) (h := h) (uE b n) (fun _ => True) tI (fun (P : Pr) m x => P x || decide (x = m)) (leansB b n) (fun P j x m _ => ⟨trivial, _, rfl, (.val (tI x), j.2.1, j.2.2), by
    have := leansB_lt m
    simp [uE, ixOf_nat (n := x) (L := (mks b.length P).length) (by simp [mks]; omega), mks_set]⟩) (fun _ => false) (.un, .un, .un) trivial
  rw [fold_mark b n] at l1
  obtain ⟨j2, l2, _⟩ := for_map (tg := .one 3) (b := sIf (tTru (eOp2 fIx (eBor 2) (eVar 3))) (sFor (.one 4) (iSeq (eOwn (eCall i_leaned_on (aCons (eVar 0) (aCons (eVar 3) (aNil)))))) (sPut 2 (eVar 4) (eK (.bl true)))) (sSkip) (run ft k)) (h := h) (uE b n) (fun _ => True) tI (stepU b) (List.range n).reverse (fun P j x m _ => ⟨trivial, _, rfl, by
    have hx : x < n := by simpa using m
    have q1 := q_leaned (h := h) A g hl x (by omega) k (by omega)
    have ma := mks_at (P := P) (show x < b.length by omega)
    cases z : P x with
    | false =>
      rw [z] at ma
      have e : stepU b P x = P := by unfold stepU; rw [z]; rfl
      refine ⟨(.val (tI x), j.2.1, j.2.2), ?_⟩
      rw [e]
      simp [uE, ma]
    | true =>
      rw [z] at ma
      have e : stepU b P x = fun y => P y || decide (y ∈ leansB b x) := by unfold stepU; rw [z]; rfl
      obtain ⟨j3, l3, _⟩ := for_map (tg := .one 4) (b := sPut 2 (eVar 4) (eK (.bl true)) (run ft k)) (h := h) (uE b n) (fun _ => True) tI (fun (P : Pr) m x => P x || decide (x = m)) (leansB b x) (fun P j y m _ => ⟨trivial, _, rfl, (j.1, .val (tI y), j.2.2), by
        have := leansB_lt m
        simp [uE, ixOf_nat (n := y) (L := (mks b.length P).length) (by simp [mks]; omega), mks_set]⟩) P (.val (tI x), j.2.1, j.2.2) trivial
      rw [fold_mark b n] at l3
      refine ⟨j3, ?_⟩
      rw [e]
      simp only [uE, encB] at l3 q1
      simp [uE, ma, encB, q1]
      exact l3⟩) (fun x => false || decide (x ∈ leansB b n)) j1 trivial
  have e0 : (fun x => false || decide (x ∈ leansB b n)) = fun x => decide (x ∈ leansB b n) := by funext x; simp
  rw [e0] at l1 l2
  have r3 := r3_nat (h := h) (n := n) (by omega)
  have r1 := r1_nat (h := h) (n := b.length) (by omega)
  have c2 := comp_map0 (h := h) (tg := .one 3) (tt := tTru (eOp2 fIx (eBor 2) (eVar 3)) (run ft k)) (b := eVar 3 (run ft k)) (e := [.val (encB b), .val (.int n), .own (.lst (mks b.length (PU b n))), .un, j2.2.1, j2.2.2]) tI (PU b n) tI (List.range b.length) (fun x m => ⟨_, rfl, by
    have hx : x < b.length := List.mem_range.mp m
    simp [mks_at hx], fun _ => by simp⟩) (by rw [List.length_range]; exact le_LIM (by omega))
  have l2' : forL (Tg.one 3) ((sIf (tTru (eOp2 fIx (eBor 2) (eVar 3))) (sFor (Tg.one 4) (iSeq (eOwn (eCall i_leaned_on (aCons (eVar 0) (aCons (eVar 3) aNil))))) (sPut 2 (eVar 4) (eK (T.bl true)))) sSkip) (run ft k)) (List.map tI (List.range n).reverse) (uE b n (fun x => decide (x ∈ leansB b n)) j1) h = .next (uE b n (PU b n) j2) h := l2
  simp only [uE, encB] at l1 l2' q0 c2 cm
  simp [F_unders, k_unders, mkEnv, encB, wipeE, cm, q0, tIs]
  simp only [tIs] at q0
  rw [l1]
  simp [-y_r3b, -List.map_reverse, r3, l2', -y_r1, r1, wipeE, c2, undersB, tIs]
theorem undersB_lt {b : Bk} {n k : Nat} (m : k ∈ undersB b n) : k < b.length := List.mem_range.mp (List.mem_filter.mp m).1
def oversB (b : Bk) (n : Nat) : List Nat := (List.range b.length).filter fun k => decide (n ∈ undersB b k)
theorem q_overs (A : HasB ft) {b : Bk} (g : Good b) (hl : b.length ≤ 100) (n : Nat) (k : Nat) (hk : 132 ≤ k) : run ft k i_overs [encB b, .int n] h = .ok (.val (.tup (tIs (oversB b n)))) h := by
  obtain ⟨k, rfl⟩ : ∃ j, k = j + 1 := ⟨k - 1, by omega⟩
  rw [run_pure A.b8 (by decide) rfl]
  have r1 := r1_nat (h := h) (n := b.length) (by omega)
  have cm := comp_map0 (h := h) (tg := .one 2) (tt := tBl (eOp2 fIn (eVar 1) (eOwn (eCall i_unders (aCons (eVar 0) (aCons (eVar 2) (aNil)))))) (run ft k)) (b := eVar 2 (run ft k)) (e := [.val (encB b), .val (.int n), .un]) tI (fun k => decide (n ∈ undersB b k)) tI (List.range b.length) (fun x m => ⟨_, rfl, by
    have hx : x < b.length := List.mem_range.mp m
    have q := q_unders (h := h) A g hl x hx k (by omega)
    simp [q, in_nat], fun _ => by simp⟩) (by rw [List.length_range]; exact le_LIM (by omega))
  simp only [encB] at cm
  simp [F_overs, k_overs, mkEnv, encB, wipeE, -y_r1, r1, cm, tIs, oversB]
def takenB (b : Bk) (n : Nat) : Bool := match b[n]? with
  | some e => (match e.tm with
    | some p => decide (p.2 = e.sn)
    | none => true)
  | none => false
theorem look_mem : ∀ (c : Cn) (l : S) (s : Sn), lookC c l = some s → (l, s) ∈ c
  | [], _, _, e => by cases e
  | p :: r, l, s, e => by
    unfold lookC at e
    by_cases z : p.1 = l
    · rw [if_pos z] at e; cases e; subst z; exact List.mem_cons_self
    · rw [if_neg z] at e; exact List.mem_cons_of_mem _ (look_mem r l s e)
theorem ctx_small {b : Bk} (g : Good b) : (lookR (ctx b)).small := fun l s e => by
  have := look_mem _ _ _ e
  obtain ⟨x, hx, z⟩ := List.mem_map.mp this
  cases z
  have := good_ok (g.all x hx).2.1
  omega
theorem take_good {b : Bk} (g : Good b) (n : Nat) : Good (b.take n) := g.pre _ _ (List.take_append_drop n b).symm
theorem tm_small {b : Bk} (g : Good b) {n : Nat} {e : En} (he : b[n]? = some e) {t : Tm} {s : Sn} (z : e.tm = some (t, s)) : s.deep ≤ 60 := ((g.get he).tm t s z).2.2.1.small (ctx_small (take_good g n))
theorem q_takes (A : HasB ft) {b : Bk} (g : Good b) (hl : b.length ≤ 100) (n : Nat) (hn : n < b.length) (k : Nat) (hk : 155 ≤ k) : run ft k i_takes_entry [encB b, .int n] h = .ok (.val (.bl (takenB b n))) h := by
  obtain ⟨k, rfl⟩ : ∃ j, k = j + 1 := ⟨k - 1, by omega⟩
  rw [run_pure A.b9 (by decide) rfl]
  obtain ⟨e, he⟩ := getE hn
  have ge := g.get he
  have ti : atIx (b.map encE) (n : Int) = some (.tup [.str e.nm, e.sn.enc, encT e.tm]) := by rw [at_map, he]; rfl
  cases z : e.tm with
  | none =>
    have : takenB b n = true := by simp [takenB, he, z]
    rw [this]
    simp [F_takes_entry, k_takes_entry, mkEnv, encB, ti, z, encT]
  | some p =>
    obtain ⟨t, s⟩ := p
    have w := ge.tm t s z
    have ht := t.ht_kn
    have sm := ctx_small (take_good g n)
    have q1 := q_ahead (h := h) A b n hl k (by omega)
    have q2 := q_bears (h := h) A.s.s (ctx (b.take n)) w.2.2.1 sm (by simp [ctx]; omega) k (by omega)
    have hs := w.2.2.1.small sm
    have hd := good_ok ge.sn
    have q3 := eq_enc (h := h) (s := s) (t := e.sn) (by omega) (by omega)
    have : takenB b n = decide (s = e.sn) := by simp [takenB, he, z]
    rw [this]
    simp only [encB] at q1
    simp [F_takes_entry, k_takes_entry, mkEnv, encB, ti, z, encT, isNon_tm, q1, q2, q3]
def standB (b : Bk) (n : Nat) : Bool := takenB b n && (undersB b n).all (takenB b)
theorem q_stand (A : HasB ft) {b : Bk} (g : Good b) (hl : b.length ≤ 100) (n : Nat) (hn : n < b.length) (k : Nat) (hk : 156 ≤ k) : run ft k i_does_entry_stand [encB b, .int n] h = .ok (.val (.bl (standB b n))) h := by
  obtain ⟨k, rfl⟩ : ∃ j, k = j + 1 := ⟨k - 1, by omega⟩
  rw [run_pure A.b10 (by decide) rfl]
  have q1 := q_takes (h := h) A g hl n hn k (by omega)
  have q2 := q_unders (h := h) A g hl n hn k (by omega)
  have ul : (undersB b n).length ≤ LIM := by
    have := List.length_filter_le (PU b n) (List.range b.length)
    rw [List.length_range] at this
    exact le_LIM (by unfold undersB; omega)
  have cm := comp_map0 (h := h) (tg := .one 2) (tt := tYes (run ft k)) (b := eOwn (eCall i_takes_entry (aCons (eVar 0) (aCons (eVar 2) (aNil)))) (run ft k)) (e := [.val (encB b), .val (.int n), .un]) tI (fun _ => true) (fun x => .bl (takenB b x)) (undersB b n) (fun x m => ⟨_, rfl, rfl, fun _ => by
    have q := q_takes (h := h) A g hl x (undersB_lt m) k (by omega)
    simp [q]⟩) ul
  rw [List.filter_eq_self.mpr (fun _ _ => rfl)] at cm
  cases z : takenB b n with
  | false =>
    rw [z] at q1
    have : standB b n = false := by simp [standB, z]
    rw [this]
    simp only [encB] at q1
    simp [F_does_entry_stand, k_does_entry_stand, mkEnv, encB, q1]
  | true =>
    rw [z] at q1
    have : standB b n = (undersB b n).all (takenB b) := by simp [standB, z]
    rw [this]
    simp only [encB, tIs] at q1 q2 cm
    simp [F_does_entry_stand, k_does_entry_stand, mkEnv, encB, q1, q2, wipeE, cm, all_map]
def standsB (b : Bk) : List Nat := (List.range b.length).filter (standB b)
theorem q_standing (A : HasB ft) {b : Bk} (g : Good b) (hl : b.length ≤ 100) (k : Nat) (hk : 157 ≤ k) : run ft k i_standing_of [encB b] h = .ok (.val (.tup (tIs (standsB b)))) h := by
  obtain ⟨k, rfl⟩ : ∃ j, k = j + 1 := ⟨k - 1, by omega⟩
  rw [run_pure A.b11 (by decide) rfl]
  have r1 := r1_nat (h := h) (n := b.length) (by omega)
  have cm := comp_map0 (h := h) (tg := .one 1) (tt := tTru (eOwn (eCall i_does_entry_stand (aCons (eVar 0) (aCons (eVar 1) (aNil))))) (run ft k)) (b := eVar 1 (run ft k)) (e := [.val (encB b), .un]) tI (standB b) tI (List.range b.length) (fun x m => ⟨_, rfl, by
    have hx : x < b.length := List.mem_range.mp m
    have q := q_stand (h := h) A g hl x hx k (by omega)
    simp [q], fun _ => by simp⟩) (by rw [List.length_range]; exact le_LIM (by omega))
  simp only [encB] at cm
  simp [F_standing_of, k_standing_of, mkEnv, encB, wipeE, -y_r1, r1, cm, tIs, standsB]
def assB (b : Bk) (n : Nat) : Bool := match b[n]? with
  | some e => e.tm.isNone
  | none => false
def restsB (b : Bk) (n : Nat) : List Nat := (List.range (n + 1)).filter fun k => assB b k && (decide (k = n) || decide (k ∈ undersB b n))
theorem isNon_encT (o : Option (Tm × Sn)) : isNon (encT o) = o.isNone := by
  cases o with
  | none => rfl
  | some p => exact isNon_tm p.1
theorem q_resting (A : HasB ft) {b : Bk} (g : Good b) (hl : b.length ≤ 100) (n : Nat) (hn : n < b.length) (k : Nat) (hk : 132 ≤ k) : run ft k i_resting_on [encB b, .int n] h = .ok (.val (.tup (tIs (restsB b n)))) h := by
  obtain ⟨k, rfl⟩ : ∃ j, k = j + 1 := ⟨k - 1, by omega⟩
  rw [run_pure A.b12 (by decide) rfl]
  have r1 : wR1 (.ok (.int ((n : Int) + 1)) h) = _ := r1_nat (h := h) (n := n + 1) (by omega)
  have q2 := q_unders (h := h) A g hl n hn k (by omega)
  have cm := comp_map0 (h := h) (tg := .one 2) (tt := tAnd (tBl (eOp2 fIs (eOp2 fIx (eOp2 fIx (eVar 0) (eVar 2)) (eK (.int 2))) (eK .non))) (tOr (tBl (eOp2 fEq (eVar 2) (eVar 1))) (tBl (eOp2 fIn (eVar 2) (eOwn (eCall i_unders (aCons (eVar 0) (aCons (eVar 1) (aNil)))))))) (run ft k)) (b := eVar 2 (run ft k)) (e := [.val (encB b), .val (.int n), .un]) tI (fun k => assB b k && (decide (k = n) || decide (k ∈ undersB b n))) tI (List.range (n + 1)) (fun x m => ⟨_, rfl, by
    have hx : x < b.length := by have := List.mem_range.mp m; omega
    obtain ⟨e, he⟩ := getE hx
    have ti : atIx (b.map encE) (x : Int) = some (.tup [.str e.nm, e.sn.enc, encT e.tm]) := by rw [at_map, he]; rfl
    have as : assB b x = e.tm.isNone := by simp [assB, he]
    have en : decide ((x : Int) = (n : Int)) = decide (x = n) := by
      by_cases q : x = n
      · rw [decide_eq_true q, decide_eq_true (by omega)]
      · rw [decide_eq_false q, decide_eq_false (by omega)]
    simp only [encB] at q2
    cases z : e.tm with
    | none =>
      rw [z] at as ti
      by_cases q : x = n
      · subst q; simp [encB, ti, encT, as]
      · simp [encB, ti, encT, as, q, en, q2, in_nat]
    | some p =>
      rw [z] at as ti
      simp [encB, ti, encT, isNon_tm, as], fun _ => by simp⟩) (by rw [List.length_range]; exact le_LIM (by omega))
  simp only [encB] at cm
  simp [F_resting_on, k_resting_on, mkEnv, encB, wipeE, -y_r1, r1, cm, tIs, restsB]
def assCtx (b : Bk) : Cn := (b.filter fun e => e.tm.isNone).map fun e => (e.nm, e.sn)
theorem q_assumed (A : HasB ft) (b : Bk) (hl : b.length ≤ 100) (k : Nat) (hk : 1 ≤ k) : run ft k i_assumed_context [encB b] h = .ok (.val (encC (assCtx b))) h := by
  obtain ⟨k, rfl⟩ : ∃ j, k = j + 1 := ⟨k - 1, by omega⟩
  rw [run_pure A.b13 (by decide) rfl]
  have cm := comp_map0 (h := h) (tg := .many [1, 2, 3]) (tt := tBl (eOp2 fIs (eVar 3) (eK .non)) (run ft k)) (b := eTup (aCons (eVar 1) (aCons (eVar 2) aNil)) (run ft k)) (e := [.val (encB b), .un, .un, .un]) encE (fun e => e.tm.isNone) (fun e => pr (e.nm, e.sn)) b (fun x m => ⟨_, rfl, by simp [isNon_encT], fun _ => by simp [pr]⟩) (le_LIM (by omega))
  simp only [encB] at cm
  simp [F_assumed_context, k_assumed_context, mkEnv, encB, wipeE, cm, encC, assCtx, Function.comp_def]
end GtS
end
section
set_option Elab.async false
set_option linter.all false
namespace GtS
open Gt
variable {ft : Nat → Option Fn} {h : Hs} {k : Nat}
structure HasP (ft : Nat → Option Fn) : Prop where
  b : HasB ft
  p1 : ft i_context_of = some F_context_of
  p2 : ft i_leans_on = some F_leans_on
  p3 : ft i_under = some F_under
  p4 : ft i_over = some F_over
  p5 : ft i_is_taken = some F_is_taken
  p6 : ft i_standing = some F_standing
  p7 : ft i_rests_on = some F_rests_on
  p8 : ft i_is_sound = some F_is_sound
  p9 : ft i_first_not_taken = some F_first_not_taken
  p10 : ft i_assumptions = some F_assumptions
theorem Good.okE {b : Bk} (g : Good b) : ∀ e ∈ b, okE e := fun e m => ⟨(g.all e m).2.1, (g.all e m).2.2⟩
theorem q_number_given (A : HasB ft) (n hi : Nat) (hn : n ≤ hi) (a : T) (k : Nat) (hk : 3 ≤ k) : run ft k i_number_given [.int n, .int 0, .int hi, a] h = .ok (.val (.int n)) h := by
  obtain ⟨k, rfl⟩ : ∃ j, k = j + 1 + 1 + 1 := ⟨k - 3, by omega⟩
  have q1 : run ft (k + 1) i_is_number [.int n] h = .ok (.val (.bl true)) h := by
    rw [run_pure A.b18 (by decide) rfl]
    have i1 : fIsi [.int] h (.int n) = some (.bl true) := rfl
    have i2 : fIsi [.bool] h (.int n) = some (.bl false) := rfl
    simp [F_is_number, k_is_number, mkEnv, i1, i2]
  have q2 : run ft (k + 1 + 1) i_in_range [.int n, .int 0, .int hi] h = .ok (.val (.bl true)) h := by
    rw [run_pure A.b17 (by decide) rfl]
    have d1 : decide ((0 : Int) ≤ (n : Int)) = true := decide_eq_true (by omega)
    have d2 : decide ((n : Int) ≤ (hi : Int)) = true := decide_eq_true (by omega)
    simp [F_in_range, k_in_range, mkEnv, q1, d1, d2]
    omega
  rw [run_pure A.b16 (by decide) rfl]
  simp [F_number_given, k_number_given, mkEnv, q2]
theorem q_entry_number (A : HasB ft) (b : Bk) (n : Nat) (hn : n < b.length) (a : T) (k : Nat) (hk : 4 ≤ k) : run ft k i_entry_number_given [encB b, .int n, a] h = .ok (.val (.int n)) h := by
  obtain ⟨k, rfl⟩ : ∃ j, k = j + 1 := ⟨k - 1, by omega⟩
  rw [run_pure A.b14 (by decide) rfl]
  have q := q_number_given (h := h) A n (b.length - 1) (by omega) a k (by omega)
  have e : ((b.length - 1 : Nat) : Int) = (b.length : Int) - 1 := by omega
  rw [e] at q
  simp [F_entry_number_given, k_entry_number_given, mkEnv, encB, q]
structure IsBk (v : T) (b : Bk) : Prop where
  ok : okD 300 v
  sz : szN 300 v ≤ 200000
  frz : frzN 300 v = encB b
theorem isBk_t {b : Bk} (g : Good b) (hl : b.length ≤ 12) : IsBk (encB b) b := ⟨okD_encB g.okE, sz_encB g.okE (by omega), frz_encB 300 b⟩
theorem isBk_l {b : Bk} (g : Good b) (hl : b.length ≤ 12) : IsBk (encBL b) b := ⟨okD_encBL g.okE, sz_encBL g.okE (by omega), frz_encBL 298 b⟩
theorem q_book_given (A : HasB ft) {v : T} {b : Bk} (i : IsBk v b) (g : Good b) (hl : b.length ≤ 12) (a : T) (k : Nat) (hk : 142 ≤ k) : run ft k i_book_given [v, a] h = .ok (.val (encB b)) h := by
  obtain ⟨k, rfl⟩ : ∃ j, k = j + 1 := ⟨k - 1, by omega⟩
  rw [run_pure A.b4 (by decide) rfl]
  have q1 := q_handed (h := h) A.v v 300 i.ok (by omega) (by have := i.sz; omega) k (by omega)
  rw [i.frz] at q1
  have q2 := q_is_book_value (h := h) A g hl k (by omega)
  simp [F_book_given, k_book_given, mkEnv, q1, q2]
theorem q_is_book (A : HasB ft) {v : T} (ok : okD 300 v) (sz : szN 300 v ≤ 200000) {r : Bool} (k : Nat) (hk : 142 ≤ k) (hr : run ft (k - 1) i_is_book_value [frzN 300 v] h = .ok (.val (.bl r)) h) : run ft k i_is_book [v] h = .ok (.val (.bl r)) h := by
  obtain ⟨k, rfl⟩ : ∃ j, k = j + 1 := ⟨k - 1, by omega⟩
  rw [run_pure A.b15 (by decide) rfl]
  have q1 := q_handed (h := h) A.v v 300 ok (by omega) (by omega) k (by omega)
  rw [show k + 1 - 1 = k from rfl] at hr
  simp [F_is_book, k_is_book, mkEnv, q1, hr]
theorem q_context_of (A : HasP ft) {b : Bk} (g : Good b) (hl : b.length ≤ 12) (n : Nat) (hn : n ≤ b.length) (k : Nat) (hk : 160 ≤ k) : run ft k i_context_of [encB b, .int n] h = .ok (.val (encC (ctx (b.take n)))) h := by
  obtain ⟨k, rfl⟩ : ∃ j, k = j + 1 := ⟨k - 1, by omega⟩
  rw [run_pure A.p1 (by decide) rfl]
  have q1 := q_book_given (h := h) A.b (isBk_t g hl) g hl (.int 1) k (by omega)
  have q2 := q_number_given (h := h) A.b n b.length hn (.int 2) k (by omega)
  have q3 := q_ahead (h := h) A.b b n (by omega) k (by omega)
  simp only [encB] at q1 q2 q3
  simp [F_context_of, k_context_of, mkEnv, encB, q1, q2, q3]
theorem q_leans_on (A : HasP ft) {b : Bk} (g : Good b) (hl : b.length ≤ 12) (n : Nat) (hn : n < b.length) (k : Nat) (hk : 160 ≤ k) : run ft k i_leans_on [encB b, .int n] h = .ok (.val (.tup (tIs (leansB b n)))) h := by
  obtain ⟨k, rfl⟩ : ∃ j, k = j + 1 := ⟨k - 1, by omega⟩
  rw [run_pure A.p2 (by decide) rfl]
  have q1 := q_book_given (h := h) A.b (isBk_t g hl) g hl (.int 1) k (by omega)
  have q2 := q_entry_number (h := h) A.b b n hn (.int 2) k (by omega)
  have q3 := q_leaned (h := h) A.b g (by omega) n hn k (by omega)
  simp only [encB] at q1 q2 q3
  simp [F_leans_on, k_leans_on, mkEnv, encB, q1, q2, q3]
theorem q_under (A : HasP ft) {b : Bk} (g : Good b) (hl : b.length ≤ 12) (n : Nat) (hn : n < b.length) (k : Nat) (hk : 160 ≤ k) : run ft k i_under [encB b, .int n] h = .ok (.val (.tup (tIs (undersB b n)))) h := by
  obtain ⟨k, rfl⟩ : ∃ j, k = j + 1 := ⟨k - 1, by omega⟩
  rw [run_pure A.p3 (by decide) rfl]
  have q1 := q_book_given (h := h) A.b (isBk_t g hl) g hl (.int 1) k (by omega)
  have q2 := q_entry_number (h := h) A.b b n hn (.int 2) k (by omega)
  have q3 := q_unders (h := h) A.b g (by omega) n hn k (by omega)
  simp only [encB] at q1 q2 q3
  simp [F_under, k_under, mkEnv, encB, q1, q2, q3]
theorem q_over (A : HasP ft) {b : Bk} (g : Good b) (hl : b.length ≤ 12) (n : Nat) (hn : n < b.length) (k : Nat) (hk : 160 ≤ k) : run ft k i_over [encB b, .int n] h = .ok (.val (.tup (tIs (oversB b n)))) h := by
  obtain ⟨k, rfl⟩ : ∃ j, k = j + 1 := ⟨k - 1, by omega⟩
  rw [run_pure A.p4 (by decide) rfl]
  have q1 := q_book_given (h := h) A.b (isBk_t g hl) g hl (.int 1) k (by omega)
  have q2 := q_entry_number (h := h) A.b b n hn (.int 2) k (by omega)
  have q3 := q_overs (h := h) A.b g (by omega) n k (by omega)
  simp only [encB] at q1 q2 q3
  simp [F_over, k_over, mkEnv, encB, q1, q2, q3]
theorem q_is_taken (A : HasP ft) {b : Bk} (g : Good b) (hl : b.length ≤ 12) (n : Nat) (hn : n < b.length) (k : Nat) (hk : 160 ≤ k) : run ft k i_is_taken [encB b, .int n] h = .ok (.val (.bl (takenB b n))) h := by
  obtain ⟨k, rfl⟩ : ∃ j, k = j + 1 := ⟨k - 1, by omega⟩
  rw [run_pure A.p5 (by decide) rfl]
  have q1 := q_book_given (h := h) A.b (isBk_t g hl) g hl (.int 1) k (by omega)
  have q2 := q_entry_number (h := h) A.b b n hn (.int 2) k (by omega)
  have q3 := q_takes (h := h) A.b g (by omega) n hn k (by omega)
  simp only [encB] at q1 q2 q3
  simp [F_is_taken, k_is_taken, mkEnv, encB, q1, q2, q3]
theorem q_standing_api (A : HasP ft) {b : Bk} (g : Good b) (hl : b.length ≤ 12) (k : Nat) (hk : 160 ≤ k) : run ft k i_standing [encB b] h = .ok (.val (.tup (tIs (standsB b)))) h := by
  obtain ⟨k, rfl⟩ : ∃ j, k = j + 1 := ⟨k - 1, by omega⟩
  rw [run_pure A.p6 (by decide) rfl]
  have q1 := q_book_given (h := h) A.b (isBk_t g hl) g hl (.int 1) k (by omega)
  have q3 := q_standing (h := h) A.b g (by omega) k (by omega)
  simp only [encB] at q1 q3
  simp [F_standing, k_standing, mkEnv, encB, q1, q3]
theorem q_rests_on (A : HasP ft) {b : Bk} (g : Good b) (hl : b.length ≤ 12) (n : Nat) (hn : n < b.length) (k : Nat) (hk : 160 ≤ k) : run ft k i_rests_on [encB b, .int n] h = .ok (.val (.tup (tIs (restsB b n)))) h := by
  obtain ⟨k, rfl⟩ : ∃ j, k = j + 1 := ⟨k - 1, by omega⟩
  rw [run_pure A.p7 (by decide) rfl]
  have q1 := q_book_given (h := h) A.b (isBk_t g hl) g hl (.int 1) k (by omega)
  have q2 := q_entry_number (h := h) A.b b n hn (.int 2) k (by omega)
  have q3 := q_resting (h := h) A.b g (by omega) n hn k (by omega)
  simp only [encB] at q1 q2 q3
  simp [F_rests_on, k_rests_on, mkEnv, encB, q1, q2, q3]
theorem q_assumptions (A : HasP ft) {b : Bk} (g : Good b) (hl : b.length ≤ 12) (k : Nat) (hk : 160 ≤ k) : run ft k i_assumptions [encB b] h = .ok (.val (encC (assCtx b))) h := by
  obtain ⟨k, rfl⟩ : ∃ j, k = j + 1 := ⟨k - 1, by omega⟩
  rw [run_pure A.p10 (by decide) rfl]
  have q1 := q_book_given (h := h) A.b (isBk_t g hl) g hl (.int 1) k (by omega)
  have q3 := q_assumed (h := h) A.b b (by omega) k (by omega)
  simp only [encB] at q1 q3
  simp [F_assumptions, k_assumptions, mkEnv, encB, q1, q3]
def badB (b : Bk) : List Nat := (List.range b.length).filter fun n => !takenB b n
def firstT : List Nat → T
  | [] => .non
  | n :: _ => tI n
theorem fold_first (p : Nat → Bool) : ∀ l : List Nat, foldS (fun (_ : Unit) t => match t with | .int i => if p i.toNat = true then .inl () else .inr (.val t) | _ => .inl ()) () (l.map tI) = match l.filter fun n => !p n with | [] => .inl () | n :: _ => .inr (.val (tI n))
  | [] => rfl
  | x :: r => by
    have ih := fold_first p r
    rw [List.map_cons]
    unfold foldS
    cases z : p x with
    | true => simp [z]; exact ih
    | false => simp [z]
theorem q_first_not (A : HasP ft) {b : Bk} (g : Good b) (hl : b.length ≤ 12) (k : Nat) (hk : 160 ≤ k) : run ft k i_first_not_taken [encB b] h = .ok (.val (firstT (badB b))) h := by
  obtain ⟨k, rfl⟩ : ∃ j, k = j + 1 := ⟨k - 1, by omega⟩
  rw [run_pure A.p9 (by decide) rfl]
  have q1 := q_book_given (h := h) A.b (isBk_t g hl) g hl (.int 1) k (by omega)
  have loop := forL_run (tg := .one 1) (b := sIf (tNot (tTru (eOwn (eCall i_takes_entry (aCons (eVar 0) (aCons (eVar 1) (aNil))))))) (sRet (eVar 1)) (sSkip) (run ft k)) (h := h) (α := Unit) (β := Slot) (fun _ y => [.val (encB b), y])
    (fun _ t => match t with | .int i => if takenB b i.toNat = true then .inl () else .inr (.val t) | _ => .inl ()) ((List.range b.length).map tI) (fun a j t m => by
      obtain ⟨n, hn, rfl⟩ := List.mem_map.mp m
      have hn' : n < b.length := List.mem_range.mp hn
      have q := q_takes (h := h) A.b g (by omega) n hn' k (by omega)
      refine ⟨_, rfl, ?_⟩
      cases z : takenB b n with
      | true => rw [z] at q; simp [z]; exact ⟨.val (tI n), .inl (by simp [q])⟩
      | false => rw [z] at q; simp [z, q]) () .un
  rw [fold_first (takenB b)] at loop
  have r1 := r1_nat (h := h) (n := b.length) (by omega)
  simp only [encB] at q1 loop
  cases z : badB b with
  | nil =>
    rw [show (List.range b.length).filter (fun n => !takenB b n) = [] from z] at loop
    obtain ⟨j, e⟩ := loop
    simp [F_first_not_taken, k_first_not_taken, mkEnv, encB, q1, -y_r1, r1, e, firstT]
  | cons x r =>
    rw [show (List.range b.length).filter (fun n => !takenB b n) = x :: r from z] at loop
    simp only at loop
    simp [F_first_not_taken, k_first_not_taken, mkEnv, encB, q1, -y_r1, r1, loop, firstT]
theorem q_sound (A : HasP ft) {b : Bk} (g : Good b) (hl : b.length ≤ 12) (k : Nat) (hk : 161 ≤ k) : run ft k i_is_sound [encB b] h = .ok (.val (.bl (badB b).isEmpty)) h := by
  obtain ⟨k, rfl⟩ : ∃ j, k = j + 1 := ⟨k - 1, by omega⟩
  rw [run_pure A.p8 (by decide) rfl]
  have q1 := q_first_not (h := h) A g hl k (by omega)
  simp only [encB] at q1
  have e : isNon (firstT (badB b)) = (badB b).isEmpty := by cases badB b <;> rfl
  simp [F_is_sound, k_is_sound, mkEnv, encB, q1, e]
end GtS
end
section
set_option Elab.async false
set_option linter.all false
namespace GtS
open Gt
variable {ft : Nat → Option Fn} {h : Hs} {k : Nat}
structure HasL (ft : Nat → Option Fn) : Prop where
  p : HasP ft
  l1 : ft i__law_same = some F__law_same
  l2 : ft i__law_find = some F__law_find
  l3 : ft i__law_kind = some F__law_kind
  l4 : ft i__law_borne = some F__law_borne
  l5 : ft i__law_free = some F__law_free
  l6 : ft i__law_is_term = some F__law_is_term
/-- values that the law compares -/
def smp : Nat → T → Prop
  | 0, _ => False
  | n + 1, v => match v with
    | .tup l => l.length ≤ 1000 ∧ ∀ x ∈ l, smp n x
    | .non => True | .bl _ => True | .int _ => True | .str _ => True
    | _ => False
theorem q_same (A : HasL ft) : ∀ (n : Nat) (v : T) (k : Nat), smp n v → n ≤ k → run ft k i__law_same [v, v] h = .ok (.val (.bl true)) h
  | 0, v, _, o, _ => o.elim
  | n + 1, v, 0, _, hk => by omega
  | n + 1, v, k + 1, o, hk => by
    rw [run_pure A.l1 (by decide) rfl]
    cases v with
    | tup l =>
      have o' : l.length ≤ 1000 ∧ ∀ x ∈ l, smp n x := o
      have cm := comp_map0 (h := h) (tg := .one 2) (tt := tYes (run ft k)) (b := eOwn (eCall i__law_same (aCons (eOp2 fIx (eVar 0) (eVar 2)) (aCons (eOp2 fIx (eVar 1) (eVar 2)) (aNil)))) (run ft k)) (e := [.val (.tup l), .val (.tup l), .un]) tI (fun _ => true) (fun _ => .bl true) (List.range l.length) (fun x m => ⟨_, rfl, rfl, fun _ => by
        have hx : x < l.length := List.mem_range.mp m
        have q := q_same A n l[x] k (o'.2 _ (List.getElem_mem hx)) (by omega)
        simp [atN, hx, q]⟩) (by rw [List.length_range]; exact le_LIM (by omega))
      rw [List.filter_eq_self.mpr (fun _ _ => rfl)] at cm
      have r1 := r1_nat (h := h) (n := l.length) (by omega)
      have al : fAll h (.lst ((List.range l.length).map fun _ => T.bl true)) = some (.bl true) := by
        rw [all_map (fun _ => true)]; simp
      have lt : ∀ x, fIsi [.tuple] h (.tup x) = some (.bl true) := fun _ => rfl
      simp [F__law_same, k__law_same, mkEnv, lt, -y_r1, r1, wipeE, cm]
      simp [al]
    | non => rfl
    | bl b => cases b <;> rfl
    | int i =>
      have i1 : fIsi [.tuple] h (.int i) = some (.bl false) := rfl
      have i2 : fIsi [.bool] h (.int i) = some (.bl false) := rfl
      have i3 : fIsi [.str] h (.int i) = some (.bl false) := rfl
      have i4 : fIsi [.int, .str] h (.int i) = some (.bl true) := rfl
      have ne : ∀ b c, fNe h (.bl b) (.bl c) = some (.bl (!(b == c))) := fun _ _ => rfl
      simp [F__law_same, k__law_same, mkEnv, i1, i2, i3, i4, ne]
    | str s =>
      have i1 : fIsi [.tuple] h (.str s) = some (.bl false) := rfl
      have i2 : fIsi [.bool] h (.str s) = some (.bl false) := rfl
      have i3 : fIsi [.str] h (.str s) = some (.bl true) := rfl
      have i4 : fIsi [.int, .str] h (.str s) = some (.bl true) := rfl
      have ne : ∀ b c, fNe h (.bl b) (.bl c) = some (.bl (!(b == c))) := fun _ _ => rfl
      simp [F__law_same, k__law_same, mkEnv, i1, i2, i3, i4, ne]
    | _ => exact o.elim
theorem smp_nats (l : List Nat) (hl : l.length ≤ 1000) : smp 2 (.tup (tIs l)) := ⟨by simpa [tIs] using hl, fun x m => by
  obtain ⟨n, _, rfl⟩ := List.mem_map.mp m
  trivial⟩
theorem smp_sn : ∀ (n : Nat) (s : Sn), s.deep + 1 ≤ n → smp n s.enc
  | 0, s, hn => by omega
  | n + 1, .atom _, _ => trivial
  | 0 + 1, .non, hn => absurd hn (by decide)
  | n + 1 + 1, .non, _ => ⟨by show 1 ≤ 1000; decide, fun x m => by rw [List.mem_singleton.mp m]; trivial⟩
  | n + 1, .bin w l r, hn => ⟨by show 3 ≤ 1000; decide, fun x m => by
    have hd : max l.deep r.deep + 1 + 1 ≤ n + 1 := hn
    have := l.deep_pos
    obtain ⟨n, rfl⟩ : ∃ j, n = j + 1 := ⟨n - 1, by omega⟩
    simp only [List.mem_cons, List.not_mem_nil, or_false] at m
    rcases m with rfl | rfl | rfl
    · trivial
    · exact smp_sn _ _ (by omega)
    · exact smp_sn _ _ (by omega)⟩
theorem smp_ctx (c : Cn) (hl : c.length ≤ 1000) (hd : ∀ p ∈ c, p.2.deep ≤ 60) : smp 70 (encC c) := ⟨by simpa using hl, fun x m => by
  obtain ⟨p, hp, rfl⟩ := List.mem_map.mp m
  refine ⟨by show 2 ≤ 1000; decide, fun y my => ?_⟩
  simp only [List.mem_cons, List.not_mem_nil, or_false] at my
  rcases my with rfl | rfl
  · trivial
  · exact smp_sn 68 p.2 (by have := hd p hp; omega)⟩
def findC (c : Cn) (l : S) : Option Sn := c.foldl (fun m p => if p.1 = l then some p.2 else m) none
def findR (c : Cn) : Rho := fun l => findC c l
theorem find_snoc (c : Cn) (x : S) (s : Sn) : findR (c ++ [(x, s)]) = (findR c).up x s := by
  funext l
  simp [findR, findC, Rho.up, List.foldl_append]
def encLC (c : Cn) : T := .lst (c.map pr)
theorem q_find (A : HasL ft) (c : Cn) (l : S) (k : Nat) (hk : 1 ≤ k) : run ft k i__law_find [encLC c, .str l] h = .ok (.val (encO (findC c l))) h := by
  obtain ⟨k, rfl⟩ : ∃ j, k = j + 1 := ⟨k - 1, by omega⟩
  rw [run_pure A.l2 (by decide) rfl]
  obtain ⟨j, e, _⟩ := for_map (tg := .many [3, 4]) (b := sIf (tBl (eOp2 fEq (eVar 3) (eVar 1))) (sSet 2 (eVar 4)) (sSkip) (run ft k)) (h := h) (fun (m : Option Sn) (j : Slot × Slot) => [.val (encLC c), .val (.str l), .val (encO m), j.1, j.2]) (fun _ => True) pr (fun m p => if p.1 = l then some p.2 else m) c (fun m j p _ _ => ⟨trivial, _, rfl, (.val (.str p.1), .val p.2.enc), by
    by_cases z : p.1 = l
    · simp [z, encO]
    · simp [z]⟩) none (.un, .un) trivial
  simp only [encLC] at e
  simp [F__law_find, k__law_find, mkEnv, encLC]
  have e0 : encO none = .non := rfl
  simp only [e0] at e
  rw [e]
  simp [findC]
theorem q_kind (A : HasL ft) (w : Wd) (a b : T) (v : Wd) (k : Nat) (hk : 1 ≤ k) : run ft k i__law_kind [.tup [.str w.s, a, b], .str v.s] h = .ok (.val (.bl (decide (w = v)))) h := by
  obtain ⟨k, rfl⟩ : ∃ j, k = j + 1 := ⟨k - 1, by omega⟩
  rw [run_pure A.l3 (by decide) rfl]
  have i1 : fIsi [.tuple] h (.tup [.str w.s, a, b]) = some (.bl true) := rfl
  have e : decide (w.s = v.s) = decide (w = v) := by
    by_cases z : w = v
    · subst z; simp
    · rw [decide_eq_false z, decide_eq_false (fun y => z (Wd.s_inj.mp y))]
  simp [F__law_kind, k__law_kind, mkEnv, i1, e]
theorem inw_tt (x y : S) (l : List T) : isIn (.str x) (.str y :: l) = match isIn (.str x) l with | some q => some (decide (y = x) || q) | none => none := rfl
theorem inw_nil (x : T) : isIn x [] = some false := rfl
theorem fIn_tup (x : T) (l : List T) : fIn h x (.tup l) = (isIn x l).map .bl := rfl
theorem q_borne (A : HasL ft) {ρ : Rho} {t : Tm} {s : Sn} (ty : Ty' ρ t s) : ∀ (c : Cn) (k : Nat), findR c = ρ → ρ.small → c.length + t.ht < 100000 → t.ht + 2 ≤ k → run ft k i__law_borne [encLC c, t.enc] h = .ok (.val s.enc) h := by
  have cat : ∀ (c : Cn) (l : S) (s : Sn), c.length < 100000 → fAdd h (encLC c) (.lst [.tup [.str l, s.enc]]) = some (.own (.lst ((c ++ [(l, s)]).map pr))) := fun c l s hl => by
    have : fAdd h (.lst (c.map pr)) (.lst [.tup [.str l, s.enc]]) = _ := cat_lst (by simp; exact le_LIM (by omega))
    rw [encLC, this]
    simp [pr]
  induction ty with
  | @var ρ l s e =>
    intro c k hc hr hl hk
    obtain ⟨k, rfl⟩ : ∃ j, k = j + 1 := ⟨k - 1, by omega⟩
    rw [run_pure A.l4 (by decide) rfl]
    have q := q_find (h := h) A c l k (by have := ht_pos (.var l); omega)
    have : findC c l = some s := by rw [← hc] at e; exact e
    rw [this] at q
    simp [F__law_borne, k__law_borne, mkEnv, Tm.enc, wVar, q, encO]
  | @pair ρ a b s t ha hb f ia ib =>
    intro c k hc hr hl hk
    have hh : (Tm.pair a b).ht = max a.ht b.ht + 1 := rfl
    obtain ⟨k, rfl⟩ : ∃ j, k = j + 1 := ⟨k - 1, by omega⟩
    rw [run_pure A.l4 (by decide) rfl]
    have qa := ia c k hc hr (by omega) (by omega)
    have qb := ib c k hc hr (by omega) (by omega)
    simp [F__law_borne, k__law_borne, mkEnv, Tm.enc, wPair, qa, qb, isNon_enc, Sn.enc, Wd.s]
  | @left ρ a s t ha ia =>
    intro c k hc hr hl hk
    have hh : (Tm.left a).ht = a.ht + 1 := rfl
    have := ht_pos a
    obtain ⟨k, rfl⟩ : ∃ j, k = j + 1 := ⟨k - 1, by omega⟩
    rw [run_pure A.l4 (by decide) rfl]
    have qa := ia c k hc hr (by omega) (by omega)
    have qk := q_kind (h := h) A .and s.enc t.enc .and k (by omega)
    simp only [Sn.enc, Wd.s] at qa qk
    simp [F__law_borne, k__law_borne, mkEnv, Tm.enc, wLeft, qa, qk, fIn_tup, inw_tt, inw_nil]
  | @right ρ a s t ha ia =>
    intro c k hc hr hl hk
    have hh : (Tm.right a).ht = a.ht + 1 := rfl
    have := ht_pos a
    obtain ⟨k, rfl⟩ : ∃ j, k = j + 1 := ⟨k - 1, by omega⟩
    rw [run_pure A.l4 (by decide) rfl]
    have qa := ia c k hc hr (by omega) (by omega)
    have qk := q_kind (h := h) A .and s.enc t.enc .and k (by omega)
    simp only [Sn.enc, Wd.s] at qa qk
    simp [F__law_borne, k__law_borne, mkEnv, Tm.enc, wRight, qa, qk, fIn_tup, inw_tt, inw_nil]
  | @lam ρ l s t b hb f ib =>
    intro c k hc hr hl hk
    have hh : (Tm.lam l s b).ht = b.ht + 1 := rfl
    obtain ⟨k, rfl⟩ : ∃ j, k = j + 1 := ⟨k - 1, by omega⟩
    rw [run_pure A.l4 (by decide) rfl]
    have fd := fits_deep f
    have hs := (bin_deep (n := 20) fd).1
    have qb := ib (c ++ [(l, s)]) k (by rw [find_snoc, hc]) (up_small hr (by omega)) (by simp; omega) (by omega)
    have qc := cat c l s (by omega)
    simp only [encLC] at qb qc
    simp [F__law_borne, k__law_borne, mkEnv, Tm.enc, wFun, encLC, qc, Sn.enc, Wd.s, fIn_tup, inw_tt, inw_nil]
    simp at qb
    simp [qb, isNon_enc]
  | @app ρ a b s t ha hb ia ib =>
    intro c k hc hr hl hk
    have hh : (Tm.app a b).ht = max a.ht b.ht + 1 := rfl
    have := ht_pos a
    obtain ⟨k, rfl⟩ : ∃ j, k = j + 1 := ⟨k - 1, by omega⟩
    rw [run_pure A.l4 (by decide) rfl]
    have qa := ia c k hc hr (by omega) (by omega)
    have qb := ib c k hc hr (by omega) (by omega)
    have qk := q_kind (h := h) A .iff s.enc t.enc .iff k (by omega)
    have hs := hb.small hr
    have qe := eq_enc (h := h) (s := s) (t := s) (by omega) (by omega)
    simp only [Sn.enc, Wd.s] at qa qk
    simp [F__law_borne, k__law_borne, mkEnv, Tm.enc, wApp, qa, qb, qk, qe, isNon_enc, fIn_tup, inw_tt, inw_nil]
  | @first ρ a s t ha f ia =>
    intro c k hc hr hl hk
    have hh : (Tm.first a t).ht = a.ht + 1 := rfl
    obtain ⟨k, rfl⟩ : ∃ j, k = j + 1 := ⟨k - 1, by omega⟩
    rw [run_pure A.l4 (by decide) rfl]
    have qa := ia c k hc hr (by omega) (by omega)
    simp [F__law_borne, k__law_borne, mkEnv, Tm.enc, wFirst, qa, isNon_enc, Sn.enc, Wd.s, fIn_tup, inw_tt, inw_nil]
  | @second ρ a s t ha f ia =>
    intro c k hc hr hl hk
    have hh : (Tm.second s a).ht = a.ht + 1 := rfl
    obtain ⟨k, rfl⟩ : ∃ j, k = j + 1 := ⟨k - 1, by omega⟩
    rw [run_pure A.l4 (by decide) rfl]
    have qa := ia c k hc hr (by omega) (by omega)
    simp [F__law_borne, k__law_borne, mkEnv, Tm.enc, wSecond, qa, isNon_enc, Sn.enc, Wd.s, fIn_tup, inw_tt, inw_nil]
  | @void ρ a s ha f ia =>
    intro c k hc hr hl hk
    have hh : (Tm.void a s).ht = a.ht + 1 := rfl
    obtain ⟨k, rfl⟩ : ∃ j, k = j + 1 := ⟨k - 1, by omega⟩
    rw [run_pure A.l4 (by decide) rfl]
    have qa := ia c k hc hr (by omega) (by omega)
    have e : fEq h (.tup [.str [110, 111, 110, 101]]) (.tup [.str [110, 111, 110, 101]]) = some (.bl true) := eq_enc (h := h) (s := .non) (t := .non) (by decide) (by decide)
    simp only [Sn.enc, sNone] at qa
    simp [F__law_borne, k__law_borne, mkEnv, Tm.enc, wVoid, qa, e, fIn_tup, inw_tt, inw_nil]
  | @cases ρ a b d l m s t u ha hb hd ia ib id =>
    intro c k hc hr hl hk
    have hh : (Tm.cases a l b m d).ht = max a.ht (max b.ht d.ht) + 1 := rfl
    have := ht_pos a
    obtain ⟨k, rfl⟩ : ∃ j, k = j + 1 := ⟨k - 1, by omega⟩
    rw [run_pure A.l4 (by decide) rfl]
    have hs := bin_deep (ha.small hr)
    have qa := ia c k hc hr (by omega) (by omega)
    have qb := ib (c ++ [(l, s)]) k (by rw [find_snoc, hc]) (up_small hr hs.1) (by simp; omega) (by omega)
    have qd := id (c ++ [(m, t)]) k (by rw [find_snoc, hc]) (up_small hr hs.2) (by simp; omega) (by omega)
    have hu : u.deep ≤ 60 := hb.small (up_small hr hs.1)
    have qe := eq_enc (h := h) (s := u) (t := u) (by omega) (by omega)
    have qk := q_kind (h := h) A .or s.enc t.enc .or k (by omega)
    have c1 := cat c l s (by omega)
    have c2 := cat c m t (by omega)
    simp only [Sn.enc, Wd.s] at qa qk
    simp only [encLC] at qa qb qd c1 c2
    simp at qb qd c1 c2
    simp [F__law_borne, k__law_borne, mkEnv, Tm.enc, wCases, encLC, qa, qk, c1, c2, fIn_tup, inw_tt, inw_nil]
    simp [qb, qd, qe, c2, isNon_enc]
end GtS
end
section
set_option Elab.async false
set_option linter.all false
namespace GtS
open Gt
variable {ft : Nat → Option Fn} {h : Hs} {k : Nat}
structure HasM (ft : Nat → Option Fn) : Prop where
  l : HasL ft
  m1 : ft i__law_leans = some F__law_leans
  m2 : ft i__law_under = some F__law_under
  m3 : ft i__law_taken = some F__law_taken
  m4 : ft i__law_stands = some F__law_stands
  m5 : ft i__law_rests = some F__law_rests
  m6 : ft i__law_knots = some F__law_knots
  m7 : ft i__law_size = some F__law_size
theorem q_isterm_tm (A : HasL ft) (t : Tm) (k : Nat) (hk : 1 ≤ k) : run ft k i__law_is_term [t.enc] h = .ok (.val (.bl true)) h := by
  obtain ⟨k, rfl⟩ : ∃ j, k = j + 1 := ⟨k - 1, by omega⟩
  rw [run_pure A.l6 (by decide) rfl]
  have lt : ∀ x, fIsi [.tuple] h (.tup x) = some (.bl true) := fun _ => rfl
  cases t <;> simp [F__law_is_term, k__law_is_term, mkEnv, Tm.enc, wVar, wPair, wLeft, wRight, wFun, wApp, wFirst, wSecond, wCases, wVoid, lt, fIn_tup, inw_tt, inw_nil]
theorem q_isterm_sn (A : HasL ft) (s : Sn) (k : Nat) (hk : 1 ≤ k) : run ft k i__law_is_term [s.enc] h = .ok (.val (.bl false)) h := by
  obtain ⟨k, rfl⟩ : ∃ j, k = j + 1 := ⟨k - 1, by omega⟩
  rw [run_pure A.l6 (by decide) rfl]
  have lt : ∀ x, fIsi [.tuple] h (.tup x) = some (.bl true) := fun _ => rfl
  have ls : ∀ x, fIsi [.tuple] h (.str x) = some (.bl false) := fun _ => rfl
  cases s with
  | atom a => simp [F__law_is_term, k__law_is_term, mkEnv, Sn.enc, ls]
  | non => simp [F__law_is_term, k__law_is_term, mkEnv, Sn.enc, sNone, lt, fIn_tup, inw_tt, inw_nil]
  | bin w l r => cases w <;> simp [F__law_is_term, k__law_is_term, mkEnv, Sn.enc, Wd.s, lt, fIn_tup, inw_tt, inw_nil]
theorem q_isterm_str (A : HasL ft) (s : S) (k : Nat) (hk : 1 ≤ k) : run ft k i__law_is_term [.str s] h = .ok (.val (.bl false)) h := q_isterm_sn A (.atom s) k hk
@[simp] theorem cut1 {α : Type} (a : α) (l : List α) : cutL (a :: l) (some 1) none = l := by
  unfold cutL cutAt
  simp
def tSs (l : List S) : List T := l.map .str
theorem fr_len (t : Tm) : t.fr.length ≤ t.kn := by
  induction t with
  | var l => exact Nat.le_refl _
  | pair a b ia ib => simp only [Tm.fr, Tm.kn, List.length_append]; omega
  | left a ia => simp only [Tm.fr, Tm.kn]; omega
  | right a ia => simp only [Tm.fr, Tm.kn]; omega
  | lam l s b ib => have := List.length_filter_le (fun x => !decide (x = l)) b.fr; simp only [Tm.fr, Tm.kn]; omega
  | app a b ia ib => simp only [Tm.fr, Tm.kn, List.length_append]; omega
  | first a s ia => simp only [Tm.fr, Tm.kn]; omega
  | second s a ia => simp only [Tm.fr, Tm.kn]; omega
  | cases a l b m d ia ib id => have := List.length_filter_le (fun x => !decide (x = l)) b.fr; have := List.length_filter_le (fun x => !decide (x = m)) d.fr; simp only [Tm.fr, Tm.kn, List.length_append]; omega
  | void a s ia => simp only [Tm.fr, Tm.kn]; omega
theorem cat_ss (a b : List S) (hl : a.length + b.length ≤ 1000) : fAdd h (.lst (tSs a)) (.lst (tSs b)) = some (.own (.lst (tSs (a ++ b)))) := by
  rw [cat_lst (by simp [tSs]; exact le_LIM (by omega))]
  simp [tSs]
theorem toT_own (l : Cell) : (RV.own l).toT = l.toT := rfl
theorem q_free (A : HasL ft) : ∀ (t : Tm) (k : Nat), t.kn ≤ 500 → t.ht + 2 ≤ k → ∃ r, run ft k i__law_free [t.enc] h = .ok r h ∧ r.toT = .lst (tSs t.fr)
  | t, 0, _, hk => by omega
  | t, k + 1, hn, hk => by
    rw [run_pure A.l5 (by decide) rfl]
    have ite_ := q_isterm_tm (h := h) A
    have its := q_isterm_sn (h := h) A
    have itr := q_isterm_str (h := h) A
    have one : ∀ (x : S) (f : List S) (e : List Slot) (m : EC) , f.length ≤ 500 → e.length = 5 → m (run ft k) ((wipeE e [4]).set 4 (.val (.str x))) h = .ok (.str x) h → True := fun _ _ _ _ _ _ _ => trivial
    cases t with
    | var l =>
      refine ⟨.own (.lst [.str l]), ?_, rfl⟩
      simp [F__law_free, k__law_free, mkEnv, Tm.enc, wVar]
    | lam l s b =>
      have hh : (Tm.lam l s b).ht = b.ht + 1 := rfl
      have hK : (Tm.lam l s b).kn = 1 + b.kn := rfl
      obtain ⟨r, e, er⟩ := q_free A b k (by omega) (by omega)
      have fl := fr_len b
      have cm := comp_map0 (h := h) (tg := .one 4) (tt := tBl (eOp2 fNe (eVar 4) (eOp2 fIx (eVar 0) (eK (.int 1)))) (run ft k)) (b := eVar 4 (run ft k)) (e := [.val (.tup [.str wFun, .str l, s.enc, b.enc]), .val (.str wFun), .un, .un, .un]) T.str (fun x => !decide (x = l)) T.str b.fr (fun x m => ⟨_, rfl, by
        have : fNe h (.str x) (.str l) = some (.bl (!decide (x = l))) := rfl
        simp [this], fun _ => by simp⟩) (le_LIM (by omega))
      refine ⟨.own (.lst (tSs (Tm.lam l s b).fr)), ?_, rfl⟩
      simp only [wFun] at cm
      simp [F__law_free, k__law_free, mkEnv, Tm.enc, wFun, e, er, tSs, wipeE, cm, Tm.fr]
    | cases a l b m d =>
      have hh : (Tm.cases a l b m d).ht = max a.ht (max b.ht d.ht) + 1 := rfl
      have hK : (Tm.cases a l b m d).kn = 1 + a.kn + b.kn + d.kn := rfl
      obtain ⟨r1, e1, er1⟩ := q_free A a k (by omega) (by omega)
      obtain ⟨r2, e2, er2⟩ := q_free A b k (by omega) (by omega)
      obtain ⟨r3, e3, er3⟩ := q_free A d k (by omega) (by omega)
      have f1 := fr_len a
      have f2 := fr_len b
      have f3 := fr_len d
      have g2 := List.length_filter_le (fun x => !decide (x = l)) b.fr
      have g3 := List.length_filter_le (fun x => !decide (x = m)) d.fr
      have c1 := comp_map0 (h := h) (tg := .one 4) (tt := tBl (eOp2 fNe (eVar 4) (eOp2 fIx (eVar 0) (eK (.int 2)))) (run ft k)) (b := eVar 4 (run ft k)) (e := [.val (.tup [.str wCases, a.enc, .str l, b.enc, .str m, d.enc]), .val (.str wCases), .un, .un, .un]) T.str (fun x => !decide (x = l)) T.str b.fr (fun x _ => ⟨_, rfl, by
        have : fNe h (.str x) (.str l) = some (.bl (!decide (x = l))) := rfl
        simp [this], fun _ => by simp⟩) (le_LIM (by omega))
      have c2 := comp_map0 (h := h) (tg := .one 4) (tt := tBl (eOp2 fNe (eVar 4) (eOp2 fIx (eVar 0) (eK (.int 4)))) (run ft k)) (b := eVar 4 (run ft k)) (e := [.val (.tup [.str wCases, a.enc, .str l, b.enc, .str m, d.enc]), .val (.str wCases), .un, .un, .un]) T.str (fun x => !decide (x = m)) T.str d.fr (fun x _ => ⟨_, rfl, by
        have : fNe h (.str x) (.str m) = some (.bl (!decide (x = m))) := rfl
        simp [this], fun _ => by simp⟩) (le_LIM (by omega))
      have a1 := cat_ss (h := h) a.fr (b.fr.filter fun x => !decide (x = l)) (by omega)
      have a2 := cat_ss (h := h) (a.fr ++ b.fr.filter fun x => !decide (x = l)) (d.fr.filter fun x => !decide (x = m)) (by rw [List.length_append]; omega)
      refine ⟨.own (.lst (tSs (Tm.cases a l b m d).fr)), ?_, rfl⟩
      simp only [wCases] at c1 c2
      simp only [tSs] at a1 a2 er1 er2 er3
      simp [F__law_free, k__law_free, mkEnv, Tm.enc, wCases, e1, e2, e3, er1, er2, er3, wipeE, c1, c2, a1, Tm.fr, tSs]
      simp at a2
      simp [a2]
    | pair a b =>
      have hh : (Tm.pair a b).ht = max a.ht b.ht + 1 := rfl
      have hK : (Tm.pair a b).kn = 1 + a.kn + b.kn := rfl
      obtain ⟨r1, e1, er1⟩ := q_free A a k (by omega) (by omega)
      obtain ⟨r2, e2, er2⟩ := q_free A b k (by omega) (by omega)
      have f1 := fr_len a
      have f2 := fr_len b
      have a1 := cat_ss (h := h) [] a.fr (by simp; omega)
      have a2 := cat_ss (h := h) a.fr b.fr (by omega)
      have i1 := ite_ a k (by omega)
      have i2 := ite_ b k (by omega)
      refine ⟨.val (.lst (tSs (Tm.pair a b).fr)), ?_, rfl⟩
      simp only [tSs, List.nil_append, List.map_nil] at a1 a2 er1 er2
      simp [F__law_free, k__law_free, mkEnv, Tm.enc, wPair, e1, e2, er1, er2, i1, i2, a1, a2, Tm.fr, tSs]
    | app a b =>
      have hh : (Tm.app a b).ht = max a.ht b.ht + 1 := rfl
      have hK : (Tm.app a b).kn = 1 + a.kn + b.kn := rfl
      obtain ⟨r1, e1, er1⟩ := q_free A a k (by omega) (by omega)
      obtain ⟨r2, e2, er2⟩ := q_free A b k (by omega) (by omega)
      have f1 := fr_len a
      have f2 := fr_len b
      have a1 := cat_ss (h := h) [] a.fr (by simp; omega)
      have a2 := cat_ss (h := h) a.fr b.fr (by omega)
      have i1 := ite_ a k (by omega)
      have i2 := ite_ b k (by omega)
      refine ⟨.val (.lst (tSs (Tm.app a b).fr)), ?_, rfl⟩
      simp only [tSs, List.nil_append, List.map_nil] at a1 a2 er1 er2
      simp [F__law_free, k__law_free, mkEnv, Tm.enc, wApp, e1, e2, er1, er2, i1, i2, a1, a2, Tm.fr, tSs]
    | left a =>
      have hh : (Tm.left a).ht = a.ht + 1 := rfl
      have hK : (Tm.left a).kn = 1 + a.kn := rfl
      obtain ⟨r1, e1, er1⟩ := q_free A a k (by omega) (by omega)
      have f1 := fr_len a
      have a1 := cat_ss (h := h) [] a.fr (by simp; omega)
      have i1 := ite_ a k (by omega)
      refine ⟨.val (.lst (tSs (Tm.left a).fr)), ?_, rfl⟩
      simp only [tSs, List.nil_append, List.map_nil] at a1 er1
      simp [F__law_free, k__law_free, mkEnv, Tm.enc, wLeft, e1, er1, i1, a1, Tm.fr, tSs]
    | right a =>
      have hh : (Tm.right a).ht = a.ht + 1 := rfl
      have hK : (Tm.right a).kn = 1 + a.kn := rfl
      obtain ⟨r1, e1, er1⟩ := q_free A a k (by omega) (by omega)
      have f1 := fr_len a
      have a1 := cat_ss (h := h) [] a.fr (by simp; omega)
      have i1 := ite_ a k (by omega)
      refine ⟨.val (.lst (tSs (Tm.right a).fr)), ?_, rfl⟩
      simp only [tSs, List.nil_append, List.map_nil] at a1 er1
      simp [F__law_free, k__law_free, mkEnv, Tm.enc, wRight, e1, er1, i1, a1, Tm.fr, tSs]
    | first a s =>
      have hh : (Tm.first a s).ht = a.ht + 1 := rfl
      have hK : (Tm.first a s).kn = 1 + a.kn := rfl
      obtain ⟨r1, e1, er1⟩ := q_free A a k (by omega) (by omega)
      have f1 := fr_len a
      have a1 := cat_ss (h := h) [] a.fr (by simp; omega)
      have i1 := ite_ a k (by omega)
      have i2 := its s k (by omega)
      refine ⟨.val (.lst (tSs (Tm.first a s).fr)), ?_, rfl⟩
      simp only [tSs, List.nil_append, List.map_nil] at a1 er1
      simp [F__law_free, k__law_free, mkEnv, Tm.enc, wFirst, e1, er1, i1, i2, a1, Tm.fr, tSs]
    | second s a =>
      have hh : (Tm.second s a).ht = a.ht + 1 := rfl
      have hK : (Tm.second s a).kn = 1 + a.kn := rfl
      obtain ⟨r1, e1, er1⟩ := q_free A a k (by omega) (by omega)
      have f1 := fr_len a
      have a1 := cat_ss (h := h) [] a.fr (by simp; omega)
      have i1 := ite_ a k (by omega)
      have i2 := its s k (by omega)
      refine ⟨.val (.lst (tSs (Tm.second s a).fr)), ?_, rfl⟩
      simp only [tSs, List.nil_append, List.map_nil] at a1 er1
      simp [F__law_free, k__law_free, mkEnv, Tm.enc, wSecond, e1, er1, i1, i2, a1, Tm.fr, tSs]
    | void a s =>
      have hh : (Tm.void a s).ht = a.ht + 1 := rfl
      have hK : (Tm.void a s).kn = 1 + a.kn := rfl
      obtain ⟨r1, e1, er1⟩ := q_free A a k (by omega) (by omega)
      have f1 := fr_len a
      have a1 := cat_ss (h := h) [] a.fr (by simp; omega)
      have i1 := ite_ a k (by omega)
      have i2 := its s k (by omega)
      refine ⟨.val (.lst (tSs (Tm.void a s).fr)), ?_, rfl⟩
      simp only [tSs, List.nil_append, List.map_nil] at a1 er1
      simp [F__law_free, k__law_free, mkEnv, Tm.enc, wVoid, e1, er1, i1, i2, a1, Tm.fr, tSs]
theorem q_lknots (A : HasM ft) : ∀ (s : Sn) (k : Nat), s.deep ≤ k → run ft k i__law_knots [s.enc] h = .ok (.val (.int s.knots)) h
  | s, 0, hk => by have := s.deep_pos; omega
  | .atom a, k + 1, _ => by
    rw [run_pure A.m6 (by decide) rfl]
    simp [F__law_knots, k__law_knots, mkEnv, Sn.enc, Sn.knots, isi_str]
  | .non, k + 1, _ => by
    rw [run_pure A.m6 (by decide) rfl]
    simp [F__law_knots, k__law_knots, mkEnv, Sn.enc, Sn.knots, isi_strT]
  | .bin w l r, k + 1, hk => by
    rw [run_pure A.m6 (by decide) rfl]
    have hk' : max l.deep r.deep + 1 ≤ k + 1 := hk
    have kl := q_lknots A l k (by omega)
    have kr := q_lknots A r k (by omega)
    simp [F__law_knots, k__law_knots, mkEnv, Sn.enc, Sn.knots, isi_strT, kl, kr]
    omega
end GtS
end
section
set_option Elab.async false
set_option linter.all false
namespace GtS
open Gt
variable {ft : Nat → Option Fn} {h : Hs} {k : Nat}
def wCb (g : Tg) (t : List Slot → Hs → R Bool) (b : List Slot → Hs → R T) (e : List Slot) (xs acc : List T) : R T → R (List T)
  | .ok y h2 => if acc.length < LIM then compL g t b e xs (acc ++ [y]) h2 else .bad | .exc c v h => .exc c v h | .bad => .bad
def wCt (g : Tg) (t : List Slot → Hs → R Bool) (b : List Slot → Hs → R T) (e : List Slot) (xs acc : List T) (e1 : List Slot) : R Bool → R (List T)
  | .ok true h1 => wCb g t b e xs acc (b e1 h1) | .ok false h1 => compL g t b e xs acc h1 | .exc c v h => .exc c v h | .bad => .bad
def wCi (g : Tg) (t : List Slot → Hs → R Bool) (b : List Slot → Hs → R T) (e : List Slot) (xs acc : List T) (h : Hs) : Option (List Slot) → R (List T)
  | some e1 => wCt g t b e xs acc e1 (t e1 h) | none => .bad
section
variable {g : Tg} {t : List Slot → Hs → R Bool} {b : List Slot → Hs → R T} {e e1 : List Slot} {xs acc : List T} {x y : T}
theorem z_ct' : wCt g t b e xs acc e1 (.ok true h) = wCb g t b e xs acc (b e1 h) := rfl
@[simp] theorem z_comp0 : compL g t b e [] acc h = .ok acc h := nrfl rfl
@[simp] theorem z_comp1 : compL g t b e (x :: xs) acc h = wCi g t b e xs acc h (g.put e x) := by
  unfold compL
  cases g.put e x with
  | none => rfl
  | some e1 =>
    show (t e1 h).bind _ = wCt g t b e xs acc e1 (t e1 h)
    cases t e1 h with
    | ok k h1 =>
      cases k with
      | true =>
        simp only [R.bind, if_true, z_ct']
        cases b e1 h1 <;> rfl
      | false => rfl
    | exc => rfl
    | bad => rfl
@[simp] theorem z_ci : wCi g t b e xs acc h (some e1) = wCt g t b e xs acc e1 (t e1 h) := nrfl rfl
@[simp] theorem z_ct : wCt g t b e xs acc e1 (.ok true h) = wCb g t b e xs acc (b e1 h) := nrfl rfl
@[simp] theorem z_cf : wCt g t b e xs acc e1 (.ok false h) = compL g t b e xs acc h := nrfl rfl
@[simp] theorem z_cb (hl : acc.length < 100) : wCb g t b e xs acc (.ok y h) = compL g t b e xs (acc ++ [y]) h := by
  show (if acc.length < LIM then _ else _) = _
  rw [if_pos (Nat.lt_trans hl (by decide))]
end
theorem q_lsize (A : HasM ft) : ∀ (t : Tm) (k : Nat), t.ht + 1 ≤ k → run ft k i__law_size [t.enc] h = .ok (.val (.int t.kn)) h
  | t, 0, hk => by omega
  | t, k + 1, hk => by
    rw [run_pure A.m7 (by decide) rfl]
    have ite_ := q_isterm_tm (h := h) A.l
    have its := q_isterm_sn (h := h) A.l
    have itr := q_isterm_str (h := h) A.l
    have sm : ∀ l : List Int, fSum h (.lst (l.map .int)) = some (.int l.sum) := fun l => by
      have : ∀ l : List Int, intsT (l.map .int) = some l := by
        intro l
        induction l with
        | nil => rfl
        | cons x r ih => show (intsT (r.map .int)).map _ = _; rw [ih]; rfl
      show (intsT (l.map .int)).map _ = _
      rw [this]; rfl
    have s0 := sm []
    have s1 := fun a => sm [a]
    have s2 := fun a b => sm [a, b]
    have s3 := fun a b c => sm [a, b, c]
    simp only [List.map_cons, List.map_nil, List.sum_cons, List.sum_nil] at s0 s1 s2 s3
    cases t with
    | var l =>
      have i1 := itr l k (by have := ht_pos (.var l); omega)
      simp [F__law_size, k__law_size, mkEnv, Tm.enc, wVar, Tm.kn, wipeE, i1, s0]
    | pair a b =>
      have hh : (Tm.pair a b).ht = max a.ht b.ht + 1 := rfl
      have e1 := q_lsize A a k (by omega)
      have e2 := q_lsize A b k (by omega)
      have i1 := ite_ a k (by omega)
      have i2 := ite_ b k (by omega)
      simp [F__law_size, k__law_size, mkEnv, Tm.enc, wPair, Tm.kn, wipeE, i1, i2, e1, e2, s2]
      omega
    | app a b =>
      have hh : (Tm.app a b).ht = max a.ht b.ht + 1 := rfl
      have e1 := q_lsize A a k (by omega)
      have e2 := q_lsize A b k (by omega)
      have i1 := ite_ a k (by omega)
      have i2 := ite_ b k (by omega)
      simp [F__law_size, k__law_size, mkEnv, Tm.enc, wApp, Tm.kn, wipeE, i1, i2, e1, e2, s2]
      omega
    | left a =>
      have hh : (Tm.left a).ht = a.ht + 1 := rfl
      have e1 := q_lsize A a k (by omega)
      have i1 := ite_ a k (by omega)
      simp [F__law_size, k__law_size, mkEnv, Tm.enc, wLeft, Tm.kn, wipeE, i1, e1, s1]
    | right a =>
      have hh : (Tm.right a).ht = a.ht + 1 := rfl
      have e1 := q_lsize A a k (by omega)
      have i1 := ite_ a k (by omega)
      simp [F__law_size, k__law_size, mkEnv, Tm.enc, wRight, Tm.kn, wipeE, i1, e1, s1]
    | lam l s b =>
      have hh : (Tm.lam l s b).ht = b.ht + 1 := rfl
      have e1 := q_lsize A b k (by omega)
      have i1 := ite_ b k (by omega)
      have i2 := its s k (by omega)
      have i3 := itr l k (by omega)
      simp [F__law_size, k__law_size, mkEnv, Tm.enc, wFun, Tm.kn, wipeE, i1, i2, i3, e1, s1]
    | first a s =>
      have hh : (Tm.first a s).ht = a.ht + 1 := rfl
      have e1 := q_lsize A a k (by omega)
      have i1 := ite_ a k (by omega)
      have i2 := its s k (by omega)
      simp [F__law_size, k__law_size, mkEnv, Tm.enc, wFirst, Tm.kn, wipeE, i1, i2, e1, s1]
    | second s a =>
      have hh : (Tm.second s a).ht = a.ht + 1 := rfl
      have e1 := q_lsize A a k (by omega)
      have i1 := ite_ a k (by omega)
      have i2 := its s k (by omega)
      simp [F__law_size, k__law_size, mkEnv, Tm.enc, wSecond, Tm.kn, wipeE, i1, i2, e1, s1]
    | cases a l b m d =>
      have hh : (Tm.cases a l b m d).ht = max a.ht (max b.ht d.ht) + 1 := rfl
      have e1 := q_lsize A a k (by omega)
      have e2 := q_lsize A b k (by omega)
      have e3 := q_lsize A d k (by omega)
      have i1 := ite_ a k (by omega)
      have i2 := ite_ b k (by omega)
      have i3 := ite_ d k (by omega)
      have i4 := itr l k (by omega)
      have i5 := itr m k (by omega)
      simp [F__law_size, k__law_size, mkEnv, Tm.enc, wCases, Tm.kn, wipeE, i1, i2, i3, i4, i5, e1, e2, e3, s3]
      omega
    | void a s =>
      have hh : (Tm.void a s).ht = a.ht + 1 := rfl
      have e1 := q_lsize A a k (by omega)
      have i1 := ite_ a k (by omega)
      have i2 := its s k (by omega)
      simp [F__law_size, k__law_size, mkEnv, Tm.enc, wVoid, Tm.kn, wipeE, i1, i2, e1, s1]
theorem q_lleans (A : HasM ft) {b : Bk} (g : Good b) (hl : b.length ≤ 100) (n : Nat) (hn : n < b.length) (k : Nat) (hk : 70 ≤ k) : run ft k i__law_leans [encB b, .int n] h = .ok (.own (.lst (tIs (leansB b n)))) h := by
  obtain ⟨k, rfl⟩ : ∃ j, k = j + 1 := ⟨k - 1, by omega⟩
  rw [run_pure A.m1 (by decide) rfl]
  obtain ⟨e, he⟩ := getE hn
  have ge := g.get he
  have ti : atIx (b.map encE) (n : Int) = some (.tup [.str e.nm, e.sn.enc, encT e.tm]) := by rw [at_map, he]; rfl
  cases z : e.tm with
  | none =>
    have : leansB b n = [] := by
      unfold leansB
      rw [List.filter_eq_nil_iff]
      intro x _
      simp only [leanQ, he]
      cases b[x]? with
      | none => simp
      | some f => simp [z]
    rw [this]
    simp [F__law_leans, k__law_leans, mkEnv, encB, ti, z, encT, tIs]
  | some p =>
    obtain ⟨t, s⟩ := p
    have w := ge.tm t s z
    have := t.ht_kn
    obtain ⟨r, e1, er⟩ := q_free (h := h) A.l t k (by omega) (by omega)
    have cm := comp_map0 (h := h) (tg := .one 3) (tt := tBl (eOp2 fIn (eOp2 fIx (eOp2 fIx (eVar 0) (eVar 3)) (eK (.int 0))) (eVar 2)) (run ft k)) (b := eVar 3 (run ft k)) (e := [.val (encB b), .val (.int n), .val (.lst (tSs t.fr)), .un]) tI (leanQ b n) tI (List.range n) (fun x m => ⟨_, rfl, by
      have hx : x < b.length := by have := List.mem_range.mp m; omega
      obtain ⟨f, hf⟩ := getE hx
      have tf : atIx (b.map encE) (x : Int) = some (.tup [.str f.nm, f.sn.enc, encT f.tm]) := by rw [at_map, hf]; rfl
      have : leanQ b n x = decide (f.nm ∈ t.fr) := by simp only [leanQ, he, z, hf]
      simp [encB, tf, tSs, in_strL, this], fun _ => by simp⟩) (by rw [List.length_range]; exact le_LIM (by omega))
    have r1 := r1_nat (h := h) (n := n) (by omega)
    simp only [encB] at cm
    simp [F__law_leans, k__law_leans, mkEnv, encB, ti, z, encT, isNon_tm, e1, er, -y_r1, r1, wipeE, cm, tIs, leansB]
def rowU (b : Bk) (l : List Nat) (k : Nat) : List Nat := if k ∈ l then l ++ (leansB b k).filter fun x => !decide (x ∈ l) else l
def rowF (b : Bk) (n : Nat) : List Nat := (List.range n).reverse.foldl (rowU b) (leansB b n)
theorem nd_leans (b : Bk) (n : Nat) : (leansB b n).Nodup := List.Pairwise.filter _ List.nodup_range
theorem rowU_nd {b : Bk} {l : List Nat} {k : Nat} (nd : l.Nodup) : (rowU b l k).Nodup := by
  unfold rowU
  split
  · rw [List.nodup_append]
    refine ⟨nd, List.Pairwise.filter _ (nd_leans b k), fun x hx y hy => ?_⟩
    rw [List.mem_filter] at hy
    rintro rfl
    simp [hx] at hy
  · exact nd
theorem rowU_lt {b : Bk} {l : List Nat} {k n : Nat} (hl : ∀ x ∈ l, x < n) (hk : k < n) : ∀ x ∈ rowU b l k, x < n := by
  unfold rowU
  split
  · intro x m
    rcases List.mem_append.mp m with m | m
    · exact hl x m
    · have := leansB_lt (List.mem_filter.mp m).1; omega
  · exact hl
theorem rowU_step {b : Bk} {l : List Nat} {P : Pr} {k : Nat} (hP : ∀ x, P x = decide (x ∈ l)) : ∀ x, stepU b P k x = decide (x ∈ rowU b l k) := by
  intro x
  unfold stepU rowU
  rw [hP k]
  by_cases z : k ∈ l
  · rw [if_pos (decide_eq_true z), if_pos z]
    simp only [hP x, List.mem_append, List.mem_filter]
    by_cases y : x ∈ l
    · simp [y]
    · simp [y]
  · rw [if_neg (by simp [z]), if_neg z, hP x]
theorem row_fold (b : Bk) (n : Nat) : ∀ (ks : List Nat) (l : List Nat) (P : Pr), (∀ x ∈ ks, x < n) → (∀ x, P x = decide (x ∈ l)) → l.Nodup → (∀ x ∈ l, x < n) → (∀ x, ks.foldl (stepU b) P x = decide (x ∈ ks.foldl (rowU b) l)) ∧ (ks.foldl (rowU b) l).Nodup ∧ ∀ x ∈ ks.foldl (rowU b) l, x < n
  | [], l, P, _, hP, nd, hl => ⟨hP, nd, hl⟩
  | k :: ks, l, P, hk, hP, nd, hl => row_fold b n ks (rowU b l k) (stepU b P k) (fun x m => hk x (List.mem_cons_of_mem _ m)) (rowU_step hP) (rowU_nd nd) (rowU_lt hl (hk k List.mem_cons_self))
theorem row_ok (b : Bk) (n : Nat) : (∀ x, PU b n x = decide (x ∈ rowF b n)) ∧ (rowF b n).Nodup ∧ ∀ x ∈ rowF b n, x < n :=
  row_fold b n _ _ _ (fun x m => by simpa using m) (fun x => rfl) (nd_leans b n) (fun x m => leansB_lt m)
theorem PU_lt {b : Bk} {n x : Nat} (p : PU b n x = true) : x < n := by
  have q := row_ok b n
  rw [q.1 x] at p
  exact q.2.2 x (by simpa using p)
theorem ins_mem (x y : Int) : ∀ l, y ∈ insI x l ↔ y = x ∨ y ∈ l
  | [] => by simp [insI]
  | z :: r => by
    unfold insI
    split
    · simp only [List.mem_cons, ins_mem x y r]; grind
    · simp only [List.mem_cons]
theorem sort_mem (y : Int) : ∀ l, y ∈ sortI l ↔ y ∈ l
  | [] => by simp [sortI]
  | z :: r => by simp only [sortI, ins_mem, sort_mem y r, List.mem_cons]
theorem ins_lt {x : Int} : ∀ {l : List Int}, l.Pairwise (· < ·) → x ∉ l → (insI x l).Pairwise (· < ·)
  | [], _, _ => by simp [insI]
  | z :: r, hp, hx => by
    rw [List.pairwise_cons] at hp
    unfold insI
    split
    · rename_i q
      rw [List.pairwise_cons]
      refine ⟨fun y m => ?_, ins_lt hp.2 fun m => hx (List.mem_cons_of_mem _ m)⟩
      rcases (ins_mem x y r).mp m with rfl | m
      · exact q
      · exact hp.1 y m
    · rename_i q
      have hne : x ≠ z := fun e => hx (e ▸ List.mem_cons_self)
      have hlt : x < z := by omega
      rw [List.pairwise_cons]
      refine ⟨fun y m => ?_, List.pairwise_cons.mpr hp⟩
      rcases List.mem_cons.mp m with rfl | m
      · exact hlt
      · have := hp.1 y m; omega
theorem sort_lt : ∀ {l : List Int}, l.Nodup → (sortI l).Pairwise (· < ·)
  | [], _ => by simp [sortI]
  | z :: r, nd => by
    rw [List.nodup_cons] at nd
    exact ins_lt (sort_lt nd.2) fun m => nd.1 ((sort_mem z r).mp m)
theorem pw_ext : ∀ {l m : List Int}, l.Pairwise (· < ·) → m.Pairwise (· < ·) → (∀ x, x ∈ l ↔ x ∈ m) → l = m
  | [], [], _, _, _ => rfl
  | [], y :: m, _, _, e => absurd ((e y).mpr List.mem_cons_self) List.not_mem_nil
  | x :: l, [], _, _, e => absurd ((e x).mp List.mem_cons_self) List.not_mem_nil
  | x :: l, y :: m, hl, hm, e => by
    rw [List.pairwise_cons] at hl hm
    have xy : x = y := by
      rcases List.mem_cons.mp ((e x).mp List.mem_cons_self) with q | q
      · exact q
      · rcases List.mem_cons.mp ((e y).mpr List.mem_cons_self) with p | p
        · exact p.symm
        · have := hm.1 x q; have := hl.1 y p; omega
    subst xy
    congr 1
    refine pw_ext hl.2 hm.2 fun z => ⟨fun q => ?_, fun q => ?_⟩
    · rcases List.mem_cons.mp ((e z).mp (List.mem_cons_of_mem _ q)) with p | p
      · subst p; have := hl.1 _ q; omega
      · exact p
    · rcases List.mem_cons.mp ((e z).mpr (List.mem_cons_of_mem _ q)) with p | p
      · subst p; have := hm.1 _ q; omega
      · exact p
theorem ints_map : ∀ l : List Nat, intsT (tIs l) = some (l.map fun (n : Nat) => (n : Int))
  | [] => rfl
  | x :: r => by
    show (intsT (tIs r)).map _ = _
    rw [ints_map r]; rfl
theorem sorted_under (b : Bk) (n : Nat) (hn : n < b.length) : sortI ((rowF b n).map fun (n : Nat) => (n : Int)) = (undersB b n).map fun (n : Nat) => (n : Int) := by
  have q := row_ok b n
  refine pw_ext (sort_lt ?_) ?_ fun x => ?_
  · refine List.Pairwise.map _ (fun a b (e : a ≠ b) => ?_) q.2.1
    omega
  · refine List.Pairwise.map (R := (· < ·)) _ (fun a b (e : a < b) => ?_) (List.Pairwise.filter _ List.pairwise_lt_range)
    omega
  · rw [sort_mem, List.mem_map, List.mem_map]
    constructor
    · rintro ⟨a, ha, rfl⟩
      refine ⟨a, ?_, rfl⟩
      unfold undersB
      rw [List.mem_filter, List.mem_range, q.1 a]
      have := q.2.2 a ha
      exact ⟨by omega, by simpa using ha⟩
    · rintro ⟨a, ha, rfl⟩
      refine ⟨a, ?_, rfl⟩
      have := (List.mem_filter.mp ha).2
      rw [q.1 a] at this
      simpa using this
end GtS
end
section
set_option Elab.async false
set_option linter.all false
namespace GtS
open Gt
variable {ft : Nat → Option Fn} {h : Hs} {k : Nat}
theorem pw_len : ∀ {l : List Int} {a b : Int}, l.Pairwise (· < ·) → (∀ x ∈ l, a ≤ x ∧ x < b) → (l.length : Int) ≤ max (b - a) 0
  | [], _, _, _, _ => by simp; omega
  | x :: l, a, b, hp, hx => by
    rw [List.pairwise_cons] at hp
    have ih := pw_len (a := x + 1) (b := b) hp.2 fun y m => ⟨by have := hp.1 y m; omega, (hx y (List.mem_cons_of_mem _ m)).2⟩
    have := hx x List.mem_cons_self
    simp only [List.length_cons]
    omega
theorem ins_len (x : Int) : ∀ l, (insI x l).length = l.length + 1
  | [] => rfl
  | y :: r => by unfold insI; split <;> simp [ins_len x r]
theorem sort_len : ∀ l, (sortI l).length = l.length
  | [] => rfl
  | x :: r => by simp [sortI, ins_len, sort_len r]
theorem nd_len {l : List Nat} {n : Nat} (nd : l.Nodup) (hl : ∀ x ∈ l, x < n) : l.length ≤ n := by
  have h1 : (l.map fun (n : Nat) => (n : Int)).Nodup := List.Pairwise.map _ (fun a b (e : a ≠ b) => by omega) nd
  have h2 := pw_len (a := 0) (b := n) (sort_lt h1) fun x m => by
    rw [sort_mem, List.mem_map] at m
    obtain ⟨y, hy, rfl⟩ := m
    have := hl y hy
    omega
  rw [sort_len, List.length_map] at h2
  omega
theorem cat_nn (a b : List Nat) (hl : a.length + b.length ≤ 100000) : fAdd h (.lst (tIs a)) (.lst (tIs b)) = some (.own (.lst (tIs (a ++ b)))) := by
  rw [cat_lst (by simp [tIs]; exact le_LIM (by omega))]
  simp [tIs]
theorem lb_len (b : Bk) (n : Nat) : (leansB b n).length ≤ n := nd_len (nd_leans b n) fun x m => leansB_lt m
theorem q_lunder (A : HasM ft) {b : Bk} (g : Good b) (hl : b.length ≤ 60) (n : Nat) (hn : n < b.length) (k : Nat) (hk : 71 ≤ k) : run ft k i__law_under [encB b, .int n] h = .ok (.own (.lst (tIs (undersB b n)))) h := by
  obtain ⟨k, rfl⟩ : ∃ j, k = j + 1 := ⟨k - 1, by omega⟩
  rw [run_pure A.m2 (by decide) rfl]
  have q0 := q_lleans (h := h) A g (by omega) n hn k (by omega)
  obtain ⟨j, e, i⟩ := for_map (tg := .one 3) (b := sIf (tBl (eOp2 fIn (eVar 3) (eVar 2))) (sSet 2 (eOwn (oOp2 fAdd (eVar 2) (eOwn (oComp [4] (.one 4) (iSeq (eOwn (eCall i__law_leans (aCons (eVar 0) (aCons (eVar 3) (aNil)))))) (tBl (eOp2 fNotIn (eVar 4) (eVar 2))) (eVar 4)))))) (sSkip) (run ft k)) (h := h) (fun (l : List Nat) (j : Slot × Slot) => [.val (encB b), .val (.int n), .val (.lst (tIs l)), j.1, j.2]) (fun l => l.Nodup ∧ ∀ x ∈ l, x < n) tI (rowU b) (List.range n).reverse (fun l j x m ⟨nd, hl⟩ => by
    have hx : x < n := by simpa using m
    refine ⟨⟨rowU_nd nd, rowU_lt hl hx⟩, _, rfl, (.val (tI x), j.2), ?_⟩
    by_cases z : x ∈ l
    · have er : rowU b l x = l ++ (leansB b x).filter fun y => !decide (y ∈ l) := if_pos z
      have q1 := q_lleans (h := h) A g (by omega) x (by omega) k (by omega)
      have ll := lb_len b x
      have l2 := nd_len nd hl
      have l3 := List.length_filter_le (fun y => !decide (y ∈ l)) (leansB b x)
      have cm := comp_map0 (h := h) (tg := .one 4) (tt := tBl (eOp2 fNotIn (eVar 4) (eVar 2)) (run ft k)) (b := eVar 4 (run ft k)) (e := [.val (encB b), .val (.int n), .val (.lst (tIs l)), .val (tI x), .un]) tI (fun y => !decide (y ∈ l)) tI (leansB b x) (fun y m => ⟨_, rfl, by simp [notIn_natL], fun _ => by simp⟩) (le_LIM (by omega))
      have ct := cat_nn (h := h) l ((leansB b x).filter fun y => !decide (y ∈ l)) (by omega)
      rw [er]
      have il := in_natL (h := h) x l
      rw [decide_eq_true z] at il
      simp only [encB, tIs, List.map_append] at q1 cm ct il
      simp [il, encB, q1, tIs, wipeE, cm, ct]
    · have er : rowU b l x = l := if_neg z
      rw [er]
      have il := in_natL (h := h) x l
      rw [decide_eq_false z] at il
      simp [il]) (leansB b n) (.un, .un) ⟨nd_leans b n, fun x m => leansB_lt m⟩
  have r3 := r3_nat (h := h) (n := n) (by omega)
  have srt : fSorted h (.lst (tIs (rowF b n))) = some (.own (.lst (tIs (undersB b n)))) := by
    show (match intsT (tIs (rowF b n)) with | some ns => _ | none => _) = _
    rw [ints_map]
    have nl := nd_len i.1 i.2
    show (if ((rowF b n).map fun (n : Nat) => (n : Int)).length < 64 then _ else _) = _
    rw [if_pos (by rw [List.length_map]; unfold rowF; omega), sorted_under b n hn]
    simp [tIs, Function.comp_def]
  have e' : forL (Tg.one 3) (sIf (tBl (eOp2 fIn (eVar 3) (eVar 2))) (sSet 2 (eOwn (oOp2 fAdd (eVar 2) (eOwn (oComp [4] (.one 4) (iSeq (eOwn (eCall i__law_leans (aCons (eVar 0) (aCons (eVar 3) (aNil)))))) (tBl (eOp2 fNotIn (eVar 4) (eVar 2))) (eVar 4)))))) (sSkip) (run ft k)) (List.map tI (List.range n).reverse) [.val (encB b), .val (.int n), .val (.lst (tIs (leansB b n))), .un, .un] h = .next [.val (encB b), .val (.int n), .val (.lst (tIs (rowF b n))), j.1, j.2] h := e
  simp only [encB] at e' q0
  simp [F__law_under, k__law_under, mkEnv, encB, q0, -y_r3b, -List.map_reverse, r3, e', srt]
theorem find_look {b : Bk} (g : Good b) (l : S) : findC (ctx b) l = lookC (ctx b) l := by
  induction g with
  | nil => rfl
  | @snoc b e hb he ih =>
    have e1 : ctx (b ++ [e]) = ctx b ++ [(e.nm, e.sn)] := by simp [ctx]
    rw [e1, look_app]
    have e2 : findC (ctx b ++ [(e.nm, e.sn)]) l = if e.nm = l then some e.sn else findC (ctx b) l := by simp [findC, List.foldl_append]
    rw [e2, ih]
    by_cases z : e.nm = l
    · rw [if_pos z, if_pos z]
      cases y : lookC (ctx b) l with
      | none => rfl
      | some s =>
        have := look_mem _ _ _ y
        obtain ⟨x, hx, q⟩ := List.mem_map.mp this
        have : e.nm ∈ nmsB b := List.mem_map.mpr ⟨x, hx, by rw [z]; exact (Prod.mk.inj q).1⟩
        exact absurd this he.new
    · rw [if_neg z, if_neg z]
      cases lookC (ctx b) l <;> rfl
theorem find_lookR {b : Bk} (g : Good b) : findR (ctx b) = lookR (ctx b) := funext fun l => find_look g l
theorem q_ltaken (A : HasM ft) {b : Bk} (g : Good b) (hl : b.length ≤ 60) (n : Nat) (hn : n < b.length) (k : Nat) (hk : 71 ≤ k) : run ft k i__law_taken [encB b, .int n] h = .ok (.val (.bl (takenB b n))) h := by
  obtain ⟨k, rfl⟩ : ∃ j, k = j + 1 := ⟨k - 1, by omega⟩
  rw [run_pure A.m3 (by decide) rfl]
  obtain ⟨e, he⟩ := getE hn
  have ge := g.get he
  have ti : atIx (b.map encE) (n : Int) = some (.tup [.str e.nm, e.sn.enc, encT e.tm]) := by rw [at_map, he]; rfl
  cases z : e.tm with
  | none =>
    have : takenB b n = true := by simp [takenB, he, z]
    rw [this]
    simp [F__law_taken, k__law_taken, mkEnv, encB, ti, z, encT]
  | some p =>
    obtain ⟨t, s⟩ := p
    have w := ge.tm t s z
    have ht := t.ht_kn
    have gt_ := take_good g n
    have sm := ctx_small gt_
    have cm := comp_map0 (h := h) (tg := .many [2, 3, 4]) (tt := tYes (run ft k)) (b := eTup (aCons (eVar 2) (aCons (eVar 3) aNil)) (run ft k)) (e := [.val (encB b), .val (.int n), .un, .un, .un]) encE (fun _ => true) (fun e => pr (e.nm, e.sn)) (b.take n) (fun x m => ⟨_, rfl, rfl, fun _ => by simp [pr]⟩) (by rw [List.length_take]; exact le_LIM (by omega))
    rw [List.filter_eq_self.mpr (fun _ _ => rfl), List.map_take] at cm
    have q2 := q_borne (h := h) A.l w.2.2.1 (ctx (b.take n)) k (find_lookR gt_) sm (by simp [ctx]; omega) (by omega)
    have ec : encLC (ctx (b.take n)) = .lst ((b.take n).map fun e => pr (e.nm, e.sn)) := by simp [encLC, ctx, Function.comp_def]
    rw [ec] at q2
    have hs := w.2.2.1.small sm
    have hd := good_ok ge.sn
    have q3 := eq_enc (h := h) (s := s) (t := e.sn) (by omega) (by omega)
    have : takenB b n = decide (s = e.sn) := by simp [takenB, he, z]
    rw [this]
    simp only [encB] at cm
    simp [F__law_taken, k__law_taken, mkEnv, encB, ti, z, encT, isNon_tm, cut_take, wipeE, cm, q3]
    simp only [List.map_take] at q2
    simp [q2, q3, ti]
theorem unders_len (b : Bk) (n : Nat) : (undersB b n).length ≤ b.length := by
  have := List.length_filter_le (PU b n) (List.range b.length)
  rw [List.length_range] at this
  exact this
theorem q_lstands (A : HasM ft) {b : Bk} (g : Good b) (hl : b.length ≤ 60) (n : Nat) (hn : n < b.length) (k : Nat) (hk : 73 ≤ k) : run ft k i__law_stands [encB b, .int n] h = .ok (.val (.bl (standB b n))) h := by
  obtain ⟨k, rfl⟩ : ∃ j, k = j + 1 := ⟨k - 1, by omega⟩
  rw [run_pure A.m4 (by decide) rfl]
  have q0 := q_lunder (h := h) A g hl n hn k (by omega)
  have ul := unders_len b n
  have ct := cat_nn (h := h) (undersB b n) [n] (by simp; omega)
  have cm := comp_map0 (h := h) (tg := .one 2) (tt := tYes (run ft k)) (b := eOwn (eCall i__law_taken (aCons (eVar 0) (aCons (eVar 2) (aNil)))) (run ft k)) (e := [.val (encB b), .val (.int n), .un]) tI (fun _ => true) (fun x => .bl (takenB b x)) (undersB b n ++ [n]) (fun x m => ⟨_, rfl, rfl, fun _ => by
    have hx : x < b.length := by
      rcases List.mem_append.mp m with m | m
      · exact undersB_lt m
      · rw [List.mem_singleton.mp m]; exact hn
    have q := q_ltaken (h := h) A g hl x hx k (by omega)
    simp [q]⟩) (by simp; exact le_LIM (by omega))
  rw [List.filter_eq_self.mpr (fun _ _ => rfl)] at cm
  have e : standB b n = (undersB b n ++ [n]).all (takenB b) := by
    simp [standB, Bool.and_comm]
  have am := all_map (h := h) (takenB b) (undersB b n ++ [n])
  rw [e]
  simp only [encB, tIs] at q0 ct cm
  simp at ct cm am
  simp [F__law_stands, k__law_stands, mkEnv, encB, q0, wipeE, ct, cm, am]
theorem range_filter {P : Pr} {n : Nat} (hP : ∀ x, P x = true → x < n) : ∀ m, (List.range (n + m)).filter P = (List.range n).filter P
  | 0 => rfl
  | m + 1 => by
    have : P (n + m) = false := by
      cases z : P (n + m) with
      | false => rfl
      | true => have := hP _ z; omega
    rw [← Nat.add_assoc, List.range_succ, List.filter_append, range_filter hP m]
    simp [this]
theorem unders_range (b : Bk) (n : Nat) (hn : n < b.length) : undersB b n = (List.range n).filter (PU b n) := by
  have := range_filter (P := PU b n) (n := n) (fun x p => PU_lt p) (b.length - n)
  rw [show n + (b.length - n) = b.length by omega] at this
  exact this
theorem rests_eq (b : Bk) (n : Nat) (hn : n < b.length) : restsB b n = (undersB b n ++ [n]).filter (assB b) := by
  have e := unders_range b n hn
  unfold restsB
  rw [List.range_succ, List.filter_append, List.filter_append]
  congr 1
  · rw [e, List.filter_filter]
    refine List.filter_congr fun x m => ?_
    have hx := List.mem_range.mp m
    have d1 : decide (x = n) = false := decide_eq_false (by omega)
    rw [d1, Bool.false_or]
    congr 1
    cases z : PU b n x with
    | true => exact decide_eq_true (List.mem_filter.mpr ⟨m, z⟩)
    | false => exact decide_eq_false fun q => by have := (List.mem_filter.mp q).2; rw [z] at this; cases this
  · refine List.filter_congr fun x m => ?_
    rw [List.mem_singleton.mp m, decide_eq_true rfl, Bool.true_or, Bool.and_true]
theorem q_lrests (A : HasM ft) {b : Bk} (g : Good b) (hl : b.length ≤ 60) (n : Nat) (hn : n < b.length) (k : Nat) (hk : 73 ≤ k) : run ft k i__law_rests [encB b, .int n] h = .ok (.own (.lst (tIs (restsB b n)))) h := by
  obtain ⟨k, rfl⟩ : ∃ j, k = j + 1 := ⟨k - 1, by omega⟩
  rw [run_pure A.m5 (by decide) rfl]
  have q0 := q_lunder (h := h) A g hl n hn k (by omega)
  have ul := unders_len b n
  have ct := cat_nn (h := h) (undersB b n) [n] (by simp; omega)
  have cm := comp_map0 (h := h) (tg := .one 2) (tt := tBl (eOp2 fIs (eOp2 fIx (eOp2 fIx (eVar 0) (eVar 2)) (eK (.int 2))) (eK .non)) (run ft k)) (b := eVar 2 (run ft k)) (e := [.val (encB b), .val (.int n), .un]) tI (assB b) tI (undersB b n ++ [n]) (fun x m => ⟨_, rfl, by
    have hx : x < b.length := by
      rcases List.mem_append.mp m with m | m
      · exact undersB_lt m
      · rw [List.mem_singleton.mp m]; exact hn
    obtain ⟨e, he⟩ := getE hx
    have ti : atIx (b.map encE) (x : Int) = some (.tup [.str e.nm, e.sn.enc, encT e.tm]) := by rw [at_map, he]; rfl
    have as : assB b x = e.tm.isNone := by simp [assB, he]
    simp [encB, ti, isNon_encT, as], fun _ => by simp⟩) (by simp; exact le_LIM (by omega))
  rw [rests_eq b n hn]
  simp only [encB, tIs, List.map_append] at q0 ct cm
  simp at ct
  simp [F__law_rests, k__law_rests, mkEnv, encB, q0, wipeE, ct, tIs]
  simp at cm
  simp [cm]
end GtS
end
section
set_option Elab.async false
set_option linter.all false
namespace GtS
open Gt
variable {ft : Nat → Option Fn} {k : Nat}
structure HasD (ft : Nat → Option Fn) : Prop where
  m : HasM ft
  d1 : ft i__law_draw = some F__law_draw
  d2 : ft i__law_sentence = some F__law_sentence
  d3 : ft i__law_for = some F__law_for
  d4 : ft i__law_make = some F__law_make
  d5 : ft i__law_book = some F__law_book
/-- the heap with the state at n -/
def hp (H : Hs) (n : Nat) (s : Int) : Hs := H.set n (.lst [.int s])
section
variable {H : Hs} {n : Nat} (hn : n < H.length)
include hn
theorem hp_get (s : Int) : (hp H n s)[n]? = some (.lst [.int s]) := by
  unfold hp; simp [hn]
theorem hp_ix (s : Int) : fIx (hp H n s) (.ref n) (.int 0) = some (.int s) := by
  have e : deref (hp H n s) (.ref n) = .lst [.int s] := by
    show (match (hp H n s)[n]? with | some c => c.toT | none => .ref n) = _
    rw [hp_get hn s]; rfl
  show (match deref (hp H n s) (.ref n) with | .dic l => _ | _ => fIxS (hp H n s) (.ref n) (.int 0)) = _
  rw [e]
  show (match deref (hp H n s) (.ref n) with | .tup l => _ | .lst l => _ | .scr l => _ | .str l => _ | _ => none) = _
  rw [e]
  rfl
omit hn in
theorem hp_set (s t : Int) : (hp H n s).set n (.lst [.int t]) = hp H n t := by
  unfold hp; simp
theorem q_draw (A : HasD ft) (s : Int) (m : Int) (hm : 1 ≤ m) (k : Nat) (hk : 1 ≤ k) : ∃ (r : Nat) (s' : Int), (r : Int) < m ∧ run ft k i__law_draw [.ref n, .int m] (hp H n s) = .ok (.val (.int r)) (hp H n s') := by
  obtain ⟨k, rfl⟩ : ∃ j, k = j + 1 := ⟨k - 1, by omega⟩
  rw [run_pure A.d1 (by decide) rfl]
  have ix : ∀ s, fIx (hp H n s) (.ref n) (.int 0) = some (.int s) := hp_ix hn
  have gt : ∀ s, (hp H n s)[n]? = some (.lst [.int s]) := hp_get hn
  have mu : ∀ h, fMul h (.int s) (.int 48271) = some (.int (s * 48271)) := fun h => by
    show (if (small64 s || small64 48271) = true then _ else _) = _
    rw [if_pos (by rw [show small64 48271 = true from rfl, Bool.or_true])]
  have md : ∀ h x, fMod h (.int x) (.int 2147483647) = some (.int (x % 2147483647)) := fun h x => by
    show (if (0 : Int) < 2147483647 then some (T.int (x % 2147483647)) else none) = _
    rw [if_pos (by decide)]
  have mm : ∀ h x, fMod h (.int x) (.int m) = some (.int (x % m)) := fun h x => by
    show (if (0 : Int) < m then some (T.int (x % m)) else none) = _
    rw [if_pos (by omega)]
  have dv : ∀ h x, fDiv h (.int x) (.int 11) = some (.int (x / 11)) := fun h x => by
    show (if (0 : Int) < 11 ∧ (11 : Int) < 1073741824 then some (T.int (x / 11)) else none) = _
    rw [if_pos (by decide)]
  have it : ∀ h x, fInt h (.int x) = some (.int x) := fun h x => rfl
  have w4 : ∀ (e : List Slot) (s t : Int), wHp4 e n (.int t) (.int 0) (hp H n s) (some (.lst [.int s])) = .next e (hp H n t) := fun e s t => by
    show SR.next e ((hp H n s).set n (.lst ([T.int s].set 0 (.int t)))) = _
    rw [show [T.int s].set 0 (.int t) = [.int t] from rfl, hp_set]
  have h1 := Int.emod_nonneg ((s * 48271 + 12345) % 2147483647 / 11) (b := m) (by omega)
  have h2 := Int.emod_lt_of_pos ((s * 48271 + 12345) % 2147483647 / 11) (b := m) (by omega)
  have h3 : ((((s * 48271 + 12345) % 2147483647 / 11) % m).toNat : Int) = ((s * 48271 + 12345) % 2147483647 / 11) % m := Int.toNat_of_nonneg h1
  refine ⟨(((s * 48271 + 12345) % 2147483647 / 11) % m).toNat, (s * 48271 + 12345) % 2147483647, by omega, ?_⟩
  rw [h3]
  simp [F__law_draw, k__law_draw, mkEnv, ix, gt, mu, md, mm, dv, it, w4]
end
theorem Sn.odd (s : Sn) : s.knots % 2 = 1 := by
  induction s with
  | atom a => rfl
  | non => rfl
  | bin w l r il ir => simp only [Sn.knots]; omega
theorem Sn.deep_knots (s : Sn) : 2 * s.deep ≤ s.knots + 1 := by
  induction s with
  | atom a => simp [Sn.deep, Sn.knots]
  | non => simp [Sn.deep, Sn.knots]
  | bin w l r il ir => have := l.knots_pos; have := r.knots_pos; simp only [Sn.knots, Sn.deep]; omega
section
variable {H : Hs} {n : Nat} (hn : n < H.length)
include hn
theorem q_lsent (A : HasD ft) : ∀ (left : Nat) (s : Int) (k : Nat), left + 2 ≤ k → ∃ (sn : Sn) (s' : Int), sn.ok = true ∧ sn.knots + 1 ≤ 2 ^ (left + 1) ∧ run ft k i__law_sentence [.ref n, .int left] (hp H n s) = .ok (.val sn.enc) (hp H n s')
  | left, s, 0, hk => by omega
  | left, s, k + 1, hk => by
    obtain ⟨r, s1, hr, e1⟩ := q_draw hn A s 7 (by omega) k (by omega)
    have pw : 2 ≤ 2 ^ (left + 1) := by
      rw [Nat.pow_succ]; have := Nat.one_le_two_pow (n := left); omega
    by_cases c : left = 0 ∨ r < 2
    · obtain ⟨q, s2, hq, e2⟩ := q_draw hn A s1 6 (by omega) k (by omega)
      have go : ∀ t, atIx [T.str [97], .str [98], .str [99], .str [97], .str [98], .tup [.str [110, 111, 110, 101]]] (q : Int) = some t → run ft (k + 1) i__law_sentence [.ref n, .int left] (hp H n s) = .ok (.val t) (hp H n s2) := fun t ht => by
        rw [run_pure A.d2 (by decide) rfl]
        by_cases z : left = 0
        · subst z; simp [F__law_sentence, k__law_sentence, mkEnv, e1, e2, ht]
        · have z0 : decide ((left : Int) = 0) = false := decide_eq_false (by omega)
          have z1 : decide ((r : Int) < 2) = true := decide_eq_true (by omega)
          simp [F__law_sentence, k__law_sentence, mkEnv, e1, e2, z, z1, ht]
      have hq' : q = 0 ∨ q = 1 ∨ q = 2 ∨ q = 3 ∨ q = 4 ∨ q = 5 := by omega
      rcases hq' with rfl | rfl | rfl | rfl | rfl | rfl
      · exact ⟨.atom [97], s2, rfl, by simpa [Sn.knots] using pw, go _ rfl⟩
      · exact ⟨.atom [98], s2, rfl, by simpa [Sn.knots] using pw, go _ rfl⟩
      · exact ⟨.atom [99], s2, rfl, by simpa [Sn.knots] using pw, go _ rfl⟩
      · exact ⟨.atom [97], s2, rfl, by simpa [Sn.knots] using pw, go _ rfl⟩
      · exact ⟨.atom [98], s2, rfl, by simpa [Sn.knots] using pw, go _ rfl⟩
      · exact ⟨.non, s2, rfl, by simpa [Sn.knots] using pw, go _ rfl⟩
    · obtain ⟨left, rfl⟩ : ∃ j, left = j + 1 := ⟨left - 1, by omega⟩
      have sb : ((left + 1 : Nat) : Int) - 1 = (left : Int) := by omega
      obtain ⟨a, s2, oa, ka, e2⟩ := q_lsent A left s1 k (by omega)
      obtain ⟨b, s3, ob, kb, e3⟩ := q_lsent A left s2 k (by omega)
      have z0 : decide ((left : Int) + 1 = 0) = false := decide_eq_false (by omega)
      have z1 : decide ((r : Int) < 2) = false := decide_eq_false (by omega)
      have pk : 2 ^ (left + 1 + 1) = 2 ^ (left + 1) + 2 ^ (left + 1) := by rw [Nat.pow_succ]; omega
      have fm : ∀ h, fMod h (.int r) (.int 3) = some (.int ((r : Int) % 3)) := fun h => by
        show (if (0 : Int) < 3 then some (T.int ((r : Int) % 3)) else none) = _
        rw [if_pos (by decide)]
      have cm : (r : Int) % 3 = ((r % 3 : Nat) : Int) := by omega
      have go : ∀ w : Wd, atIx [T.str [97, 110, 100], .str [111, 114], .str [105, 102]] ((r : Int) % 3) = some (.str w.s) → run ft (k + 1) i__law_sentence [.ref n, .int (left + 1 : Nat)] (hp H n s) = .ok (.val (Sn.bin w a b).enc) (hp H n s3) := fun w hw => by
        rw [run_pure A.d2 (by decide) rfl]
        simp [F__law_sentence, k__law_sentence, mkEnv, e1, z0, z1, fm, e2, e3, Sn.enc, hw]
      have hr3 : r % 3 = 0 ∨ r % 3 = 1 ∨ r % 3 = 2 := by omega
      rcases hr3 with q | q | q
      · exact ⟨.bin .and a b, s3, by simp [Sn.ok, oa, ob], by simp only [Sn.knots]; omega, go .and (by rw [cm, q]; rfl)⟩
      · exact ⟨.bin .or a b, s3, by simp [Sn.ok, oa, ob], by simp only [Sn.knots]; omega, go .or (by rw [cm, q]; rfl)⟩
      · exact ⟨.bin .iff a b, s3, by simp [Sn.ok, oa, ob], by simp only [Sn.knots]; omega, go .iff (by rw [cm, q]; rfl)⟩
end
end GtS
end
section
set_option Elab.async false
set_option linter.all false
namespace GtS
open Gt
variable {ft : Nat → Option Fn} {k : Nat}
theorem find_mem {c : Cn} {l : S} {s : Sn} (e : findC c l = some s) : (l, s) ∈ c := by
  have gen : ∀ (c : Cn) (m : Option Sn), c.foldl (fun m p => if p.1 = l then some p.2 else m) m = some s → (l, s) ∈ c ∨ m = some s := by
    intro c
    induction c with
    | nil => intro m e; exact .inr e
    | cons p r ih =>
      intro m e
      rw [List.foldl_cons] at e
      rcases ih _ e with q | q
      · exact .inl (List.mem_cons_of_mem _ q)
      · by_cases z : p.1 = l
        · rw [if_pos z] at q
          cases q
          subst z
          exact .inl List.mem_cons_self
        · rw [if_neg z] at q; exact .inr q
  rcases gen c none e with q | q
  · exact q
  · cases q
theorem find_some {c : Cn} {p : S × Sn} (m : p ∈ c) : ∃ s, findC c p.1 = some s := by
  have gen : ∀ (c : Cn) (o : Option Sn), (p ∈ c ∨ ∃ s, o = some s) → ∃ s, c.foldl (fun m q => if q.1 = p.1 then some q.2 else m) o = some s := by
    intro c
    induction c with
    | nil => intro o e; rcases e with e | e
             · cases e
             · exact e
    | cons x r ih =>
      intro o e
      rw [List.foldl_cons]
      refine ih _ ?_
      rcases e with e | e
      · rcases List.mem_cons.mp e with rfl | e
        · exact .inr ⟨_, if_pos rfl⟩
        · exact .inl e
      · refine .inr ?_
        by_cases z : x.1 = p.1
        · exact ⟨_, if_pos z⟩
        · rw [if_neg z]; exact e
  exact gen c none (.inl m)
/-- a context of the law -/
structure CI (c : Cn) : Prop where
  nm : ∀ p ∈ c, nameOk p.1 = true
  ok : ∀ p ∈ c, p.2.ok = true
  kn : ∀ p ∈ c, p.2.knots ≤ 19
theorem CI.snoc {c : Cn} (i : CI c) {l : S} {s : Sn} (h1 : nameOk l = true) (h2 : s.ok = true) (h3 : s.knots ≤ 19) : CI (c ++ [(l, s)]) := by
  refine ⟨fun p m => ?_, fun p m => ?_, fun p m => ?_⟩ <;> rcases List.mem_append.mp m with m | m
  · exact i.nm p m
  · rw [List.mem_singleton.mp m]; exact h1
  · exact i.ok p m
  · rw [List.mem_singleton.mp m]; exact h2
  · exact i.kn p m
  · rw [List.mem_singleton.mp m]; exact h3
theorem good_of {s : Sn} (h1 : s.ok = true) (h2 : s.knots ≤ 39) : s.good = true := by
  have := s.deep_knots
  simp only [Sn.good, Sn.fits, h1, Bool.true_and, Bool.and_eq_true, decide_eq_true_eq]
  omega
theorem CI.good {c : Cn} (i : CI c) : ∀ p ∈ c, p.2.good = true := fun p m => good_of (i.ok p m) (by have := i.kn p m; omega)
theorem CI.small {c : Cn} (i : CI c) : (findR c).small := fun l s e => by
  have m := find_mem e
  have := i.kn _ m
  have := s.deep_knots
  simp only at *
  omega
theorem good_bin {w : Wd} {l r : Sn} (g : (Sn.bin w l r).good = true) : l.good = true ∧ r.good = true := by
  have := good_ok g
  have o : l.ok = true ∧ r.ok = true := by simpa [Sn.ok] using this.1
  have hd : max l.deep r.deep + 1 ≤ 20 := this.2.1
  have hk : l.knots + r.knots + 1 ≤ 60 := this.2.2
  have := l.knots_pos
  have := r.knots_pos
  simp only [Sn.good, Sn.fits, o.1, o.2, Bool.true_and, Bool.and_eq_true, decide_eq_true_eq]
  omega
theorem good_fits {s : Sn} (g : s.good = true) : s.fits = true := by
  simp only [Sn.good, Bool.and_eq_true] at g
  exact g.2
def encOT : Option Tm → T
  | none => .non
  | some t => t.enc
theorem isNon_OT (o : Option Tm) : isNon (encOT o) = o.isNone := by
  cases o with
  | none => rfl
  | some t => exact isNon_tm t
section
variable {H : Hs} {n : Nat} (hn : n < H.length)
include hn
theorem q_lfor (A : HasD ft) : ∀ (left : Nat) (g : Sn) (c : Cn) (s : Int) (k : Nat), g.good = true → CI c ∨ (findR c).small ∧ (∀ p ∈ c, nameOk p.1 = true ∧ p.2.deep ≤ 60) → c.length + left ≤ 1000 → left + 3 ≤ k → ∃ (o : Option Tm) (s' : Int), run ft k i__law_for [.ref n, encLC c, g.enc, .int left] (hp H n s) = .ok (.val (encOT o)) (hp H n s') ∧ ∀ t, o = some t → Ty' (findR c) t g ∧ t.wf = true ∧ t.ht ≤ left + 1
  | left, g, c, s, 0, _, _, _, hk => by omega
  | left, g, c, s, k + 1, hg, hc, hl, hk => by
    have hc' : (findR c).small ∧ ∀ p ∈ c, nameOk p.1 = true ∧ p.2.deep ≤ 60 := by
      rcases hc with i | i
      · exact ⟨i.small, fun p m => ⟨i.nm p m, by have := i.kn p m; have := p.2.deep_knots; omega⟩⟩
      · exact i
    have gd := good_ok hg
    have cm : ∀ (L : T) h, compL (.many [8, 6]) (tAnd (tBl (eOp2 fEq (eVar 6) (eVar 2))) (tBl (eOp2 fEq (eOwn (eCall i__law_find (aCons (eVar 1) (aCons (eVar 8) (aNil))))) (eVar 2))) (run ft k)) (eVar 8 (run ft k)) [.val (.ref n), .val (encLC c), .val g.enc, .val L, .un, .un, .un, .un, .un] (c.map pr) [] h = .ok ((c.filter fun p => decide (p.2 = g) && decide (findC c p.1 = some g)).map fun p => .str p.1) h := fun L h => by
      refine comp_map0 pr _ (fun p => .str p.1) c (fun p m => ⟨_, rfl, ?_, fun _ => by simp⟩) (le_LIM (by omega))
      have e1 := eq_enc (h := h) (s := p.2) (t := g) (by have := (hc'.2 p m).2; omega) (by omega)
      have q := q_find (h := h) A.m.l c p.1 k (by omega)
      obtain ⟨f, hf⟩ := find_some m
      have fd := hc'.1 _ _ (show findR c p.1 = some f from hf)
      have e2 := eq_enc (h := h) (s := f) (t := g) (by omega) (by omega)
      rw [hf] at q
      have dq : decide (findC c p.1 = some g) = decide (f = g) := by rw [hf]; simp
      rw [dq]
      simp only [encO] at q
      by_cases z : p.2 = g
      · rw [z] at e1; simp [e1, z, q, e2]
      · simp [e1, z]
    have mF : ∀ x ∈ c.filter (fun p => decide (p.2 = g) && decide (findC c p.1 = some g)), findC c x.1 = some g ∧ nameOk x.1 = true := fun x m => by
      rw [List.mem_filter, Bool.and_eq_true, decide_eq_true_eq, decide_eq_true_eq] at m
      exact ⟨m.2.2, (hc'.2 x m.1).1⟩
    generalize hF : c.filter (fun p => decide (p.2 = g) && decide (findC c p.1 = some g)) = F at cm mF
    by_cases hF0 : F = []
    · subst hF0
      by_cases h0 : left = 0
      · subst h0
        refine ⟨none, s, ?_, fun t e => by cases e⟩
        rw [run_pure A.d3 (by decide) rfl]
        simp only [encLC, List.map_nil] at cm
        simp [F__law_for, k__law_for, mkEnv, encLC, wipeE, cm, encOT]
      · obtain ⟨left, rfl⟩ : ∃ j, left = j + 1 := ⟨left - 1, by omega⟩
        have z0 : decide ((left : Int) + 1 = 0) = false := decide_eq_false (by omega)
        cases g with
        | atom a =>
          refine ⟨none, s, ?_, fun t e => by cases e⟩
          rw [run_pure A.d3 (by decide) rfl]
          simp only [encLC, List.map_nil, Sn.enc] at cm
          simp [F__law_for, k__law_for, mkEnv, encLC, wipeE, cm, encOT, z0, Sn.enc, isi_str]
        | non =>
          refine ⟨none, s, ?_, fun t e => by cases e⟩
          rw [run_pure A.d3 (by decide) rfl]
          simp only [encLC, List.map_nil, Sn.enc] at cm
          simp [F__law_for, k__law_for, mkEnv, encLC, wipeE, cm, encOT, z0, Sn.enc, isi_strT]
        | bin w l r =>
          have gb := good_bin hg
          have gl := good_ok gb.1
          have gr := good_ok gb.2
          cases w with
          | iff =>
            have hc2 : (findR (c ++ [([122], l)])).small ∧ ∀ p ∈ c ++ [([122], l)], nameOk p.1 = true ∧ p.2.deep ≤ 60 := by
              refine ⟨?_, fun p m => ?_⟩
              · rw [find_snoc]; exact up_small hc'.1 (by omega)
              · rcases List.mem_append.mp m with m | m
                · exact hc'.2 p m
                · rw [List.mem_singleton.mp m]; exact ⟨rfl, by show l.deep ≤ 60; omega⟩
            obtain ⟨o, s1, e1, ho⟩ := q_lfor A left r (c ++ [([122], l)]) s k gb.2 (.inr hc2) (by simp; omega) (by omega)
            have cat : ∀ h, fAdd h (.lst (c.map pr)) (.lst [.tup [.str [122], l.enc]]) = some (.own (.lst ((c ++ [([122], l)]).map pr))) := fun h => by
              have : fAdd h (.lst (c.map pr)) (.lst [.tup [.str [122], l.enc]]) = _ := cat_lst (by simp; exact le_LIM (by omega))
              rw [this]; simp [pr]
            refine ⟨o.map fun t => .lam [122] l t, s1, ?_, fun t e => ?_⟩
            · rw [run_pure A.d3 (by decide) rfl]
              simp only [encLC, List.map_nil, Sn.enc, Wd.s] at cm e1 cat
              simp [F__law_for, k__law_for, mkEnv, encLC, wipeE, cm, z0, Sn.enc, Wd.s, isi_strT, cat]
              simp at e1
              cases o with
              | none => simp [e1, encOT]
              | some t => simp [e1, encOT, isNon_tm, Tm.enc, wFun]
            · cases o with
              | none => cases e
              | some b =>
                cases e
                obtain ⟨t1, t2, t3⟩ := ho b rfl
                rw [find_snoc] at t1
                refine ⟨.lam t1 (good_fits hg), ?_, ?_⟩
                · simp only [Tm.wf, Bool.and_eq_true]; exact ⟨⟨rfl, gb.1⟩, t2⟩
                · show b.ht + 1 ≤ _; omega
          | and =>
            obtain ⟨o1, s1, e1, h1⟩ := q_lfor A left l c s k gb.1 (.inr hc') (by omega) (by omega)
            obtain ⟨o2, s2, e2, h2⟩ := q_lfor A left r c s1 k gb.2 (.inr hc') (by omega) (by omega)
            have go : run ft (k + 1) i__law_for [.ref n, encLC c, (Sn.bin .and l r).enc, .int (left + 1 : Nat)] (hp H n s) = .ok (.val (match o1, o2 with | some a, some b => (Tm.pair a b).enc | _, _ => .non)) (hp H n s2) := by
              rw [run_pure A.d3 (by decide) rfl]
              simp only [encLC, List.map_nil, Sn.enc, Wd.s] at cm e1 e2
              cases o1 with
              | none => cases o2 with
                | none => simp [F__law_for, k__law_for, mkEnv, encLC, wipeE, cm, z0, Sn.enc, Wd.s, isi_strT, e1, e2, encOT]
                | some b => simp [F__law_for, k__law_for, mkEnv, encLC, wipeE, cm, z0, Sn.enc, Wd.s, isi_strT, e1, e2, encOT]
              | some a => cases o2 with
                | none => simp [F__law_for, k__law_for, mkEnv, encLC, wipeE, cm, z0, Sn.enc, Wd.s, isi_strT, e1, e2, encOT, isNon_tm]
                | some b => simp [F__law_for, k__law_for, mkEnv, encLC, wipeE, cm, z0, Sn.enc, Wd.s, isi_strT, e1, e2, encOT, isNon_tm, Tm.enc, wPair]
            cases o1 with
            | none => exact ⟨none, s2, go, fun t e => by cases e⟩
            | some a => cases o2 with
              | none => exact ⟨none, s2, go, fun t e => by cases e⟩
              | some b =>
                refine ⟨some (.pair a b), s2, go, fun t e => ?_⟩
                cases e
                obtain ⟨t1, t2, t3⟩ := h1 a rfl
                obtain ⟨u1, u2, u3⟩ := h2 b rfl
                refine ⟨.pair t1 u1 (good_fits hg), ?_, ?_⟩
                · simp only [Tm.wf, Bool.and_eq_true]; exact ⟨t2, u2⟩
                · show max a.ht b.ht + 1 ≤ _; omega
          | or =>
            obtain ⟨o1, s1, e1, h1⟩ := q_lfor A left l c s k gb.1 (.inr hc') (by omega) (by omega)
            obtain ⟨o2, s2, e2, h2⟩ := q_lfor A left r c s1 k gb.2 (.inr hc') (by omega) (by omega)
            have go : run ft (k + 1) i__law_for [.ref n, encLC c, (Sn.bin .or l r).enc, .int (left + 1 : Nat)] (hp H n s) = .ok (.val (match o1, o2 with | some a, _ => (Tm.first a r).enc | none, some b => (Tm.second l b).enc | none, none => .non)) (hp H n s2) := by
              rw [run_pure A.d3 (by decide) rfl]
              simp only [encLC, List.map_nil, Sn.enc, Wd.s] at cm e1 e2
              cases o1 with
              | none => cases o2 with
                | none => simp [F__law_for, k__law_for, mkEnv, encLC, wipeE, cm, z0, Sn.enc, Wd.s, isi_strT, e1, e2, encOT]
                | some b => simp [F__law_for, k__law_for, mkEnv, encLC, wipeE, cm, z0, Sn.enc, Wd.s, isi_strT, e1, e2, encOT, isNon_tm, Tm.enc, wSecond]
              | some a => cases o2 with
                | none => simp [F__law_for, k__law_for, mkEnv, encLC, wipeE, cm, z0, Sn.enc, Wd.s, isi_strT, e1, e2, encOT, isNon_tm, Tm.enc, wFirst]
                | some b => simp [F__law_for, k__law_for, mkEnv, encLC, wipeE, cm, z0, Sn.enc, Wd.s, isi_strT, e1, e2, encOT, isNon_tm, Tm.enc, wFirst]
            cases o1 with
            | none => cases o2 with
              | none => exact ⟨none, s2, go, fun t e => by cases e⟩
              | some b =>
                refine ⟨some (.second l b), s2, go, fun t e => ?_⟩
                cases e
                obtain ⟨u1, u2, u3⟩ := h2 b rfl
                refine ⟨.second u1 (good_fits hg), ?_, ?_⟩
                · simp only [Tm.wf, Bool.and_eq_true]; exact ⟨gb.1, u2⟩
                · show b.ht + 1 ≤ _; omega
            | some a =>
              refine ⟨some (.first a r), s2, by cases o2 <;> exact go, fun t e => ?_⟩
              cases e
              obtain ⟨u1, u2, u3⟩ := h1 a rfl
              refine ⟨.first u1 (good_fits hg), ?_, ?_⟩
              · simp only [Tm.wf, Bool.and_eq_true]; exact ⟨u2, gb.2⟩
              · show a.ht + 1 ≤ _; omega
    · obtain ⟨r, s1, hr, e1⟩ := q_draw hn A s F.length (by cases F with | nil => exact absurd rfl hF0 | cons x y => simp; omega) k (by omega)
      have hr' : r < F.length := by omega
      refine ⟨some (.var F[r].1), s1, ?_, fun t e => ?_⟩
      · rw [run_pure A.d3 (by decide) rfl]
        have ai : atIx (F.map fun p => T.str p.1) (r : Int) = some (.str F[r].1) := by rw [at_map]; simp [hr']
        have ne : (F.map fun p => T.str p.1).isEmpty = false := by cases F with | nil => exact absurd rfl hF0 | cons x y => rfl
        have ne2 : F.isEmpty = false := by cases F with | nil => exact absurd rfl hF0 | cons x y => rfl
        simp only [encLC] at cm
        simp [F__law_for, k__law_for, mkEnv, encLC, wipeE, cm, encOT, ne2, e1, ai, Tm.enc, wVar]
      · cases e
        have q := mF F[r] (List.getElem_mem hr')
        exact ⟨.var q.1, q.2, by show 1 ≤ _; omega⟩
end
end GtS
end
section
set_option Elab.async false
set_option linter.all false
namespace GtS
open Gt
variable {ft : Nat → Option Fn} {k : Nat}
def bK : Nat → Nat | 0 => 19 | 1 => 39 | 2 => 79 | _ => 159
def bP : Nat → Nat | 0 => 19 | 1 => 19 | 2 => 39 | _ => 79
def bQ : Nat → Nat | 0 => 19 | 1 => 39 | 2 => 43 | _ => 83
def bL : Nat → Nat | 0 => 60 | 1 => 60 | 2 => 60 | _ => 20
theorem bStep {m : Nat} (hm : m < 3) : bK (m + 1) = 2 * bK m + 1 ∧ bP (m + 1) = bK m ∧ 4 + bK m ≤ bQ (m + 1) ∧ bQ (m + 1) ≤ bK (m + 1) ∧ bP m ≤ bP (m + 1) ∧ bP m ≤ bQ (m + 1) ∧ bQ m ≤ bQ (m + 1) ∧ bQ m ≤ bP (m + 1) ∧ bL (m + 1) ≤ bL m ∧ bL (m + 1) ≤ 60 ∧ (bK m ≤ bL m ∨ 1 + bL (m + 1) + bP m ≤ bL m) ∧ bQ m ≤ bL m ∧ bQ m ≤ 43 ∧ bL m ≤ 60 := by
  rcases (by omega : m = 0 ∨ m = 1 ∨ m = 2) with rfl | rfl | rfl <;> decide
def isAnd : Sn → Bool
  | .bin .and _ _ => true
  | _ => false
structure MK (n : Nat) (c : Cn) (t : Tm) (b : Sn) : Prop where
  wf : t.wf = true
  ht : t.ht ≤ n + 3
  ok : b.ok = true
  deep : b.deep ≤ 10 + n
  kn : b.knots ≤ bK n
  q : isAnd b = false → b.knots ≤ bQ n
  p : ∀ x y, b = .bin .and x y → x.knots ≤ bP n ∧ y.knots ≤ bP n
  ty : b.knots ≤ bL n → Ty' (findR c) t b
theorem sn_good {s : Sn} (o : s.ok = true) (d : s.deep ≤ 20) (n : s.knots ≤ 60) : s.good = true := by
  simp only [Sn.good, Sn.fits, o, Bool.true_and, Bool.and_eq_true, decide_eq_true_eq]; exact ⟨d, n⟩
theorem sn_fits {s : Sn} (d : s.deep ≤ 20) (n : s.knots ≤ 60) : s.fits = true := by
  simp only [Sn.fits, Bool.and_eq_true, decide_eq_true_eq]; exact ⟨d, n⟩
theorem eq_nil {h : Hs} (l : List T) : fEq h (.lst l) (.lst []) = some (.bl l.isEmpty) := by cases l <;> rfl
/-- the parts of a sentence that is taken apart are as small as itself -/
theorem MK.small {n : Nat} {c : Cn} {t : Tm} {b x y : Sn} {w : Wd} (M : MK n c t b) (e : b = .bin w x y) : x.ok = true ∧ y.ok = true ∧ x.deep + 1 ≤ 10 + n ∧ y.deep + 1 ≤ 10 + n ∧ x.knots + y.knots + 1 = b.knots ∧ 1 ≤ x.knots ∧ 1 ≤ y.knots := by
  subst e
  have o : x.ok = true ∧ y.ok = true := by simpa [Sn.ok] using M.ok
  have hd : max x.deep y.deep + 1 ≤ 10 + n := M.deep
  exact ⟨o.1, o.2, by omega, by omega, rfl, x.knots_pos, y.knots_pos⟩
theorem mk_fun {m : Nat} (hm : m < 3) {c : Cn} {l : S} {s : Sn} {t : Tm} {b : Sn} (hl : nameOk l = true) (so : s.ok = true) (sk : s.knots ≤ 3) (M : MK m (c ++ [(l, s)]) t b) : MK (m + 1) c (.lam l s t) (.bin .iff s b) := by
  have B := bStep hm
  have sd := s.deep_knots
  have e1 : (Sn.bin .iff s b).knots = s.knots + b.knots + 1 := rfl
  have e2 : (Sn.bin .iff s b).deep = max s.deep b.deep + 1 := rfl
  have hb := M.deep
  have kb := M.kn
  have hd : (Sn.bin .iff s b).deep ≤ 10 + (m + 1) := by rw [e2]; omega
  refine ⟨?_, ?_, by simp [Sn.ok, so, M.ok], hd, by rw [e1]; omega, fun _ => by rw [e1]; omega, fun x y e => (by cases e), fun hk => ?_⟩
  · simp only [Tm.wf, Bool.and_eq_true]; exact ⟨⟨hl, sn_good so (by omega) (by omega)⟩, M.wf⟩
  · have := M.ht; show t.ht + 1 ≤ _; omega
  · have ty := M.ty (by omega)
    rw [find_snoc] at ty
    exact .lam ty (sn_fits (by omega) (by omega))
theorem mk_pair {m : Nat} (hm : m < 3) {c : Cn} {t u : Tm} {a b : Sn} (M : MK m c t a) (N : MK m c u b) : MK (m + 1) c (.pair t u) (.bin .and a b) := by
  have B := bStep hm
  have e1 : (Sn.bin .and a b).knots = a.knots + b.knots + 1 := rfl
  have e2 : (Sn.bin .and a b).deep = max a.deep b.deep + 1 := rfl
  have := M.deep
  have := N.deep
  have := M.kn
  have := N.kn
  have hd : (Sn.bin .and a b).deep ≤ 10 + (m + 1) := by rw [e2]; omega
  refine ⟨?_, ?_, by simp [Sn.ok, M.ok, N.ok], hd, by rw [e1]; omega, fun h => (by simp [isAnd] at h), fun x y e => (by cases e; omega), fun hk => ?_⟩
  · simp only [Tm.wf, Bool.and_eq_true]; exact ⟨M.wf, N.wf⟩
  · have := M.ht; have := N.ht; show max t.ht u.ht + 1 ≤ _; omega
  · exact .pair (M.ty (by omega)) (N.ty (by omega)) (sn_fits (by omega) (by omega))
theorem mk_first {m : Nat} (hm : m < 3) {c : Cn} {t : Tm} {a s : Sn} (so : s.ok = true) (sk : s.knots ≤ 3) (M : MK m c t a) : MK (m + 1) c (.first t s) (.bin .or a s) := by
  have B := bStep hm
  have sd := s.deep_knots
  have e1 : (Sn.bin .or a s).knots = a.knots + s.knots + 1 := rfl
  have e2 : (Sn.bin .or a s).deep = max a.deep s.deep + 1 := rfl
  have := M.deep
  have := M.kn
  have hd : (Sn.bin .or a s).deep ≤ 10 + (m + 1) := by rw [e2]; omega
  refine ⟨?_, ?_, by simp [Sn.ok, so, M.ok], hd, by rw [e1]; omega, fun _ => by rw [e1]; omega, fun x y e => (by cases e), fun hk => ?_⟩
  · simp only [Tm.wf, Bool.and_eq_true]; exact ⟨M.wf, sn_good so (by omega) (by omega)⟩
  · have := M.ht; show t.ht + 1 ≤ _; omega
  · exact .first (M.ty (by omega)) (sn_fits (by omega) (by omega))
theorem mk_second {m : Nat} (hm : m < 3) {c : Cn} {t : Tm} {a s : Sn} (so : s.ok = true) (sk : s.knots ≤ 3) (M : MK m c t a) : MK (m + 1) c (.second s t) (.bin .or s a) := by
  have B := bStep hm
  have sd := s.deep_knots
  have e1 : (Sn.bin .or s a).knots = s.knots + a.knots + 1 := rfl
  have e2 : (Sn.bin .or s a).deep = max s.deep a.deep + 1 := rfl
  have := M.deep
  have := M.kn
  have hd : (Sn.bin .or s a).deep ≤ 10 + (m + 1) := by rw [e2]; omega
  refine ⟨?_, ?_, by simp [Sn.ok, so, M.ok], hd, by rw [e1]; omega, fun _ => by rw [e1]; omega, fun x y e => (by cases e), fun hk => ?_⟩
  · simp only [Tm.wf, Bool.and_eq_true]; exact ⟨sn_good so (by omega) (by omega), M.wf⟩
  · have := M.ht; show t.ht + 1 ≤ _; omega
  · exact .second (M.ty (by omega)) (sn_fits (by omega) (by omega))
theorem mk_left {m : Nat} (hm : m < 3) {c : Cn} {t : Tm} {a b : Sn} (M : MK m c t (.bin .and a b)) : MK (m + 1) c (.left t) a := by
  have B := bStep hm
  have s := M.small rfl
  have p := M.p a b rfl
  have := M.kn
  refine ⟨M.wf, by have := M.ht; show t.ht + 1 ≤ _; omega, s.1, by omega, by omega, fun _ => by omega, fun x y e => ?_, fun hk => .left (M.ty (by omega))⟩
  subst e
  have : x.knots + y.knots + 1 ≤ bP m := p.1
  omega
theorem mk_right {m : Nat} (hm : m < 3) {c : Cn} {t : Tm} {a b : Sn} (M : MK m c t (.bin .and a b)) : MK (m + 1) c (.right t) b := by
  have B := bStep hm
  have s := M.small rfl
  have p := M.p a b rfl
  have := M.kn
  refine ⟨M.wf, by have := M.ht; show t.ht + 1 ≤ _; omega, s.2.1, by omega, by omega, fun _ => by omega, fun x y e => ?_, fun hk => .right (M.ty (by omega))⟩
  subst e
  have : x.knots + y.knots + 1 ≤ bP m := p.2
  omega
theorem mk_same {m : Nat} (hm : m < 3) {c : Cn} {t : Tm} {a b : Sn} (M : MK m c t (.bin .iff a b)) : MK (m + 1) c t (.bin .iff a b) := by
  have B := bStep hm
  have := M.q rfl
  exact ⟨M.wf, by have := M.ht; omega, M.ok, by have := M.deep; omega, by omega, fun _ => by omega, fun x y e => (by cases e), fun hk => M.ty (by omega)⟩
theorem mk_app {m : Nat} (hm : m < 3) {c : Cn} {t u : Tm} {a b : Sn} (M : MK m c t (.bin .iff a b)) (hu : Ty' (findR c) u a ∧ u.wf = true ∧ u.ht ≤ 3) : MK (m + 1) c (.app t u) b := by
  have B := bStep hm
  have s := M.small rfl
  have hq := M.q rfl
  refine ⟨?_, ?_, s.2.1, by omega, by omega, fun _ => by omega, fun x y e => ?_, fun hk => .app (M.ty (by omega)) hu.1⟩
  · simp only [Tm.wf, Bool.and_eq_true]; exact ⟨M.wf, hu.2.1⟩
  · have := M.ht; show max t.ht u.ht + 1 ≤ _; omega
  · subst e
    have : x.knots + y.knots + 1 + a.knots + 1 ≤ bQ m := by have : a.knots + (x.knots + y.knots + 1) + 1 ≤ bQ m := hq; omega
    omega
theorem mk_swap {m : Nat} (hm : m < 3) {c : Cn} {t : Tm} {a b : Sn} (M : MK m c t (.bin .or a b)) : MK (m + 1) c (.cases t [120] (.second b (.var [120])) [121] (.first (.var [121]) a)) (.bin .or b a) := by
  have B := bStep hm
  have s := M.small rfl
  have hq : a.knots + b.knots + 1 ≤ bQ m := M.q rfl
  have e1 : (Sn.bin .or b a).knots = b.knots + a.knots + 1 := rfl
  have e2 : (Sn.bin .or b a).deep = max b.deep a.deep + 1 := rfl
  have ga := sn_good s.1 (by omega) (by omega)
  have gb := sn_good s.2.1 (by omega) (by omega)
  have f : (Sn.bin .or b a).fits = true := sn_fits (by rw [e2]; omega) (by rw [e1]; omega)
  refine ⟨?_, ?_, by simp [Sn.ok, s.1, s.2.1], by rw [e2]; omega, by rw [e1]; omega, fun _ => by rw [e1]; omega, fun x y e => (by cases e), fun hk => ?_⟩
  · simp only [Tm.wf, Bool.and_eq_true]; exact ⟨⟨⟨⟨M.wf, rfl⟩, gb, rfl⟩, rfl⟩, rfl, ga⟩
  · have := M.ht; show max t.ht (max 2 2) + 1 ≤ _; omega
  · exact .cases (M.ty (by show a.knots + b.knots + 1 ≤ _; omega)) (.second (.var (if_pos rfl)) f) (.first (.var (if_pos rfl)) f)
theorem mk_keep {m : Nat} (hm : m < 3) {c : Cn} {t : Tm} {a b : Sn} (M : MK m c t (.bin .or a b)) : MK (m + 1) c (.cases t [120] (.first (.var [120]) b) [121] (.second a (.var [121]))) (.bin .or a b) := by
  have B := bStep hm
  have s := M.small rfl
  have hq : a.knots + b.knots + 1 ≤ bQ m := M.q rfl
  have e1 : (Sn.bin .or a b).knots = a.knots + b.knots + 1 := rfl
  have e2 : (Sn.bin .or a b).deep = max a.deep b.deep + 1 := rfl
  have ga := sn_good s.1 (by omega) (by omega)
  have gb := sn_good s.2.1 (by omega) (by omega)
  have f : (Sn.bin .or a b).fits = true := sn_fits (by rw [e2]; omega) (by rw [e1]; omega)
  refine ⟨?_, ?_, M.ok, by rw [e2]; omega, by rw [e1]; omega, fun _ => by rw [e1]; omega, fun x y e => (by cases e), fun hk => ?_⟩
  · simp only [Tm.wf, Bool.and_eq_true]; exact ⟨⟨⟨⟨M.wf, rfl⟩, rfl, gb⟩, rfl⟩, ga, rfl⟩
  · have := M.ht; show max t.ht (max 2 2) + 1 ≤ _; omega
  · exact .cases (M.ty (by show a.knots + b.knots + 1 ≤ _; omega)) (.first (.var (if_pos rfl)) f) (.second (.var (if_pos rfl)) f)
theorem mk_void {m : Nat} (hm : m < 3) {c : Cn} {t : Tm} {s : Sn} (so : s.ok = true) (sk : s.knots ≤ 3) (M : MK m c t .non) : MK (m + 1) c (.void t s) s := by
  have B := bStep hm
  have sd := s.deep_knots
  have b0 : 19 ≤ bK m := by rcases (by omega : m = 0 ∨ m = 1 ∨ m = 2) with rfl | rfl | rfl <;> decide
  have b1 : 1 ≤ bL m := by rcases (by omega : m = 0 ∨ m = 1 ∨ m = 2) with rfl | rfl | rfl <;> decide
  refine ⟨?_, by have := M.ht; show t.ht + 1 ≤ _; omega, so, by omega, by omega, fun _ => by omega, fun x y e => ?_, fun hk => .void (M.ty b1) (by omega)⟩
  · simp only [Tm.wf, Bool.and_eq_true]; exact ⟨M.wf, sn_good so (by omega) (by omega)⟩
  · subst e
    have : x.knots + y.knots + 1 ≤ 3 := sk
    omega
theorem mk_leaf (n : Nat) {c : Cn} {l : S} {s : Sn} (i : CI c) (e : findC c l = some s) : MK n c (.var l) s := by
  have m := find_mem e
  have k1 := i.kn _ m
  have sd := s.deep_knots
  have b0 : 19 ≤ bK n ∧ 19 ≤ bP n ∧ 19 ≤ bQ n := by
    rcases n with _ | _ | _ | n
    · decide
    · decide
    · decide
    · show 19 ≤ 159 ∧ 19 ≤ 79 ∧ 19 ≤ 83; decide
  simp only at k1
  refine ⟨i.nm _ m, by show 1 ≤ _; omega, i.ok _ m, by omega, by omega, fun _ => by omega, fun x y e => ?_, fun _ => .var e⟩
  subst e
  have : x.knots + y.knots + 1 ≤ 19 := k1
  omega
theorem mk_id (n : Nat) : MK n [] (.lam [120] (.atom [97]) (.var [120])) (.bin .iff (.atom [97]) (.atom [97])) := by
  have b0 : 19 ≤ bK n ∧ 19 ≤ bQ n := by
    rcases n with _ | _ | _ | n
    · decide
    · decide
    · decide
    · show 19 ≤ 159 ∧ 19 ≤ 83; decide
  exact ⟨rfl, by show 2 ≤ _; omega, rfl, by show 2 ≤ _; omega, by show 3 ≤ _; omega, fun _ => by show 3 ≤ _; omega, fun x y e => (by cases e), fun _ => .lam (.var (if_pos rfl)) rfl⟩
end GtS
end
section
set_option Elab.async false
set_option linter.all false
namespace GtS
open Gt
variable {ft : Nat → Option Fn} {k : Nat}
theorem q_kindN (A : HasL ft) {h : Hs} (v : Wd) (k : Nat) (hk : 1 ≤ k) : run ft k i__law_kind [Sn.non.enc, .str v.s] h = .ok (.val (.bl false)) h := by
  obtain ⟨k, rfl⟩ : ∃ j, k = j + 1 := ⟨k - 1, by omega⟩
  rw [run_pure A.l3 (by decide) rfl]
  have i1 : fIsi [.tuple] h (.tup [.str sNone]) = some (.bl true) := rfl
  cases v <;> simp [F__law_kind, k__law_kind, mkEnv, Sn.enc, sNone, Wd.s, isi_tup]
theorem q_kindA (A : HasL ft) {h : Hs} (a : S) (v : Wd) (k : Nat) (hk : 1 ≤ k) : run ft k i__law_kind [.str a, .str v.s] h = .ok (.val (.bl false)) h := by
  obtain ⟨k, rfl⟩ : ∃ j, k = j + 1 := ⟨k - 1, by omega⟩
  rw [run_pure A.l3 (by decide) rfl]
  have i1 : fIsi [.tuple] h (.str a) = some (.bl false) := rfl
  simp [F__law_kind, k__law_kind, mkEnv, i1]
def kN (t : Tm) (b : Sn) : T := .tup [t.enc, b.enc]
section
variable {H : Hs} {n : Nat} (hn : n < H.length)
include hn
theorem q_lmake (A : HasD ft) : ∀ (m : Nat) (c : Cn) (s : Int) (k : Nat), m ≤ 3 → CI c → c.length + m ≤ 900 → m + 8 ≤ k → ∃ (t : Tm) (b : Sn) (s' : Int), run ft k i__law_make [.ref n, encLC c, .int m] (hp H n s) = .ok (.val (kN t b)) (hp H n s') ∧ MK m c t b
  | m, c, s, 0, _, _, _, hk => by omega
  | m, c, s, k + 1, hm, i, hl, hk => by
    obtain ⟨r, s1, hr, e1⟩ := q_draw hn A s 8 (by omega) k (by omega)
    by_cases leaf : m = 0 ∨ r = 0
    · have ts : ∀ (X : Int → Prop), True := fun _ => trivial
      cases hc : c with
      | nil =>
        subst hc
        refine ⟨.lam [120] (.atom [97]) (.var [120]), .bin .iff (.atom [97]) (.atom [97]), s1, ?_, mk_id m⟩
        rw [run_pure A.d4 (by decide) rfl]
        by_cases z : m = 0
        · subst z; simp [F__law_make, k__law_make, mkEnv, e1, encLC, eq_nil, kN, Tm.enc, Sn.enc, wFun, wVar, Wd.s]
        · have z2 : r = 0 := by omega
          subst z2
          simp [F__law_make, k__law_make, mkEnv, e1, encLC, eq_nil, kN, Tm.enc, Sn.enc, wFun, wVar, Wd.s, z]
      | cons p0 cr =>
        rw [← hc]
        have hc0 : 1 ≤ c.length := by rw [hc]; simp
        obtain ⟨q, s2, hq, e2⟩ := q_draw hn A s1 c.length (by omega) k (by omega)
        have hq' : q < c.length := by omega
        have mem : c[q] ∈ c := List.getElem_mem hq'
        obtain ⟨f, hf⟩ := find_some mem
        refine ⟨.var c[q].1, f, s2, ?_, mk_leaf m i hf⟩
        have qf := q_find (h := hp H n s2) A.m.l c c[q].1 k (by omega)
        rw [hf] at qf
        simp only [encO, encLC] at qf
        have ai : atIx (c.map pr) (q : Int) = some (.tup [.str c[q].1, c[q].2.enc]) := by rw [at_map]; simp [hq', pr]
        have ne : c.isEmpty = false := by rw [hc]; rfl
        rw [run_pure A.d4 (by decide) rfl]
        by_cases z : m = 0
        · subst z; simp [F__law_make, k__law_make, mkEnv, e1, encLC, eq_nil, kN, Tm.enc, wVar, ne, e2, ai, qf]
        · have z1 : decide ((r : Int) = 0) = true := decide_eq_true (by omega)
          have z2 : r = 0 := by omega
          subst z2
          simp [F__law_make, k__law_make, mkEnv, e1, encLC, eq_nil, kN, Tm.enc, wVar, ne, e2, ai, qf, z]
    · obtain ⟨m, rfl⟩ : ∃ j, m = j + 1 := ⟨m - 1, by omega⟩
      have hm' : m < 3 := by omega
      have z0 : decide ((m : Int) + 1 = 0) = false := decide_eq_false (by omega)
      have z1 : decide ((r : Int) = 0) = false := decide_eq_false (by omega)
      have z1' : ¬ r = 0 := by omega
      by_cases f3 : r < 3
      · have z3 : decide ((r : Int) < 3) = true := decide_eq_true (by omega)
        obtain ⟨q, s2, hq, e2⟩ := q_draw hn A s1 3 (by omega) k (by omega)
        obtain ⟨sn, s3, so, sk, e3⟩ := q_lsent hn A 1 s2 k (by omega)
        have e3' : run ft k i__law_sentence [.ref n, .int 1] (hp H n s2) = .ok (.val sn.enc) (hp H n s3) := e3
        have sk' : sn.knots ≤ 3 := by have : sn.knots + 1 ≤ 4 := sk; omega
        have go : ∀ l : S, nameOk l = true → atIx [T.str [120], .str [121], .str [120, 48]] (q : Int) = some (.str l) → ∃ (t : Tm) (b : Sn) (s' : Int), run ft (k + 1) i__law_make [.ref n, encLC c, .int (m + 1 : Nat)] (hp H n s) = .ok (.val (kN t b)) (hp H n s') ∧ MK (m + 1) c t b := fun l hln ha => by
          obtain ⟨t, b, s4, e4, M⟩ := q_lmake A m (c ++ [(l, sn)]) s3 k (by omega) (i.snoc hln so (by omega)) (by simp; omega) (by omega)
          refine ⟨.lam l sn t, .bin .iff sn b, s4, ?_, mk_fun hm' hln so sk' M⟩
          have cat : ∀ h, fAdd h (.lst (c.map pr)) (.lst [.tup [.str l, sn.enc]]) = some (.own (.lst ((c ++ [(l, sn)]).map pr))) := fun h => by
            have : fAdd h (.lst (c.map pr)) (.lst [.tup [.str l, sn.enc]]) = _ := cat_lst (by simp; exact le_LIM (by omega))
            rw [this]; simp [pr]
          rw [run_pure A.d4 (by decide) rfl]
          simp only [encLC] at e4 cat
          simp at e4 cat
          simp [F__law_make, k__law_make, mkEnv, e1, encLC, z0, z1', z3, e2, ha, e3', cat, e4, kN, Tm.enc, Sn.enc, wFun, Wd.s]
        rcases (by omega : q = 0 ∨ q = 1 ∨ q = 2) with rfl | rfl | rfl
        · exact go [120] rfl rfl
        · exact go [121] rfl rfl
        · exact go [120, 48] rfl rfl
      · have z3 : decide ((r : Int) < 3) = false := decide_eq_false (by omega)
        obtain ⟨t, b, s2, e2, M⟩ := q_lmake A m c s1 k (by omega) i (by omega) (by omega)
        by_cases f4 : r = 3
        · obtain ⟨u, d, s3, e3, N⟩ := q_lmake A m c s2 k (by omega) i (by omega) (by omega)
          refine ⟨.pair t u, .bin .and b d, s3, ?_, mk_pair hm' M N⟩
          rw [run_pure A.d4 (by decide) rfl]
          subst f4
          simp only [encLC, kN] at e2 e3
          simp [F__law_make, k__law_make, mkEnv, e1, encLC, z0, e2, e3, kN, Tm.enc, Sn.enc, wPair, Wd.s]
        · have z4 : decide ((r : Int) = 3) = false := decide_eq_false (by omega)
          by_cases f5 : r = 4
          · obtain ⟨sn, s3, so, sk, e3⟩ := q_lsent hn A 1 s2 k (by omega)
            have e3' : run ft k i__law_sentence [.ref n, .int 1] (hp H n s2) = .ok (.val sn.enc) (hp H n s3) := e3
            have sk' : sn.knots ≤ 3 := by have : sn.knots + 1 ≤ 4 := sk; omega
            obtain ⟨q, s4, hq, e4⟩ := q_draw hn A s3 2 (by omega) k (by omega)
            subst f5
            simp only [encLC, kN] at e2
            by_cases hq0 : q = 0
            · subst hq0
              refine ⟨.first t sn, .bin .or b sn, s4, ?_, mk_first hm' so sk' M⟩
              rw [run_pure A.d4 (by decide) rfl]
              simp [F__law_make, k__law_make, mkEnv, e1, encLC, z0, e2, e3', e4, kN, Tm.enc, Sn.enc, wFirst, Wd.s]
            · refine ⟨.second sn t, .bin .or sn b, s4, ?_, mk_second hm' so sk' M⟩
              rw [run_pure A.d4 (by decide) rfl]
              simp [F__law_make, k__law_make, mkEnv, e1, encLC, z0, e2, e3', e4, hq0, kN, Tm.enc, Sn.enc, wSecond, Wd.s]
          · have z5 : decide ((r : Int) = 4) = false := decide_eq_false (by omega)
            have ka := fun (h : Hs) (w v : Wd) (x y : T) => q_kind (h := h) A.m.l w x y v k (by omega)
            have kn := fun (h : Hs) (v : Wd) => q_kindN (h := h) A.m.l v k (by omega)
            have kat := fun (h : Hs) (a : S) (v : Wd) => q_kindA (h := h) A.m.l a v k (by omega)
            cases b with
            | atom a =>
              refine ⟨.pair t t, .bin .and (.atom a) (.atom a), s2, ?_, mk_pair hm' M M⟩
              rw [run_pure A.d4 (by decide) rfl]
              have k1 := fun h => kat h a .and
              have k2 := fun h => kat h a .or
              have k3 := fun h => kat h a .iff
              simp only [encLC, kN, Sn.enc, Wd.s] at e2 k1 k2 k3
              simp [F__law_make, k__law_make, mkEnv, e1, encLC, z0, z1', z3, f4, f5, z4, z5, e2, kN, Tm.enc, Sn.enc, wPair, Wd.s, k1, k2, k3]
            | non =>
              obtain ⟨sn, s3, so, sk, e3⟩ := q_lsent hn A 1 s2 k (by omega)
              have e3' : run ft k i__law_sentence [.ref n, .int 1] (hp H n s2) = .ok (.val sn.enc) (hp H n s3) := e3
              have sk' : sn.knots ≤ 3 := by have : sn.knots + 1 ≤ 4 := sk; omega
              refine ⟨.void t sn, sn, s3, ?_, mk_void hm' so sk' M⟩
              rw [run_pure A.d4 (by decide) rfl]
              have k1 := fun h => kn h .and
              have k2 := fun h => kn h .or
              have k3 := fun h => kn h .iff
              have e : ∀ h, fEq h (.tup [.str [110, 111, 110, 101]]) (.tup [.str [110, 111, 110, 101]]) = some (.bl true) := fun h => eq_enc (h := h) (s := .non) (t := .non) (by decide) (by decide)
              simp only [encLC, kN, Sn.enc, Wd.s, sNone] at e2 k1 k2 k3
              simp [F__law_make, k__law_make, mkEnv, e1, encLC, z0, z1', z3, f4, f5, z4, z5, e2, kN, Tm.enc, Sn.enc, wVoid, Wd.s, k1, k2, k3, e, e3']
            | bin w x y =>
              have k1 := fun h => ka h w .and x.enc y.enc
              have k2 := fun h => ka h w .or x.enc y.enc
              have k3 := fun h => ka h w .iff x.enc y.enc
              cases w with
              | and =>
                obtain ⟨q, s4, hq, e4⟩ := q_draw hn A s2 2 (by omega) k (by omega)
                simp only [encLC, kN, Sn.enc, Wd.s] at e2 k1
                by_cases hq0 : q = 0
                · subst hq0
                  refine ⟨.left t, x, s4, ?_, mk_left hm' M⟩
                  rw [run_pure A.d4 (by decide) rfl]
                  simp [F__law_make, k__law_make, mkEnv, e1, encLC, z0, z1', z3, f4, f5, z4, z5, e2, kN, Tm.enc, wLeft, k1, e4]
                · refine ⟨.right t, y, s4, ?_, mk_right hm' M⟩
                  rw [run_pure A.d4 (by decide) rfl]
                  simp [F__law_make, k__law_make, mkEnv, e1, encLC, z0, z1', z3, f4, f5, z4, z5, e2, kN, Tm.enc, wRight, k1, e4, hq0]
              | iff =>
                have sm := M.small rfl
                have B := bStep hm'
                have hq : x.knots + y.knots + 1 ≤ bQ m := M.q rfl
                obtain ⟨o, s3, e3, ho⟩ := q_lfor hn A 2 x c s2 k (sn_good sm.1 (by omega) (by omega)) (.inl i) (by omega) (by omega)
                have e3' : run ft k i__law_for [.ref n, .lst (c.map pr), x.enc, .int 2] (hp H n s2) = .ok (.val (encOT o)) (hp H n s3) := e3
                simp only [encLC, kN, Sn.enc, Wd.s] at e2 k1 k3
                cases o with
                | none =>
                  refine ⟨t, .bin .iff x y, s3, ?_, mk_same hm' M⟩
                  rw [run_pure A.d4 (by decide) rfl]
                  simp [F__law_make, k__law_make, mkEnv, e1, encLC, z0, z1', z3, f4, f5, z4, z5, e2, kN, Sn.enc, Wd.s, k1, k3, e3', encOT]
                | some u =>
                  refine ⟨.app t u, y, s3, ?_, mk_app hm' M (ho u rfl)⟩
                  rw [run_pure A.d4 (by decide) rfl]
                  simp [F__law_make, k__law_make, mkEnv, e1, encLC, z0, z1', z3, f4, f5, z4, z5, e2, kN, Tm.enc, wApp, k1, k3, e3', encOT, isNon_tm]
              | or =>
                obtain ⟨q, s4, hq, e4⟩ := q_draw hn A s2 2 (by omega) k (by omega)
                simp only [encLC, kN, Sn.enc, Wd.s] at e2 k1 k2 k3
                by_cases hq0 : q = 0
                · subst hq0
                  refine ⟨_, _, s4, ?_, mk_swap hm' M⟩
                  rw [run_pure A.d4 (by decide) rfl]
                  simp [F__law_make, k__law_make, mkEnv, e1, encLC, z0, z1', z3, f4, f5, z4, z5, e2, kN, Tm.enc, Sn.enc, Wd.s, wCases, wSecond, wFirst, wVar, k1, k2, k3, e4]
                · refine ⟨_, _, s4, ?_, mk_keep hm' M⟩
                  rw [run_pure A.d4 (by decide) rfl]
                  simp [F__law_make, k__law_make, mkEnv, e1, encLC, z0, z1', z3, f4, f5, z4, z5, e2, kN, Tm.enc, Sn.enc, Wd.s, wCases, wSecond, wFirst, wVar, k1, k2, k3, e4, hq0]
end
end GtS
end
section
set_option Elab.async false
set_option linter.all false
namespace GtS
open Gt
variable {ft : Nat → Option Fn} {k : Nat}
theorem ty_free {ρ : Rho} {t : Tm} {s : Sn} (ty : Ty' ρ t s) : ∀ x ∈ t.fr, ∃ u, ρ x = some u := by
  induction ty with
  | var e => intro x m; rw [List.mem_singleton.mp m]; exact ⟨_, e⟩
  | pair _ _ _ ia ib => intro x m; rcases List.mem_append.mp m with m | m; exact ia x m; exact ib x m
  | left _ ia => exact ia
  | right _ ia => exact ia
  | @lam ρ l s t b _ _ ib =>
    intro x m
    have m' := List.mem_filter.mp m
    obtain ⟨u, e⟩ := ib x m'.1
    have : ¬ x = l := by simpa using m'.2
    unfold Rho.up at e
    rw [if_neg (fun q => this q.symm)] at e
    exact ⟨u, e⟩
  | app _ _ ia ib => intro x m; rcases List.mem_append.mp m with m | m; exact ia x m; exact ib x m
  | first _ _ ia => exact ia
  | second _ _ ia => exact ia
  | @cases ρ a b d l m0 s t u _ _ _ ia ib id =>
    intro x m
    rcases List.mem_append.mp m with m | m
    · rcases List.mem_append.mp m with m | m
      · exact ia x m
      · have m' := List.mem_filter.mp m
        obtain ⟨u, e⟩ := ib x m'.1
        have : ¬ x = l := by simpa using m'.2
        unfold Rho.up at e
        rw [if_neg (fun q => this q.symm)] at e
        exact ⟨u, e⟩
    · have m' := List.mem_filter.mp m
      obtain ⟨u, e⟩ := id x m'.1
      have : ¬ x = m0 := by simpa using m'.2
      unfold Rho.up at e
      rw [if_neg (fun q => this q.symm)] at e
      exact ⟨u, e⟩
  | void _ _ ia => exact ia
/-- the k-th name -/
def nmE (k : Nat) : S := [101, 48 + k]
theorem str_k {h : Hs} {k : Nat} (hk : k < 10) : fStr h (.int k) = some (.str [48 + k]) := by
  have e : ∀ k : Nat, k < 10 → ((k : Int).natAbs.log2 < 1920 ∧ strI (k : Nat) = [48 + k]) := by decide +kernel
  show (if (k : Int).natAbs.log2 < 1920 then some (T.str (strI (k : Int))) else none) = _
  rw [if_pos (e k hk).1, (e k hk).2]
structure BI (b : Bk) : Prop where
  good : Good b
  kn : ∀ e ∈ b, e.sn.knots ≤ 19
  nm : nmsB b = (List.range b.length).map nmE
theorem BI.ci {b : Bk} (i : BI b) : CI (ctx b) := by
  refine ⟨fun p m => ?_, fun p m => ?_, fun p m => ?_⟩ <;> obtain ⟨e, he, rfl⟩ := List.mem_map.mp m
  · exact (i.good.all e he).1
  · exact (good_ok (i.good.all e he).2.1).1
  · exact i.kn e he
theorem BI.nil : BI [] := ⟨.nil, fun e m => (by cases m), rfl⟩
theorem BI.snoc {b : Bk} (i : BI b) (hl : b.length < 10) {sn : Sn} {o : Option (Tm × Sn)} (so : sn.ok = true) (sk : sn.knots ≤ 19) (ho : ∀ t s, o = some (t, s) → t.wf = true ∧ t.kn ≤ 60 ∧ Ty' (lookR (ctx b)) t s) : BI (b ++ [⟨nmE b.length, sn, o⟩]) := by
  refine ⟨.snoc i.good ⟨?_, ?_, good_of so (by show sn.knots ≤ 39; omega), fun t s e => ?_⟩, fun e m => ?_, ?_⟩
  · have : ∀ k, k < 10 → nameOk (nmE k) = true := by decide
    exact this _ hl
  · show nmE b.length ∉ nmsB b
    rw [i.nm]
    intro m
    obtain ⟨x, hx, e⟩ := List.mem_map.mp m
    have := List.mem_range.mp hx
    unfold nmE at e
    have e' : 48 + x = 48 + b.length := by simpa using e
    omega
  · obtain ⟨h1, h2, h3⟩ := ho t s e
    refine ⟨h1, h2, h3, fun x m => ?_⟩
    obtain ⟨u, hu⟩ := ty_free h3 x m
    obtain ⟨y, hy, q⟩ := List.mem_map.mp (look_mem _ _ _ hu)
    exact List.mem_map.mpr ⟨y, hy, (Prod.mk.inj q).1⟩
  · rcases List.mem_append.mp m with m | m
    · exact i.kn e m
    · rw [List.mem_singleton.mp m]; exact sk
  · simp only [nmsB, List.map_append, List.map_cons, List.map_nil, List.length_append, List.length_cons, List.length_nil]
    rw [Nat.zero_add, List.range_succ, List.map_append]
    have := i.nm
    simp only [nmsB] at this
    rw [this]; rfl
def sKeep : SC := sIf (tOr (tBl (eOp2 fGt (eOwn (eCall i__law_knots (aCons (eVar 7) (aNil)))) (eK (.int 20)))) (tBl (eOp2 fGt (eOwn (eCall i__law_size (aCons (eVar 6) (aNil)))) (eK (.int 60))))) (sUnp [6, 7] (eTup (aCons (eTup (aCons (eK (.str [118, 97, 114])) (aCons (eOp2 fIx (eOp2 fIx (eVar 4) (eK (.int 0))) (eK (.int 0))) (aNil)))) (aCons (eOp2 fIx (eOp2 fIx (eVar 4) (eK (.int 0))) (eK (.int 1))) (aNil))))) (sSkip)
def sBk : SC := sSeq (sSet 4 (eOwn (oComp [8, 9, 6] (.many [8, 9, 6]) (iSeq (eBor 2)) (tYes) (eTup (aCons (eVar 8) (aCons (eVar 9) (aNil))))))) (sSeq (sSet 5 (eOwn (eCall i__law_draw (aCons (eVar 0) (aCons (eK (.int 5)) (aNil)))))) (sIf (tOr (tBl (eOp2 fLt (eVar 5) (eK (.int 2)))) (tBl (eOp2 fEq (eVar 4) (eOwn (oLst (aNil)))))) (sOwn 2 fAppend (eTup (aCons (eOwn (oOp2 fAdd (eK (.str [101])) (eOp1 fStr (eVar 3)))) (aCons (eOwn (eCall i__law_sentence (aCons (eVar 0) (aCons (eOwn (oOp2 fAdd (eK (.int 1)) (eOwn (eCall i__law_draw (aCons (eVar 0) (aCons (eK (.int 2)) (aNil))))))) (aNil))))) (aCons (eK .non) (aNil)))))) (sSeq (sUnp [6, 7] (eOwn (eCall i__law_make (aCons (eVar 0) (aCons (eVar 4) (aCons (eOwn (oOp2 fAdd (eK (.int 2)) (eOwn (eCall i__law_draw (aCons (eVar 0) (aCons (eK (.int 2)) (aNil))))))) (aNil))))))) (sSeq sKeep (sOwn 2 fAppend (eTup (aCons (eOwn (oOp2 fAdd (eK (.str [101])) (eOp1 fStr (eVar 3)))) (aCons (eOwn (oIf (tBl (eOp2 fLt (eVar 5) (eK (.int 4)))) (oVal (eVar 7)) (eCall i__law_sentence (aCons (eVar 0) (aCons (eK (.int 1)) (aNil)))))) (aCons (eVar 6) (aNil))))))))))
theorem bk_code : k__law_book = sSeq (sSetO 2 (oLst (aNil))) (sSeq (sFor (.one 3) (iR1 (eOwn (oOp2 fAdd (eK (.int 1)) (eOwn (eCall i__law_draw (aCons (eVar 0) (aCons (eVar 1) (aNil)))))))) sBk) (sRet (eOp1 fTuple (eBor 2)))) := rfl
theorem cat_e {h : Hs} (k : Nat) : fAdd h (.str [101]) (.str [48 + k]) = some (.val (.str (nmE k))) := by
  show (if [101].length + [48 + k].length ≤ LIM then some (RV.val (.str ([101] ++ [48 + k]))) else none) = _
  rw [if_pos (by show 2 ≤ LIM; decide)]; rfl
def bE (n : Nat) (b : Bk) (s1 : Slot) (j : Slot × Slot × Slot × Slot × Slot) : List Slot := [.val (.ref n), s1, .own (.lst (b.map encE)), j.1, j.2.1, j.2.2.1, j.2.2.2.1, j.2.2.2.2, .un, .un]
section
variable {H : Hs} {n : Nat} (hn : n < H.length)
include hn
theorem bk_turn (A : HasD ft) (b : Bk) (i : BI b) (hl : b.length < 10) (s1 : Slot) (j : Slot × Slot × Slot × Slot × Slot) (s : Int) (k : Nat) (hk : 30 ≤ k) : ∃ (e : En) (j' : Slot × Slot × Slot × Slot × Slot) (s' : Int), BI (b ++ [e]) ∧ sBk (run ft k) ((bE n b s1 j).set 3 (.val (tI b.length))) (hp H n s) = .next (bE n (b ++ [e]) s1 j') (hp H n s') := by
  have cm : ∀ (x1 x2 x3 : Slot) h, compL (.many [8, 9, 6]) (tYes (run ft k)) (eTup (aCons (eVar 8) (aCons (eVar 9) aNil)) (run ft k)) [.val (.ref n), s1, .own (.lst (b.map encE)), .val (tI b.length), x1, x2, .un, x3, .un, .un] (b.map encE) [] h = .ok ((ctx b).map pr) h := fun x1 x2 x3 h => by
    have q := comp_map0 (h := h) (tg := .many [8, 9, 6]) (tt := tYes (run ft k)) (b := eTup (aCons (eVar 8) (aCons (eVar 9) aNil)) (run ft k)) (e := [.val (.ref n), s1, .own (.lst (b.map encE)), .val (tI b.length), x1, x2, .un, x3, .un, .un]) encE (fun _ => true) (fun e => pr (e.nm, e.sn)) b (fun x m => ⟨_, rfl, rfl, fun _ => by simp [pr]⟩) (le_LIM (by omega))
    rw [List.filter_eq_self.mpr (fun _ _ => rfl)] at q
    rw [q]; simp [ctx, Function.comp_def]
  have sk := fun h => str_k (h := h) (k := b.length) hl
  have ce := fun h => cat_e (h := h) b.length
  have ap : ∀ (h : Hs) (t : T), fAppend h (.lst (b.map encE)) t = some (.lst (b.map encE ++ [t])) := fun h t => app_lst (by simp; exact Nat.lt_trans hl (by decide))
  obtain ⟨r, t1, hr, e1⟩ := q_draw hn A s 5 (by omega) k (by omega)
  obtain ⟨j1, j2, j3, j4, j5⟩ := j
  have cl : (ctx b).length = b.length := by simp [ctx]
  by_cases c : r < 2 ∨ b = []
  · obtain ⟨q, t2, hq, e2⟩ := q_draw hn A t1 2 (by omega) k (by omega)
    obtain ⟨sn, t3, so, sn3, e3⟩ := q_lsent hn A (1 + q) t2 k (by omega)
    have kq : sn.knots ≤ 19 := by
      rcases (by omega : q = 0 ∨ q = 1) with rfl | rfl
      · have : sn.knots + 1 ≤ 4 := sn3; omega
      · have : sn.knots + 1 ≤ 8 := sn3; omega
    have e3' : run ft k i__law_sentence [.ref n, .int (1 + (q : Int))] (hp H n t2) = .ok (.val sn.enc) (hp H n t3) := by
      have : ((1 + q : Nat) : Int) = 1 + (q : Int) := by omega
      rw [← this]; exact e3
    refine ⟨⟨nmE b.length, sn, none⟩, (.val (tI b.length), .val (.lst ((ctx b).map pr)), .val (.int r), j4, j5), t3, i.snoc hl so kq (fun t s e => by cases e), ?_⟩
    by_cases z : r < 2
    · have z1 : decide ((r : Int) < 2) = true := decide_eq_true (by omega)
      simp [sBk, bE, wipeE, cm, e1, z1, sk, ce, e2, e3', ap, encE, partsE, encT]
    · have z1 : decide ((r : Int) < 2) = false := decide_eq_false (by omega)
      have hb : b = [] := by rcases c with c | c; exact absurd c z; exact c
      subst hb
      simp only [List.length_nil, List.map_nil] at sk ce ap cm
      simp [sBk, bE, wipeE, cm, e1, z1, sk, ce, e2, e3', ap, encE, partsE, encT, eq_nil, ctx]
  · have z1 : decide ((r : Int) < 2) = false := decide_eq_false (by omega)
    have hb : b ≠ [] := fun q => c (.inr q)
    obtain ⟨e0, br, hbr⟩ : ∃ e0 br, b = e0 :: br := by
      cases b with
      | nil => exact absurd rfl hb
      | cons e0 br => exact ⟨e0, br, rfl⟩
    obtain ⟨q, t2, hq, e2⟩ := q_draw hn A t1 2 (by omega) k (by omega)
    obtain ⟨t, d, t3, e3, M⟩ := q_lmake hn A (2 + q) (ctx b) t2 k (by omega) i.ci (by rw [cl]; omega) (by omega)
    have e3' : run ft k i__law_make [.ref n, .lst ((ctx b).map pr), .int (2 + (q : Int))] (hp H n t2) = .ok (.val (.tup [t.enc, d.enc])) (hp H n t3) := by
      have : ((2 + q : Nat) : Int) = 2 + (q : Int) := by omega
      rw [← this]; exact e3
    have hd := M.deep
    have hh := M.ht
    have q1 := q_lknots (h := hp H n t3) A.m d k (by omega)
    have q2 := q_lsize (h := hp H n t3) A.m t k (by omega)
    have nl : (List.map pr (ctx b)).isEmpty = false := by rw [hbr]; rfl
    -- what is kept
    have keep : ∃ (t' : Tm) (d' : Sn), d'.ok = true ∧ d'.knots ≤ 19 ∧ t'.wf = true ∧ t'.kn ≤ 60 ∧ Ty' (lookR (ctx b)) t' d' ∧ ∀ (s4 : Slot), sKeep (run ft k) [.val (.ref n), s1, .own (.lst (b.map encE)), .val (tI b.length), .val (.lst ((ctx b).map pr)), s4, .val t.enc, .val d.enc, .un, .un] (hp H n t3) = .next [.val (.ref n), s1, .own (.lst (b.map encE)), .val (tI b.length), .val (.lst ((ctx b).map pr)), s4, .val t'.enc, .val d'.enc, .un, .un] (hp H n t3) := by
      by_cases big : 20 < d.knots ∨ 60 < t.kn
      · have ce0 : ctx b = (e0.nm, e0.sn) :: ctx br := by rw [hbr]; rfl
        have me : e0 ∈ b := by rw [hbr]; exact List.mem_cons_self
        have g0 := i.good.all e0 me
        refine ⟨.var e0.nm, e0.sn, (good_ok g0.2.1).1, i.kn e0 me, g0.1, by show 1 ≤ 60; decide, .var (by show lookC (ctx b) e0.nm = _; rw [ce0]; exact if_pos rfl), fun s4 => ?_⟩
        have at_ : atIx (List.map pr (ctx b)) 0 = some (.tup [.str e0.nm, e0.sn.enc]) := by rw [ce0, List.map_cons, at0]; rfl
        by_cases b1 : 20 < d.knots
        · have d1 : decide ((20 : Int) < (d.knots : Int)) = true := decide_eq_true (by omega)
          simp [sKeep, q1, d1, at_, Tm.enc, wVar]
        · have d1 : decide ((20 : Int) < (d.knots : Int)) = false := decide_eq_false (by omega)
          have d2 : decide ((60 : Int) < (t.kn : Int)) = true := decide_eq_true (by omega)
          simp [sKeep, q1, q2, d1, d2, at_, Tm.enc, wVar]
      · have d1 : decide ((20 : Int) < (d.knots : Int)) = false := decide_eq_false (by omega)
        have d2 : decide ((60 : Int) < (t.kn : Int)) = false := decide_eq_false (by omega)
        have od := d.odd
        have ty := M.ty (by rcases (by omega : q = 0 ∨ q = 1) with rfl | rfl; show d.knots ≤ 60; omega; show d.knots ≤ 20; omega)
        rw [find_lookR i.good] at ty
        refine ⟨t, d, M.ok, by omega, M.wf, by omega, ty, fun s4 => ?_⟩
        simp [sKeep, q1, q2, d1, d2]
    obtain ⟨t', d', o', n', w', k', y', run'⟩ := keep
    have ne2 : (ctx b).isEmpty = false := by rw [hbr]; rfl
    by_cases f4 : r < 4
    · have z4 : decide ((r : Int) < 4) = true := decide_eq_true (by omega)
      refine ⟨⟨nmE b.length, d', some (t', d')⟩, (.val (tI b.length), .val (.lst ((ctx b).map pr)), .val (.int r), .val t'.enc, .val d'.enc), t3, i.snoc hl o' n' (fun t s e => by cases e; exact ⟨w', k', y'⟩), ?_⟩
      simp [sBk, bE, wipeE, cm, e1, z1, eq_nil, ne2, e2, e3', run', sk, ce, z4, ap, encE, partsE, encT]
    · have z4 : decide ((r : Int) < 4) = false := decide_eq_false (by omega)
      obtain ⟨sn, t4, so, sn3, e4⟩ := q_lsent hn A 1 t3 k (by omega)
      have e4' : run ft k i__law_sentence [.ref n, .int 1] (hp H n t3) = .ok (.val sn.enc) (hp H n t4) := e4
      have kq : sn.knots ≤ 19 := by have : sn.knots + 1 ≤ 4 := sn3; omega
      refine ⟨⟨nmE b.length, sn, some (t', d')⟩, (.val (tI b.length), .val (.lst ((ctx b).map pr)), .val (.int r), .val t'.enc, .val d'.enc), t4, i.snoc hl so kq (fun t s e => by cases e; exact ⟨w', k', y'⟩), ?_⟩
      simp [sBk, bE, wipeE, cm, e1, z1, eq_nil, ne2, e2, e3', run', sk, ce, z4, e4', ap, encE, partsE, encT]
theorem bk_loop (A : HasD ft) (s1 : Slot) (k : Nat) (hk : 30 ≤ k) : ∀ (r : Nat) (b : Bk) (j : Slot × Slot × Slot × Slot × Slot) (s : Int), BI b → b.length + r ≤ 10 → ∃ (b' : Bk) (j' : Slot × Slot × Slot × Slot × Slot) (s' : Int), BI b' ∧ b'.length = b.length + r ∧ forL (.one 3) (sBk (run ft k)) ((List.range' b.length r).map tI) (bE n b s1 j) (hp H n s) = .next (bE n b' s1 j') (hp H n s')
  | 0, b, j, s, i, _ => ⟨b, j, s, i, rfl, rfl⟩
  | r + 1, b, j, s, i, hl => by
    obtain ⟨e, j1, s2, i2, e2⟩ := bk_turn hn A b i (by omega) s1 j s k hk
    have l2 : (b ++ [e]).length = b.length + 1 := by simp
    obtain ⟨b', j', s', i', l', e'⟩ := bk_loop A s1 k hk r (b ++ [e]) j1 s2 i2 (by rw [l2]; omega)
    refine ⟨b', j', s', i', by rw [l', l2]; omega, ?_⟩
    rw [List.range'_succ, List.map_cons, y_forL1, x_put1, y_item]
    have e2' : sBk (run ft k) ((bE n b s1 j).set 3 (.val (.int b.length))) (hp H n s) = .next (bE n (b ++ [e]) s1 j1) (hp H n s2) := e2
    rw [e2', y_turn1]
    rw [l2] at e'
    exact e'
theorem q_lbook (A : HasD ft) (s : Int) (k : Nat) (hk : 31 ≤ k) : ∃ (b : Bk) (s' : Int), BI b ∧ 1 ≤ b.length ∧ b.length ≤ 6 ∧ run ft k i__law_book [.ref n, .int 6] (hp H n s) = .ok (.val (encB b)) (hp H n s') := by
  obtain ⟨k, rfl⟩ : ∃ j, k = j + 1 := ⟨k - 1, by omega⟩
  obtain ⟨r, t1, hr, e1⟩ := q_draw hn A s 6 (by omega) k (by omega)
  obtain ⟨b, j, s2, i, l, e2⟩ := bk_loop hn A (.val (.int 6)) k (by omega) (1 + r) [] (.un, .un, .un, .un, .un) t1 .nil (by simp; omega)
  simp only [List.length_nil, Nat.zero_add] at l e2
  refine ⟨b, s2, i, by omega, by omega, ?_⟩
  rw [run_pure A.d5 (by decide) rfl]
  have r1 : wR1 (.ok (.int (1 + (r : Int))) (hp H n t1)) = .ok ((List.range' 0 (1 + r)).map tI) (hp H n t1) := by
    have := r1_nat (h := hp H n t1) (n := 1 + r) (by omega)
    rw [List.range_eq_range'] at this
    rw [← this]
    have e : ((1 + r : Nat) : Int) = 1 + (r : Int) := by omega
    rw [e]
  simp only [bE, List.map_nil] at e2
  simp [F__law_book, bk_code, mkEnv, e1, -y_r1, r1]
  rw [e2]
  simp [encB]
end
end GtS
end
section
set_option Elab.async false
set_option linter.all false
namespace GtS
open Gt
variable {ft : Nat → Option Fn} {h : Hs} {k : Nat}
structure HasO (ft : Nat → Option Fn) : Prop where
  d : HasD ft
  o1 : ft i__law_one = some F__law_one
  o2 : ft i__law_numbers = some F__law_numbers
theorem okE_of {b : Bk} (i : BI b) : ∀ e ∈ b, okE e := i.good.okE
theorem isbook_bad (A : HasB ft) {b : Bk} (i : BI b) (hl : b.length ≤ 6) {v : T} (ov : okD 299 v) (sv : szN 299 v ≤ 10000) (fv : frzN 299 v = v) (k : Nat) (hk : 145 ≤ k) (hv : ∀ w k, 140 ≤ k → sBook (run ft k) [.val w, .own (.lst ((nmsB b).map .str)), .val v] h = .ret (.val (.bl false)) h) : run ft k i_is_book [.tup (b.map encE ++ [v])] h = .ok (.val (.bl false)) h := by
  have o1 := okD_encB (okE_of i)
  have s1 := sz_encB (okE_of i) (by omega)
  have f1 := frz_encB 300 b
  refine q_is_book A (v := .tup (b.map encE ++ [v])) (fun x m => ?_) ?_ k (by omega) ?_
  · rcases List.mem_append.mp m with m | m
    · exact o1 x m
    · rw [List.mem_singleton.mp m]; exact ov
  · have e : szN 300 (encB b) = 1 + ((b.map encE).map (szN 299)).sum := rfl
    show 1 + ((b.map encE ++ [v]).map (szN 299)).sum ≤ _
    have q : szN 300 (encB b) ≤ 190000 := by
      rw [e, List.map_map]
      have := sum_le (szN 299 ∘ encE) 8001 b fun x hx => by
        show 1 + ((partsE x).map (szN 298)).sum ≤ _
        have := sz_parts 298 (okE_of i x hx)
        omega
      omega
    rw [e] at q
    simp only [List.map_append, List.sum_append, List.map_cons, List.map_nil, List.sum_cons, List.sum_nil]
    omega
  · have f2 : frzN 300 (.tup (b.map encE ++ [v])) = .tup (b.map encE ++ [v]) := by
      show T.tup ((b.map encE ++ [v]).map (frzN 299)) = _
      have f1' : T.tup ((b.map encE).map (frzN 299)) = .tup (b.map encE) := f1
      rw [List.map_append]
      injection f1' with f1'
      rw [f1']
      simp [fv]
    rw [f2]
    exact q_book_bad A i.good (by omega) v (k - 1) (by omega) (fun w => hv w (k - 1 - 1) (by omega))
theorem nm_free {b : Bk} (i : BI b) (hl : b.length ≤ 6) (x : S) (hx : ∀ k, k < 6 → nmE k ≠ x) : x ∉ nmsB b := by
  rw [i.nm]
  intro m
  obtain ⟨k, hk, e⟩ := List.mem_map.mp m
  have := List.mem_range.mp hk
  exact hx k (by omega) e
theorem bad_turn (A : HasB ft) {b : Bk} (hl : b.length ≤ 6) {e : En} (hn : nameOk e.nm = true) (o : okE e) (hc : e.nm ∈ nmsB b ∨ leansW e.tm (nmsB b) = false) : ∀ w k, 140 ≤ k → sBook (run ft k) [.val w, .own (.lst ((nmsB b).map .str)), .val (encE e)] h = .ret (.val (.bl false)) h := fun w k hk => by
  have := book_turn (h := h) A hn o w (nmsB b) (by simp [nmsB]; omega) k hk
  rw [if_pos hc] at this
  exact this
theorem ent_turn (v w : T) (ns : List T) (k : Nat) (hv : run ft k i_is_entry_value [v] h = .ok (.val (.bl false)) h) : sBook (run ft k) [.val w, .own (.lst ns), .val v] h = .ret (.val (.bl false)) h := by
  simp [sBook, hv]
def eBad1 : T := .tup [.str [122, 122], .str [97], .tup [.str [118, 97, 114], .str [121, 121]]]
def eBad2 : T := .tup [.str [122, 122], .str [97], .tup [.str [118, 97, 114], .str [122, 122]]]
def eBad3 : T := .tup [.str [90, 122], .str [97], .non]
def eBad4 : T := .tup [.str [122, 122], .str [97]]
def eBad5 : T := .tup [.str [122, 122], .tup [.str [110, 111, 110, 101], .str [97]], .non]
theorem isb1 (A : HasB ft) {b : Bk} (i : BI b) (hl : b.length ≤ 6) (k : Nat) (hk : 145 ≤ k) : run ft k i_is_book [.tup (b.map encE ++ [eBad1])] h = .ok (.val (.bl false)) h := by
  have e : eBad1 = encE ⟨[122, 122], .atom [97], some (.var [121, 121], .non)⟩ := rfl
  rw [e]
  refine isbook_bad A i hl ?_ ?_ rfl k hk (bad_turn A hl rfl ⟨rfl, fun t s z => by cases z; exact ⟨rfl, by decide⟩⟩ (.inr ?_))
  · exact fun x m => okD_parts 198 ⟨rfl, fun t s z => by cases z; exact ⟨rfl, by decide⟩⟩ x m
  · rw [show szN 299 (encE ⟨[122, 122], .atom [97], some (.var [121, 121], .non)⟩) = 6 from rfl]; omega
  · have nf := nm_free i hl [121, 121] (by decide)
    show ([[121, 121]].all fun x => decide (x ∈ nmsB b)) = false
    simp [nf]
theorem isb2 (A : HasB ft) {b : Bk} (i : BI b) (hl : b.length ≤ 6) (k : Nat) (hk : 145 ≤ k) : run ft k i_is_book [.tup (b.map encE ++ [eBad2])] h = .ok (.val (.bl false)) h := by
  have e : eBad2 = encE ⟨[122, 122], .atom [97], some (.var [122, 122], .non)⟩ := rfl
  rw [e]
  refine isbook_bad A i hl ?_ ?_ rfl k hk (bad_turn A hl rfl ⟨rfl, fun t s z => by cases z; exact ⟨rfl, by decide⟩⟩ (.inr ?_))
  · exact fun x m => okD_parts 198 ⟨rfl, fun t s z => by cases z; exact ⟨rfl, by decide⟩⟩ x m
  · rw [show szN 299 (encE ⟨[122, 122], .atom [97], some (.var [122, 122], .non)⟩) = 6 from rfl]; omega
  · have nf := nm_free i hl [122, 122] (by decide)
    show ([[122, 122]].all fun x => decide (x ∈ nmsB b)) = false
    simp [nf]
theorem isb3 (A : HasB ft) {b : Bk} (i : BI b) (hl : b.length ≤ 6) (k : Nat) (hk : 145 ≤ k) : run ft k i_is_book [.tup (b.map encE ++ [eBad3])] h = .ok (.val (.bl false)) h := by
  refine isbook_bad A i hl ?_ ?_ rfl k hk (fun w k hk => ent_turn _ w _ k ?_)
  · intro x m
    simp only [List.mem_cons, List.not_mem_nil, or_false] at m
    rcases m with rfl | rfl | rfl <;> rfl
  · rw [show szN 299 eBad3 = 4 from rfl]; omega
  · obtain ⟨k, rfl⟩ : ∃ j, k = j + 1 + 1 := ⟨k - 2, by omega⟩
    have q : run ft (k + 1) i_is_name [.str [90, 122]] h = .ok (.val (.bl false)) h := q_is_name (k := k) (h := h) A.s.s.s.h1 (.str [90, 122]) rfl (fun x e => by cases e; decide)
    rw [run_pure A.b1 (by decide) rfl]
    simp [F_is_entry_value, k_is_entry_value, mkEnv, eBad3, isi_tup, q]
theorem isb4 (A : HasB ft) {b : Bk} (i : BI b) (hl : b.length ≤ 6) (k : Nat) (hk : 145 ≤ k) : run ft k i_is_book [.tup (b.map encE ++ [eBad4])] h = .ok (.val (.bl false)) h := by
  refine isbook_bad A i hl ?_ ?_ rfl k hk (fun w k hk => ent_turn _ w _ k ?_)
  · intro x m
    simp only [List.mem_cons, List.not_mem_nil, or_false] at m
    rcases m with rfl | rfl <;> rfl
  · rw [show szN 299 eBad4 = 3 from rfl]; omega
  · obtain ⟨k, rfl⟩ : ∃ j, k = j + 1 + 1 := ⟨k - 2, by omega⟩
    rw [run_pure A.b1 (by decide) rfl]
    simp [F_is_entry_value, k_is_entry_value, mkEnv, eBad4, isi_tup]
theorem isb5 (A : HasB ft) {b : Bk} (i : BI b) (hl : b.length ≤ 6) (k : Nat) (hk : 145 ≤ k) : run ft k i_is_book [.tup (b.map encE ++ [eBad5])] h = .ok (.val (.bl false)) h := by
  refine isbook_bad A i hl ?_ ?_ rfl k hk (fun w k hk => ent_turn _ w _ k ?_)
  · intro x m
    simp only [List.mem_cons, List.not_mem_nil, or_false] at m
    rcases m with rfl | rfl | rfl
    · rfl
    · intro y my
      simp only [List.mem_cons, List.not_mem_nil, or_false] at my
      rcases my with rfl | rfl <;> rfl
    · rfl
  · rw [show szN 299 eBad5 = 6 from rfl]; omega
  · obtain ⟨k, rfl⟩ : ∃ j, k = j + 1 + 1 + 1 + 1 := ⟨k - 4, by omega⟩
    have q : run ft (k + 1 + 1 + 1) i_is_name [.str [122, 122]] h = .ok (.val (.bl true)) h := q_is_name (k := k + 1 + 1) (h := h) A.s.s.s.h1 (.str [122, 122]) rfl (fun x e => by cases e; decide)
    have q2 : run ft (k + 1) i_is_name [.tup [.str [110, 111, 110, 101], .str [97]]] h = .ok (.val (.bl false)) h := q_is_name (k := k) (h := h) A.s.s.s.h1 (.tup [.str [110, 111, 110, 101], .str [97]]) rfl (fun x e => by cases e)
    have e0 : fEq h (.tup [.str [110, 111, 110, 101], .str [97]]) c_NONE = some (.bl false) := rfl
    have q3 : run ft (k + 1 + 1) i_knots_within [.tup [.str [110, 111, 110, 101], .str [97]], .int 20] h = .ok (.val (.int 0)) h := by
      rw [run_pure A.s.s.s.h2 (by decide) rfl]
      simp [F_knots_within, k_knots_within, mkEnv, q2, e0, isi_tup]
    have q4 : run ft (k + 1 + 1 + 1) i_is_sentence_value [.tup [.str [110, 111, 110, 101], .str [97]]] h = .ok (.val (.bl false)) h := by
      rw [run_pure A.s.s.s.h3 (by decide) rfl]
      simp [F_is_sentence_value, k_is_sentence_value, mkEnv, c_MOST_DEEP_sentences, q3]
    rw [run_pure A.b1 (by decide) rfl]
    simp [F_is_entry_value, k_is_entry_value, mkEnv, eBad5, isi_tup, q, q4]
theorem isb6 (A : HasB ft) {b : Bk} {e : En} (i : BI (e :: b)) (hl : (e :: b).length ≤ 6) (k : Nat) (hk : 145 ≤ k) : run ft k i_is_book [.tup ((e :: b).map encE ++ [encE e])] h = .ok (.val (.bl false)) h := by
  have g := i.good.all e List.mem_cons_self
  have o := okE_of i e List.mem_cons_self
  refine isbook_bad A i hl ?_ ?_ ?_ k hk (bad_turn A hl g.1 o (.inl ?_))
  · exact fun x m => okD_parts 198 o x m
  · show 1 + ((partsE e).map (szN 298)).sum ≤ _
    have := sz_parts 298 o
    omega
  · show T.tup ((partsE e).map (frzN 298)) = _; rw [frz_parts]; rfl
  · exact List.mem_cons_self
theorem isb_leaf (A : HasB ft) {v : T} (hv : v = .non ∨ v = .int 7) (k : Nat) (hk : 145 ≤ k) : run ft k i_is_book [v] h = .ok (.val (.bl false)) h := by
  refine q_is_book A (v := v) (by rcases hv with rfl | rfl <;> rfl) (by rcases hv with rfl | rfl <;> (show 1 ≤ 200000; decide)) k (by omega) ?_
  obtain ⟨k, rfl⟩ : ∃ j, k = j + 1 + 1 := ⟨k - 2, by omega⟩
  rw [show k + 1 + 1 - 1 = k + 1 from rfl, run_pure A.b3 (by decide) rfl]
  rcases hv with rfl | rfl
  · have : frzN 300 .non = .non := rfl
    have i1 : fIsi [.tuple] h .non = some (.bl false) := rfl
    simp [F_is_book_value, k_is_book_value, mkEnv, this, i1]
  · have : frzN 300 (.int 7) = .int 7 := rfl
    have i1 : fIsi [.tuple] h (.int 7) = some (.bl false) := rfl
    simp [F_is_book_value, k_is_book_value, mkEnv, this, i1]
theorem ass_eq (b : Bk) (g : Nat → T) (hg : ∀ (n : Nat) (hn : n < b.length), g n = pr (b[n].nm, b[n].sn)) : ((List.range b.length).filter (assB b)).map g = (assCtx b).map pr := by
  cases hb : b with
  | nil => rfl
  | cons e0 br =>
    rw [← hb]
    have e : b = (List.range b.length).map fun n => b[n]?.getD e0 := by
      apply List.ext_getElem?
      intro n
      rw [List.getElem?_map]
      by_cases q : n < b.length
      · rw [List.getElem?_range q, List.getElem?_eq_getElem q]; simp [q]
      · rw [List.getElem?_eq_none (by omega), List.getElem?_eq_none (by simp; omega)]; rfl
    have e2 : b.filter (fun e => e.tm.isNone) = ((List.range b.length).filter (assB b)).map fun n => b[n]?.getD e0 := by
      conv => lhs; rw [e]
      rw [List.filter_map]
      congr 1
      refine List.filter_congr fun n m => ?_
      have hn := List.mem_range.mp m
      simp [assB, hn]
    unfold assCtx
    rw [e2, List.map_map, List.map_map]
    refine List.map_congr_left fun n m => ?_
    have hn := List.mem_range.mp (List.mem_filter.mp m).1
    rw [hg n hn]
    simp [hn]
end GtS
end
section
set_option Elab.async false
set_option linter.all false
namespace GtS
open Gt
def lb1 : SC := sIf (tOr (tNot (tTru (eOwn (eCall i__law_same (aCons (eOwn (eCall i_leans_on (aCons (eVar 0) (aCons (eVar 5) (aNil))))) (aCons (eOp1 fTuple (eOwn (eCall i__law_leans (aCons (eVar 0) (aCons (eVar 5) (aNil)))))) (aNil))))))) (tOr (tNot (tTru (eOwn (eCall i__law_same (aCons (eOwn (eCall i_under (aCons (eVar 0) (aCons (eVar 5) (aNil))))) (aCons (eOp1 fTuple (eOwn (eCall i__law_under (aCons (eVar 0) (aCons (eVar 5) (aNil)))))) (aNil))))))) (tNot (tTru (eOwn (eCall i__law_same (aCons (eOwn (eCall i_is_taken (aCons (eVar 0) (aCons (eVar 5) (aNil))))) (aCons (eOwn (eCall i__law_taken (aCons (eVar 0) (aCons (eVar 5) (aNil))))) (aNil))))))))) (sRet (eK (.bl false))) (sSkip)
def lb2 : SC := sIf (tOr (tNot (tTru (eOwn (eCall i__law_same (aCons (eOwn (eCall i_over (aCons (eVar 0) (aCons (eVar 5) (aNil))))) (aCons (eOp1 fTuple (eOwn (oComp [12] (.one 12) (iR1 (eVar 1)) (tBl (eOp2 fIn (eVar 5) (eOwn (eCall i__law_under (aCons (eVar 0) (aCons (eVar 12) (aNil))))))) (eVar 12)))) (aNil))))))) (tNot (tTru (eOwn (eCall i__law_same (aCons (eOwn (eCall i_rests_on (aCons (eVar 0) (aCons (eVar 5) (aNil))))) (aCons (eOp1 fTuple (eOwn (eCall i__law_rests (aCons (eVar 0) (aCons (eVar 5) (aNil)))))) (aNil)))))))) (sRet (eK (.bl false))) (sSkip)
def lb3 : SC := sIf (tNot (tTru (eOwn (eCall i__law_same (aCons (eOwn (eCall i_context_of (aCons (eVar 0) (aCons (eVar 5) (aNil))))) (aCons (eOwn (oSl (eVar 4) (none) (some (eVar 5)))) (aNil))))))) (sRet (eK (.bl false))) (sSkip)
def lb : SC := sSeq lb1 (sSeq lb2 lb3)
def lw : SC := sIf (tNot (tTru (eOwn (eCall i__law_same (aCons (eOwn (eCall i_is_book (aCons (eVar 7) (aNil)))) (aCons (eK (.bl false)) (aNil))))))) (sRet (eK (.bl false))) (sSkip)
def lo1 : SC := sSet 1 (eOp1 fLen (eVar 0))
def lo2 : SC := sIf (tOr (tNot (tTru (eOwn (eCall i__law_same (aCons (eOwn (eCall i_is_book (aCons (eVar 0) (aNil)))) (aCons (eK (.bl true)) (aNil))))))) (tNot (tTru (eOwn (eCall i__law_same (aCons (eOwn (eCall i_is_book (aCons (eOwn (oComp [11] (.one 11) (iSeq (eVar 0)) (tYes) (eOwn (oOp1 fList (eVar 11))))) (aNil)))) (aCons (eK (.bl true)) (aNil)))))))) (sRet (eK (.bl false))) (sSkip)
def lo3 : SC := sSet 2 (eOwn (oComp [5] (.one 5) (iR1 (eVar 1)) (tTru (eOwn (eCall i__law_stands (aCons (eVar 0) (aCons (eVar 5) (aNil)))))) (eVar 5)))
def lo4 : SC := sSet 3 (eOwn (oComp [5] (.one 5) (iR1 (eVar 1)) (tNot (tTru (eOwn (eCall i__law_taken (aCons (eVar 0) (aCons (eVar 5) (aNil))))))) (eVar 5)))
def lo5 : SC := sIf (tOr (tNot (tTru (eOwn (eCall i__law_same (aCons (eOwn (eCall i_standing (aCons (eVar 0) (aNil)))) (aCons (eOp1 fTuple (eVar 2)) (aNil))))))) (tOr (tNot (tTru (eOwn (eCall i__law_same (aCons (eOwn (eCall i_is_sound (aCons (eVar 0) (aNil)))) (aCons (eOp2 fEq (eVar 3) (eOwn (oLst (aNil)))) (aNil))))))) (tNot (tTru (eOwn (eCall i__law_same (aCons (eOwn (eCall i_first_not_taken (aCons (eVar 0) (aNil)))) (aCons (eIf (tTru (eVar 3)) (eOp2 fIx (eVar 3) (eK (.int 0))) (eK .non)) (aNil))))))))) (sRet (eK (.bl false))) (sSkip)
def lo6 : SC := sSet 4 (eOp1 fTuple (eOwn (oComp [8, 9, 10] (.many [8, 9, 10]) (iSeq (eVar 0)) (tYes) (eTup (aCons (eVar 8) (aCons (eVar 9) (aNil)))))))
def lo7 : SC := sIf (tOr (tNot (tTru (eOwn (eCall i__law_same (aCons (eOwn (eCall i_assumptions (aCons (eVar 0) (aNil)))) (aCons (eOp1 fTuple (eOwn (oComp [5] (.one 5) (iR1 (eVar 1)) (tBl (eOp2 fIs (eOp2 fIx (eOp2 fIx (eVar 0) (eVar 5)) (eK (.int 2))) (eK .non))) (eOp2 fIx (eVar 4) (eVar 5))))) (aNil))))))) (tNot (tTru (eOwn (eCall i__law_same (aCons (eOwn (eCall i_context_of (aCons (eVar 0) (aCons (eVar 1) (aNil))))) (aCons (eVar 4) (aNil)))))))) (sRet (eK (.bl false))) (sSkip)
def lo8 : SC := sFor (.one 5) (iR1 (eVar 1)) lb
def lo9 : SC := sSet 6 (eOwn (oLst (aCons (eTup (aCons (eK (.str [122, 122])) (aCons (eK (.str [97])) (aCons (eTup (aCons (eK (.str [118, 97, 114])) (aCons (eK (.str [121, 121])) (aNil)))) (aNil))))) (aCons (eTup (aCons (eK (.str [122, 122])) (aCons (eK (.str [97])) (aCons (eTup (aCons (eK (.str [118, 97, 114])) (aCons (eK (.str [122, 122])) (aNil)))) (aNil))))) (aCons (eTup (aCons (eK (.str [90, 122])) (aCons (eK (.str [97])) (aCons (eK .non) (aNil))))) (aCons (eTup (aCons (eK (.str [122, 122])) (aCons (eK (.str [97])) (aNil)))) (aCons (eTup (aCons (eK (.str [122, 122])) (aCons (eTup (aCons (eK (.str [110, 111, 110, 101])) (aCons (eK (.str [97])) (aNil)))) (aCons (eK .non) (aNil))))) (aCons (eOp2 fIx (eVar 0) (eK (.int 0))) (aNil)))))))))
def lo10 : SC := sFor (.one 7) (iSeq (eOwn (oOp2 fAdd (eOwn (oLst (aCons (eK .non) (aCons (eK (.int 7)) (aNil))))) (eOwn (oComp [11] (.one 11) (iSeq (eVar 6)) (tYes) (eOwn (oOp2 fAdd (eVar 0) (eTup (aCons (eVar 11) (aNil)))))))))) lw
def lo11 : SC := sRet (eK (.bl true))
theorem one_code : k__law_one = sSeq lo1 (sSeq lo2 (sSeq lo3 (sSeq lo4 (sSeq lo5 (sSeq lo6 (sSeq lo7 (sSeq lo8 (sSeq lo9 (sSeq lo10 lo11))))))))) := rfl
def ll1 : SC := sSet 1 (eTup (aCons (eTup (aCons (eK (.str [112])) (aCons (eK (.str [97])) (aCons (eK .non) (aNil))))) (aCons (eTup (aCons (eK (.str [113])) (aCons (eTup (aCons (eK (.str [105, 102])) (aCons (eK (.str [97])) (aCons (eK (.str [98])) (aNil))))) (aCons (eK .non) (aNil))))) (aCons (eTup (aCons (eK (.str [114])) (aCons (eK (.str [98])) (aCons (eTup (aCons (eK (.str [97, 112, 112])) (aCons (eTup (aCons (eK (.str [118, 97, 114])) (aCons (eK (.str [113])) (aNil)))) (aCons (eTup (aCons (eK (.str [118, 97, 114])) (aCons (eK (.str [112])) (aNil)))) (aNil))))) (aNil))))) (aCons (eTup (aCons (eK (.str [115])) (aCons (eTup (aCons (eK (.str [97, 110, 100])) (aCons (eK (.str [98])) (aCons (eK (.str [97])) (aNil))))) (aCons (eTup (aCons (eK (.str [112, 97, 105, 114])) (aCons (eTup (aCons (eK (.str [118, 97, 114])) (aCons (eK (.str [114])) (aNil)))) (aCons (eTup (aCons (eK (.str [118, 97, 114])) (aCons (eK (.str [112])) (aNil)))) (aNil))))) (aNil))))) (aNil))))))
def ll2 : SC := sIf (tOr (tNot (tTru (eOwn (eCall i__law_same (aCons (eOwn (eCall i_under (aCons (eVar 1) (aCons (eK (.int 3)) (aNil))))) (aCons (eTup (aCons (eK (.int 0)) (aCons (eK (.int 1)) (aCons (eK (.int 2)) (aNil))))) (aNil))))))) (tOr (tNot (tTru (eOwn (eCall i__law_same (aCons (eOwn (eCall i_leans_on (aCons (eVar 1) (aCons (eK (.int 3)) (aNil))))) (aCons (eTup (aCons (eK (.int 0)) (aCons (eK (.int 2)) (aNil)))) (aNil))))))) (tOr (tNot (tTru (eOwn (eCall i__law_same (aCons (eOwn (eCall i_over (aCons (eVar 1) (aCons (eK (.int 1)) (aNil))))) (aCons (eTup (aCons (eK (.int 2)) (aCons (eK (.int 3)) (aNil)))) (aNil))))))) (tNot (tTru (eOwn (eCall i__law_same (aCons (eOwn (eCall i_standing (aCons (eVar 1) (aNil)))) (aCons (eTup (aCons (eK (.int 0)) (aCons (eK (.int 1)) (aCons (eK (.int 2)) (aCons (eK (.int 3)) (aNil)))))) (aNil)))))))))) (sRet (eK (.bl false))) (sSkip)
def ll3 : SC := sIf (tNot (tTru (eOwn (eCall i__law_same (aCons (eOwn (eCall i_assumptions (aCons (eTup (aCons (eTup (aCons (eK (.str [113])) (aCons (eK (.str [97])) (aCons (eK .non) (aNil))))) (aCons (eTup (aCons (eK (.str [114])) (aCons (eK (.str [97])) (aCons (eTup (aCons (eK (.str [118, 97, 114])) (aCons (eK (.str [113])) (aNil)))) (aNil))))) (aCons (eTup (aCons (eK (.str [112])) (aCons (eK (.str [98])) (aCons (eK .non) (aNil))))) (aNil))))) (aNil)))) (aCons (eTup (aCons (eTup (aCons (eK (.str [113])) (aCons (eK (.str [97])) (aNil)))) (aCons (eTup (aCons (eK (.str [112])) (aCons (eK (.str [98])) (aNil)))) (aNil)))) (aNil))))))) (sRet (eK (.bl false))) (sSkip)
def ll4 : SC := sSet 2 (eOp1 fTuple (eOwn (oComp [4] (.one 4) (iR1 (eK (.int 12))) (tYes) (eTup (aCons (eOwn (oOp2 fAdd (eK (.str [110])) (eOp1 fStr (eVar 4)))) (aCons (eK (.str [97])) (aCons (eK .non) (aNil))))))))
def ll5 : SC := sIf (tOr (tNot (tTru (eOwn (eCall i__law_same (aCons (eOwn (eCall i_is_book (aCons (eVar 2) (aNil)))) (aCons (eK (.bl true)) (aNil))))))) (tNot (tTru (eOwn (eCall i__law_same (aCons (eOwn (eCall i_is_book (aCons (eOwn (oOp2 fAdd (eVar 2) (eTup (aCons (eTup (aCons (eK (.str [109, 111, 114, 101])) (aCons (eK (.str [97])) (aCons (eK .non) (aNil))))) (aNil))))) (aNil)))) (aCons (eK (.bl false)) (aNil)))))))) (sRet (eK (.bl false))) (sSkip)
def ll6 : SC := sIf (tOr (tNot (tTru (eOwn (eCall i__law_same (aCons (eOwn (eCall i_standing (aCons (eTup (aNil)) (aNil)))) (aCons (eTup (aNil)) (aNil))))))) (tNot (tTru (eOwn (eCall i__law_same (aCons (eOwn (eCall i_is_book (aCons (eOwn (eBack (eVar 1))) (aNil)))) (aCons (eK (.bl false)) (aNil)))))))) (sRet (eK (.bl false))) (sSkip)
def ll7 : SC := sFor (.one 3) (iR1 (eK (.int 4))) (sIf (tNot (tTru (eOwn (eCall i__law_one (aCons (eOwn (eCall i__law_book (aCons (eNew (oLst (aCons (eOp2 fIx (eOwn (eCall i__law_numbers (aCons (eVar 0) (aCons (eVar 3) (aCons (eK (.int 1)) (aNil)))))) (eK (.int 0))) (aNil)))) (aCons (eK (.int 6)) (aNil))))) (aNil)))))) (sRet (eK (.bl false))) (sSkip))
def ll8 : SC := sRet (eK (.bl true))
theorem law_code : k_law = sSeq ll1 (sSeq ll2 (sSeq ll3 (sSeq ll4 (sSeq ll5 (sSeq ll6 (sSeq ll7 ll8)))))) := rfl
end GtS
end
section
set_option Elab.async false
set_option linter.all false
namespace GtS
open Gt
variable {ft : Nat → Option Fn} {h : Hs} {k : Nat}
section
variable {b : Bk}
def oE (b : Bk) (s1 s2 s3 s4 s5 s6 s7 s8 s9 s10 s11 s12 : Slot) : List Slot := [.val (encB b), s1, s2, s3, s4, s5, s6, s7, s8, s9, s10, s11, s12]
abbrev sN (n : Nat) : Slot := .val (.int n)
theorem same_b (A : HasL ft) (x : Bool) (k : Nat) (hk : 1 ≤ k) : run ft k i__law_same [.bl x, .bl x] h = .ok (.val (.bl true)) h := q_same A 1 _ k trivial hk
theorem same_n (A : HasL ft) (l : List Nat) (hl : l.length ≤ 1000) (k : Nat) (hk : 2 ≤ k) : run ft k i__law_same [.tup (tIs l), .tup (tIs l)] h = .ok (.val (.bl true)) h := q_same A 2 _ k (smp_nats l hl) hk
theorem same_c (A : HasL ft) (c : Cn) (hl : c.length ≤ 1000) (hd : ∀ p ∈ c, p.2.deep ≤ 60) (k : Nat) (hk : 70 ≤ k) : run ft k i__law_same [encC c, encC c] h = .ok (.val (.bl true)) h := q_same A 70 _ k (smp_ctx c hl hd) hk
theorem run_lo2 (A : HasO ft) (i : BI b) (hl : b.length ≤ 6) (k : Nat) (hk : 165 ≤ k) (s1 s2 s3 s4 s5 s6 s7 s8 s9 s10 s12 : Slot) : lo2 (run ft k) (oE b s1 s2 s3 s4 s5 s6 s7 s8 s9 s10 .un s12) h = .next (oE b s1 s2 s3 s4 s5 s6 s7 s8 s9 s10 .un s12) h := by
  have B := A.d.m.l.p.b
  have t1 := isBk_t i.good (by omega)
  have t2 := isBk_l i.good (by omega)
  have q1 := q_is_book (h := h) B t1.ok t1.sz (r := true) k (by omega) (by rw [t1.frz]; exact q_is_book_value B i.good (by omega) (k - 1) (by omega))
  have q2 := q_is_book (h := h) B t2.ok t2.sz (r := true) k (by omega) (by rw [t2.frz]; exact q_is_book_value B i.good (by omega) (k - 1) (by omega))
  have sm := same_b (h := h) A.d.m.l true k (by omega)
  have cm := comp_map0 (h := h) (tg := .one 11) (tt := tYes (run ft k)) (b := eOwn (oOp1 fList (eVar 11)) (run ft k)) (e := oE b s1 s2 s3 s4 s5 s6 s7 s8 s9 s10 .un s12) encE (fun _ => true) encEL b (fun x m => ⟨_, rfl, rfl, fun _ => by simp [oE, encE, encEL]⟩) (le_LIM (by omega))
  rw [List.filter_eq_self.mpr (fun _ _ => rfl)] at cm
  simp only [encB, encBL, oE] at q1 q2 cm
  simp [lo2, oE, encB, q1, sm, wipeE, cm, q2]
theorem run_lo3 (A : HasO ft) (i : BI b) (hl : b.length ≤ 6) (k : Nat) (hk : 165 ≤ k) (s2 s3 s4 s6 s7 s8 s9 s10 s11 s12 : Slot) : lo3 (run ft k) (oE b (sN b.length) s2 s3 s4 .un s6 s7 s8 s9 s10 s11 s12) h = .next (oE b (sN b.length) (.val (.lst (tIs (standsB b)))) s3 s4 .un s6 s7 s8 s9 s10 s11 s12) h := by
  have cm := comp_map0 (h := h) (tg := .one 5) (tt := tTru (eOwn (eCall i__law_stands (aCons (eVar 0) (aCons (eVar 5) (aNil))))) (run ft k)) (b := eVar 5 (run ft k)) (e := oE b (sN b.length) s2 s3 s4 .un s6 s7 s8 s9 s10 s11 s12) tI (standB b) tI (List.range b.length) (fun x m => ⟨_, rfl, by
    have q := q_lstands (h := h) A.d.m i.good (by omega) x (List.mem_range.mp m) k (by omega)
    simp [oE, q], fun _ => by simp [oE]⟩) (by rw [List.length_range]; exact le_LIM (by omega))
  have r1 := r1_nat (h := h) (n := b.length) (by omega)
  simp only [oE] at cm
  simp [lo3, oE, -y_r1, r1, wipeE, cm, tIs, standsB]
theorem run_lo4 (A : HasO ft) (i : BI b) (hl : b.length ≤ 6) (k : Nat) (hk : 165 ≤ k) (s2 s3 s4 s6 s7 s8 s9 s10 s11 s12 : Slot) : lo4 (run ft k) (oE b (sN b.length) s2 s3 s4 .un s6 s7 s8 s9 s10 s11 s12) h = .next (oE b (sN b.length) s2 (.val (.lst (tIs (badB b)))) s4 .un s6 s7 s8 s9 s10 s11 s12) h := by
  have cm := comp_map0 (h := h) (tg := .one 5) (tt := tNot (tTru (eOwn (eCall i__law_taken (aCons (eVar 0) (aCons (eVar 5) (aNil)))))) (run ft k)) (b := eVar 5 (run ft k)) (e := oE b (sN b.length) s2 s3 s4 .un s6 s7 s8 s9 s10 s11 s12) tI (fun n => !takenB b n) tI (List.range b.length) (fun x m => ⟨_, rfl, by
    have q := q_ltaken (h := h) A.d.m i.good (by omega) x (List.mem_range.mp m) k (by omega)
    simp [oE, q], fun _ => by simp [oE]⟩) (by rw [List.length_range]; exact le_LIM (by omega))
  have r1 := r1_nat (h := h) (n := b.length) (by omega)
  simp only [oE] at cm
  simp [lo4, oE, -y_r1, r1, wipeE, cm, tIs, badB]
theorem flt_len (p : Nat → Bool) (n : Nat) : ((List.range n).filter p).length ≤ n := by
  have := List.length_filter_le p (List.range n)
  rw [List.length_range] at this
  exact this
theorem run_lo5 (A : HasO ft) (i : BI b) (hl : b.length ≤ 6) (k : Nat) (hk : 165 ≤ k) (s1 s4 s5 s6 s7 s8 s9 s10 s11 s12 : Slot) : lo5 (run ft k) (oE b s1 (.val (.lst (tIs (standsB b)))) (.val (.lst (tIs (badB b)))) s4 s5 s6 s7 s8 s9 s10 s11 s12) h = .next (oE b s1 (.val (.lst (tIs (standsB b)))) (.val (.lst (tIs (badB b)))) s4 s5 s6 s7 s8 s9 s10 s11 s12) h := by
  have P := A.d.m.l.p
  have q1 := q_standing_api (h := h) P i.good (by omega) k (by omega)
  have q2 := q_sound (h := h) P i.good (by omega) k (by omega)
  have q3 := q_first_not (h := h) P i.good (by omega) k (by omega)
  have s1 := same_n (h := h) A.d.m.l (standsB b) (by have := flt_len (standB b) b.length; unfold standsB; omega) k (by omega)
  have s2 := fun x => same_b (h := h) A.d.m.l x k (by omega)
  have en : fEq h (.lst (tIs (badB b))) (.lst []) = some (.bl (badB b).isEmpty) := by rw [eq_nil]; unfold tIs; rw [List.isEmpty_map]
  simp only [encB] at q1 q2 q3
  have i1 : fIx h (.lst (tIs (badB b))) (.int 0) = if (badB b).isEmpty then none else some (firstT (badB b)) := by
    cases badB b with
    | nil => rfl
    | cons x r => show atIx (tI x :: tIs r) 0 = _; rw [at0]; rfl
  have em : (tIs (badB b)).isEmpty = (badB b).isEmpty := List.isEmpty_map
  cases z : (badB b).isEmpty with
  | true =>
    have zn : badB b = [] := List.isEmpty_iff.mp z
    rw [zn] at q3
    have s3 := q_same (h := h) A.d.m.l 1 .non k trivial (by omega)
    rw [z] at q2 en em
    simp only [firstT] at q3
    simp [lo5, oE, encB, q1, s1, q2, q3, en, s2, s3, em]
  | false =>
    have s3 : run ft k i__law_same [firstT (badB b), firstT (badB b)] h = .ok (.val (.bl true)) h := by
      cases badB b with
      | nil => exact q_same (h := h) A.d.m.l 1 .non k trivial (by omega)
      | cons x r => exact q_same (h := h) A.d.m.l 1 (tI x) k trivial (by omega)
    rw [z] at q2 en em i1
    simp at i1
    simp [lo5, oE, encB, q1, s1, q2, q3, en, s2, s3, em, i1]
theorem ctx_deep (i : BI b) : ∀ p ∈ ctx b, p.2.deep ≤ 60 := fun p m => by
  have := i.ci.kn p m
  have := p.2.deep_knots
  omega
theorem run_lo6 (A : HasO ft) (i : BI b) (hl : b.length ≤ 6) (k : Nat) (s1 s2 s3 s4 s5 s6 s7 s11 s12 : Slot) : lo6 (run ft k) (oE b s1 s2 s3 s4 s5 s6 s7 .un .un .un s11 s12) h = .next (oE b s1 s2 s3 (.val (encC (ctx b))) s5 s6 s7 .un .un .un s11 s12) h := by
  have cm := comp_map0 (h := h) (tg := .many [8, 9, 10]) (tt := tYes (run ft k)) (b := eTup (aCons (eVar 8) (aCons (eVar 9) aNil)) (run ft k)) (e := oE b s1 s2 s3 s4 s5 s6 s7 .un .un .un s11 s12) encE (fun _ => true) (fun e => pr (e.nm, e.sn)) b (fun x m => ⟨_, rfl, rfl, fun _ => by simp [pr, oE]⟩) (le_LIM (by omega))
  rw [List.filter_eq_self.mpr (fun _ _ => rfl)] at cm
  simp only [encB, oE] at cm
  simp [lo6, oE, encB, wipeE, cm, encC, ctx, Function.comp_def]
theorem run_lo7 (A : HasO ft) (i : BI b) (hl : b.length ≤ 6) (k : Nat) (hk : 165 ≤ k) (s2 s3 s6 s7 s8 s9 s10 s11 s12 : Slot) : lo7 (run ft k) (oE b (sN b.length) s2 s3 (.val (encC (ctx b))) .un s6 s7 s8 s9 s10 s11 s12) h = .next (oE b (sN b.length) s2 s3 (.val (encC (ctx b))) .un s6 s7 s8 s9 s10 s11 s12) h := by
  have P := A.d.m.l.p
  have q1 := q_assumptions (h := h) P i.good (by omega) k (by omega)
  have q2 := q_context_of (h := h) P i.good (by omega) b.length (by omega) k (by omega)
  rw [List.take_length] at q2
  have la : (assCtx b).length ≤ b.length := by unfold assCtx; rw [List.length_map]; exact List.length_filter_le _ _
  have da : ∀ p ∈ assCtx b, p.2.deep ≤ 60 := fun p m => by
    obtain ⟨e, he, rfl⟩ := List.mem_map.mp m
    exact ctx_deep i _ (List.mem_map.mpr ⟨e, (List.mem_filter.mp he).1, rfl⟩)
  have t1 := same_c (h := h) A.d.m.l (assCtx b) (by omega) da k (by omega)
  have t2 := same_c (h := h) A.d.m.l (ctx b) (by simp [ctx]; omega) (ctx_deep i) k (by omega)
  have ci : ∀ x, x < b.length → atIx ((ctx b).map pr) (x : Int) = some ((((ctx b).map pr)[x]?).getD .non) := fun x hx => by
    rw [atN, List.getElem?_eq_getElem (by simp [ctx]; exact hx)]; rfl
  have cm := comp_map0 (h := h) (tg := .one 5) (tt := tBl (eOp2 fIs (eOp2 fIx (eOp2 fIx (eVar 0) (eVar 5)) (eK (.int 2))) (eK .non)) (run ft k)) (b := eOp2 fIx (eVar 4) (eVar 5) (run ft k)) (e := oE b (sN b.length) s2 s3 (.val (encC (ctx b))) .un s6 s7 s8 s9 s10 s11 s12) tI (assB b) (fun x => (((ctx b).map pr)[x]?).getD .non) (List.range b.length) (fun x m => ⟨_, rfl, by
    have hx := List.mem_range.mp m
    obtain ⟨e, he⟩ := getE hx
    have ti : atIx (b.map encE) (x : Int) = some (.tup [.str e.nm, e.sn.enc, encT e.tm]) := by rw [at_map, he]; rfl
    have as : assB b x = e.tm.isNone := by simp [assB, he]
    simp [oE, encB, ti, isNon_encT, as], fun _ => by
    have c1 := ci x (List.mem_range.mp m)
    simp [oE, encC]
    rw [c1]
    simp⟩) (by rw [List.length_range]; exact le_LIM (by omega))
  rw [ass_eq b _ (fun n hn => by simp [ctx, hn])] at cm
  have r1 := r1_nat (h := h) (n := b.length) (by omega)
  simp only [encB, encC] at q1 q2 t1 t2
  simp only [oE, encB, encC] at cm
  simp [lo7, oE, encB, encC, q1, q2, -y_r1, r1, wipeE, cm, t1, t2]
theorem run_lb1 (A : HasO ft) (i : BI b) (hl : b.length ≤ 6) (n : Nat) (hn : n < b.length) (k : Nat) (hk : 165 ≤ k) (s1 s2 s3 s4 s6 s7 s8 s9 s10 s11 s12 : Slot) : lb1 (run ft k) (oE b s1 s2 s3 s4 (sN n) s6 s7 s8 s9 s10 s11 s12) h = .next (oE b s1 s2 s3 s4 (sN n) s6 s7 s8 s9 s10 s11 s12) h := by
  have P := A.d.m.l.p
  have q1 := q_leans_on (h := h) P i.good (by omega) n hn k (by omega)
  have q2 := q_lleans (h := h) A.d.m i.good (by omega) n hn k (by omega)
  have q3 := q_under (h := h) P i.good (by omega) n hn k (by omega)
  have q4 := q_lunder (h := h) A.d.m i.good (by omega) n hn k (by omega)
  have q5 := q_is_taken (h := h) P i.good (by omega) n hn k (by omega)
  have q6 := q_ltaken (h := h) A.d.m i.good (by omega) n hn k (by omega)
  have t1 := same_n (h := h) A.d.m.l (leansB b n) (by have := lb_len b n; omega) k (by omega)
  have t2 := same_n (h := h) A.d.m.l (undersB b n) (by have := unders_len b n; omega) k (by omega)
  have t3 := same_b (h := h) A.d.m.l (takenB b n) k (by omega)
  simp [lb1, oE, q1, q2, q3, q4, q5, q6, t1, t2, t3]
theorem run_lb2 (A : HasO ft) (i : BI b) (hl : b.length ≤ 6) (n : Nat) (hn : n < b.length) (k : Nat) (hk : 165 ≤ k) (s2 s3 s4 s6 s7 s8 s9 s10 s11 : Slot) : lb2 (run ft k) (oE b (sN b.length) s2 s3 s4 (sN n) s6 s7 s8 s9 s10 s11 .un) h = .next (oE b (sN b.length) s2 s3 s4 (sN n) s6 s7 s8 s9 s10 s11 .un) h := by
  have P := A.d.m.l.p
  have q1 := q_over (h := h) P i.good (by omega) n hn k (by omega)
  have q2 := q_rests_on (h := h) P i.good (by omega) n hn k (by omega)
  have q3 := q_lrests (h := h) A.d.m i.good (by omega) n hn k (by omega)
  have cm := comp_map0 (h := h) (tg := .one 12) (tt := tBl (eOp2 fIn (eVar 5) (eOwn (eCall i__law_under (aCons (eVar 0) (aCons (eVar 12) (aNil)))))) (run ft k)) (b := eVar 12 (run ft k)) (e := oE b (sN b.length) s2 s3 s4 (sN n) s6 s7 s8 s9 s10 s11 .un) tI (fun k => decide (n ∈ undersB b k)) tI (List.range b.length) (fun x m => ⟨_, rfl, by
    have q4 := q_lunder (h := h) A.d.m i.good (by omega) x (List.mem_range.mp m) k (by omega)
    simp [oE, q4, in_natL], fun _ => by simp [oE]⟩) (by rw [List.length_range]; exact le_LIM (by omega))
  have r1 := r1_nat (h := h) (n := b.length) (by omega)
  have t1 := same_n (h := h) A.d.m.l (oversB b n) (by have := flt_len (fun k => decide (n ∈ undersB b k)) b.length; unfold oversB; omega) k (by omega)
  have t2 := same_n (h := h) A.d.m.l (restsB b n) (by have := flt_len (fun k => assB b k && (decide (k = n) || decide (k ∈ undersB b n))) (n + 1); unfold restsB; omega) k (by omega)
  have cm' : compL (Tg.one 12) (tBl (eOp2 fIn (eVar 5) (eOwn (eCall i__law_under (aCons (eVar 0) (aCons (eVar 12) (aNil)))))) (run ft k)) (eVar 12 (run ft k)) (oE b (sN b.length) s2 s3 s4 (sN n) s6 s7 s8 s9 s10 s11 .un) ((List.range b.length).map tI) [] h = .ok (tIs (oversB b n)) h := cm
  simp only [oE] at cm'
  simp [lb2, oE, q1, q2, q3, -y_r1, r1, wipeE, cm', t1, t2]
theorem run_lb3 (A : HasO ft) (i : BI b) (hl : b.length ≤ 6) (n : Nat) (hn : n < b.length) (k : Nat) (hk : 165 ≤ k) (s1 s2 s3 s6 s7 s8 s9 s10 s11 s12 : Slot) : lb3 (run ft k) (oE b s1 s2 s3 (.val (encC (ctx b))) (sN n) s6 s7 s8 s9 s10 s11 s12) h = .next (oE b s1 s2 s3 (.val (encC (ctx b))) (sN n) s6 s7 s8 s9 s10 s11 s12) h := by
  have P := A.d.m.l.p
  have q1 := q_context_of (h := h) P i.good (by omega) n (by omega) k (by omega)
  have ct : ctx (b.take n) = (ctx b).take n := by simp [ctx, List.map_take]
  rw [ct] at q1
  have t1 := same_c (h := h) A.d.m.l ((ctx b).take n) (by rw [List.length_take]; omega) (fun p m => ctx_deep i p (List.mem_of_mem_take m)) k (by omega)
  simp only [encC, List.map_take] at q1 t1
  simp [lb3, oE, encC, q1, cut_take, List.map_take, t1]
theorem run_lo8 (A : HasO ft) (i : BI b) (hl : b.length ≤ 6) (k : Nat) (hk : 165 ≤ k) (s2 s3 s5 s6 s7 s8 s9 s10 s11 : Slot) : ∃ s5', lo8 (run ft k) (oE b (sN b.length) s2 s3 (.val (encC (ctx b))) s5 s6 s7 s8 s9 s10 s11 .un) h = .next (oE b (sN b.length) s2 s3 (.val (encC (ctx b))) s5' s6 s7 s8 s9 s10 s11 .un) h := by
  obtain ⟨j, e, _⟩ := for_map (tg := .one 5) (b := lb (run ft k)) (h := h) (fun (_ : Unit) (j : Slot) => oE b (sN b.length) s2 s3 (.val (encC (ctx b))) j s6 s7 s8 s9 s10 s11 .un) (fun _ => True) tI (fun _ _ => ()) (List.range b.length) (fun a j x m _ => ⟨trivial, oE b (sN b.length) s2 s3 (.val (encC (ctx b))) (sN x) s6 s7 s8 s9 s10 s11 .un, rfl, sN x, by
    have hx := List.mem_range.mp m
    have e1 := run_lb1 (h := h) A i hl x hx k hk (sN b.length) s2 s3 (.val (encC (ctx b))) s6 s7 s8 s9 s10 s11 .un
    have e2 := run_lb2 (h := h) A i hl x hx k hk s2 s3 (.val (encC (ctx b))) s6 s7 s8 s9 s10 s11
    have e3 := run_lb3 (h := h) A i hl x hx k hk (sN b.length) s2 s3 s6 s7 s8 s9 s10 s11 .un
    unfold lb
    rw [x_sSeq, e1, w39, x_sSeq, e2, w39, e3]⟩) () s5 trivial
  refine ⟨j, ?_⟩
  have r1 := r1_nat (h := h) (n := b.length) (by omega)
  unfold lo8
  rw [x_sFor]
  simp only [oE] at e
  simp [oE, -y_r1, r1, e]
def wrongs (b : Bk) (e0 : En) : List T := [.non, .int 7, .tup (b.map encE ++ [eBad1]), .tup (b.map encE ++ [eBad2]), .tup (b.map encE ++ [eBad3]), .tup (b.map encE ++ [eBad4]), .tup (b.map encE ++ [eBad5]), .tup (b.map encE ++ [encE e0])]
def mores (e0 : En) : List T := [eBad1, eBad2, eBad3, eBad4, eBad5, encE e0]
theorem run_lo9 (e0 : En) (br : Bk) (hb : b = e0 :: br) (k : Nat) (s1 s2 s3 s4 s5 s6 s7 s8 s9 s10 s11 s12 : Slot) : lo9 (run ft k) (oE b s1 s2 s3 s4 s5 s6 s7 s8 s9 s10 s11 s12) h = .next (oE b s1 s2 s3 s4 s5 (.val (.lst (mores e0))) s7 s8 s9 s10 s11 s12) h := by
  subst hb
  simp [lo9, oE, encB, mores, eBad1, eBad2, eBad3, eBad4, eBad5]
theorem run_lo10 (A : HasO ft) (e0 : En) (br : Bk) (hb : b = e0 :: br) (i : BI b) (hl : b.length ≤ 6) (k : Nat) (hk : 165 ≤ k) (s1 s2 s3 s4 s5 s7 s8 s9 s10 s12 : Slot) : ∃ s7', lo10 (run ft k) (oE b s1 s2 s3 s4 s5 (.val (.lst (mores e0))) s7 s8 s9 s10 .un s12) h = .next (oE b s1 s2 s3 s4 s5 (.val (.lst (mores e0))) s7' s8 s9 s10 .un s12) h := by
  have B := A.d.m.l.p.b
  have all : ∀ x ∈ wrongs b e0, run ft k i_is_book [x] h = .ok (.val (.bl false)) h := fun x m => by
    simp only [wrongs, List.mem_cons, List.not_mem_nil, or_false] at m
    rcases m with rfl | rfl | rfl | rfl | rfl | rfl | rfl | rfl
    · exact isb_leaf B (.inl rfl) k (by omega)
    · exact isb_leaf B (.inr rfl) k (by omega)
    · exact isb1 B i hl k (by omega)
    · exact isb2 B i hl k (by omega)
    · exact isb3 B i hl k (by omega)
    · exact isb4 B i hl k (by omega)
    · exact isb5 B i hl k (by omega)
    · subst hb; exact isb6 B i hl k (by omega)
  have sm := same_b (h := h) A.d.m.l false k (by omega)
  obtain ⟨j, e, _⟩ := for_map (tg := .one 7) (b := lw (run ft k)) (h := h) (fun (_ : Unit) (j : Slot) => oE b s1 s2 s3 s4 s5 (.val (.lst (mores e0))) j s8 s9 s10 .un s12) (fun _ => True) id (fun _ _ => ()) (wrongs b e0) (fun a j x m _ => ⟨trivial, oE b s1 s2 s3 s4 s5 (.val (.lst (mores e0))) (.val x) s8 s9 s10 .un s12, rfl, .val x, by
    have q := all x m
    simp [lw, oE, q, sm]⟩) () s7 trivial
  refine ⟨j, ?_⟩
  have ct : ∀ v, fAdd h (.tup (b.map encE)) (.tup [v]) = some (.val (.tup (b.map encE ++ [v]))) := fun v => cat_tup (by simp; exact le_LIM (by omega))
  have cm := comp_map0 (h := h) (tg := .one 11) (tt := tYes (run ft k)) (b := eOwn (oOp2 fAdd (eVar 0) (eTup (aCons (eVar 11) (aNil)))) (run ft k)) (e := oE b s1 s2 s3 s4 s5 (.val (.lst (mores e0))) s7 s8 s9 s10 .un s12) id (fun _ => true) (fun v => .tup (b.map encE ++ [v])) (mores e0) (fun x m => ⟨_, rfl, rfl, fun _ => by simp [oE, encB, ct]⟩) (by show 6 ≤ LIM; decide)
  rw [List.filter_eq_self.mpr (fun _ _ => rfl)] at cm
  have c2 : fAdd h (.lst [.non, .int 7]) (.lst ((mores e0).map fun v => .tup (b.map encE ++ [v]))) = some (.own (.lst (wrongs b e0))) := cat_lst (by show 8 ≤ LIM; decide)
  rw [List.map_id] at e cm
  unfold lo10
  rw [x_sFor]
  simp only [oE] at e cm
  simp [oE, -z_comp1, wipeE, cm, c2, e]
theorem q_lone (A : HasO ft) (i : BI b) (h1 : 1 ≤ b.length) (hl : b.length ≤ 6) (k : Nat) (hk : 166 ≤ k) : run ft k i__law_one [encB b] h = .ok (.val (.bl true)) h := by
  obtain ⟨k, rfl⟩ : ∃ j, k = j + 1 := ⟨k - 1, by omega⟩
  obtain ⟨e0, br, hb⟩ : ∃ e0 br, b = e0 :: br := by
    cases b with
    | nil => simp at h1
    | cons e0 br => exact ⟨e0, br, rfl⟩
  rw [run_pure A.o1 (by decide) rfl]
  have e1 : lo1 (run ft k) (oE b .un .un .un .un .un .un .un .un .un .un .un .un) h = .next (oE b (sN b.length) .un .un .un .un .un .un .un .un .un .un .un) h := by simp [lo1, oE, encB]
  have e2 := run_lo2 (h := h) A i hl k (by omega) (sN b.length) .un .un .un .un .un .un .un .un .un .un
  have e3 := run_lo3 (h := h) A i hl k (by omega) .un .un .un .un .un .un .un .un .un .un
  have e4 := run_lo4 (h := h) A i hl k (by omega) (.val (.lst (tIs (standsB b)))) .un .un .un .un .un .un .un .un .un
  have e5 := run_lo5 (h := h) A i hl k (by omega) (sN b.length) .un .un .un .un .un .un .un .un .un
  have e6 := run_lo6 (h := h) A i hl k (sN b.length) (.val (.lst (tIs (standsB b)))) (.val (.lst (tIs (badB b)))) .un .un .un .un .un .un
  have e7 := run_lo7 (h := h) A i hl k (by omega) (.val (.lst (tIs (standsB b)))) (.val (.lst (tIs (badB b)))) .un .un .un .un .un .un .un
  obtain ⟨s5, e8⟩ := run_lo8 (h := h) A i hl k (by omega) (.val (.lst (tIs (standsB b)))) (.val (.lst (tIs (badB b)))) .un .un .un .un .un .un .un
  have e9 := run_lo9 (ft := ft) (h := h) e0 br hb k (sN b.length) (.val (.lst (tIs (standsB b)))) (.val (.lst (tIs (badB b)))) (.val (encC (ctx b))) s5 .un .un .un .un .un .un .un
  obtain ⟨s7, e10⟩ := run_lo10 (h := h) A e0 br hb i hl k (by omega) (sN b.length) (.val (.lst (tIs (standsB b)))) (.val (.lst (tIs (badB b)))) (.val (encC (ctx b))) s5 .un .un .un .un .un
  have mk : mkEnv [encB b] F__law_one.ns = oE b .un .un .un .un .un .un .un .un .un .un .un .un := rfl
  have bd : F__law_one.body = k__law_one := rfl
  rw [mk, bd, one_code]
  rw [x_sSeq, e1, w39, x_sSeq, e2, w39, x_sSeq, e3, w39, x_sSeq, e4, w39, x_sSeq, e5, w39, x_sSeq, e6, w39, x_sSeq, e7, w39, x_sSeq, e8, w39, x_sSeq, e9, w39, x_sSeq, e10, w39]
  rfl
end
end GtS
end
section
set_option Elab.async false
set_option linter.all false
set_option maxRecDepth 100000
namespace GtS
open Gt
variable {ft : Nat → Option Fn} {h : Hs} {k : Nat}
theorem pw10 (n : Nat) (hn : n ≤ 100) : fPow h (.int 10) (.int n) = some (.int ((10 : Int) ^ n)) := by
  show (if (0 : Int) ≤ (n : Int) ∧ (n : Int) ≤ 1000000 ∧ small64 10 = true then some (T.int ((10 : Int) ^ (n : Int).toNat)) else none) = _
  rw [if_pos ⟨by omega, by omega, rfl⟩]; rfl
theorem q_numbers (A : HasO ft) (ns : List Int) (j : Nat) (k : Nat) (hk : 1 ≤ k) : ∃ x : Int, run ft k i__law_numbers [.scr (ns.map .int), .int j, .int 1] h = .ok (.own (.lst [.int x])) h := by
  obtain ⟨k, rfl⟩ : ∃ j, k = j + 1 := ⟨k - 1, by omega⟩
  rw [run_pure A.o2 (by decide) rfl]
  have md : ∀ (x : Int) (m : Int), 0 < m → fMod h (.int x) (.int m) = some (.int (x % m)) := fun x m hm => by
    show (if 0 < m then some (T.int (x % m)) else none) = _
    rw [if_pos hm]
  have m1 := fun x => md x 2147483647 (by decide)
  have m2 := fun x => md x 2147483399 (by decide)
  have m3 := fun x => md x 1000000000 (by decide)
  have p9 : fPow h (.int 10) (.int 9) = some (.int 1000000000) := by
    have : fPow h (.int 10) (.int 9) = _ := pw10 9 (by omega)
    simpa using this
  have p18 : fPow h (.int 10) (.int 18) = some (.int 1000000000000000000) := by
    have : fPow h (.int 10) (.int 18) = _ := pw10 18 (by omega)
    simpa using this
  have dv : ∀ x : Int, fDiv h (.int x) (.int 1000000000) = some (.int (x / 1000000000)) := fun x => by
    show (if (0 : Int) < 1000000000 ∧ (1000000000 : Int) < 1073741824 then some (T.int (x / 1000000000)) else none) = _
    rw [if_pos (by decide)]
  have mu : ∀ (x y : Int), small64 y = true → fMul h (.int x) (.int y) = some (.int (x * y)) := fun x y hy => by
    show (if (small64 x || small64 y) = true then _ else _) = _
    rw [if_pos (by rw [hy, Bool.or_true])]
  have u1 := fun x => mu x 48271 rfl
  have u2 := fun x => mu x 69621 rfl
  have u3 := fun x => mu x 16807 rfl
  have u4 := fun x => mu x 40692 rfl
  have it : ∀ x, fInt h (.int x) = some (.int x) := fun x => rfl
  have r1 : wR1 (.ok (.int 1) h) = .ok [tI 0] h := r1_nat (h := h) (n := 1) (by omega)
  have ap : ∀ t, fAppend h (.lst []) t = some (.lst [t]) := fun t => app0 t
  obtain ⟨cell, hc⟩ : ∃ cell : Int, ∀ e : List Slot, e[0]? = some (.val (.scr (ns.map .int))) → e[1]? = some (.val (.int j)) → eIf (tBl (eOp2 fLt (eVar 1) (eOp1 fLen (eVar 0)))) (eOp2 fIx (eVar 0) (eVar 1)) (eK (.int 0)) (run ft k) e h = .ok (.int cell) h := by
    by_cases z : j < ns.length
    · refine ⟨ns[j], fun e h0 h1 => ?_⟩
      have d : decide ((j : Int) < (ns.length : Int)) = true := decide_eq_true (by omega)
      have ai : atIx (ns.map T.int) (j : Int) = some (.int ns[j]) := by rw [at_map]; simp [z]
      simp [h0, h1, z, ai]
    · refine ⟨0, fun e h0 h1 => ?_⟩
      have d : decide ((j : Int) < (ns.length : Int)) = false := decide_eq_false (by omega)
      simp [h0, h1, z]
  have hc' := hc [.val (.scr (ns.map .int)), .val (.int j), .val (.int 1), .un, .un, .un, .un, .un] rfl rfl
  by_cases big : 1000000000000000000 ≤ cell
  · have d : decide (1000000000000000000 ≤ cell) = true := decide_eq_true big
    refine ⟨cell % 1000000000, ?_⟩
    simp [F__law_numbers, k__law_numbers, mkEnv, -x_eIf, hc', -y_r1, r1, p18, p9, it, m3, dv, ap, d]
  · have d : decide (1000000000000000000 ≤ cell) = false := decide_eq_false big
    refine ⟨((cell * 48271 + 69621 + j) % 2147483647 * 16807 + 122076) % 2147483399 % 1000000000, ?_⟩
    simp [F__law_numbers, k__law_numbers, mkEnv, -x_eIf, hc', -y_r1, r1, p18, p9, it, m1, m2, m3, dv, ap, d, u1, u2, u3, u4]
def llB : SC := sIf (tNot (tTru (eOwn (eCall i__law_one (aCons (eOwn (eCall i__law_book (aCons (eNew (oLst (aCons (eOp2 fIx (eOwn (eCall i__law_numbers (aCons (eVar 0) (aCons (eVar 3) (aCons (eK (.int 1)) (aNil)))))) (eK (.int 0))) (aNil)))) (aCons (eK (.int 6)) (aNil))))) (aNil)))))) (sRet (eK (.bl false))) (sSkip)
theorem ll7_eq : ll7 = sFor (.one 3) (iR1 (eK (.int 4))) llB := rfl
theorem turn_ok (A : HasO ft) (ns : List Int) (j : Nat) (k : Nat) (hk : 166 ≤ k) (s1 s2 s4 : Slot) (h : Hs) : ∃ h', llB (run ft k) [.val (.scr (ns.map .int)), s1, s2, .val (tI j), s4] h = .next [.val (.scr (ns.map .int)), s1, s2, .val (tI j), s4] h' := by
  obtain ⟨x, e1⟩ := q_numbers (h := h) A ns j k (by omega)
  have hn : h.length < (h ++ [Cell.lst [.int x]]).length := by simp
  obtain ⟨b, s', i, h1, hl, e2⟩ := q_lbook hn A.d x k (by omega)
  have hh : hp (h ++ [Cell.lst [.int x]]) h.length x = h ++ [Cell.lst [.int x]] := setself (by simp)
  rw [hh] at e2
  have e3 := q_lone (h := hp (h ++ [Cell.lst [.int x]]) h.length s') A i h1 hl k hk
  refine ⟨hp (h ++ [Cell.lst [.int x]]) h.length s', ?_⟩
  have e1' : run ft k i__law_numbers [.scr (ns.map .int), tI j, .int 1] h = .ok (.own (.lst [.int x])) h := e1
  simp [llB, e1', e2, e3]
theorem loop_ok (A : HasO ft) (ns : List Int) (k : Nat) (hk : 166 ≤ k) (s1 s2 s4 : Slot) : ∀ (js : List Nat) (s3 : Slot) (h : Hs), ∃ s3' h', forL (.one 3) (llB (run ft k)) (js.map tI) [.val (.scr (ns.map .int)), s1, s2, s3, s4] h = .next [.val (.scr (ns.map .int)), s1, s2, s3', s4] h'
  | [], s3, h => ⟨s3, h, rfl⟩
  | j :: js, s3, h => by
    obtain ⟨h1, e1⟩ := turn_ok A ns j k hk s1 s2 s4 h
    obtain ⟨s3', h', e2⟩ := loop_ok A ns k hk s1 s2 s4 js (.val (tI j)) h1
    refine ⟨s3', h', ?_⟩
    rw [List.map_cons, y_forL1, x_put1, y_item]
    have e : [Slot.val (.scr (ns.map .int)), s1, s2, s3, s4].set 3 (.val (tI j)) = [.val (.scr (ns.map .int)), s1, s2, .val (tI j), s4] := rfl
    rw [e, e1, y_turn1, e2]
theorem r1_four : wR1 (.ok (.int 4) []) = .ok ([0, 1, 2, 3].map tI) [] := r1_nat (h := []) (n := 4) (by omega)
end GtS
namespace Gt.k51
open GtS Gt
theorem has : HasO ft := ⟨⟨⟨⟨⟨⟨⟨⟨⟨rfl, rfl, rfl, rfl, rfl, rfl, rfl, rfl⟩, rfl, rfl, rfl, rfl, rfl, rfl⟩, rfl, rfl, rfl, rfl, rfl, rfl⟩, ⟨rfl, rfl, rfl, rfl⟩, rfl, rfl, rfl, rfl, rfl, rfl, rfl, rfl, rfl, rfl, rfl, rfl, rfl, rfl, rfl, rfl, rfl, rfl⟩, rfl, rfl, rfl, rfl, rfl, rfl, rfl, rfl, rfl, rfl⟩, rfl, rfl, rfl, rfl, rfl, rfl⟩, rfl, rfl, rfl, rfl, rfl, rfl, rfl⟩, rfl, rfl, rfl, rfl, rfl⟩, rfl, rfl⟩
def s2 : T := .tup ((List.range 12).map fun k => .tup [.str (if k < 10 then [110, 48 + k] else [110, 49, 38 + k]), .str [97], .non])
def bkL : T := .tup [.tup [.str [112], .str [97], .non], .tup [.str [113], .tup [.str [105, 102], .str [97], .str [98]], .non], .tup [.str [114], .str [98], .tup [.str [97, 112, 112], .tup [.str [118, 97, 114], .str [113]], .tup [.str [118, 97, 114], .str [112]]]], .tup [.str [115], .tup [.str [97, 110, 100], .str [98], .str [97]], .tup [.str [112, 97, 105, 114], .tup [.str [118, 97, 114], .str [114]], .tup [.str [118, 97, 114], .str [112]]]]]
theorem head (t : T) : sSeq ll1 (sSeq ll2 (sSeq ll3 (sSeq ll4 (sSeq ll5 ll6)))) (run ft 229) [.val t, .un, .un, .un, .un] [] = .next [.val t, .val bkL, .val s2, .un, .un] [] := by kernel_rfl
theorem plain (ns : List Int) (hl : ns.length ≤ 63) : ∃ h', run ft 230 73 [.scr (ns.map .int)] [] = .ok (.val (.bl true)) h' := by
  have A := has
  obtain ⟨s3, h', e⟩ := loop_ok A ns 229 (by omega) (.val bkL) (.val s2) .un [0, 1, 2, 3] .un []
  have hd := head (.scr (ns.map .int))
  have e7 : ll7 (run ft 229) [.val (.scr (ns.map .int)), .val bkL, .val s2, .un, .un] [] = .next [.val (.scr (ns.map .int)), .val bkL, .val s2, s3, .un] h' := by
    rw [ll7_eq, x_sFor, y_iR1, x_eK, r1_four]
    exact e
  refine ⟨h', ?_⟩
  rw [run_pure (F := F_law) rfl (by decide) rfl]
  have bd : F_law.body = k_law := rfl
  have mk : mkEnv [.scr (ns.map .int)] F_law.ns = [.val (.scr (ns.map .int)), .un, .un, .un, .un] := rfl
  rw [bd, mk, law_code]
  have sq : ∀ (a b : SC) (e : List Slot) (h : Hs), sSeq a b (run ft 229) e h = wSeq b (run ft 229) (a (run ft 229) e h) := fun a b e h => x_sSeq
  -- the head, then the loop
  have push : ∀ (b r : SC) (x : SR), wSeq (sSeq b r) (run ft 229) x = wSeq r (run ft 229) (wSeq b (run ft 229) x) := fun b r x => by
    cases x with
    | next e h => show sSeq b r (run ft 229) e h = wSeq r (run ft 229) (b (run ft 229) e h); exact sq b r e h
    | _ => rfl
  rw [sq, push, push, push, push, push, push]
  rw [sq, push, push, push, push] at hd
  rw [hd, w39, e7, w39]
  rfl
end Gt.k51
end
set_option Elab.async false
set_option linter.all false
set_option maxRecDepth 100000
set_option maxHeartbeats 0
open PySem PySem.W PySem.Calls PyProof.Rows
theorem PySem.Challenge.cw_groundterm_k51_what_leans_on_what_holds : PySem.Challenge.rw_groundterm_k51_what_leans_on_what.Holds := by
  w_on; o_law
  refine HandSHeadRun.head_any (r := OpenLaw.row PySem.Challenge.rw_groundterm_k51_what_leans_on_what) (q := view (OpenLaw.row PySem.Challenge.rw_groundterm_k51_what_leans_on_what).prog [101]) (H := Gt.k51.hk) (ob := Gt.k51.ob) (M := 6000) (loose := Gt.k51.names) (d := HandSHeadRun.topDef (OpenLaw.row PySem.Challenge.rw_groundterm_k51_what_leans_on_what).prog 101) (kwd := []) (Gt.obG_eq _ _ _ _)
    (by kernel_rfl) (fun s => by kernel_rfl) Gt.k51.run_all (by kernel_rfl) (by kernel_rfl) (by kernel_rfl) (by rfl) (by first | assumption | decide +kernel) (by decide +kernel) ⟨rfl, rfl, rfl, rfl, rfl, by decide +kernel⟩ ?hw ?hc
  case hw => w_witness2
  case hc =>
    refine L2.walk_ofE (l := PySem.Challenge.rw_groundterm_k51_what_leans_on_what) (n := 63) (k := 230) (x := "script") (CX := L2.CX0) rfl (by decide) (by kernel_rfl) ⟨rfl, by decide, by decide⟩ ?F (fun _ _ _ _ z => z)
    intro w mg fa h Y G hmg0
    obtain ⟨K, KX, c⟩ := Y
    have hmg : mg ("law" : PySem.Str) = some (.ref fa) := by
      have e : (HandSHeadRun.topDef (OpenLaw.row PySem.Challenge.rw_groundterm_k51_what_leans_on_what).prog 101).name = ("law" : PySem.Str) := by kernel_rfl
      rw [← e]
      exact hmg0
    obtain ⟨m, fd, F⟩ := Gt.ob_fn c KX G (i := 73) rfl
    have e := hmg.symm.trans m
    cases e
    refine ⟨K, fd, Gt.spF K (Gt.run Gt.k51.ft 230) 73 false 1, KX, fun s u => L2.FunD.bindsA (ps := [PySem.Str.ofString "script"]) F (fun _ _ _ _ _ _ us hl => match us, hl with | [_], _ => rfl) s [u] rfl, fun H a ns hl hO hS => Gt.law_sp (fun a o e => Gt.ob_noLst c e) hO hS (Gt.k51.plain ns hl), fun base _ hb => ?_⟩
    have A := fun k => Gt.facts_all (P := (PySem.Challenge.rw_groundterm_k51_what_leans_on_what).prog) (base := base) (Gt.k51.lv c KX G) (fun i x t e => Gt.ob_con c KX G e) (fun i x t e => Gt.ob_dic c KX G e) (fun i x e => Gt.ob_fre c KX G e) k
    exact Gt.k51.f73 (A (230 - 1)) F
