import PyProof.Rows.All
import Wide.All
import OpenK.AllK
import Wide.FinOn
import HandS.ForMost
import HandS.TupAny
import HandS.TupMul
import PyProof.ReprReads
import HandS.HeadHook4
import HandS.Lambda
import HandS.Conv
import HandS.RaiseMore
import HandS.Style
import HandS.SetFor
import HandS.Strs
import HandS.IsInst
import HandS.Dict
import PyProof.ReprRoads
import PyProof.EqLayable
import HandS.Exc
import HandS.HotCalls
import HandS.ExcIs
import HandS.ExcField
import KE.KExcIs
import HandS.Comp
import HandS.Iter
import HandS.Zip
import HandS.Zip0
import PyProof.Draws
import PyProof.EnumMake
import HandS.ExcInit
import HandS.ExcInitHot
import HandS.Small
import HandS.Defaults
import HandS.ExcCtx
import HandS.Head0
import HandS.Head1
import HandS.Head2
import HandS.HeadEnd
import HandS.HeadHook1
import HandS.HeadHook2
import HandS.Ends
import PyProof.StrLawsRepr
import PyProof.FitsInt
import PySem.Challenge.RW_sayingkinds_k02_words
set_option Elab.async false
set_option linter.all false
set_option maxRecDepth 100000
/-! Mini: a small language with a plain meaning: values, objects by number, evaluators. -/
namespace Mini
open PySem

inductive Val where
  | non | bl (b : Bool) | int (i : Int) | str (s : Str)
  | tup (xs : List Val)
  | fl (xs : List Val)
  | tp (xs : List Val)
  | ref (i : Nat)
  | ty (n : String)
  | fn (i : Nat)
  | cls (i : Nat)
  | exn (c : Nat) (fs : List Val)
  | clo (i : Nat) (caps : List Val)
  | own (i : Nat)
  deriving Inhabited

inductive Obj where
  | lst (xs : List Val)
  | dic (kvs : List (Val × Val))
  | set (xs : List Val)
  | ins (c : Nat) (fs : List (Str × Val))
  deriving Inhabited

abbrev MH := List Obj
abbrev MF := List (Option Val)

inductive Res (α : Type) where
  | ok (a : α) (h : MH)
  | exc (c : Nat) (fs : List Val) (h : MH)
  | bad

inductive Out where
  | nx (σ : MF) (h : MH)
  | rt (v : Val) (h : MH)
  | bk (σ : MF) (h : MH)
  | ct (σ : MF) (h : MH)
  | ex (c : Nat) (fs : List Val) (σ : MF) (h : MH)
  | bad

inductive BOp where | add | sub | mul | fdiv | mod | pow | iadd | isub | imul
  deriving DecidableEq
inductive COp where | eq | ne | lt | le | gt | ge | is | isnot | isin | notin
  deriving DecidableEq
inductive Bi where | len | int | list | tuple | isinstance | repr | all | any | sorted | set | dict | min | max | sum | str
  deriving DecidableEq
inductive Mt where | append | extend | pop | count | index | values | get | join | split
  deriving DecidableEq

inductive C where
  | v (i : Nat) | ki (i : Int) | ks (s : Str) | kb (b : Bool) | kn
  | gv (w : Val)
  | op (o : BOp) (a b : C)
  | neg (a : C)
  | cm (o : COp) (a b : C)
  | ch (o p : COp) (a b c : C)
  | and (a b : C) | or (a b : C) | not (a : C)
  | ifx (c a b : C)
  | tup (es : C) | lst (es : C) | dct (kvs : C)
  | ix (a i : C)
  | sl (a lo hi : C)
  | rev (a : C)
  | call (f : Nat) (es : C)
  | callv (i : Nat) (es : C)
  | blt (b : Bi) (es : C)
  | mth (m : Mt) (o es : C)
  | fld (o : C) (f : Str)
  | lc (vs : List Nat) (e t it c : C)
  | flt (f : Nat) (b : C)
  | rvs (a : C) | tupr (a : C) | sset (a : C) | unt (a : C) | btup (a : C)
  | lc2 (vs : List Nat) (e t it c : C) (vs1 : List Nat) (t1 it1 c1 : C)
  | nil | cons (a b : C)
  | each (a : C) | rng1 (a : C) | rng2 (a b : C) | enum (a : C) | zip (a b : C)
  | tv (i : Nat) | tt (ts : C) | tix (o i : C) | tfld (o : C) (f : Str)
  | set (t e : C) | aug (t : C) (o : BOp) (e : C) | ex (e : C) | ret (e : C) | retn | pass | brk | cnt
  | ite (c a b : C) | whl (c b : C) | for_ (t it b : C) | rais (c : Nat) (es : C) | try_ (b : C) (c : Nat) (i : Nat) (s : C)

structure Sys where
  call : Nat → List Val → MH → Res Val
  thunk : Nat → Res Val → Res Val
  sub : Nat → Nat → Bool
  flds : Nat → List Str
  isx : Nat → Bool
  isf : Nat → Bool

/-- what may stand within an object or a tuple: all but a caught error -/
def dat : Val → Bool
  | .exn _ _ => false
  | _ => true
/-- what is compared at once -/
def flatM : Val → Bool
  | .non => true
  | .bl _ => true
  | .int _ => true
  | .str _ => true
  | _ => false
def eqM : Val → Val → Bool
  | .non, .non => true
  | .bl a, .bl b => a == b
  | .bl a, .int b => (if a then 1 else 0) == b
  | .int a, .bl b => a == (if b then 1 else 0)
  | .int a, .int b => a == b
  | .str a, .str b => a == b
  | _, _ => false
/-- xs[lo:hi] -/
def cutM (xs : List Val) (lo hi : Option Int) : List Val := (xs.drop (HT.sIx xs.length 0 lo)).take (HT.sIx xs.length xs.length hi - HT.sIx xs.length 0 lo)
def bls : List Val → Option (List Bool)
  | [] => some []
  | .bl b :: r => (bls r).map fun bs => b :: bs
  | _ => none
def datO : Option Val → Bool
  | some x => dat x
  | none => true
/-! operations -/
abbrev Opt := Option (Val × MH)
def alloc (h : MH) (o : Obj) : Opt := some (.ref h.length, h ++ [o])
def guardO (c : Bool) (r : Option α) : Option α := if c then r else none
def fits (n : Nat) : Bool := decide (n ≤ sizeLine)

/-- what a value holds, as plain data, at every depth -/
def toD (h : MH) : Nat → Val → Option PyData
  | 0, _ => none
  | n + 1, .non => some .none
  | n + 1, .bl b => some (.bool b)
  | n + 1, .int i => some (.int i)
  | n + 1, .str s => some (.str s)
  | n + 1, .tup xs => (xs.mapM (toD h n)).map .tuple
  | n + 1, .fl xs => (xs.mapM (toD h n)).map .list
  | n + 1, .ref i => match h[i]? with
    | some (.lst xs) => (xs.mapM (toD h n)).map .list
    | some (.dic kvs) => ((kvs.map (·.1)).mapM (toD h n)).bind fun ks => ((kvs.map (·.2)).mapM (toD h n)).map fun vs => .dict (ks.zip vs)
    | _ => none
  | _ + 1, _ => none

def isList (h : MH) : Val → Option (List Val)
  | .fl xs => some xs
  | .ref i => match h[i]? with
    | some (.lst xs) => some xs
    | _ => none
  | _ => none
def isSeq (h : MH) : Val → Option (List Val)
  | .tup xs => some xs
  | v => isList h v

def opAdd (h : MH) : Val → Val → Opt
  | .int i, .int j => some (.int (i + j), h)
  | .str a, .str b => guardO (fits (a.length + b.length)) (some (.str (a ++ b), h))
  | .tup a, .tup b => guardO (fits (a.length + b.length)) (some (.tup (a ++ b), h))
  | .ref i, .ref j => match h[i]?, h[j]? with
    | some (.lst xs), some (.lst ys) => guardO (fits (xs.length + ys.length)) (alloc h (.lst (xs ++ ys)))
    | _, _ => none
  | _, _ => none
def lim64 (i : Int) : Bool := decide (-(2 ^ 64) < i) && decide (i < 2 ^ 64)
def opMul (h : MH) : Val → Val → Opt
  | .int i, .int j => guardO (lim64 i || lim64 j) (some (.int (i * j), h))
  | .tup xs, .int k => guardO (decide (-1000000 ≤ k) && (decide (k ≤ 1000) && decide (xs.length ≤ 1000))) (some (.tup (List.replicate k.toNat xs).flatten, h))
  | _, _ => none
def opFdiv (h : MH) : Val → Val → Opt
  | .int i, .int j => guardO (decide (0 < j) && decide (j < 1073741824)) (some (.int (i / j), h))
  | _, _ => none
def opMod (h : MH) : Val → Val → Opt
  | .int i, .int j => guardO (decide (0 < j)) (some (.int (i % j), h))
  | _, _ => none
def opPow (h : MH) : Val → Val → Opt
  | .int i, .int j => guardO (decide (0 ≤ j) && (decide (j ≤ 1000000) && decide (i.natAbs < 2 ^ 64))) (some (.int (i ^ j.toNat), h))
  | _, _ => none
def opSub (h : MH) : Val → Val → Opt
  | .int i, .int j => some (.int (i - j), h)
  | _, _ => none
/-- x += y and the like, of integers alone -/
def opIn (f : Int → Int → Int) (h : MH) : Val → Val → Opt
  | .int i, .int j => guardO (lim64 i || lim64 j) (some (.int (f i j), h))
  | _, _ => none
def bop (o : BOp) (h : MH) (a b : Val) : Opt := match o with
  | .iadd => opIn (fun i j => i + j) h a b
  | .isub => opIn (fun i j => i - j) h a b
  | .imul => opIn (fun i j => i * j) h a b
  | .add => opAdd h a b
  | .sub => opSub h a b
  | .mul => opMul h a b
  | .fdiv => opFdiv h a b
  | .mod => opMod h a b
  | .pow => opPow h a b

/-- a == b -/
def eqV (h : MH) (a b : Val) : Option Bool :=
  (toD h 60 a).bind fun d => (toD h 60 b).bind fun e => guardO (SeqAt.shaped d && SeqAt.shaped e) (some (PyData.eqv d e))
def isV (h : MH) (a : Val) : Val → Option Bool
  | .non => match a with | .non => some true | _ => some false
  | .bl true => match a with | .bl true => some true | _ => some false
  | .bl false => match a with | .bl false => some true | _ => some false
  | _ => none
def ltV (h : MH) : Val → Val → Option Bool
  | .int i, .int j => some (decide (i < j))
  | _, _ => none
def leV (h : MH) : Val → Val → Option Bool
  | .int i, .int j => some (decide (i ≤ j))
  | _, _ => none
def inV (h : MH) (a b : Val) : Option Bool := (isSeq h b).bind fun ys => guardO (flatM a && ys.all flatM) (some (ys.any fun y => eqM y a))
def cop (o : COp) (h : MH) (a b : Val) : Option Bool := match o with
  | .eq => eqV h a b
  | .ne => (eqV h a b).map (!·)
  | .lt => ltV h a b
  | .le => leV h a b
  | .gt => ltV h b a
  | .ge => leV h b a
  | .is => isV h a b
  | .isnot => (isV h a b).map (!·)
  | .isin => inV h a b
  | .notin => (inV h a b).map (!·)

/-- truth -/
def tru (h : MH) : Val → Option Bool
  | .bl b => some b
  | .non => some false
  | .int i => some (i != 0)
  | _ => none

/-- a place of a sequence, from the end if below 0 -/
def place (n : Nat) (i : Int) : Option Nat :=
  if 0 ≤ i then (if i < n then some i.toNat else none) else (if -(n : Int) ≤ i then some (i + n).toNat else none)

/-- a dict's key: what is alike is one key -/
def keyOk : Val → Bool
  | .str _ => true
  | .int _ => true
  | _ => false
def keyEq : Val → Val → Bool
  | .str a, .str b => decide (a = b)
  | .int a, .int b => decide (a = b)
  | _, _ => false
def dGet (kvs : List (Val × Val)) (k : Val) : Option Val := (kvs.find? fun p => keyEq p.1 k).map (·.2)
def dPut (kvs : List (Val × Val)) (k x : Val) : List (Val × Val) :=
  if (kvs.any fun p => keyEq p.1 k) then kvs.map fun p => if keyEq p.1 k then (p.1, x) else p else kvs ++ [(k, x)]

def getIx (h : MH) (a i : Val) : Option Val := match a with
  | .ref r => match h[r]? with
    | some (.dic kvs) => guardO (keyOk i) (dGet kvs i)
    | some (.lst xs) => match i with
      | .int k => (place xs.length k).bind fun n => xs[n]?
      | _ => none
    | _ => none
  | .tup xs => match i with
    | .int k => (place xs.length k).bind fun n => xs[n]?
    | _ => none
  | .fl xs => match i with
    | .int k => (place xs.length k).bind fun n => xs[n]?
    | _ => none
  | _ => none
def putIx (h : MH) (a i x : Val) : Option MH := match a with
  | .ref r => match h[r]? with
    | some (.dic kvs) => guardO (keyOk i && (fits (kvs.length + 1) && dat x)) (some (h.set r (.dic (dPut kvs i x))))
    | some (.lst xs) => match i with
      | .int k => guardO (dat x) ((place xs.length k).map fun n => h.set r (.lst (xs.set n x)))
      | _ => none
    | _ => none
  | _ => none

def excTypes : List String := ["ValueError", "Exception", "BaseException", "object"]
/-- the built-in type of a value that is no error -/
def tagOf (h : MH) : Val → Option String
  | .non => some "NoneType"
  | .bl _ => some "bool"
  | .int _ => some "int"
  | .str _ => some "str"
  | .tup _ => some "tuple"
  | .fl _ => some "list"
  | .ref r => match h[r]? with
    | some (.lst _) => some "list"
    | some (.dic _) => some "dict"
    | _ => none
  | _ => none
def tyTags : List String := ["NoneType", "bool", "int", "str", "tuple", "list", "dict"]
def tySub (a b : String) : Bool := decide (a = b) || (decide (a = "bool") && decide (b = "int"))
def tyAny (t : String) : List Val → Option Bool
  | [] => some false
  | .ty n :: r => guardO (tyTags.contains n) ((tyAny t r).map fun b => tySub t n || b)
  | _ => none
/-- isinstance(x, T) -/
def isInst (Γ : Sys) (h : MH) (x : Val) : Val → Option Bool
  | .cls c => match x with
    | .exn d _ => guardO (Γ.isx c) (some (Γ.sub d c))
    | _ => none
  | .ty n => match x with
    | .exn _ _ => guardO (excTypes.contains n) (some true)
    | x => (tagOf h x).bind fun t => guardO (tyTags.contains n) (some (tySub t n))
  | .tup ts => (tagOf h x).bind fun t => tyAny t ts
  | _ => none

def biLen (h : MH) : List Val → Opt
  | [x] => match isSeq h x with
    | some ys => some (.int ys.length, h)
    | none => match x with
      | .str s => guardO (fits s.length) (some (.int s.length, h))
      | _ => none
  | _ => none
def biInt (h : MH) : List Val → Opt
  | [.int i] => some (.int i, h)
  | [.bl b] => some (.int (if b then 1 else 0), h)
  | _ => none
def biList (h : MH) : List Val → Opt
  | [x] => (isSeq h x).bind fun ys => alloc h (.lst ys)
  | _ => none
def biTup (h : MH) : List Val → Opt
  | [x] => (isSeq h x).map fun ys => (.tup ys, h)
  | _ => none
def biIsi (Γ : Sys) (h : MH) : List Val → Opt
  | [x, c] => (isInst Γ h x c).map fun b => (.bl b, h)
  | _ => none
def biRepr (h : MH) : List Val → Opt
  | [x] => (toD h 60 x).bind fun d => guardO (d.showable && decide ((d.shown).length ≤ sizeLine)) (some (.str d.shown, h))
  | _ => none
def biAll (h : MH) : List Val → Opt
  | [x] => (isList h x).bind fun ys => (bls ys).map fun bs => (.bl (bs.all id), h)
  | _ => none
def biAny (h : MH) : List Val → Opt
  | [x] => (isList h x).bind fun ys => (bls ys).map fun bs => (.bl (bs.any id), h)
  | _ => none
def biV (Γ : Sys) (b : Bi) (h : MH) (xs : List Val) : Opt := match b with
  | .len => biLen h xs
  | .int => biInt h xs
  | .list => biList h xs
  | .tuple => biTup h xs
  | .isinstance => biIsi Γ h xs
  | .repr => biRepr h xs
  | .all => biAll h xs
  | .any => biAny h xs
  | _ => none

/-- the receiver is of the method's type -/
def isLst (h : MH) : Val → Bool
  | .ref r => match h[r]? with
    | some (.lst _) => true
    | _ => false
  | _ => false
/-- all of them integers -/
def intsV : List Val → Option (List Int)
  | [] => some []
  | .int i :: r => (intsV r).map fun is => i :: is
  | _ => none
def isTupM : Val → Bool
  | .tp _ => true
  | _ => false
def mtCount (h : MH) (o : Val) : List Val → Opt
  | [.int k] => match o with
    | .tp ys => (intsV ys).map fun ns => (.int (ns.count k : Nat), h)
    | _ => none
  | _ => none
/-- in order, each once -/
def insU (k : Int) : List Int → List Int
  | [] => [k]
  | x :: xs => if k < x then k :: x :: xs else if k = x then x :: xs else x :: insU k xs
def sortU : List Int → List Int
  | [] => []
  | k :: ks => insU k (sortU ks)
/-- sorted(set(t)) -/
def ssetV (h : MH) : Val → Opt
  | .tup xs => (intsV xs).bind fun ns => guardO (decide (ns.length < 64)) (alloc h (.lst ((sortU ns).map .int)))
  | _ => none
/-- a tuple that is known to hold no dict, as any tuple -/
def untV : Val → Val
  | .tp xs => .tup xs
  | x => x
/-- tuple(x), known to hold no dict where it is made -/
def btupV (h : MH) : Val → Opt
  | .tp xs => some (.tp xs, h)
  | .tup xs => some (.tup xs, h)
  | x => (isList h x).map fun xs => (.tp xs, h)
def revV (h : MH) : Val → Opt
  | .tup xs => some (.tup xs.reverse, h)
  | _ => none
def mtTy (m : Mt) (h : MH) (o : Val) : Bool := match m with
  | .count => isTupM o
  | .append => isLst h o
  | .extend => isLst h o
  | _ => false
def mtAppend (h : MH) (o : Val) : List Val → Opt
  | [x] => match o with
    | .ref r => match h[r]? with
      | some (.lst ys) => guardO (decide (ys.length < sizeLine) && dat x) (some (.non, h.set r (.lst (ys ++ [x]))))
      | _ => none
    | _ => none
  | _ => none
def mtExtend (h : MH) (o : Val) : List Val → Opt
  | [.ref k] => match o with
    | .ref r => match h[r]? with
      | some (.lst ys) => match h[k]? with
        | some (.lst zs) => guardO (fits (ys.length + zs.length)) (some (.non, h.set r (.lst (ys ++ zs))))
        | _ => none
      | _ => none
    | _ => none
  | _ => none
def mtV (m : Mt) (h : MH) (o : Val) (xs : List Val) : Opt := match m with
  | .count => mtCount h o xs
  | .append => mtAppend h o xs
  | .extend => mtExtend h o xs
  | _ => none

def getFld (flds : Nat → List Str) (h : MH) (o : Val) (f : Str) : Option Val := match o with
  | .exn c fs => (flds c).idxOf? f |>.bind fun i => fs[i]?
  | .ref r => match h[r]? with
    | some (.ins _ fs) => (fs.find? fun p => decide (p.1 = f)).map (·.2)
    | _ => none
  | _ => none

/-- keys and values of a display, from the left -/
def pairUp : List Val → Option (List (Val × Val))
  | [] => some []
  | k :: v :: r => (pairUp r).map fun ps => (k, v) :: ps
  | _ => none
def mkDic (kvs : List (Val × Val)) : List (Val × Val) := kvs.foldl (fun d p => dPut d p.1 p.2) []
def newDic (h : MH) (xs : List Val) : Opt := (pairUp xs).bind fun kvs => guardO (kvs.all (fun p => keyOk p.1 && dat p.2) && decide (kvs.length ≤ 15)) (alloc h (.dic (mkDic kvs)))
def lenC : C → Nat
  | .cons _ b => lenC b + 1
  | _ => 0

/-! the monad's helpers -/
def Res.bind (r : Res α) (f : α → MH → Res β) : Res β := match r with
  | .ok a h => f a h
  | .exc c fs h => .exc c fs h
  | .bad => .bad
def ofOpt (r : Option (α × MH)) : Res α := match r with
  | some (a, h) => .ok a h
  | none => .bad
def ofVal (r : Option α) (h : MH) : Res α := match r with
  | some a => .ok a h
  | none => .bad
/-- an expression's outcome goes on as a statement -/
def Res.go (r : Res α) (σ : MF) (f : α → MH → Out) : Out := match r with
  | .ok a h => f a h
  | .exc c fs h => .ex c fs σ h
  | .bad => .bad
def Out.seq (r : Out) (f : MF → MH → Out) : Out := match r with
  | .nx σ h => f σ h
  | r => r
/-- what a loop walks: items that stand, a list as it stands at each turn -/
inductive Walk where
  | items (xs : List Val)
  | live (r : Nat)
/-- a loop over items -/
def forL (turn : Val → MF → MH → Out) : List Val → MF → MH → Out
  | [], σ, h => .nx σ h
  | x :: xs, σ, h => match turn x σ h with
    | .nx σ' h' => forL turn xs σ' h'
    | .ct σ' h' => forL turn xs σ' h'
    | .bk σ' h' => .nx σ' h'
    | r => r
/-- a loop over a list that may change -/
def forR (turn : Val → MF → MH → Out) (r : Nat) : Nat → Nat → MF → MH → Out
  | 0, _, _, _ => .bad
  | n + 1, i, σ, h => match h[r]? with
    | some (.lst xs) => match xs[i]? with
      | none => .nx σ h
      | some x => match turn x σ h with
        | .nx σ' h' => forR turn r n (i + 1) σ' h'
        | .ct σ' h' => forR turn r n (i + 1) σ' h'
        | .bk σ' h' => .nx σ' h'
        | r => r
    | _ => .bad
def whileF (test : MF → MH → Res Bool) (turn : MF → MH → Out) : Nat → MF → MH → Out
  | 0, _, _ => .bad
  | n + 1, σ, h => (test σ h).go σ fun b h1 => if b then (match turn σ h1 with
    | .nx σ' h' => whileF test turn n σ' h'
    | .ct σ' h' => whileF test turn n σ' h'
    | .bk σ' h' => .nx σ' h'
    | r => r) else .nx σ h1
def FUEL : Nat := 2 ^ 40
def walkFor (turn : Val → MF → MH → Out) : Walk → MF → MH → Out
  | .items xs => forL turn xs
  | .live r => forR turn r FUEL 0
/-- what may be walked as it is -/
def walkOf (h : MH) : Val → Option Walk
  | .tup xs => some (.items xs)
  | .fl xs => some (.items xs)
  | .ref r => match h[r]? with
    | some (.lst _) => some (.live r)
    | _ => none
  | _ => none

/-- a comprehension's turns: what it appends -/
def lcL (turn : Val → MH → Res (Option Val)) : List Val → List Val → MH → Res (List Val)
  | [], acc, h => .ok acc h
  | x :: xs, acc, h => match turn x h with
    | .ok (some y) h1 => if acc.length < sizeLine then lcL turn xs (acc ++ [y]) h1 else .bad
    | .ok none h1 => lcL turn xs acc h1
    | _ => .bad
def lcR (turn : Val → MH → Res (Option Val)) (r : Nat) : Nat → Nat → List Val → MH → Res (List Val)
  | 0, _, _, _ => .bad
  | n + 1, i, acc, h => match h[r]? with
    | some (.lst xs) => match xs[i]? with
      | none => .ok acc h
      | some x => match turn x h with
        | .ok (some y) h1 => if acc.length < sizeLine then lcR turn r n (i + 1) (acc ++ [y]) h1 else .bad
        | .ok none h1 => lcR turn r n (i + 1) acc h1
        | _ => .bad
    | _ => .bad
def walkLc (turn : Val → MH → Res (Option Val)) : Walk → MH → Res (List Val)
  | .items xs => lcL turn xs []
  | .live r => lcR turn r FUEL 0 []
/-- the same, behind what stands -/
def walkAcc (turn : Val → MH → Res (Option Val)) : Walk → List Val → MH → Res (List Val)
  | .items xs => lcL turn xs
  | .live r => lcR turn r FUEL 0
/-- two for's: what the outer turns leave -/
def lc2L (turn : Val → List Val → MH → Res (List Val)) : List Val → List Val → MH → Res (List Val)
  | [], acc, h => .ok acc h
  | x :: xs, acc, h => match turn x acc h with
    | .ok acc1 h1 => lc2L turn xs acc1 h1
    | _ => .bad
def lc2R (turn : Val → List Val → MH → Res (List Val)) (r : Nat) : Nat → Nat → List Val → MH → Res (List Val)
  | 0, _, _, _ => .bad
  | n + 1, i, acc, h => match h[r]? with
    | some (.lst xs) => match xs[i]? with
      | none => .ok acc h
      | some x => match turn x acc h with
        | .ok acc1 h1 => lc2R turn r n (i + 1) acc1 h1
        | _ => .bad
    | _ => .bad
def walk2 (turn : Val → List Val → MH → Res (List Val)) : Walk → MH → Res (List Val)
  | .items xs => lc2L turn xs []
  | .live r => lc2R turn r FUEL 0 []
def wipeM (σ : MF) : List Nat → MF
  | [] => σ
  | v :: vs => (wipeM σ vs).set v none
def isNil : C → Bool
  | .nil => true
  | _ => false
def noExc {α : Type} : Res α → Res α
  | .exc _ _ _ => .bad
  | r => r
/-- one turn: the target is stored, the test asked, the item made -/
def lcTurn (noTest : Bool) (r : Out) (test elt : MF → MH → Res Val) : Res (Option Val) := match r with
  | .nx σ h => (if noTest then .ok true h else (noExc (test σ h)).bind fun x h1 => ofVal (tru h1 x) h1).bind fun b h2 => if b then (noExc (elt σ h2)).bind fun y h3 => .ok (some y) h3 else .ok none h2
  | _ => .bad

/-- an outer turn: the target is stored, the test asked, the inner items walked -/
def turn2 (noTest : Bool) (r : Out) (test : MF → MH → Res Val) (it : MF → MH → Res Walk) (inner : MF → Walk → List Val → MH → Res (List Val)) (acc : List Val) : Res (List Val) := match r with
  | .nx σ h => (if noTest then .ok true h else (noExc (test σ h)).bind fun x h1 => ofVal (tru h1 x) h1).bind fun b h2 => if b then (noExc (it σ h2)).bind fun w h3 => inner σ w acc h3 else .ok acc h2
  | _ => .bad

/-- an end of a slice -/
def partV : Val → Option (Option Int)
  | .int i => some (some i)
  | _ => none
def slV (h : MH) (x : Val) (lo hi : Option Int) : Opt := match x with
  | .tup xs => some (.tup (cutM xs lo hi), h)
  | x => (isList h x).bind fun xs => alloc h (.lst (cutM xs lo hi))
def rgM (n : Int) : List Val := (List.range n.toNat).map fun (k : Nat) => .int k
def enumV (xs : List Val) : List Val := xs.mapIdx fun i x => .tup [.int i, x]
def zipV (xs ys : List Val) : List Val := (xs.zip ys).map fun p => .tup [p.1, p.2]
variable (Γ : Sys)
mutual
def evE : C → MF → MH → Res Val
  | .v i, σ, h => match σ[i]? with
    | some (some x) => .ok x h
    | _ => .bad
  | .ki i, _, h => .ok (.int i) h
  | .ks s, _, h => .ok (.str s) h
  | .kb b, _, h => .ok (.bl b) h
  | .kn, _, h => .ok .non h
  | .gv w, _, h => .ok w h
  | .op o a b, σ, h => (evE a σ h).bind fun x h1 => (evE b σ h1).bind fun y h2 => ofOpt (bop o h2 x y)
  | .neg a, σ, h => (evE a σ h).bind fun x h1 => match x with
    | .int i => .ok (.int (-i)) h1
    | _ => .bad
  | .cm o a b, σ, h => (evE a σ h).bind fun x h1 => (evE b σ h1).bind fun y h2 => ofVal ((cop o h2 x y).map .bl) h2
  | .ch o p a b c, σ, h => (evE a σ h).bind fun x h1 => (evE b σ h1).bind fun y h2 => match cop o h2 x y with
    | some true => (evE c σ h2).bind fun z h3 => ofVal ((cop p h3 y z).map .bl) h3
    | some false => .ok (.bl false) h2
    | none => .bad
  | .and a b, σ, h => (evE a σ h).bind fun x h1 => match x with
    | .bl true => evE b σ h1
    | .bl false => .ok (.bl false) h1
    | _ => .bad
  | .or a b, σ, h => (evE a σ h).bind fun x h1 => match x with
    | .bl true => .ok (.bl true) h1
    | .bl false => evE b σ h1
    | _ => .bad
  | .not a, σ, h => (evE a σ h).bind fun x h1 => match x with
    | .bl b => .ok (.bl (!b)) h1
    | _ => .bad
  | .ifx c a b, σ, h => (evE c σ h).bind fun t h1 => match tru h1 t with
    | some true => evE a σ h1
    | some false => evE b σ h1
    | none => .bad
  | .tup es, σ, h => (evEs es σ h).bind fun xs h1 => if fits xs.length && xs.all dat then .ok (.tup xs) h1 else .bad
  | .lst es, σ, h => (evEs es σ h).bind fun xs h1 => if fits xs.length && xs.all dat then ofOpt (alloc h1 (.lst xs)) else .bad
  | .dct es, σ, h => (evEs es σ h).bind fun xs h1 => ofOpt (newDic h1 xs)
  | .ix a i, σ, h => (evE a σ h).bind fun x h1 => (evE i σ h1).bind fun y h2 => ofVal (getIx h2 x y) h2
  | .call f es, σ, h => (evEs es σ h).bind fun xs h1 => Γ.call f xs h1
  | .blt b es, σ, h => (evEs es σ h).bind fun xs h1 => ofOpt (biV Γ b h1 xs)
  | .mth m o es, σ, h => (evE o σ h).bind fun x h1 => if mtTy m h1 x then (evEs es σ h1).bind fun xs h2 => ofOpt (mtV m h2 x xs) else .bad
  | .fld o f, σ, h => (evE o σ h).bind fun x h1 => ofVal (getFld Γ.flds h1 x f) h1
  | .callv i es, σ, h => match σ[i]? with
    | some (some (.fn f)) => if Γ.isf f then (evEs es σ h).bind fun xs h1 => Γ.call f xs h1 else .bad
    | _ => .bad
  | .flt f b, σ, h => Γ.thunk f (evE b σ h)
  | .sl a lo hi, σ, h => (evE a σ h).bind fun x h1 => (if isNil lo then .ok none h1 else (evE lo σ h1).bind fun y h2 => ofVal (partV y) h2).bind fun l h3 =>
    (if isNil hi then .ok none h3 else (evE hi σ h3).bind fun y h4 => ofVal (partV y) h4).bind fun u h5 => ofOpt (slV h5 x l u)
  | .tupr a, σ, h => (evE a σ h).bind fun x h1 => match x with
    | .int n => if decide (-(2 ^ 62) ≤ n) && decide (n ≤ 16777216) then .ok (.tup (rgM n)) h1 else .bad
    | _ => .bad
  | .unt a, σ, h => (evE a σ h).bind fun x h1 => .ok (untV x) h1
  | .btup a, σ, h => (evE a σ h).bind fun x h1 => ofOpt (btupV h1 x)
  | .rvs a, σ, h => (evE a σ h).bind fun x h1 => ofOpt (revV h1 x)
  | .sset a, σ, h => (evE a σ h).bind fun x h1 => ofOpt (ssetV h1 x)
  | .lc2 vs e t it c vs1 t1 it1 c1, σ, h => (evI it σ h).bind fun w h1 => (walk2 (fun x acc h2 => turn2 (isNil c) (asg t x (wipeM σ vs) h2) (evE c) (evI it1) (fun σ2 w1 acc2 h4 => walkAcc (fun y h5 => lcTurn (isNil c1) (asg t1 y (wipeM σ2 vs1) h5) (evE c1) (evE e)) w1 acc2 h4) acc) w h1).bind fun ys h3 => if ys.all dat then ofOpt (alloc h3 (.lst ys)) else .bad
  | .lc vs e t it c, σ, h => (evI it σ h).bind fun w h1 => (walkLc (fun x h2 => lcTurn (isNil c) (asg t x (wipeM σ vs) h2) (evE c) (evE e)) w h1).bind fun ys h3 => if ys.all dat then ofOpt (alloc h3 (.lst ys)) else .bad
  | _, _, _ => .bad
def evEs : C → MF → MH → Res (List Val)
  | .nil, _, h => .ok [] h
  | .cons a b, σ, h => (evE a σ h).bind fun x h1 => (evEs b σ h1).bind fun xs h2 => .ok (x :: xs) h2
  | _, _, _ => .bad
/-- what a loop walks -/
def evI : C → MF → MH → Res Walk
  | .each a, σ, h => (evE a σ h).bind fun x h1 => ofVal (walkOf h1 x) h1
  | .rng1 a, σ, h => (evE a σ h).bind fun x h1 => match x with
    | .int n => if -(2 ^ 62) ≤ n ∧ n < 2 ^ 62 then .ok (.items ((List.range n.toNat).map fun (k : Nat) => .int k)) h1 else .bad
    | _ => .bad
  | .enum a, σ, h => (evE a σ h).bind fun x h1 => match x with
    | .tup xs => .ok (.items (enumV xs)) h1
    | _ => .bad
  | .zip a b, σ, h => (evE a σ h).bind fun x h1 => (evE b σ h1).bind fun y h2 => match x, y with
    | .tup xs, .tup ys => .ok (.items (zipV xs ys)) h2
    | _, _ => .bad
  | _, _, _ => .bad
/-- a target gets a value -/
def asg : C → Val → MF → MH → Out
  | .tv i, x, σ, h => .nx (σ.set i (some x)) h
  | .tt ts, x, σ, h => match x with
    | .tup xs => if xs.length = lenC ts then asgs ts xs σ h else .bad
    | _ => .bad
  | .tix o i, x, σ, h => (evE o σ h).go σ fun y h1 => (evE i σ h1).go σ fun z h2 => match putIx h2 y z x with
    | some h3 => .nx σ h3
    | none => .bad
  | _, _, _, _ => .bad
def asgs : C → List Val → MF → MH → Out
  | .nil, [], σ, h => .nx σ h
  | .cons t ts, x :: xs, σ, h => (asg t x σ h).seq fun σ1 h1 => asgs ts xs σ1 h1
  | _, _, _, _ => .bad
end
/-- a test -/
def evT (c : C) (σ : MF) (h : MH) : Res Bool := (evE Γ c σ h).bind fun x h1 => ofVal (tru h1 x) h1
mutual
def evS : C → MF → MH → Out
  | .set t e, σ, h => (evE Γ e σ h).go σ fun x h1 => asg Γ t x σ h1
  | .ex e, σ, h => (evE Γ e σ h).go σ fun _ h1 => .nx σ h1
  | .ret e, σ, h => (evE Γ e σ h).go σ fun x h1 => .rt x h1
  | .retn, _, h => .rt .non h
  | .pass, σ, h => .nx σ h
  | .brk, σ, h => .bk σ h
  | .cnt, σ, h => .ct σ h
  | .ite c a b, σ, h => (evT Γ c σ h).go σ fun t h1 => if t then evSs a σ h1 else evSs b σ h1
  | .whl c b, σ, h => whileF (evT Γ c) (evSs b) FUEL σ h
  | .for_ t it b, σ, h => (evI Γ it σ h).go σ fun w h1 => walkFor (fun x σ' h' => (asg Γ t x σ' h').seq (evSs b)) w σ h1
  | .rais c es, σ, h => (evEs Γ es σ h).go σ fun xs h1 => if xs.length = (Γ.flds c).length && (xs.all dat && Γ.isx c) then .ex c xs σ h1 else .bad
  | .try_ b c i s, σ, h => match evSs b σ h with
    | .ex d fs σ1 h1 => if Γ.isx d && Γ.isx c then (if Γ.sub d c then (match evSs s (σ1.set i (some (.exn d fs))) h1 with
      | .nx σ2 h2 => if (σ2.set i none).all datO then .nx (σ2.set i none) h2 else .bad
      | .rt v h2 => if dat v then .rt v h2 else .bad
      | _ => .bad) else .ex d fs σ1 h1) else .bad
    | r => r
  | _, _, _ => .bad
def evSs : C → MF → MH → Out
  | .nil, σ, h => .nx σ h
  | .cons a b, σ, h => (evS a σ h).seq (evSs b)
  | _, _, _ => .bad
end
/-- a def: how many parameters, how many names, its body -/
structure Fn where
  np : Nat
  ns : Nat
  body : C
def runFn (f : Fn) (xs : List Val) (h : MH) : Res Val :=
  if xs.length = f.np then (match evSs Γ f.body (xs.map some ++ List.replicate (f.ns - f.np) none) h with
    | .nx _ h1 => .ok .non h1
    | .rt v h1 => .ok v h1
    | .ex c fs _ h1 => .exc c fs h1
    | _ => .bad) else .bad
/-- found = None; try: call() except c as e: s; return found: by what call() makes -/
def thunkF (c : Nat) (s : C) : Res Val → Res Val
  | .ok _ h1 => .ok .non h1
  | .exc d fs h1 => if Γ.isx d && (Γ.isx c && Γ.sub d c) then (match evSs Γ s [none, some .non, some (.exn d fs)] h1 with
    | .nx σ2 h2 => (match σ2[1]? with
      | some (some v) => if dat v then .ok v h2 else .bad
      | _ => .bad)
    | _ => .bad) else .bad
  | .bad => .bad
structure Prog where
  fns : Nat → Option Fn
  flt : Nat → Option (Nat × C)
  sub : Nat → Nat → Bool
  flds : Nat → List Str
  isx : Nat → Bool
  isf : Nat → Bool
/-- the program's calls, k deep -/
def sys (P : Prog) : Nat → Sys
  | 0 => ⟨fun _ _ _ => .bad, fun _ _ => .bad, P.sub, P.flds, P.isx, P.isf⟩
  | k + 1 => ⟨fun i xs h => match P.fns i with
    | some f => runFn (sys P k) f xs h
    | none => .bad, fun i r => match P.flt i with
    | some q => thunkF (sys P k) q.1 q.2 r
    | none => .bad, P.sub, P.flds, P.isx, P.isf⟩
end Mini
set_option Elab.async false
set_option linter.all false
set_option maxRecDepth 100000
/-! Mini against the model: what a value, an object, a frame stands for; outcomes. -/
namespace Mini
open PySem PySem.Spec PyProof.Rows L2

/-- the program's names by number -/
structure Nm where
  fn : Nat → Str
  cls : Nat → Str
  flds : Nat → List Str
  ex : Option (Nat × Addr × Option Addr)
  tabs : List (Addr × Str)

/-- a tuple, a list of the written part -/
def KTup (K : PySem.W.Frag) (a : Addr) (vs : List V) : Prop :=
  ∃ (o : PySem.Obj) (its : Array Value) (n : Nat), K.lookup a = some o ∧ o.cls = .type "tuple" ∧ o.data = .seq its n ∧ its.size ≤ sizeLine ∧ Vals vs its.toList
def KLst (K : PySem.W.Frag) (a : Addr) (vs : List V) : Prop :=
  ∃ (o : PySem.Obj) (its : Array Value) (n : Nat), K.lookup a = some o ∧ o.cls = .type "list" ∧ o.dict = none ∧ o.data = .seq its n ∧ its.size ≤ sizeLine ∧ Vals vs its.toList
/-- a tuple whose object is known: it holds no dict -/
def BareAt (ρ : List Addr) (H : L2.Hp) (a : Addr) (vs : List V) : Prop := ∃ o, H a = some (.frz o (.tup vs)) ∧ o.cls = .type "tuple" ∧ o.dict = none ∧ a ∉ ρ
def TupAt (K : PySem.W.Frag) (ρ : List Addr) (H : L2.Hp) (a : Addr) (vs : List V) : Prop := ((H a = some (.tup vs) ∨ ∃ o, H a = some (.frz o (.tup vs))) ∧ a ∉ ρ) ∨ KTup K a vs
def FlAt (K : PySem.W.Frag) (ρ : List Addr) (H : L2.Hp) (a : Addr) (vs : List V) : Prop := ((∃ o, H a = some (.frz o (.lst vs))) ∧ a ∉ ρ) ∨ KLst K a vs
theorem TupAt.sq {K : PySem.W.Frag} {ρ : List Addr} {H : L2.Hp} {a : Addr} {vs : List V} (t : TupAt K ρ H a vs) : SqT K H a vs := by
  rcases t with ⟨t | ⟨o, t⟩, _⟩ | t
  · exact .inl (.inl t)
  · exact .inl (.inr ⟨o, t⟩)
  · exact .inr t
theorem BareAt.tup {K : PySem.W.Frag} {ρ : List Addr} {H : L2.Hp} {a : Addr} {vs : List V} (t : BareAt ρ H a vs) : TupAt K ρ H a vs :=
  let ⟨o, t, _, _, n⟩ := t
  .inl ⟨.inr ⟨o, t⟩, n⟩
theorem FlAt.sq {K : PySem.W.Frag} {ρ : List Addr} {H : L2.Hp} {a : Addr} {vs : List V} (t : FlAt K ρ H a vs) : SqL K H a vs := by
  rcases t with ⟨⟨o, t⟩, _⟩ | t
  · exact .inl (.inr ⟨o, t⟩)
  · exact .inr t

section
variable (N : Nm) (K : PySem.W.Frag)
mutual
/-- what a value of Mini stands for -/
def VR (ρ : List Addr) (H : L2.Hp) : Val → V → Prop
  | .non, v => v = .non
  | .bl b, v => v = .bl b
  | .int i, v => v = .int i
  | .str s, v => v = .str s
  | .tup xs, v => ∃ (a : Addr) (vs : List V), v = .ref a ∧ TupAt K ρ H a vs ∧ VRs ρ H xs vs ∧ xs.all dat = true
  | .fl xs, v => ∃ (a : Addr) (vs : List V), v = .ref a ∧ FlAt K ρ H a vs ∧ VRs ρ H xs vs ∧ xs.all dat = true
  | .tp xs, v => ∃ (a : Addr) (vs : List V), v = .ref a ∧ BareAt ρ H a vs ∧ VRs ρ H xs vs ∧ xs.all dat = true
  | .ref i, v => ∃ a : Addr, ρ[i]? = some a ∧ v = .ref a
  | .ty n, v => v = .ty n
  | .fn i, v => v = .ref (He.ga K (N.fn i))
  | .cls i, v => v = .ref (He.ga K (N.cls i))
  | .exn c fs, v => ∃ (a : Addr) (d : Option Addr) (vs : List V), N.ex = some (c, a, d) ∧ v = .ref a ∧ VRs ρ H fs vs ∧ fs.all dat = true ∧ ((N.flds c = [] ∧ d = none) ∨ (N.flds c ≠ [] ∧ ∃ dd, d = some dd ∧ H dd = some (.xd ((N.flds c).zip vs)) ∧ dd ∉ ρ))
  | .clo _ _, _ => False
  | .own _, _ => False
def VRs (ρ : List Addr) (H : L2.Hp) : List Val → List V → Prop
  | [], vs => vs = []
  | x :: xs, vs => ∃ (v : V) (r : List V), vs = v :: r ∧ VR ρ H x v ∧ VRs ρ H xs r
end

/-- keys -/
def KR : Val → Key → Prop
  | .int i, k => k = .inl i
  | .str s, k => k = .inr s
  | _, _ => False
def DR (ρ : List Addr) (H : L2.Hp) : List (Val × Val) → List (Key × V) → Prop
  | [], kv => kv = []
  | p :: ps, kv => ∃ (k : Key) (v : V) (r : List (Key × V)), kv = (k, v) :: r ∧ KR p.1 k ∧ VR N K ρ H p.2 v ∧ dat p.2 = true ∧ DR ρ H ps r
/-- what an object of Mini stands for -/
def OR (ρ : List Addr) (H : L2.Hp) (a : Addr) : Obj → Prop
  | .lst xs => ∃ vs, H a = some (.lst vs) ∧ VRs N K ρ H xs vs ∧ xs.all dat = true
  | .dic kvs => ∃ kv, H a = some (.dK kv) ∧ DR N K ρ H kvs kv
  | .set _ => False
  | .ins _ _ => False

/-- later: more objects, what is not an object of Mini stays -/
structure Ext (ρ : List Addr) (H : L2.Hp) (ρ' : List Addr) (H' : L2.Hp) : Prop where
  pre : ∃ more, ρ' = ρ ++ more ∧ ∀ b ∈ more, H b = none
  keep : ∀ b o, H b = some o → b ∉ ρ → (∀ ps, o ≠ .tbl ps) → H' b = some o
  dom : ∀ b, H' b = none → H b = none
structure RelH (ρ : List Addr) (h : MH) (H : L2.Hp) : Prop where
  len : ρ.length = h.length
  nd : ρ.Nodup
  obj : ∀ (i : Nat) (a : Addr) (o : Obj), ρ[i]? = some a → h[i]? = some o → OR N K ρ H a o
  tb : LamX.Tabs N.tabs H
structure FR (ρ : List Addr) (H : L2.Hp) (τ : MF) (σ : L2.St) : Prop where
  len : σ.length = τ.length
  at_ : ∀ (i : Nat) (x : Val), τ[i]? = some (some x) → ∃ v, σ[i]? = some (some v) ∧ VR N K ρ H x v

variable {N K} {ρ ρ' ρ'' : List Addr} {H H' H'' : L2.Hp}
theorem Ext.refl : Ext ρ H ρ H := ⟨⟨[], by simp, by simp⟩, fun _ _ h _ _ => h, fun _ h => h⟩
theorem Ext.notin (e : Ext ρ H ρ' H') {c : Addr} {o : HO} (h : H c = some o) (n : c ∉ ρ) : c ∉ ρ' := fun hc => by
  obtain ⟨m1, e1, f1⟩ := e.pre
  rw [e1] at hc
  rcases List.mem_append.mp hc with z | z
  · exact n z
  · rw [f1 c z] at h
    cases h
theorem Ext.trans (a : Ext ρ H ρ' H') (b : Ext ρ' H' ρ'' H'') : Ext ρ H ρ'' H'' := by
  obtain ⟨m1, e1, f1⟩ := a.pre
  obtain ⟨m2, e2, f2⟩ := b.pre
  refine ⟨⟨m1 ++ m2, by rw [e2, e1, List.append_assoc], fun c hc => ?_⟩, fun c o h n t => b.keep c o (a.keep c o h n t) (a.notin h n) t, fun c h => a.dom c (b.dom c h)⟩
  rcases List.mem_append.mp hc with z | z
  · exact f1 c z
  · exact a.dom c (f2 c z)
theorem Ext.at_ (e : Ext ρ H ρ' H') {i : Nat} {a : Addr} (h : ρ[i]? = some a) : ρ'[i]? = some a := by
  obtain ⟨m1, e1, _⟩ := e.pre
  rw [e1, List.getElem?_append_left (List.getElem?_eq_some_iff.mp h).1]
  exact h
/-- what the values lean on stays -/
def imm : HO → Prop
  | .tup _ => True
  | .frz _ _ => True
  | .xd _ => True
  | _ => False
structure Kp (ρ : List Addr) (H : L2.Hp) (ρ' : List Addr) (H' : L2.Hp) : Prop where
  at_ : ∀ (i : Nat) (a : Addr), ρ[i]? = some a → ρ'[i]? = some a
  keep : ∀ b o, H b = some o → b ∉ ρ → imm o → H' b = some o ∧ b ∉ ρ'
theorem Ext.kp (e : Ext ρ H ρ' H') : Kp ρ H ρ' H' := ⟨fun _ _ h => e.at_ h, fun b o h n t => ⟨e.keep b o h n (fun ps z => by rw [z] at t; exact t), e.notin h n⟩⟩
theorem TupAt.kp (e : Kp ρ H ρ' H') {a : Addr} {vs : List V} (t : TupAt K ρ H a vs) : TupAt K ρ' H' a vs := by
  rcases t with ⟨t | ⟨o, t⟩, n⟩ | t
  · exact .inl ⟨.inl (e.keep a _ t n trivial).1, (e.keep a _ t n trivial).2⟩
  · exact .inl ⟨.inr ⟨o, (e.keep a _ t n trivial).1⟩, (e.keep a _ t n trivial).2⟩
  · exact .inr t
theorem BareAt.kp (e : Kp ρ H ρ' H') {a : Addr} {vs : List V} (t : BareAt ρ H a vs) : BareAt ρ' H' a vs :=
  let ⟨o, t, c, d, n⟩ := t
  ⟨o, (e.keep a _ t n trivial).1, c, d, (e.keep a _ t n trivial).2⟩
theorem FlAt.kp (e : Kp ρ H ρ' H') {a : Addr} {vs : List V} (t : FlAt K ρ H a vs) : FlAt K ρ' H' a vs := by
  rcases t with ⟨⟨o, t⟩, n⟩ | t
  · exact .inl ⟨⟨o, (e.keep a _ t n trivial).1⟩, (e.keep a _ t n trivial).2⟩
  · exact .inr t
mutual
theorem VR.kp (e : Kp ρ H ρ' H') : ∀ (x : Val) (v : V), VR N K ρ H x v → VR N K ρ' H' x v
  | .non, v, h => h
  | .bl b, v, h => h
  | .int i, v, h => h
  | .str s, v, h => h
  | .tup xs, v, h => by
    simp only [VR] at h ⊢
    obtain ⟨a, vs, e1, t, r, dd⟩ := h
    exact ⟨a, vs, e1, t.kp e, VRs.kp e xs vs r, dd⟩
  | .fl xs, v, h => by
    simp only [VR] at h ⊢
    obtain ⟨a, vs, e1, t, r, dd⟩ := h
    exact ⟨a, vs, e1, t.kp e, VRs.kp e xs vs r, dd⟩
  | .tp xs, v, h => by
    simp only [VR] at h ⊢
    obtain ⟨a, vs, e1, t, r, dd⟩ := h
    exact ⟨a, vs, e1, t.kp e, VRs.kp e xs vs r, dd⟩
  | .ref i, v, h => by
    simp only [VR] at h ⊢
    obtain ⟨a, e1, e2⟩ := h
    exact ⟨a, e.at_ _ _ e1, e2⟩
  | .ty n, v, h => h
  | .fn i, v, h => h
  | .cls i, v, h => h
  | .exn c fs, v, h => by
    simp only [VR] at h ⊢
    obtain ⟨a, d, vs, e1, e2, r, dd, z⟩ := h
    refine ⟨a, d, vs, e1, e2, VRs.kp e fs vs r, dd, ?_⟩
    rcases z with z | ⟨z, da, z1, z2, z3⟩
    · exact .inl z
    · exact .inr ⟨z, da, z1, (e.keep da _ z2 z3 trivial).1, (e.keep da _ z2 z3 trivial).2⟩
  | .clo _ _, v, h => by
    simp only [VR] at h
  | .own _, v, h => by
    simp only [VR] at h
theorem VRs.kp (e : Kp ρ H ρ' H') : ∀ (xs : List Val) (vs : List V), VRs N K ρ H xs vs → VRs N K ρ' H' xs vs
  | [], vs, h => h
  | x :: xs, vs, h => by
    simp only [VRs] at h ⊢
    obtain ⟨v, r, e1, h1, h2⟩ := h
    exact ⟨v, r, e1, VR.kp e x v h1, VRs.kp e xs r h2⟩
end
theorem DR.kp (e : Kp ρ H ρ' H') : ∀ (ps : List (Val × Val)) (kv : List (Key × V)), DR N K ρ H ps kv → DR N K ρ' H' ps kv
  | [], kv, h => h
  | p :: ps, kv, h => by
    simp only [DR] at h ⊢
    obtain ⟨k, v, r, e1, h1, h2, dd, h3⟩ := h
    exact ⟨k, v, r, e1, h1, h2.kp e, dd, DR.kp e ps r h3⟩
theorem FR.kp (e : Kp ρ H ρ' H') {τ : MF} {σ : L2.St} (f : FR N K ρ H τ σ) : FR N K ρ' H' τ σ :=
  ⟨f.len, fun i x h => let ⟨v, h1, h2⟩ := f.at_ i x h; ⟨v, h1, h2.kp e⟩⟩
theorem TupAt.mono (e : Ext ρ H ρ' H') {a : Addr} {vs : List V} (t : TupAt K ρ H a vs) : TupAt K ρ' H' a vs := t.kp e.kp
theorem FlAt.mono (e : Ext ρ H ρ' H') {a : Addr} {vs : List V} (t : FlAt K ρ H a vs) : FlAt K ρ' H' a vs := t.kp e.kp
theorem VR.mono (e : Ext ρ H ρ' H') (x : Val) (v : V) (h : VR N K ρ H x v) : VR N K ρ' H' x v := VR.kp e.kp x v h
theorem VRs.mono (e : Ext ρ H ρ' H') (x : List Val) (v : List V) (h : VRs N K ρ H x v) : VRs N K ρ' H' x v := VRs.kp e.kp x v h
theorem DR.mono (e : Ext ρ H ρ' H') (x : List (Val × Val)) (v : List (Key × V)) (h : DR N K ρ H x v) : DR N K ρ' H' x v := DR.kp e.kp x v h
theorem FR.mono (e : Ext ρ H ρ' H') {τ : MF} {σ : L2.St} (f : FR N K ρ H τ σ) : FR N K ρ' H' τ σ := f.kp e.kp
theorem FR.set {τ : MF} {σ : L2.St} (f : FR N K ρ H τ σ) (i : Nat) {x : Val} {v : V} (r : VR N K ρ H x v) : FR N K ρ H (τ.set i (some x)) (σ.set i (some v)) := by
  refine ⟨by simp [f.len], fun j y h => ?_⟩
  by_cases hj : i = j
  · subst hj
    rw [List.getElem?_set] at h
    by_cases hl : i < τ.length
    · rw [if_pos rfl, if_pos hl] at h
      cases h
      refine ⟨v, ?_, r⟩
      rw [List.getElem?_set_self (by rw [f.len]; exact hl)]
    · rw [if_pos rfl, if_neg hl] at h
      cases h
  · rw [List.getElem?_set_ne hj] at h
    rw [List.getElem?_set_ne hj]
    exact f.at_ j y h

/-! ### outcomes -/
/-- a raised exception's own dict -/
def XD (N : Nm) (ρ : List Addr) (H : L2.Hp) (c : Nat) (vs : List V) (d : Option Addr) : Prop :=
  (N.flds c = [] ∧ d = none) ∨ (N.flds c ≠ [] ∧ ∃ dd, d = some dd ∧ H dd = some (.xd ((N.flds c).zip vs)) ∧ dd ∉ ρ)
def Post (N : Nm) (K : PySem.W.Frag) (ρ : List Addr) (H : L2.Hp) (Wx : Value → Option Addr → L2.Hp → Prop) {α β : Type} (rel : List Addr → L2.Hp → α → β → Prop) (r : Res α) (Q : β → L2.Hp → Prop) : Prop :=
  match r with
  | .ok x h' => ∀ ρ' H' v, Ext ρ H ρ' H' → RelH N K ρ' h' H' → rel ρ' H' x v → Q v H'
  | .exc c fs h' => ∀ ρ' H' vs d, Ext ρ H ρ' H' → RelH N K ρ' h' H' → VRs N K ρ' H' fs vs → fs.all dat = true → XD N ρ' H' c vs d → Wx (.ref (He.ga K (N.cls c))) d H'
  | .bad => False
section
variable {Wx : Value → Option Addr → L2.Hp → Prop} {α β γ δ : Type} {rel : List Addr → L2.Hp → α → β → Prop} {rel2 : List Addr → L2.Hp → γ → δ → Prop}
theorem Post.later (e : Ext ρ H ρ' H') {r : Res α} {Q : β → L2.Hp → Prop} (p : Post N K ρ H Wx rel r Q) : Post N K ρ' H' Wx rel r Q := by
  cases r with
  | ok x h => exact fun ρ2 H2 v e2 => p ρ2 H2 v (e.trans e2)
  | exc c fs h => exact fun ρ2 H2 vs d e2 => p ρ2 H2 vs d (e.trans e2)
  | bad => exact p
theorem Post.imp {r : Res α} {Q Q' : β → L2.Hp → Prop} (p : Post N K ρ H Wx rel r Q) (h : ∀ v H', Q v H' → Q' v H') : Post N K ρ H Wx rel r Q' := by
  cases r with
  | ok x h1 => exact fun ρ2 H2 v e2 h2 h3 => h v H2 (p ρ2 H2 v e2 h2 h3)
  | exc c fs h1 => exact p
  | bad => exact p
/-- what a first outcome leaves for the second -/
theorem Post.bind {r : Res α} {f : α → MH → Res γ} {Q : δ → L2.Hp → Prop} (p : Post N K ρ H Wx rel2 (r.bind f) Q) :
    Post N K ρ H Wx rel r fun v H1 => ∃ ρ1 h1 x, Ext ρ H ρ1 H1 ∧ RelH N K ρ1 h1 H1 ∧ rel ρ1 H1 x v ∧ Post N K ρ1 H1 Wx rel2 (f x h1) Q := by
  cases r with
  | ok x h => exact fun ρ1 H1 v e rh rv => ⟨ρ1, h, x, e, rh, rv, Post.later (r := f x h) e p⟩
  | exc c fs h => exact p
  | bad => exact p
theorem Post.ok {x : α} {h : MH} {v : β} {Q : β → L2.Hp → Prop} (p : Post N K ρ H Wx rel (.ok x h) Q) (rh : RelH N K ρ h H) (rv : rel ρ H x v) : Q v H := p ρ H v Ext.refl rh rv
end
/-- how a statement goes on -/
def PostS (N : Nm) (K : PySem.W.Frag) (ρ : List Addr) (H : L2.Hp) (W : WX) (D : Ends) (r : Out) : Prop :=
  match r with
  | .nx τ h' => ∀ ρ' H' σ', Ext ρ H ρ' H' → RelH N K ρ' h' H' → FR N K ρ' H' τ σ' → D.nx σ' H'
  | .rt x h' => ∀ ρ' H' v, Ext ρ H ρ' H' → RelH N K ρ' h' H' → VR N K ρ' H' x v → D.rt v H'
  | .bk τ h' => ∀ ρ' H' σ', Ext ρ H ρ' H' → RelH N K ρ' h' H' → FR N K ρ' H' τ σ' → D.bk σ' H'
  | .ct τ h' => ∀ ρ' H' σ', Ext ρ H ρ' H' → RelH N K ρ' h' H' → FR N K ρ' H' τ σ' → D.ct σ' H'
  | .ex c fs τ h' => ∀ ρ' H' σ' vs d, Ext ρ H ρ' H' → RelH N K ρ' h' H' → FR N K ρ' H' τ σ' → VRs N K ρ' H' fs vs → fs.all dat = true → XD N ρ' H' c vs d → W (.ref (He.ga K (N.cls c))) d σ' H'
  | .bad => False
theorem PostS.later {W : WX} {D : Ends} (e : Ext ρ H ρ' H') {r : Out} (p : PostS N K ρ H W D r) : PostS N K ρ' H' W D r := by
  cases r with
  | nx τ h => exact fun ρ2 H2 v e2 => p ρ2 H2 v (e.trans e2)
  | rt x h => exact fun ρ2 H2 v e2 => p ρ2 H2 v (e.trans e2)
  | bk τ h => exact fun ρ2 H2 v e2 => p ρ2 H2 v (e.trans e2)
  | ct τ h => exact fun ρ2 H2 v e2 => p ρ2 H2 v (e.trans e2)
  | ex c fs τ h => exact fun ρ2 H2 σ' vs d e2 => p ρ2 H2 σ' vs d (e.trans e2)
  | bad => exact p

/-! ### readings -/
section
variable (N K) (W : WX)
/-- an expression's reading by its meaning -/
def sE (m : MF → MH → Res Val) : TE := fun σ H Q => ∃ ρ h τ, RelH N K ρ h H ∧ FR N K ρ H τ σ ∧ Post N K ρ H (fun c d H' => W c d σ H') (VR N K) (m τ h) Q
def sA (m : MF → MH → Res (List Val)) : TA := fun σ H Q => ∃ ρ h τ, RelH N K ρ h H ∧ FR N K ρ H τ σ ∧ Post N K ρ H (fun c d H' => W c d σ H') (VRs N K) (m τ h) Q
def sT (m : MF → MH → Res Bool) : TT := fun σ H Q => ∃ ρ h τ, RelH N K ρ h H ∧ FR N K ρ H τ σ ∧ Post N K ρ H (fun c d H' => W c d σ H') (fun _ _ x v => v = x) (m τ h) Q
def sS (m : MF → MH → Out) : TS := fun D σ H => ∃ ρ h τ, RelH N K ρ h H ∧ FR N K ρ H τ σ ∧ PostS N K ρ H W D (m τ h)
/-- an operation of two values -/
def sO2 (f : MH → Val → Val → Res Val) : R2 := fun x y H Q => ∃ ρ h wx wy, RelH N K ρ h H ∧ VR N K ρ H wx x ∧ VR N K ρ H wy y ∧ Post N K ρ H (fun _ _ _ => False) (VR N K) (f h wx wy) Q
def sOs (f : MH → List Val → Res Val) : List V → L2.Hp → VK → Prop := fun xs H Q => ∃ ρ h ws, RelH N K ρ h H ∧ VRs N K ρ H ws xs ∧ Post N K ρ H (fun _ _ _ => False) (VR N K) (f h ws) Q
end
/-- weaker readings -/
theorem _root_.L2.PE.weak {X : Cx} {e : Expr} {t t' : TE} (p : PE X e t) (h : ∀ σ H Q, t' σ H Q → t σ H Q) : PE X e t' := ⟨fun pins s σ H Q I q => p.run pins s σ H Q I (h σ H Q q)⟩
theorem _root_.L2.PT.weak {X : Cx} {e : Expr} {t t' : TT} (p : PT X e t) (h : ∀ σ H Q, t' σ H Q → t σ H Q) : PT X e t' := ⟨fun pins s σ H Q I q => p.run pins s σ H Q I (h σ H Q q)⟩
theorem _root_.L2.PA.weak {X : Cx} {es : List Expr} {t t' : TA} (p : PA X es t) (h : ∀ σ H Q, t' σ H Q → t σ H Q) : PA X es t' := ⟨fun pos pins s σ H Q I q => p.run pos pins s σ H Q I (h σ H Q q)⟩
theorem _root_.L2.PS.weak {X : Cx} {st : Stmt} {t t' : TS} (p : PS X st t) (h : ∀ D σ H, t' D σ H → t D σ H) : PS X st t' := ⟨fun pins s σ H D I q => p.run pins s σ H D I (h D σ H q)⟩
theorem _root_.L2.PSs.weak {X : Cx} {st : List Stmt} {t t' : TS} (p : PSs X st t) (h : ∀ D σ H, t' D σ H → t D σ H) : PSs X st t' := ⟨fun pins s σ H D I q => p.run pins s σ H D I (h D σ H q)⟩
end
end Mini
set_option Elab.async false
set_option linter.all false
set_option maxRecDepth 100000
set_option maxHeartbeats 2000000
/-! Mini against the model: objects made, changed; operations. -/
namespace Mini
open PySem PySem.Spec PyProof.Rows L2
section
variable {N : Nm} {K : PySem.W.Frag} {ρ ρ' : List Addr} {H H' : L2.Hp} {h : MH}

/-! ### lists of values -/
theorem VRs.length : ∀ {xs : List Val} {vs : List V}, VRs N K ρ H xs vs → vs.length = xs.length
  | [], vs, h => by
    simp only [VRs] at h
    rw [h]
    rfl
  | x :: xs, vs, h => by
    simp only [VRs] at h
    obtain ⟨v, r, e, _, h2⟩ := h
    rw [e, List.length_cons, List.length_cons, VRs.length h2]
theorem VRs.get : ∀ {xs : List Val} {vs : List V}, VRs N K ρ H xs vs → ∀ {i : Nat} {x : Val}, xs[i]? = some x → ∃ v, vs[i]? = some v ∧ VR N K ρ H x v
  | [], vs, h, i, x, e => by simp at e
  | y :: xs, vs, h, i, x, e => by
    simp only [VRs] at h
    obtain ⟨v, r, rfl, h1, h2⟩ := h
    cases i with
    | zero =>
      simp at e
      subst e
      exact ⟨v, rfl, h1⟩
    | succ i =>
      obtain ⟨u, a, b⟩ := VRs.get h2 (i := i) (x := x) (by simpa using e)
      exact ⟨u, by simpa using a, b⟩
theorem VRs.append : ∀ {xs ys : List Val} {vs us : List V}, VRs N K ρ H xs vs → VRs N K ρ H ys us → VRs N K ρ H (xs ++ ys) (vs ++ us)
  | [], ys, vs, us, h, g => by
    simp only [VRs] at h
    subst h
    exact g
  | x :: xs, ys, vs, us, h, g => by
    simp only [VRs] at h
    obtain ⟨v, r, rfl, h1, h2⟩ := h
    show VRs N K ρ H (x :: (xs ++ ys)) (v :: (r ++ us))
    simp only [VRs]
    exact ⟨v, _, rfl, h1, h2.append g⟩
theorem VRs.one {x : Val} {v : V} (r : VR N K ρ H x v) : VRs N K ρ H [x] [v] := by
  simp only [VRs]
  exact ⟨v, [], rfl, r, rfl⟩
theorem VRs.set : ∀ {xs : List Val} {vs : List V} (i : Nat) {x : Val} {v : V}, VRs N K ρ H xs vs → VR N K ρ H x v → VRs N K ρ H (xs.set i x) (vs.set i v)
  | [], vs, i, x, v, h, r => by
    simp only [VRs] at h
    subst h
    simp [VRs]
  | y :: xs, vs, 0, x, v, h, r => by
    simp only [VRs] at h
    obtain ⟨u, t, rfl, h1, h2⟩ := h
    show VRs N K ρ H (x :: xs) (v :: t)
    simp only [VRs]
    exact ⟨v, t, rfl, r, h2⟩
  | y :: xs, vs, i + 1, x, v, h, r => by
    simp only [VRs] at h
    obtain ⟨u, t, rfl, h1, h2⟩ := h
    show VRs N K ρ H (y :: xs.set i x) (u :: t.set i v)
    simp only [VRs]
    exact ⟨u, _, rfl, h1, h2.set i r⟩

/-! ### objects -/
theorem OR.kp (e : Kp ρ H ρ' H') {a : Addr} (k : H' a = H a) : ∀ {o : Obj}, OR N K ρ H a o → OR N K ρ' H' a o
  | .lst xs, h => by
    simp only [OR] at h ⊢
    obtain ⟨vs, h1, h2, dd⟩ := h
    exact ⟨vs, by rw [k]; exact h1, h2.kp e, dd⟩
  | .dic kvs, h => by
    simp only [OR] at h ⊢
    obtain ⟨vs, h1, h2⟩ := h
    exact ⟨vs, by rw [k]; exact h1, h2.kp e⟩
  | .set _, h => by
    simp only [OR] at h
  | .ins _ _, h => by
    simp only [OR] at h
theorem OR.mono (e : Ext ρ H ρ' H') {a : Addr} (k : H' a = H a) {o : Obj} (h : OR N K ρ H a o) : OR N K ρ' H' a o := h.kp e.kp k
/-- no table, no code object -/
def noTab (u : HO) : Prop := (∀ ps, u ≠ .tbl ps) ∧ ∀ f, u ≠ .ext f
theorem Tabs_upd {T : List (Addr × Str)} {p : Addr} {o : HO} (t : LamX.Tabs T H) (hp : ∀ u, H p = some u → noTab u) : LamX.Tabs T (upd H p o) := fun q hq => by
  obtain ⟨ps, h1, h2, h3⟩ := t q hq
  have st : ∀ b u, H b = some u → ¬ noTab u → upd H p o b = some u := fun b u e n => by
    rw [upd_ne (fun z => n (hp u (by rw [← z]; exact e)))]
    exact e
  refine ⟨ps, st _ _ h1 fun z => z.1 ps rfl, h2, fun pos cv hc => ?_⟩
  obtain ⟨c, e1, e2⟩ := h3 pos cv hc
  exact ⟨c, e1, st _ _ e2 fun z => z.2 _ rfl⟩
theorem OR.some_ {a : Addr} : ∀ {o : Obj}, OR N K ρ H a o → ∃ u, H a = some u ∧ Mut (some u) ∧ noTab u
  | .lst xs, h => by
    simp only [OR] at h
    obtain ⟨vs, h1, h2⟩ := h
    exact ⟨_, h1, trivial, (fun ps z => by cases z), fun ps z => by cases z⟩
  | .dic kvs, h => by
    simp only [OR] at h
    obtain ⟨vs, h1, h2⟩ := h
    exact ⟨_, h1, trivial, (fun ps z => by cases z), fun ps z => by cases z⟩
  | .set _, h => by
    simp only [OR] at h
  | .ins _ _, h => by
    simp only [OR] at h
theorem RelH.some_ (r : RelH N K ρ h H) {i : Nat} {a : Addr} (e : ρ[i]? = some a) : ∃ o, h[i]? = some o ∧ OR N K ρ H a o := by
  have hi : i < h.length := by
    rw [← r.len]
    exact (List.getElem?_eq_some_iff.mp e).1
  exact ⟨h[i], List.getElem?_eq_getElem hi, r.obj i a _ e (List.getElem?_eq_getElem hi)⟩
theorem RelH.at_ (r : RelH N K ρ h H) {i : Nat} {o : Obj} (e : h[i]? = some o) : ∃ a, ρ[i]? = some a ∧ OR N K ρ H a o := by
  have hi : i < ρ.length := by
    rw [r.len]
    exact (List.getElem?_eq_some_iff.mp e).1
  exact ⟨ρ[i], List.getElem?_eq_getElem hi, r.obj i _ o (List.getElem?_eq_getElem hi) e⟩
/-- a thing that is no object of Mini is new -/
theorem Ext.newT {p : Addr} {o : HO} (hp : H p = none) : Ext ρ H ρ (upd H p o) :=
  ⟨⟨[], by simp, by simp⟩, fun b u e _ _ => by rw [upd_ne (ne_of_none e hp)]; exact e, fun b e => by
    by_cases q : b = p
    · rw [q]; exact hp
    · rw [upd_ne q] at e; exact e⟩
theorem RelH.newT {p : Addr} {o : HO} (hp : H p = none) (r : RelH N K ρ h H) : RelH N K ρ h (upd H p o) := by
  refine ⟨r.len, r.nd, fun i a u e1 e2 => ?_, Tabs_upd r.tb fun u e => by rw [hp] at e; cases e⟩
  have q := r.obj i a u e1 e2
  obtain ⟨x, hx, _⟩ := q.some_
  exact q.mono (Ext.newT hp) (upd_ne (ne_of_none hx hp))
/-- a new object -/
theorem Ext.new {p : Addr} {o : HO} (hp : H p = none) : Ext ρ H (ρ ++ [p]) (upd H p o) :=
  ⟨⟨[p], rfl, fun b hb => by rw [List.mem_singleton.mp hb]; exact hp⟩, (Ext.newT (ρ := ρ) hp).keep, (Ext.newT (ρ := ρ) hp).dom⟩
theorem RelH.notin (r : RelH N K ρ h H) {p : Addr} (hp : H p = none) : p ∉ ρ := fun hm => by
  obtain ⟨i, hi, e⟩ := List.mem_iff_getElem.mp hm
  obtain ⟨o, _, q⟩ := r.some_ (i := i) (a := p) (by rw [List.getElem?_eq_getElem hi, e])
  obtain ⟨u, hu, _⟩ := q.some_
  rw [hp] at hu
  cases hu
theorem RelH.newK {p : Addr} {o : HO} {ob : Obj} (np : p ∉ ρ) (nt : ∀ u, H p = some u → noTab u) (e0 : Kp ρ H (ρ ++ [p]) (upd H p o)) (r : RelH N K ρ h H) (n : OR N K (ρ ++ [p]) (upd H p o) p ob) : RelH N K (ρ ++ [p]) (h ++ [ob]) (upd H p o) := by
  refine ⟨by rw [List.length_append, List.length_append, r.len]; rfl, ?_, fun i a u e1 e2 => ?_, Tabs_upd r.tb nt⟩
  · rw [List.nodup_append]
    refine ⟨r.nd, by simp, fun a ha b hb z => ?_⟩
    rw [List.mem_singleton] at hb
    subst hb
    exact np (z ▸ ha)
  · by_cases hi : i < ρ.length
    · rw [List.getElem?_append_left hi] at e1
      rw [List.getElem?_append_left (by rw [← r.len]; exact hi)] at e2
      have q := r.obj i a u e1 e2
      obtain ⟨x, hx, _⟩ := q.some_
      exact q.kp e0 (upd_ne fun z => np (z ▸ List.mem_of_getElem? e1))
    · rw [List.getElem?_append_right (Nat.le_of_not_lt hi)] at e1
      rw [List.getElem?_append_right (by rw [← r.len]; exact Nat.le_of_not_lt hi), ← r.len] at e2
      cases hk : i - ρ.length with
      | zero =>
        rw [hk] at e1 e2
        cases e1
        cases e2
        exact n
      | succ k =>
        rw [hk] at e1
        simp at e1
theorem RelH.new {p : Addr} {o : HO} {ob : Obj} (hp : H p = none) (r : RelH N K ρ h H) (n : OR N K (ρ ++ [p]) (upd H p o) p ob) : RelH N K (ρ ++ [p]) (h ++ [ob]) (upd H p o) := r.newK (r.notin hp) (fun u e => by rw [hp] at e; cases e) (Ext.new hp).kp n
theorem VR.newRef {p : Addr} {o : HO} (r : RelH N K ρ h H) : VR N K (ρ ++ [p]) (upd H p o) (.ref h.length) (.ref p) := by
  simp only [VR]
  refine ⟨p, ?_, rfl⟩
  rw [← r.len, List.getElem?_append_right (Nat.le_refl _), Nat.sub_self]
  rfl
/-- an object changes -/
theorem Ext.put {i : Nat} {a : Addr} {o : HO} (e : ρ[i]? = some a) : Ext ρ H ρ (upd H a o) := by
  have hm : a ∈ ρ := List.mem_of_getElem? e
  refine ⟨⟨[], by simp, by simp⟩, fun b u e n _ => ?_, fun b q => ?_⟩
  · rw [upd_ne (fun z => n (by rw [z]; exact hm))]
    exact e
  · by_cases z : b = a
    · rw [z, upd_same] at q
      cases q
    · rw [upd_ne z] at q
      exact q
theorem RelH.put {i : Nat} {a : Addr} {o : HO} {ob : Obj} (r : RelH N K ρ h H) (e : ρ[i]? = some a) (n : OR N K ρ (upd H a o) a ob) : RelH N K ρ (h.set i ob) (upd H a o) := by
  refine ⟨by rw [List.length_set]; exact r.len, r.nd, fun j b u e1 e2 => ?_, Tabs_upd r.tb fun u hu => ?_⟩
  rotate_left
  · obtain ⟨ob', _, q'⟩ := r.some_ e
    obtain ⟨u', hu', _, nt⟩ := q'.some_
    rw [hu'] at hu
    cases hu
    exact nt
  by_cases hj : i = j
  · subst hj
    rw [e] at e1
    cases e1
    have hi : i < h.length := by
      rw [← r.len]
      exact (List.getElem?_eq_some_iff.mp e).1
    rw [List.getElem?_set_self hi] at e2
    cases e2
    exact n
  · rw [List.getElem?_set_ne hj] at e2
    have q := r.obj j b u e1 e2
    have nb : b ≠ a := fun z => by
      subst z
      have h1 := (List.getElem?_eq_some_iff.mp e)
      have h2 := (List.getElem?_eq_some_iff.mp e1)
      obtain ⟨l1, g1⟩ := h1
      obtain ⟨l2, g2⟩ := h2
      exact hj ((List.getElem_inj r.nd).mp (g1.trans g2.symm))
    exact q.mono (Ext.put e) (upd_ne nb)

/-! ### what is read -/
theorem isList_sq (r : RelH N K ρ h H) {x : Val} {v : V} (rv : VR N K ρ H x v) {xs : List Val} (e : isList h x = some xs) : ∃ (a : Addr) (vs : List V), v = .ref a ∧ SqL K H a vs ∧ VRs N K ρ H xs vs ∧ xs.all dat = true := by
  cases x with
  | fl ys =>
    simp only [isList, Option.some.injEq] at e
    subst e
    simp only [VR] at rv
    obtain ⟨a, vs, e1, t, q, dd⟩ := rv
    exact ⟨a, vs, e1, t.sq, q, dd⟩
  | ref i =>
    simp only [isList] at e
    simp only [VR] at rv
    obtain ⟨a, e1, e2⟩ := rv
    obtain ⟨o, e3, q⟩ := r.some_ e1
    rw [e3] at e
    cases o with
    | lst ys =>
      simp only [Option.some.injEq] at e
      subst e
      simp only [OR] at q
      obtain ⟨vs, h1, h2, dd⟩ := q
      exact ⟨a, vs, e2, SqL.of h1, h2, dd⟩
    | _ => cases e
  | _ => cases e
end
end Mini
set_option Elab.async false
set_option linter.all false
set_option maxRecDepth 100000
set_option maxHeartbeats 4000000
/-! At the hand layer: x *= y, tuple * int at the edges, tuple.count, t[::-1], set(t) of ints. -/
namespace Hs
open PySem PySem.Spec PyProof.Rows L2
section
variable {X : Cx}
theorem ip_mul : PIp X .Mult (fun x y H Q => ∃ i j, x = .int i ∧ y = .int j ∧ IntMulOk i j ∧ Q (.int (i * j)) H) := by
  intro pins s σ H x y v u Q I r1 r2 h
  obtain ⟨i, j, e1, e2, hm, q⟩ := h
  subst e1; subst e2
  obtain ⟨t, rfl⟩ := r1
  obtain ⟨t', rfl⟩ := r2
  exact imul_int ⟨.int _, H, I.tok _, ⟨_, rfl⟩, q⟩ hm
/-! ### tuple.count -/
def rCntT (K : PySem.W.Frag) : V → List V → Hp → VK → Prop := fun x xs H Q => ∃ (p : Addr) (ns : List Int) (k : Int), x = .ref p ∧ xs = [.int k] ∧ SqT K H p (ns.map V.int) ∧ Q (.int (ns.count k : Nat)) H
theorem mt_tcount : MtR X "tuple.count" (rCntT X.K) := by
  intro pins s σ H x xs v us Q I rx rxs h
  obtain ⟨p, ns, k, rfl, rfl, hs, q⟩ := h
  cases rx
  obtain ⟨u, rfl, ru⟩ := rxs.one
  obtain ⟨t, rfl⟩ := ru
  obtain ⟨its, rv, ⟨⟨cls, dd, data, sl⟩, ho, hc, n, hd⟩, hlen⟩ := I.tuple hs
  simp only at hc hd
  subst hc hd
  have hi := ints_of_vals rv
  refine call_meets PySem.F.slot_tuple_count ⟨_, ho, rfl⟩ PySem.F.entry_tuple_count (PySem.F.args_tuple_count_2 _ _)
    (SeqAt.tuple_countAt p its.toArray n dd sl (.int k t) (eqk k)) ⟨ho, fun y hy => (eqk_gives hi y (by simpa using hy)).at _ _, ?_⟩
  have ec : its.toArray.toList.countP (eqk k) = ns.count k := eqk_count hi
  refine ⟨.int (ns.count k : Nat), H, I.tok _, ⟨s.toks, ?_⟩, q⟩
  show Value.int ((its.toArray.toList.countP (eqk k) : Nat) : Int) s.toks = Value.int ((ns.count k : Nat) : Int) s.toks
  rw [ec]
/-! ### tuple * int at the edges -/
theorem tuple_mul1 (l : Addr) (items : Array Value) (n : Nat) (dd : Option Addr) (sl : Array (Option Value)) (x : Int) (u : Tok) (c0 : (decide (x < -(2 ^ 63)) || decide (x ≥ 2 ^ 63)) = false) (c1 : (items.isEmpty || x == 1) = true) :
    Meets (Builtin.«tuple.__mul__» ⟨[.ref l, .int x u], []⟩) (fun _ R s => s.heap.get? l = some { cls := .type "tuple", dict := dd, data := .seq items n, slots := sl } ∧ R (.ok (.ret (Value.ref l))) s) :=
  .of_wp fun prog w A R s h => by
    obtain ⟨hp, g, d, tk, os⟩ := s
    obtain ⟨hl, h⟩ := h
    have f1 := AutoSeq1.idx_int
    wp_walk using wpAny_loadPart' hl
    repeat (first
      | (refine wpAny_ite_false (decide_eq_false (by rw [c0]; exact Bool.false_ne_true)) ?_; wp_walk using wpAny_loadPart' hl)
      | (refine wpAny_ite_true (decide_eq_true (by rw [c1])) ?_; wp_walk using wpAny_loadPart' hl))
    all_goals first | exact ⟨_, rfl, h⟩ | trace_state
theorem tuple_mul0 (l : Addr) (items : Array Value) (n : Nat) (dd : Option Addr) (sl : Array (Option Value)) (x : Int) (u : Tok) (c0 : (decide (x < -(2 ^ 63)) || decide (x ≥ 2 ^ 63)) = false) (c1 : (items.isEmpty || x == 1) = false) (c2 : (decide (x ≤ 0) || items.isEmpty) = true) :
    Meets (Builtin.«tuple.__mul__» ⟨[.ref l, .int x u], []⟩) (fun _ R s => s.heap.get? l = some { cls := .type "tuple", dict := dd, data := .seq items n, slots := sl } ∧
      R (.ok (.ret (Value.ref s.heap.objs.size))) { s with heap := s.heap.push { cls := Value.type "tuple", data := Data.seq #[] }, toks := s.toks }) :=
  .of_wp fun prog w A R s h => by
    obtain ⟨hp, g, d, tk, os⟩ := s
    obtain ⟨hl, h⟩ := h
    have f1 := AutoSeq1.idx_int
    wp_walk using wpAny_loadPart' hl
    repeat (first
      | (refine wpAny_ite_false (decide_eq_false (by rw [c0]; exact Bool.false_ne_true)) ?_; wp_walk using wpAny_loadPart' hl)
      | (refine wpAny_ite_false (decide_eq_false (by rw [c1]; exact Bool.false_ne_true)) ?_; wp_walk using wpAny_loadPart' hl)
      | (refine wpAny_ite_true (decide_eq_true (by rw [c2])) ?_; wp_walk using wpAny_loadPart' hl))
    all_goals first | exact ⟨_, rfl, h⟩ | trace_state
def rRepA (K : PySem.W.Frag) : R2 := fun x y H Q => ∃ l k xs, x = .ref l ∧ y = .int k ∧ SqT K H l xs ∧ -1000000 ≤ k ∧ k ≤ 1000 ∧ xs.length ≤ 1000 ∧
  (xs = [] ∨ k = 1 → Q (.ref l) H) ∧ (xs ≠ [] → k ≤ 0 → ∀ p, H p = none → Q (.ref p) (upd H p (.tup []))) ∧ (xs ≠ [] → 2 ≤ k → ∀ p, H p = none → Q (.ref p) (upd H p (.tup (List.replicate k.toNat xs).flatten)))
theorem op_repA : OpR X (binaryOp .Mult) (rRepA X.K) := by
  intro pins s σ H x y v u Q I rx ry h
  obtain ⟨l, k, xs, rfl, rfl, hT, k0, k1, hz, q1, q2, q3⟩ := h
  by_cases hk : xs ≠ [] ∧ 2 ≤ k
  · exact op_repT pins s σ H _ _ v u Q I rx ry ⟨l, k, xs, rfl, rfl, hT, hk.1, hk.2, k1, hz, q3 hk.1 hk.2⟩
  cases rx
  obtain ⟨t, rfl⟩ := ry
  obtain ⟨its, r, ⟨⟨cls, dd, data, sl⟩, ho, hc, n, hd⟩, hs⟩ := I.tuple hT
  simp only at hc hd
  subst hc hd
  have hle : its.length = xs.length := r.length.symm
  have he : its.toArray.isEmpty = xs.isEmpty := by
    cases its with
    | nil => rw [List.eq_nil_of_length_eq_zero hle.symm]; rfl
    | cons a b =>
      cases xs with
      | nil => cases hle
      | cons c d => rfl
  have c0 : (decide (k < -(2 ^ 63)) || decide (k ≥ 2 ^ 63)) = false := by
    rw [decide_eq_false (by omega), decide_eq_false (by omega)] <;> rfl
  by_cases h1 : xs = [] ∨ k = 1
  · have c1 : (its.toArray.isEmpty || k == 1) = true := by
      rw [he]
      rcases h1 with rfl | rfl
      · rfl
      · rw [show ((1 : Int) == 1) = true from rfl, Bool.or_true]
    refine wpAny_binaryOp_repeat_ref (T := "tuple") (U := "int") (by decide) ⟨_, ho, rfl⟩ (fun s' => typeIs_int s' k t) noFill_tuple_mul F.fills_int_mul F.slot_int_rmul repeat_tuple F.slot_int_index.lookup
      (call_meets F.slot_int_rmul (typeIs_int s k t) F.entry_int_rmul (F.args_int_rmul_2 _ _) (int_rmul_tuple k t l its.toArray n dd sl)
        ⟨ho, rfl, ⟨_, ho, rfl⟩, call_meets F.slot_tuple_mul ⟨_, ho, rfl⟩ F.entry_tuple_mul (F.args_tuple_mul_2 _ _) (tuple_mul1 l its.toArray n dd sl k t c0 c1) ⟨ho, ?_⟩⟩)
    exact ⟨.ref l, H, I, rfl, q1 h1⟩
  · have hx : xs ≠ [] := fun z => h1 (.inl z)
    have hk0 : k ≤ 0 := by
      have a1 : ¬ 2 ≤ k := fun z => hk ⟨hx, z⟩
      have a2 : k ≠ 1 := fun z => h1 (.inr z)
      omega
    have hxe : xs.isEmpty = false := by
      cases xs with
      | nil => exact absurd rfl hx
      | cons a b => rfl
    have c1 : (its.toArray.isEmpty || k == 1) = false := by
      rw [he, hxe, Bool.false_or]
      exact beq_eq_false_iff_ne.mpr (by omega)
    have c2 : (decide (k ≤ 0) || its.toArray.isEmpty) = true := by
      rw [decide_eq_true hk0, Bool.true_or]
    refine wpAny_binaryOp_repeat_ref (T := "tuple") (U := "int") (by decide) ⟨_, ho, rfl⟩ (fun s' => typeIs_int s' k t) noFill_tuple_mul F.fills_int_mul F.slot_int_rmul repeat_tuple F.slot_int_index.lookup
      (call_meets F.slot_int_rmul (typeIs_int s k t) F.entry_int_rmul (F.args_int_rmul_2 _ _) (int_rmul_tuple k t l its.toArray n dd sl)
        ⟨ho, rfl, ⟨_, ho, rfl⟩, call_meets F.slot_tuple_mul ⟨_, ho, rfl⟩ F.entry_tuple_mul (F.args_tuple_mul_2 _ _) (tuple_mul0 l its.toArray n dd sl k t c0 c1 c2) ⟨ho, ?_⟩⟩)
    exact ⟨.ref s.heap.objs.size, _, I.laid (t' := s.toks) (o := .tup []) (fun b ob q => Heap.get?_push_of_some _ q) (Nat.le_refl _) ⟨Nat.zero_le _, [], .nil, IsTup.new _ _⟩, rfl, q2 hx hk0 _ (I.hok.fresh (Nat.le_refl _))⟩
/-! ### t[::-1] -/
theorem adjust_rev (n : Nat) : Builtin.Slice.sliceAdjust none none (-1) (n : Int) = ((n : Int) - 1, -1) := by
  unfold Builtin.Slice.sliceAdjust
  rfl
theorem places_rev (n : Nat) : Builtin.Slice.slicePlaces ((n : Int) - 1) (-1) (-1) = n := by
  unfold Builtin.Slice.slicePlaces
  have h1 : ¬ ((-1 : Int) > 0) := by decide
  simp only [h1, if_false]
  have e : ((n : Int) - 1 - -1 - 1) / (- -1) = (n : Int) - 1 := by
    rw [show (- -1 : Int) = 1 by decide, Int.ediv_one]
    omega
  rw [e]
  split <;> omega
section
variable {prog : Program} {w : World} {A : Around} {E : Value → Shared → Prop} {s : Shared}
theorem sliceApplied_rev {sl : Addr} {u : Tok} {n : Nat} {Q : Int × Int × Nat → Shared → Prop} (hs : s.heap.IsSliceOf sl .none .none (.int (-1) u)) (h : Q ((n : Int) - 1, -1, n) s) :
    wpAny (model prog w) A (Builtin.Slice.sliceApplied (.ref sl) (pure (n : Int))) Q E s := by
  obtain ⟨os, hos, hcs, hds⟩ := id hs
  unfold Builtin.Slice.sliceApplied Builtin.Slice.sliceFields
  refine wpAny_bind (wpAny_bind (wpAny_field hos hds (x := .none) rfl (wpAny_bind (wpAny_field hos hds (x := .none) rfl (wpAny_bind (wpAny_field hos hds (x := .int (-1) u) rfl (wpAny_pure ?_)))))))
  refine wpAny_bind (slicePart_int ?_)
  show wpAny _ _ (if ((-1 : Int) == 0) = true then _ else _) _ _ s
  rw [if_neg (by decide)]
  refine wpAny_bind (slicePart_none (wpAny_bind (slicePart_none (wpAny_bind (wpAny_pure ?_)))))
  show wpAny _ _ (match Builtin.Slice.sliceAdjust none none (-1) (n : Int) with | (lo, hi) => pure (lo, (-1 : Int), Builtin.Slice.slicePlaces lo hi (-1))) _ _ s
  rw [adjust_rev n]
  show wpAny _ _ (pure ((n : Int) - 1, (-1 : Int), Builtin.Slice.slicePlaces ((n : Int) - 1) (-1) (-1))) _ _ s
  rw [places_rev]
  exact wpAny_pure h
theorem pick_rev (xs : Array Value) : ((List.range xs.size).filterMap fun (k : Nat) => xs[((xs.size : Int) - 1 + (k : Int) * (-1)).toNat]?).toArray = xs.toList.reverse.toArray := by
  congr 1
  have e : (List.range xs.size).filterMap (fun (k : Nat) => xs[((xs.size : Int) - 1 + (k : Int) * (-1)).toNat]?) = ((List.range xs.size).map fun k => xs.size - 1 - k).filterMap (xs[·]?) := by
    rw [List.filterMap_map]
    have : ∀ l : List Nat, (∀ k ∈ l, k < xs.size) → l.filterMap (fun (k : Nat) => xs[((xs.size : Int) - 1 + (k : Int) * (-1)).toNat]?) = l.filterMap ((fun x => xs[x]?) ∘ fun k => xs.size - 1 - k) := fun l => by
      induction l with
      | nil => exact fun _ => rfl
      | cons k l ih =>
        intro hl
        have h1 := hl k List.mem_cons_self
        have e1 : ((xs.size : Int) - 1 + (k : Int) * (-1)).toNat = xs.size - 1 - k := by omega
        rw [List.filterMap_cons, List.filterMap_cons, ih fun j hj => hl j (List.mem_cons_of_mem _ hj), e1]
        rfl
    exact this _ fun k hk => List.mem_range.mp hk
  rw [e, PySem.W.krv_range, List.filterMap_reverse, PySem.W.krv_all]
theorem getItem_tuple_rev {t sl : Addr} {items : Array Value} {u : Tok} {Q : Value → Shared → Prop} (ht : IsTup s.heap t items) (hs : s.heap.IsSliceOf sl .none .none (.int (-1) u))
    (h : Q (.ref s.heap.objs.size) { s with heap := s.heap.push { cls := .type "tuple", data := .seq items.toList.reverse.toArray } }) (hsz : items.size ≤ sizeLine) : wpAny (model prog w) A (getItem (.ref t) (.ref sl)) Q E s := by
  have htake : sizeOk (.seq items.toList.reverse.toArray) := by
    show items.toList.reverse.toArray.size ≤ sizeLine
    rw [List.size_toArray, List.length_reverse, Array.length_toList]
    exact hsz
  obtain ⟨os, hos, hcs, hds⟩ := id hs
  have hTs : s.TypeIs (.ref sl) "slice" := ⟨os, hos, hcs⟩
  unfold getItem
  try with_reducible refine wpAny_holding ?_
  first | refine wpAny_bind (wpAny_pure ?_) | skip
  refine wpAny_bind (wpAny_sequenceKey ht.typeIs (by decide) ?_)
  refine wpAny_bind (wpAny_callSpecial?_slot (name := Str.ofString "__getitem__") ht.typeIs PyProof.Rows.slot_tuple_getitem
    (wpAny_call_entry PyProof.Rows.slot_tuple_getitem ht.typeIs entry_tuple_getitem ?_ (args_tuple_getitem _ _)))
  show wpAny _ _ (Builtin.Tuple.tupleItemsOf (.ref t) >>= _) _ _ s
  refine wpAny_bind (tupleItemsOf_ ht ?_)
  refine wpAny_bind (wpAny_typeOf hTs ?_)
  rw [if_pos (by decide)]
  refine wpAny_bind (sliceApplied_rev hs ?_)
  have hno : ¬ ((((items.size : Int) - 1) == 0 && (-1 : Int) == 1 && items.size == items.size) = true) := by
    intro q
    rw [Bool.and_eq_true, Bool.and_eq_true] at q
    have q1 : ((-1 : Int) == 1) = true := q.1.2
    cases q1
  show wpAny _ _ (if ((((items.size : Int) - 1) == 0 && (-1 : Int) == 1 && items.size == items.size) = true) then _ else _) _ _ s
  rw [if_neg hno, pick_rev]
  first
    | exact wpAny_bind (m := Builtin.Tuple.tupleExact _) (wpAny_newObj_type (wpAny_pure ⟨_, rfl, wpAny_pure h⟩) htake)
    | exact wpAny_bind (m := Builtin.Tuple.tupleExact _) (wpAny_newObj_type (wpAny_bind (wpAny_pure (wpAny_pure ⟨_, rfl, wpAny_pure h⟩))) htake)
    | exact wpAny_bind (wpAny_bind (m := Builtin.Tuple.tupleExact _) (wpAny_newObj_type (wpAny_pure (wpAny_pure ⟨_, rfl, wpAny_pure h⟩)) htake))
    | exact wpAny_bind (wpAny_bind (m := Builtin.Tuple.tupleExact _) (wpAny_newObj_type (wpAny_pure ⟨_, rfl, wpAny_pure h⟩) htake))
end
def tRevT (K : PySem.W.Frag) (te : TE) : TE := fun σ H Q => te σ H fun x H1 => ∃ a xs, x = .ref a ∧ SqT K H1 a xs ∧ ∀ p, H1 p = none → Q (.ref p) (upd H1 p (.tup xs.reverse))
theorem pe_revT {e : Expr} {te : TE} {k : Nat} {p1 p2 p3 pos : Pos} (he : PE X e te) : PE X (.Subscript e (.Slice none none (some (.UnaryOp .USub (.Constant (.int 1) k p1) p2)) p3) pos) (tRevT X.K te) := by
  refine ⟨fun pins s σ H Q I h => ?_⟩
  refine Subscript_ (thn (he.run pins s σ H _ I h) fun v s1 ⟨x, H1, I1, r1, q1⟩ => ?_)
  obtain ⟨a, xs, ex, hx, q⟩ := q1
  subst ex
  cases r1
  have hst : PO X (some (.UnaryOp .USub (.Constant (.int 1) k p1) p2)) (tPart (tUn (rU fun i => .int (-i)) (tC (.int 1)))) := po_some (pe_un un_neg pe_int)
  refine wpAny_Slice (thn (po_none.run pins s1 σ H1 (fun o H2 => o = none ∧ H2 = H1) I1 ⟨rfl, rfl⟩) fun vl s2 ⟨l, H2, I2, pl, el, e2⟩ => ?_)
  subst el e2
  refine thn (po_none.run pins s2 σ H2 (fun o H3 => o = none ∧ H3 = H2) I2 ⟨rfl, rfl⟩) fun vu s3 ⟨u, H3, I3, pu, eu, e3⟩ => ?_
  subst eu e3
  refine thn (hst.run pins s3 σ H3 (fun o H4 => o = some (-1) ∧ H4 = H3) I3 ⟨1, rfl, -1, rfl, rfl, rfl⟩) fun vs s4 ⟨o, H4, I4, ps, eo, e4⟩ => ?_
  subst eo e4
  have I5 : Inv X pins σ H4 { s4 with heap := s4.heap.push { cls := .type "slice", data := .fields #[vl, vu, vs] } } := I4.kept (t' := s4.toks) fun b ob q => Heap.get?_push_of_some _ q
  obtain ⟨its, r, ht, hz⟩ := I5.tuple hx
  have hlen := r.length
  cases pl
  cases pu
  cases ps
  show wpAny (model X.prog X.w) X.A (subscriptTail e (.Slice none none (some (.UnaryOp .USub (.Constant (.int 1) k p1) p2)) p3) (.ref a) (.ref s4.heap.objs.size)) (EP X pins σ Q) X.xe { s4 with heap := s4.heap.push { cls := .type "slice", data := .fields #[.none, .none, _] } }
  refine tail_any (ops := [.ref a, .ref s4.heap.objs.size]) ht.typeIs (PyProof.Rows.slot_tuple_getitem.lookup) ?_ (by with_unfolding_all rfl)
  refine getItem_tuple_rev ht (Heap.IsSliceOf.new _ _ _ _) ?_ (by rw [List.size_toArray]; omega)
  refine ⟨.ref _, _, I5.laid (t' := s4.toks) (o := .tup xs.reverse) (fun b ob q => Heap.get?_push_of_some _ q) (Nat.le_refl _) ?_, rfl, q _ (I5.hok.fresh (Nat.le_refl _))⟩
  exact ⟨by rw [List.length_reverse]; exact hz, _, r.reverse, IsTup.new _ _⟩
/-! ### set(t) of a tuple of ints -/
def rSetI (K : PySem.W.Frag) (w : World) : List V → Hp → VK → Prop := fun vs H Q => ∃ (a : Addr) (ns : List Int), vs = [.ref a] ∧ SqT K H a (ns.map V.int) ∧ ns.length ≤ 1000 ∧ ∀ p (S : Int → Bool) n, H p = none → (∀ k, S k = decide (k ∈ ns)) → n ≤ ns.length → Q (.ref p) (upd H p (SetO w p S n))
theorem cr_setI (hc : X.calm = true) : CallR X (.type "set") (rSetI X.K X.w) := by
  intro pins s σ H xs us Q I r h
  obtain ⟨a, ns, rfl, hx, hl, q⟩ := h
  rw [Vals.ref1 r]
  obtain ⟨its, rv, pt, hz⟩ := I.tuple hx
  have hi : IntsAre its.toArray.toList ns := ints_of_vals rv
  refine call_set_tupI ns (I.ok.hd hc) (show s.heap.IsTuple a its.toArray from pt) hi (by unfold scanBound; omega) fun h' tk c R1 hcn k => ?_
  have hn : H s.heap.objs.size = none := I.hok.fresh (Nat.le_refl _)
  exact ⟨.ref s.heap.objs.size, _, I.laid (t' := tk) (o := SetO X.w s.heap.objs.size (fun j => decide (j ∈ ns)) c) k (Nat.le_refl _) (setO_new R1), rfl, q _ _ _ hn (fun _ => rfl) hcn⟩
/-! ### isinstance with a known tuple of classes -/
theorem isi_frz {o : Obj} {tp : Addr} {x : V} {cs : List V} {t : Value} {ws : List Value} {b : Bool} {pins : List (Addr × Obj)} {s : Shared} {σ : L2.St} {H : L2.Hp} {us : List Value} {Q : VK} (I : Inv X pins σ H s) (r : Vals [x, .ref tp] us) (hT : H tp = some (.frz o (.tup cs))) (k : Paired ClsV cs ws) (ty : TyX X.K H x t) (e : PySem.W.kitAny X.K t ws = some b) (q : Q (.bl b) H) :
    wpAny (model X.prog X.w) X.A (call (.builtin "isinstance") us) (EP X pins σ Q) X.xe s := by
  obtain ⟨_, _, its, rv, ob, h1, h2, n, h3⟩ := (show ObjOk X.prog X.w H s.heap tp (.frz o (.tup cs)) from I.hok tp _ hT)
  cases r with
  | cons r1 r =>
    cases r with
    | cons r2 r =>
      cases r
      cases r2
      obtain ⟨P, Z, p, hx⟩ := kit_of I r1 ty
      have e3 := ClsV.all k rv
      subst e3
      obtain ⟨oc, od, dt, sl⟩ := ob
      dsimp only at h2 h3
      subst h2 h3
      exact PySem.W.kia_tup Z I.kIn p h1 e hx fun tk => ⟨.bl b, H, I.tok tk, rfl, q⟩
/-! ### tuples whose objects are known -/
def rTupF (K : PySem.W.Frag) : List V → L2.Hp → VK → Prop := fun xs H Q => ∃ p ys, xs = [.ref p] ∧ ((SqL K H p ys ∧ ∀ l (o : Obj), H l = none → o.cls = .type "tuple" → o.dict = none → Q (.ref l) (upd H l (.frz o (.tup ys)))) ∨ (SqT K H p ys ∧ Q (.ref p) H))
theorem cr_tupF : CallR X (.type "tuple") (rTupF X.K) := by
  intro pins s σ H xs us Q I r q0
  obtain ⟨p, ys, rfl, q0⟩ := q0
  rw [Vals.ref1 r]
  rcases q0 with ⟨sq, q⟩ | ⟨sq, q⟩
  · obtain ⟨its, rv, at_, le⟩ := I.list sq
    have len := rv.length
    refine call_tuple_list at_.isList (fun hp kp => ?_) (by rw [List.size_toArray]; omega)
    have J : Inv X pins σ H { s with heap := hp } := I.kept (t' := s.toks) kp
    refine ⟨.ref hp.objs.size, upd H hp.objs.size (.frz { cls := .type "tuple", data := .seq its.toArray } (.tup ys)), J.laid (t' := s.toks) (fun b o e => Heap.get?_push_of_some _ e) (Nat.le_refl _) ?_, rfl, q _ _ (J.hok.fresh (Nat.le_refl _)) rfl rfl⟩
    exact ⟨Heap.get?_push_size _ rfl, le, its, rv, IsTup.new _ _⟩
  · obtain ⟨its, rv, at_, le⟩ := I.tuple sq
    exact call_tuple_same at_ ⟨.ref p, H, I, rfl, q⟩
/-- t.count(k) of such a tuple -/
def tTCnt (K : PySem.W.Frag) (to : TE) (t : TA) : TE := fun σ H Q => to σ H fun x H1 => (∃ a ob vs, x = .ref a ∧ H1 a = some (.frz ob (.tup vs)) ∧ ob.cls = .type "tuple" ∧ ob.dict = none) ∧ t σ H1 fun xs H2 => rCntT K x xs H2 Q
theorem pe_tcnt {o e : Expr} {to : TE} {t : TA} {apos cpos : Pos} (ho : PE X o to) (ha : PA X [e] t) (hb : attributeBase o "count" X.env (eval o X.env) = eval o X.env)
    (hf : ((backTo cpos (starEach [e] X.env)).all (fun x => !x.1) && (backToKw cpos (keywordEach [] X.env)).all (fun x => x.1.isSome) && decide (([e] : List Expr).length + ([] : List Keyword).length + (if ([] : List Keyword).isEmpty then 0 else 1) < 30)) = true)
    (hl : (apos.endLine == cpos.line) = true) (hs : starEach [e] X.env = (false, eval e X.env) :: starEach [] X.env) : PE X (.Call (.Attribute o "count" apos) [e] [] cpos) (tTCnt X.K to t) := by
  constructor
  intro pins s σ H Q I q0
  refine wpAny_Call_method_late hb hf hl rfl (thn (ho.run pins s σ H _ I q0) fun v s1 z => ?_)
  obtain ⟨x, H1, I1, r1, ⟨a, ob, vs, ex, ea, oc, od⟩, q1⟩ := z
  subst ex
  cases r1
  have hg : s1.heap.get? a = some ob := (show ObjOk X.prog X.w H1 s1.heap a (.frz ob (.tup vs)) from I1.hok a _ ea).1
  refine ⟨"tuple", "tuple.count", PySem.F.plainAttrs_tuple, PySem.F.slot_tuple_count, PySem.F.type_tuple_count, ⟨ob, hg, oc⟩, fun b eb => ?_, ?_⟩
  · cases eb
    exact ⟨ob, hg, od⟩
  · have hA := ha.run cpos pins s1 σ H1 _ I1 q1
    rw [hs] at hA ⊢
    refine Calls.callWith_builtin rfl (Calls.evalArgs_plain ?_)
    exact thn hA fun us s2 z => let ⟨vs2, H2, I2, r2, q2⟩ := z; mt_tcount pins s2 σ H2 (.ref a) vs2 (.ref a) us Q I2 rfl r2 q2
end
end Hs
set_option Elab.async false
set_option linter.all false
set_option maxRecDepth 100000
set_option maxHeartbeats 2000000
/-! Mini against the model: operations by their rules. -/
namespace Mini
open PySem PySem.Spec PyProof.Rows L2

/-- what is fixed through the whole law -/
structure Base (X : Cx) : Prop where
  guards : X.A.guards = some []
  un : X.A.units + 200 < cLine
  sysm : ∃ o es ep, X.base.get? sysModules = some o ∧ o.data = .dict es ep

section
variable {N : Nm} {X : Cx} {ρ : List Addr} {H : L2.Hp} {h : MH} {Q : VK}
abbrev NoW : Value → Option Addr → L2.Hp → Prop := fun _ _ _ => False
theorem Post.val {w : Val} {v : V} (p : Post N X.K ρ H NoW (VR N X.K) (.ok w h) Q) (rh : RelH N X.K ρ h H) (rv : VR N X.K ρ H w v) : Q v H := p ρ H v Ext.refl rh rv
theorem Post.newTup {ws : List Val} {vs : List V} {a : Addr} (p : Post N X.K ρ H NoW (VR N X.K) (.ok (.tup ws) h) Q) (rh : RelH N X.K ρ h H) (hp : H a = none) (r : VRs N X.K ρ H ws vs) (dd : ws.all dat = true) : Q (.ref a) (upd H a (.tup vs)) := by
  refine p ρ _ _ (Ext.newT hp) (rh.newT hp) ?_
  simp only [VR]
  exact ⟨a, vs, rfl, .inl ⟨.inl upd_same, rh.notin hp⟩, r.mono (Ext.newT hp), dd⟩
theorem Post.newLst {ws : List Val} {vs : List V} {a : Addr} {w : Val} {h' : MH} (p : Post N X.K ρ H NoW (VR N X.K) (.ok w h') Q) (e : alloc h (.lst ws) = some (w, h')) (rh : RelH N X.K ρ h H) (hp : H a = none) (r : VRs N X.K ρ H ws vs) (dd : ws.all dat = true) : Q (.ref a) (upd H a (.lst vs)) := by
  cases e
  refine p (ρ ++ [a]) _ _ (Ext.new hp) (rh.new hp ?_) (VR.newRef rh)
  simp only [OR]
  exact ⟨vs, upd_same, r.mono (Ext.new hp), dd⟩
theorem guardO_some {α : Type} {c : Bool} {r : Option α} {x : α} (e : guardO c r = some x) : c = true ∧ r = some x := by
  unfold guardO at e
  split at e
  · rename_i z
    exact ⟨z, e⟩
  · cases e
/-- an operation's outcome that is one -/
theorem ofOpt_ok {r : Opt} (p : Post N X.K ρ H NoW (VR N X.K) (ofOpt r) Q) : ∃ w h', r = some (w, h') ∧ Post N X.K ρ H NoW (VR N X.K) (.ok w h') Q := by
  cases r with
  | none => exact p.elim
  | some q => exact ⟨q.1, q.2, rfl, p⟩
theorem guard_post {c : Bool} {r : Opt} (p : Post N X.K ρ H NoW (VR N X.K) (ofOpt (guardO c r)) Q) : c = true ∧ Post N X.K ρ H NoW (VR N X.K) (ofOpt r) Q := by
  unfold guardO at p
  split at p
  · rename_i z
    exact ⟨z, p⟩
  · exact p.elim
theorem fits_le {n : Nat} (h : fits n = true) : n ≤ sizeLine := of_decide_eq_true h

theorem guard_inv {α : Type} {c : Bool} {r : Option α} {x : α} (e : guardO c r = some x) : c = true ∧ r = some x := guardO_some e

theorem o_add : OpR X (binaryOp .Add) (sO2 N X.K fun h a b => ofOpt (opAdd h a b)) := by
  intro pins s σ H x y v u Q I rx ry q
  obtain ⟨ρ, h, wx, wy, rh, r1, r2, p0⟩ := q
  obtain ⟨w, h', e, p⟩ := ofOpt_ok p0
  clear p0
  unfold opAdd at e
  split at e
  · simp only [VR] at r1 r2
    subst r1 r2
    cases e
    exact op_add pins s σ H _ _ v u Q I rx ry ⟨_, _, rfl, rfl, p.val rh (by simp only [VR])⟩
  · simp only [VR] at r1 r2
    subst r1 r2
    obtain ⟨z, e⟩ := guardO_some e
    cases e
    exact op_add_str pins s σ H _ _ v u Q I rx ry ⟨_, _, rfl, rfl, fits_le z, p.val rh (by simp only [VR])⟩
  · simp only [VR] at r1 r2
    obtain ⟨a, vs, e1, t1, q1, d1⟩ := r1
    obtain ⟨b, us, e2, t2, q2, d2⟩ := r2
    obtain ⟨z, e⟩ := guardO_some e
    cases e
    refine op_catA pins s σ H x y v u Q I rx ry ⟨a, b, vs, us, e1, e2, t1.sq, t2.sq, by rw [q1.length, q2.length]; exact fits_le z, fun e => ?_, fun _ e => ?_, fun _ _ l hl => ?_⟩
    · subst e
      have := q1.length
      obtain rfl := List.eq_nil_of_length_eq_zero this.symm
      refine p.val rh ?_
      simp only [VR]
      exact ⟨b, us, rfl, t2, q2, d2⟩
    · subst e
      have := q2.length
      obtain rfl := List.eq_nil_of_length_eq_zero this.symm
      refine p.val rh ?_
      simp only [VR, List.append_nil]
      exact ⟨a, vs, rfl, t1, q1, d1⟩
    · exact p.newTup rh hl (q1.append q2) (by rw [List.all_append, d1, d2]; rfl)
  · rename_i i j
    split at e
    · rename_i xs ys e1 e2
      obtain ⟨z, e⟩ := guardO_some e
      simp only [VR] at r1 r2
      obtain ⟨a, a1, a2⟩ := r1
      obtain ⟨b, b1, b2⟩ := r2
      obtain ⟨a', a3, q1⟩ := rh.at_ e1
      obtain ⟨b', b3, q2⟩ := rh.at_ e2
      rw [a1] at a3
      rw [b1] at b3
      cases a3
      cases b3
      simp only [OR] at q1 q2
      obtain ⟨vs, h1, g1, d1⟩ := q1
      obtain ⟨us, h2, g2, d2⟩ := q2
      exact op_cat pins s σ H x y v u Q I rx ry ⟨a, b, vs, us, a2, b2, h1, h2, by rw [g1.length, g2.length]; exact fits_le z, fun l hl => p.newLst e rh hl (g1.append g2) (by rw [List.all_append, d1, d2]; rfl)⟩
    · cases e
  · cases e
/-- two ints in -/
theorem o_int {f : Value → Value → Sem Value} {Cd : Int → Int → Prop} {g : Int → Int → V} {g' : Int → Int → Val} {op : MH → Val → Val → Opt} (rule : OpR X f (rI Cd g))
    (inv : ∀ h a b w h', op h a b = some (w, h') → ∃ i j, a = .int i ∧ b = .int j ∧ Cd i j ∧ w = g' i j ∧ h' = h) (hg : ∀ i j ρ H, VR N X.K ρ H (g' i j) (g i j)) : OpR X f (sO2 N X.K fun h a b => ofOpt (op h a b)) := by
  intro pins s σ H x y v u Q I rx ry q
  obtain ⟨ρ, h, wx, wy, rh, r1, r2, p0⟩ := q
  obtain ⟨w, h', e, p⟩ := ofOpt_ok p0
  clear p0
  obtain ⟨i, j, rfl, rfl, c, rfl, rfl⟩ := inv _ _ _ _ _ e
  simp only [VR] at r1 r2
  subst r1 r2
  exact rule pins s σ H _ _ v u Q I rx ry ⟨i, j, rfl, rfl, c, p.val rh (hg _ _ _ _)⟩
theorem rI_of {f : Value → Value → Sem Value} {g : Int → Int → V} (r : OpR X f (rI0 g)) : OpR X f (rI (fun _ _ => True) g) := fun pins s σ H x y v u Q I rx ry ⟨i, j, e1, e2, _, q⟩ => r pins s σ H x y v u Q I rx ry ⟨i, j, e1, e2, q⟩
theorem o_sub : OpR X (binaryOp .Sub) (sO2 N X.K fun h a b => ofOpt (opSub h a b)) := by
  refine o_int (g' := fun i j => .int (i - j)) (rI_of op_sub) (fun h a b w h' e => ?_) fun i j ρ H => by simp only [VR]
  unfold opSub at e
  split at e
  · cases e
    exact ⟨_, _, rfl, rfl, trivial, rfl, rfl⟩
  · cases e
theorem VRs.rep {xs : List Val} {vs : List V} (r : VRs N X.K ρ H xs vs) : ∀ k : Nat, VRs N X.K ρ H (List.replicate k xs).flatten (List.replicate k vs).flatten
  | 0 => by simp [VRs]
  | k + 1 => by
    rw [List.replicate_succ, List.replicate_succ, List.flatten_cons, List.flatten_cons]
    exact r.append (VRs.rep r k)
theorem all_rep {p : Val → Bool} {xs : List Val} (h : xs.all p = true) : ∀ k : Nat, (List.replicate k xs).flatten.all p = true
  | 0 => rfl
  | k + 1 => by
    rw [List.replicate_succ, List.flatten_cons, List.all_append, h, all_rep h k]
    rfl
theorem o_mul : OpR X (binaryOp .Mult) (sO2 N X.K fun h a b => ofOpt (opMul h a b)) := by
  intro pins s σ H x y v u Q I rx ry q
  obtain ⟨ρ, h, wx, wy, rh, r1, r2, p0⟩ := q
  obtain ⟨w, h', e, p⟩ := ofOpt_ok p0
  clear p0
  unfold opMul at e
  split at e
  · obtain ⟨z, e⟩ := guardO_some e
    cases e
    simp only [VR] at r1 r2
    subst r1 r2
    refine op_mul pins s σ H _ _ v u Q I rx ry ⟨_, _, rfl, rfl, ?_, p.val rh (by simp only [VR])⟩
    simp only [lim64, Bool.or_eq_true, Bool.and_eq_true, decide_eq_true_eq] at z
    exact z
  · obtain ⟨z, e⟩ := guardO_some e
    cases e
    rename_i xs k
    simp only [Bool.and_eq_true, decide_eq_true_eq] at z
    obtain ⟨z2, z3, z4⟩ := z
    simp only [VR] at r1 r2
    subst r2
    have r1' := r1
    obtain ⟨a, vs, rfl, t, g, dd⟩ := r1
    have nilv : vs = [] → xs = [] := fun z => by
      have := g.length
      rw [z] at this
      exact List.eq_nil_of_length_eq_zero this.symm
    refine Hs.op_repA pins s σ H _ _ v u Q I rx ry ⟨a, _, vs, rfl, rfl, t.sq, z2, z3, by rw [g.length]; exact z4, fun hk => ?_, fun _ hk l hl => ?_, fun _ _ l hl => p.newTup rh hl (VRs.rep g _) (all_rep dd _)⟩
    · have ef : (List.replicate k.toNat xs).flatten = xs := by
        rcases hk with hk | hk
        · rw [nilv hk]
          simp
        · rw [hk]
          simp [List.replicate]
      rw [ef] at p
      exact p.val rh (by simp only [VR]; exact r1')
    · have ef : (List.replicate k.toNat xs).flatten = [] := by
        rw [Int.toNat_of_nonpos hk]
        rfl
      rw [ef] at p
      exact p.newTup rh hl (by simp only [VRs]) rfl
  · cases e
/-- the same of integers alone -/
theorem o_opin {f : Int → Int → Int} {oper : Value → Value → Sem Value} (rule : OpR X oper (rI (fun i j => lim64 i = true ∨ lim64 j = true) fun i j => .int (f i j))) : OpR X oper (sO2 N X.K fun h a b => ofOpt (opIn f h a b)) := by
  refine o_int (g' := fun i j => .int (f i j)) rule (fun h a b w h' e => ?_) fun i j ρ H => by simp only [VR]
  unfold opIn at e
  split at e
  · obtain ⟨z, e⟩ := guardO_some e
    cases e
    rw [Bool.or_eq_true] at z
    exact ⟨_, _, rfl, rfl, z, rfl, rfl⟩
  · cases e
theorem o_fdiv : OpR X (binaryOp .FloorDiv) (sO2 N X.K fun h a b => ofOpt (opFdiv h a b)) := by
  refine o_int (g' := fun i j => .int (i / j)) op_fdiv (fun h a b w h' e => ?_) fun i j ρ H => by simp only [VR]
  unfold opFdiv at e
  split at e
  · obtain ⟨z, e⟩ := guardO_some e
    cases e
    refine ⟨_, _, rfl, rfl, ?_, rfl, rfl⟩
    simp only [Bool.and_eq_true, decide_eq_true_eq] at z
    exact z
  · cases e
theorem o_mod : OpR X (binaryOp .Mod) (sO2 N X.K fun h a b => ofOpt (opMod h a b)) := by
  refine o_int (g' := fun i j => .int (i % j)) op_mod (fun h a b w h' e => ?_) fun i j ρ H => by simp only [VR]
  unfold opMod at e
  split at e
  · obtain ⟨z, e⟩ := guardO_some e
    cases e
    exact ⟨_, _, rfl, rfl, of_decide_eq_true z, rfl, rfl⟩
  · cases e
theorem o_pow : OpR X (binaryOp .Pow) (sO2 N X.K fun h a b => ofOpt (opPow h a b)) := by
  refine o_int (g' := fun i j => .int (i ^ j.toNat)) op_pow (fun h a b w h' e => ?_) fun i j ρ H => by simp only [VR]
  unfold opPow at e
  split at e
  · obtain ⟨z, e⟩ := guardO_some e
    cases e
    refine ⟨_, _, rfl, rfl, ?_, rfl, rfl⟩
    simp only [Bool.and_eq_true, decide_eq_true_eq] at z
    exact z
  · cases e
def bopOf : BOp → Operator
  | .add => .Add
  | .sub => .Sub
  | .mul => .Mult
  | .fdiv => .FloorDiv
  | .mod => .Mod
  | .pow => .Pow
  | .iadd => .Add
  | .isub => .Sub
  | .imul => .Mult
theorem o_bop : ∀ o : BOp, OpR X (binaryOp (bopOf o)) (sO2 N X.K fun h a b => ofOpt (bop o h a b))
  | .add => o_add
  | .sub => o_sub
  | .mul => o_mul
  | .fdiv => o_fdiv
  | .mod => o_mod
  | .pow => o_pow
  | .iadd => o_opin fun pins s σ H x y v u Q I rx ry ⟨i, j, e1, e2, _, q⟩ => op_add pins s σ H x y v u Q I rx ry ⟨i, j, e1, e2, q⟩
  | .isub => o_opin fun pins s σ H x y v u Q I rx ry ⟨i, j, e1, e2, _, q⟩ => op_sub pins s σ H x y v u Q I rx ry ⟨i, j, e1, e2, q⟩
  | .imul => o_opin fun pins s σ H x y v u Q I rx ry ⟨i, j, e1, e2, c, q⟩ => op_mul pins s σ H x y v u Q I rx ry ⟨i, j, e1, e2, by
      unfold CMul
      simpa only [lim64, Bool.and_eq_true, decide_eq_true_eq] using c, q⟩

/-! ### plain data -/
theorem Post.noexc {r : Option (Val × MH)} (p : Post N X.K ρ H NoW (VR N X.K) (ofOpt r) Q) : ∃ q, r = some q := by
  cases r with
  | none => exact p.elim
  | some q => exact ⟨q, rfl⟩
theorem depthAll_le {n : Nat} : ∀ {ds : List PyData}, (∀ d ∈ ds, d.depth ≤ n) → PyData.depthAll ds ≤ n
  | [], _ => by simp [PyData.depthAll]
  | d :: ds, hd => by
    have h1 := hd d List.mem_cons_self
    have h2 := depthAll_le (n := n) (ds := ds) fun e he => hd e (List.mem_cons_of_mem _ he)
    simp only [PyData.depthAll]
    omega
section
variable {pins : List (Addr × PySem.Obj)} {σ : L2.St} {s : Shared}
theorem trk_nosys (B : Base X) (I : Inv X pins σ H s) {a : Addr} {o : HO} (e : H a = some o) : a ≠ sysModules := fun z => by
  obtain ⟨ob, es, ep, h1, _⟩ := B.sysm
  have h2 := (I.bs _ _ h1).2
  rw [← z, e] at h2
  cases h2
theorem list_nosys (B : Base X) (I : Inv X pins σ H s) {a : Addr} {o : PySem.Obj} {its : Array Value} {n : Nat} (e : s.heap.get? a = some o) (d : o.data = .seq its n) : a ≠ sysModules := fun z => by
  obtain ⟨ob, es, ep, h1, h2⟩ := B.sysm
  have h3 := (I.bs _ _ h1).1
  rw [← z, e] at h3
  cases h3
  rw [h2] at d
  cases d
/-- a list of values reads as data, if each item does -/
theorem reads_all (P : Val → PyData → Prop) {n : Nat} {f : Val → Option PyData} (hP : ∀ x d, f x = some d → ∀ v u, VR N X.K ρ H x v → RelV v u → ∃ as, Reads s.heap u d as ∧ sysModules ∉ as ∧ d.depth ≤ n) :
    ∀ (xs : List Val) (ds : List PyData), xs.mapM f = some ds → ∀ (vs : List V) (us : List Value), VRs N X.K ρ H xs vs → Vals vs us → ∃ as, ReadsAll s.heap us ds as ∧ sysModules ∉ as ∧ ∀ d ∈ ds, d.depth ≤ n
  | [], ds, e, vs, us, r, q => by
    simp at e
    subst e
    simp only [VRs] at r
    subst r
    cases q
    exact ⟨[], .nil, by simp, by simp⟩
  | x :: xs, ds, e, vs, us, r, q => by
    simp only [VRs] at r
    obtain ⟨v, r', rfl, h1, h2⟩ := r
    cases q with
    | cons q1 q2 =>
      rw [List.mapM_cons] at e
      cases hx : f x with
      | none =>
        rw [hx] at e
        cases e
      | some d =>
        rw [hx] at e
        cases hxs : xs.mapM f with
        | none =>
          rw [hxs] at e
          cases e
        | some ds' =>
          rw [hxs] at e
          cases e
          obtain ⟨as, a1, a2, a3⟩ := hP x d hx _ _ h1 q1
          obtain ⟨bs, b1, b2, b3⟩ := reads_all P hP xs ds' hxs _ _ h2 q2
          refine ⟨as ++ bs, .cons a1 b1, fun hm => ?_, fun e he => ?_⟩
          · rcases List.mem_append.mp hm with z | z
            · exact a2 z
            · exact b2 z
          · rcases List.mem_cons.mp he with z | z
            · rw [z]
              exact a3
            · exact b3 e z
end
end
end Mini
set_option Elab.async false
set_option linter.all false
set_option maxRecDepth 100000
set_option maxHeartbeats 2000000
/-! Mini against the model: comparisons, items, built-ins. -/
namespace Mini
open PySem PySem.Spec PyProof.Rows L2
section
variable {N : Nm} {X : Cx} {ρ : List Addr} {H : L2.Hp} {h : MH} {Q : VK}
section
variable {pins : List (Addr × PySem.Obj)} {σ : L2.St} {s : Shared}
theorem map_some {α β : Type} {o : Option α} {f : α → β} {y : β} (e : o.map f = some y) : ∃ x, o = some x ∧ f x = y := by
  cases o with
  | none => cases e
  | some x => exact ⟨x, rfl, Option.some.inj e⟩
theorem bind_some {α β : Type} {o : Option α} {f : α → Option β} {y : β} (e : o.bind f = some y) : ∃ x, o = some x ∧ f x = some y := by
  cases o with
  | none => cases e
  | some x => exact ⟨x, rfl, e⟩
theorem key_reads {k : Key} {x : Val} {u : Value} {n : Nat} {d : PyData} (kr : KR x k) (ku : keyIs k u = true) (e : toD h n x = some d) : Reads s.heap u d [] ∧ d.depth = 0 := by
  rcases keyIs_shape ku with ⟨i, t, rfl, rfl⟩ | ⟨z, t, rfl, rfl⟩
  · cases x with
    | int j =>
      simp only [KR] at kr
      cases kr
      cases n with
      | zero => cases e
      | succ n =>
        cases e
        exact ⟨.int _ _, by simp [PyData.depth]⟩
    | str z =>
      simp only [KR] at kr
      cases kr
    | _ => simp only [KR] at kr
  · cases x with
    | int j =>
      simp only [KR] at kr
      cases kr
    | str z =>
      simp only [KR] at kr
      cases kr
      cases n with
      | zero => cases e
      | succ n =>
        cases e
        exact ⟨.str _ _, by simp [PyData.depth]⟩
    | _ => simp only [KR] at kr
theorem keys_reads {n : Nat} : ∀ (kvs : List (Val × Val)) (kv : List (Key × V)) (vs : List (Key × Value)) (es : List DictEntry) (ks : List PyData), DR N X.K ρ H kvs kv → KV kv vs → Pairs (mixKind X.prog X.w) es vs →
    (kvs.map (·.1)).mapM (toD h n) = some ks → ReadsAll s.heap (es.map (·.key)) ks [] ∧ (∀ d ∈ ks, d.depth = 0) ∧ VRs N X.K ρ H (kvs.map (·.2)) (kv.map (·.2)) ∧ Vals (kv.map (·.2)) (es.map (·.val)) ∧ ks.length = kvs.length
  | [], kv, vs, es, ks, r, q, p, e => by
    simp only [DR] at r
    subst r
    cases q
    cases p
    simp at e
    subst e
    exact ⟨.nil, by simp, by simp [VRs], .nil, rfl⟩
  | z :: kvs, kv, vs, es, ks, r, q, p, e => by
    simp only [DR] at r
    obtain ⟨k, v, r', rfl, h1, h2, dd, h3⟩ := r
    cases q with
    | cons q1 q2 =>
      cases p with
      | cons p1 p2 p3 =>
        rw [List.map_cons, List.mapM_cons] at e
        cases hx : toD h n z.1 with
        | none =>
          rw [hx] at e
          cases e
        | some d =>
          rw [hx] at e
          cases hxs : (kvs.map (·.1)).mapM (toD h n) with
          | none =>
            rw [hxs] at e
            cases e
          | some ds =>
            rw [hxs] at e
            cases e
            obtain ⟨a1, a2, a3, a4, a5⟩ := keys_reads kvs r' _ _ ds h3 q2 p3 hxs
            have q1' : k = _ ∧ RelV v _ := q1
            obtain ⟨b1, b2⟩ := key_reads (s := s) h1 (by rw [q1'.1]; exact p1) hx
            refine ⟨.cons b1 a1, fun d' hd => ?_, ?_, ?_, by rw [List.length_cons, List.length_cons, a5]⟩
            · rcases List.mem_cons.mp hd with y | y
              · rw [y]
                exact b2
              · exact a2 d' y
            · show VRs N X.K ρ H (z.2 :: kvs.map (·.2)) (v :: r'.map (·.2))
              simp only [VRs]
              exact ⟨v, _, rfl, h2, a3⟩
            · refine .cons ?_ a4
              show L2.RelV v (DictEntry.val _)
              rw [p2]
              exact q1'.2
theorem zip_fst : ∀ {α β : Type} {a : List α} {b : List β}, a.length = b.length → (a.zip b).map (·.1) = a
  | _, _, [], [], _ => rfl
  | _, _, x :: a, y :: b, e => by
    show x :: (a.zip b).map (·.1) = x :: a
    rw [zip_fst (by simpa using e)]
theorem zip_snd : ∀ {α β : Type} {a : List α} {b : List β}, a.length = b.length → (a.zip b).map (·.2) = b
  | _, _, [], [], _ => rfl
  | _, _, x :: a, y :: b, e => by
    show y :: (a.zip b).map (·.2) = y :: b
    rw [zip_snd (by simpa using e)]
theorem mapM_len {α β : Type} {f : α → Option β} : ∀ {xs : List α} {ys : List β}, xs.mapM f = some ys → ys.length = xs.length
  | [], ys, e => by
    simp at e
    subst e
    rfl
  | x :: xs, ys, e => by
    rw [List.mapM_cons] at e
    cases hx : f x with
    | none =>
      rw [hx] at e
      cases e
    | some d =>
      rw [hx] at e
      cases hxs : xs.mapM f with
      | none =>
        rw [hxs] at e
        cases e
      | some ds =>
        rw [hxs] at e
        cases e
        rw [List.length_cons, List.length_cons, mapM_len hxs]
theorem depthKv_le {n : Nat} : ∀ (ks vs : List PyData), ks.length = vs.length → (∀ d ∈ ks, d.depth ≤ n) → (∀ d ∈ vs, d.depth ≤ n) → PyData.depthKv (ks.zip vs) ≤ n
  | [], [], _, _, _ => by simp [PyData.depthKv]
  | k :: ks, v :: vs, e, a, b => by
    have h1 := a k List.mem_cons_self
    have h2 := b v List.mem_cons_self
    have h3 := depthKv_le (n := n) ks vs (by simpa using e) (fun d hd => a d (List.mem_cons_of_mem _ hd)) fun d hd => b d (List.mem_cons_of_mem _ hd)
    show PyData.depthKv ((k, v) :: ks.zip vs) ≤ n
    simp only [PyData.depthKv]
    omega
/-- a value reads as its data -/
theorem toD_reads (B : Base X) (I : Inv X pins σ H s) (rh : RelH N X.K ρ h H) : ∀ (n : Nat) (x : Val) (d : PyData), toD h n x = some d → ∀ v u, VR N X.K ρ H x v → RelV v u → ∃ as, Reads s.heap u d as ∧ sysModules ∉ as ∧ d.depth ≤ n
  | 0, x, d, e, v, u, rv, ru => by cases e
  | n + 1, x, d, e, v, u, rv, ru => by
    have ih := toD_reads B I rh n
    cases x with
    | non =>
      cases e
      simp only [VR] at rv
      subst rv
      cases ru
      exact ⟨[], .none, by simp, by simp [PyData.depth]⟩
    | bl b =>
      cases e
      simp only [VR] at rv
      subst rv
      cases ru
      exact ⟨[], .bool _, by simp, by simp [PyData.depth]⟩
    | int i =>
      cases e
      simp only [VR] at rv
      subst rv
      obtain ⟨t, rfl⟩ := ru
      exact ⟨[], .int _ _, by simp, by simp [PyData.depth]⟩
    | str z =>
      cases e
      simp only [VR] at rv
      subst rv
      obtain ⟨t, rfl⟩ := ru
      exact ⟨[], .str _ _, by simp, by simp [PyData.depth]⟩
    | tup xs =>
      simp only [VR] at rv
      obtain ⟨a, vs, rfl, t, r, dd⟩ := rv
      cases ru
      obtain ⟨ds, e1, rfl⟩ := map_some e
      obtain ⟨its, q, ⟨o, g1, g2, m, g3⟩, _⟩ := I.tuple t.sq
      obtain ⟨as, b1, b2, b3⟩ := reads_all (fun _ _ => True) (fun y c hc v u r1 r2 => ih y c hc v u r1 r2) xs ds e1 vs its r q
      refine ⟨as, .tuple g1 g2 g3 (by simpa using b1), b2, ?_⟩
      have := depthAll_le b3
      simp only [PyData.depth]
      omega
    | fl xs =>
      simp only [VR] at rv
      obtain ⟨a, vs, rfl, t, r, dd⟩ := rv
      cases ru
      obtain ⟨ds, e1, rfl⟩ := map_some e
      obtain ⟨its, q, ⟨o, m, g1, g2, _, g3⟩, _⟩ := I.list t.sq
      obtain ⟨as, b1, b2, b3⟩ := reads_all (fun _ _ => True) (fun y c hc v u r1 r2 => ih y c hc v u r1 r2) xs ds e1 vs its r q
      refine ⟨a :: as, .list g1 g2 g3 (by simpa using b1), fun hm => ?_, ?_⟩
      · rcases List.mem_cons.mp hm with z | z
        · exact list_nosys B I g1 g3 z.symm
        · exact b2 z
      · have := depthAll_le b3
        simp only [PyData.depth]
        omega
    | ref i =>
      simp only [VR] at rv
      obtain ⟨a, e0, rfl⟩ := rv
      cases ru
      obtain ⟨o, e3, q⟩ := rh.some_ e0
      simp only [toD, e3] at e
      cases o with
      | lst xs =>
        obtain ⟨ds, e1, rfl⟩ := map_some e
        simp only [OR] at q
        obtain ⟨vs, h1, r, dd⟩ := q
        obtain ⟨its, q, ⟨o, m, g1, g2, _, g3⟩, _⟩ := I.list (SqL.of h1)
        obtain ⟨as, b1, b2, b3⟩ := reads_all (fun _ _ => True) (fun y c hc v u r1 r2 => ih y c hc v u r1 r2) xs ds e1 vs its r q
        refine ⟨a :: as, .list g1 g2 g3 (by simpa using b1), fun hm => ?_, ?_⟩
        · rcases List.mem_cons.mp hm with z | z
          · exact trk_nosys B I h1 z.symm
          · exact b2 z
        · have := depthAll_le b3
          simp only [PyData.depth]
          omega
      | dic kvs =>
        obtain ⟨ks, e1, e2⟩ := bind_some e
        obtain ⟨ds, e4, rfl⟩ := map_some e2
        simp only [OR] at q
        obtain ⟨kv, h1, r⟩ := q
        obtain ⟨_, _, vs, q1, o, es, ep, g1, g2, g3, _, g4, _⟩ := dk_of I.hok h1
        obtain ⟨a1, a2, a3, a4, a5⟩ := keys_reads (s := s) kvs kv vs es.toList ks r q1 g4 e1
        obtain ⟨as, b1, b2, b3⟩ := reads_all (fun _ _ => True) (fun y c hc v u r1 r2 => ih y c hc v u r1 r2) _ ds e4 _ _ a3 a4
        have hl : ks.length = ds.length := by rw [a5, mapM_len e4, List.length_map]
        refine ⟨a :: [] ++ as, .dict g1 g2.1 g3 (by rw [zip_fst hl]; exact a1) (by rw [zip_snd hl]; exact b1), fun hm => ?_, ?_⟩
        · rcases List.mem_cons.mp hm with z | z
          · exact trk_nosys B I h1 z.symm
          · exact b2 z
        · have := depthKv_le (n := n) ks ds hl (fun d hd => by rw [a2 d hd]; exact Nat.zero_le _) b3
          simp only [PyData.depth]
          omega
      | _ => cases e
    | _ => cases e
end

/-! ### comparisons -/
theorem eqV_inv {a b : Val} {r : Bool} (e : eqV h a b = some r) : ∃ d f, toD h 60 a = some d ∧ toD h 60 b = some f ∧ SeqAt.shaped d = true ∧ SeqAt.shaped f = true ∧ r = PyData.eqv d f := by
  unfold eqV at e
  obtain ⟨d, e1, e⟩ := bind_some e
  obtain ⟨f, e2, e⟩ := bind_some e
  obtain ⟨z, e⟩ := guardO_some e
  rw [Bool.and_eq_true] at z
  exact ⟨d, f, e1, e2, z.1, z.2, (Option.some.inj e).symm⟩
theorem ofVal_ok {α : Type} {r : Option α} {rel : List Addr → L2.Hp → α → V → Prop} (p : Post N X.K ρ H NoW rel (ofVal r h) Q) : ∃ w, r = some w ∧ Post N X.K ρ H NoW rel (.ok w h) Q := by
  cases r with
  | none => exact p.elim
  | some q => exact ⟨q, rfl, p⟩
/-- a comparison's outcome -/
theorem o_cmp {f : Value → Value → Sem Value} {c : MH → Val → Val → Option Bool}
    (rule : ∀ (pins : List (Addr × PySem.Obj)) (s : Shared) (σ : L2.St) (H : L2.Hp) (ρ : List Addr) (h : MH) (wx wy : Val) (x y : V) (v u : Value) (r : Bool) (Q : Value → Shared → Prop), Inv X pins σ H s → RelH N X.K ρ h H → VR N X.K ρ H wx x → VR N X.K ρ H wy y →
      L2.RelV x v → L2.RelV y u → c h wx wy = some r → Q (.bool r) s → wpAny (model X.prog X.w) X.A (f v u) Q X.xe s) : OpR X f (sO2 N X.K fun h a b => ofVal ((c h a b).map .bl) h) := by
  intro pins s σ H x y v u Q I rx ry q
  obtain ⟨ρ, h, wx, wy, rh, r1, r2, p0⟩ := q
  obtain ⟨w, e, p⟩ := ofVal_ok p0
  obtain ⟨r, e1, rfl⟩ := map_some e
  exact rule pins s σ H ρ h wx wy x y v u r _ I rh r1 r2 rx ry e1 ⟨.bl r, H, I, rfl, p.val rh (by simp only [VR])⟩
theorem o_eq (B : Base X) : OpR X (compareOp .Eq) (sO2 N X.K fun h a b => ofVal ((eqV h a b).map .bl) h) := by
  refine o_cmp fun pins s σ H ρ h wx wy x y v u r Q I rh r1 r2 rx ry e q => ?_
  obtain ⟨d, f, e1, e2, s1, s2, rfl⟩ := eqV_inv e
  obtain ⟨as, a1, _, _⟩ := toD_reads B I rh 60 wx d e1 x v r1 rx
  obtain ⟨bs, b1, _, _⟩ := toD_reads B I rh 60 wy f e2 y u r2 ry
  exact SeqAt.compareEq_shaped a1 b1 s1 s2 (by have := B.un; omega) q
theorem o_ne (B : Base X) : OpR X (compareOp .NotEq) (sO2 N X.K fun h a b => ofVal (((eqV h a b).map (!·)).map .bl) h) := by
  refine o_cmp fun pins s σ H ρ h wx wy x y v u r Q I rh r1 r2 rx ry e q => ?_
  obtain ⟨b, e0, rfl⟩ := map_some e
  obtain ⟨d, f, e1, e2, s1, s2, rfl⟩ := eqV_inv e0
  obtain ⟨as, a1, _, _⟩ := toD_reads B I rh 60 wx d e1 x v r1 rx
  obtain ⟨bs, b1, _, _⟩ := toD_reads B I rh 60 wy f e2 y u r2 ry
  exact SeqAt.compareNe_shaped a1 b1 s1 s2 (by have := B.un; omega) q
theorem ltV_rule {pins : List (Addr × PySem.Obj)} {s : Shared} {σ : L2.St} {wx wy : Val} {x y : V} {v u : Value} {r : Bool} {Q : Value → Shared → Prop} (I : Inv X pins σ H s) (rh : RelH N X.K ρ h H) (r1 : VR N X.K ρ H wx x) (r2 : VR N X.K ρ H wy y)
    (rx : L2.RelV x v) (ry : L2.RelV y u) (e : ltV h wx wy = some r) (q : Q (.bool r) s) : wpAny (model X.prog X.w) X.A (compareOp .Lt v u) Q X.xe s ∧ wpAny (model X.prog X.w) X.A (compareOp .Gt u v) Q X.xe s := by
  unfold ltV at e
  split at e
  · simp only [VR] at r1 r2
    subst r1 r2
    obtain ⟨t, rfl⟩ := rx
    obtain ⟨t', rfl⟩ := ry
    cases e
    exact ⟨lt_int q, gt_int q⟩
  · cases e
theorem leV_rule {pins : List (Addr × PySem.Obj)} {s : Shared} {σ : L2.St} {wx wy : Val} {x y : V} {v u : Value} {r : Bool} {Q : Value → Shared → Prop} (I : Inv X pins σ H s) (rh : RelH N X.K ρ h H) (r1 : VR N X.K ρ H wx x) (r2 : VR N X.K ρ H wy y)
    (rx : L2.RelV x v) (ry : L2.RelV y u) (e : leV h wx wy = some r) (q : Q (.bool r) s) : wpAny (model X.prog X.w) X.A (compareOp .LtE v u) Q X.xe s ∧ wpAny (model X.prog X.w) X.A (compareOp .GtE u v) Q X.xe s := by
  unfold leV at e
  split at e
  · simp only [VR] at r1 r2
    subst r1 r2
    obtain ⟨t, rfl⟩ := rx
    obtain ⟨t', rfl⟩ := ry
    cases e
    exact ⟨le_int q, ge_int q⟩
  · cases e
theorem o_lt : OpR X (compareOp .Lt) (sO2 N X.K fun h a b => ofVal ((ltV h a b).map .bl) h) := o_cmp fun _ _ _ _ _ _ _ _ _ _ _ _ _ _ I rh r1 r2 rx ry e q => (ltV_rule I rh r1 r2 rx ry e q).1
theorem o_gt : OpR X (compareOp .Gt) (sO2 N X.K fun h a b => ofVal ((ltV h b a).map .bl) h) := o_cmp fun _ _ _ _ _ _ _ _ _ _ _ _ _ _ I rh r1 r2 rx ry e q => (ltV_rule I rh r2 r1 ry rx e q).2
theorem o_le : OpR X (compareOp .LtE) (sO2 N X.K fun h a b => ofVal ((leV h a b).map .bl) h) := o_cmp fun _ _ _ _ _ _ _ _ _ _ _ _ _ _ I rh r1 r2 rx ry e q => (leV_rule I rh r1 r2 rx ry e q).1
theorem o_ge : OpR X (compareOp .GtE) (sO2 N X.K fun h a b => ofVal ((leV h b a).map .bl) h) := o_cmp fun _ _ _ _ _ _ _ _ _ _ _ _ _ _ I rh r1 r2 rx ry e q => (leV_rule I rh r2 r1 ry rx e q).2
theorem isV_rule {pins : List (Addr × PySem.Obj)} {s : Shared} {σ : L2.St} {wx wy : Val} {x y : V} {v u : Value} {r : Bool} {Q Q' : Value → Shared → Prop} (I : Inv X pins σ H s) (r1 : VR N X.K ρ H wx x) (r2 : VR N X.K ρ H wy y)
    (rx : L2.RelV x v) (ry : L2.RelV y u) (e : isV h wx wy = some r) (q : Q (.bool r) s) (q' : Q' (.bool (!r)) s) : wpAny (model X.prog X.w) X.A (compareOp .Is v u) Q X.xe s ∧ wpAny (model X.prog X.w) X.A (compareOp .IsNot v u) Q' X.xe s := by
  cases wy with
  | non =>
    simp only [VR] at r2
    subst r2
    cases ry
    have er : r = (v == Value.none) := by
      rw [rx.none_iff]
      cases wx with
      | non =>
        simp only [VR] at r1
        subst r1
        cases e
        rfl
      | tup xs =>
        simp only [VR] at r1
        obtain ⟨a, vs, rfl, _⟩ := r1
        cases e
        rfl
      | fl xs =>
        simp only [VR] at r1
        obtain ⟨a, vs, rfl, _⟩ := r1
        cases e
        rfl
      | tp xs =>
        simp only [VR] at r1
        obtain ⟨a, vs, rfl, _⟩ := r1
        cases e
        rfl
      | ref i =>
        simp only [VR] at r1
        obtain ⟨a, _, rfl⟩ := r1
        cases e
        rfl
      | exn c fs =>
        simp only [VR] at r1
        obtain ⟨a, d, vs, _, rfl, _⟩ := r1
        cases e
        rfl
      | clo _ _ => simp only [VR] at r1
      | own _ => simp only [VR] at r1
      | _ =>
        simp only [VR] at r1
        subst r1
        cases e
        rfl
    rw [er] at q q'
    exact ⟨is_none_gen q, isnot_none_gen q'⟩
  | bl b =>
    simp only [VR] at r2
    subst r2
    cases ry
    cases wx with
    | bl c =>
      simp only [VR] at r1
      subst r1
      cases rx
      have er : r = (c == b) := by
        cases b <;> cases c <;> (cases e; rfl)
      cases b <;> cases c <;> (subst er; exact ⟨wpAny_pure q, wpAny_pure q'⟩)
    | tup xs =>
      simp only [VR] at r1
      obtain ⟨a, vs, rfl, _⟩ := r1
      cases rx
      cases b <;> (cases e; exact ⟨wpAny_pure q, wpAny_pure q'⟩)
    | fl xs =>
      simp only [VR] at r1
      obtain ⟨a, vs, rfl, _⟩ := r1
      cases rx
      cases b <;> (cases e; exact ⟨wpAny_pure q, wpAny_pure q'⟩)
    | ref i =>
      simp only [VR] at r1
      obtain ⟨a, _, rfl⟩ := r1
      cases rx
      cases b <;> (cases e; exact ⟨wpAny_pure q, wpAny_pure q'⟩)
    | tp xs =>
      simp only [VR] at r1
      obtain ⟨a, vs, rfl, _⟩ := r1
      cases rx
      cases b <;> (cases e; exact ⟨wpAny_pure q, wpAny_pure q'⟩)
    | exn c fs =>
      simp only [VR] at r1
      obtain ⟨a, d, vs, _, rfl, _⟩ := r1
      cases rx
      cases b <;> (cases e; exact ⟨wpAny_pure q, wpAny_pure q'⟩)
    | clo _ _ => simp only [VR] at r1
    | own _ => simp only [VR] at r1
    | int i =>
      simp only [VR] at r1
      subst r1
      obtain ⟨t, rfl⟩ := rx
      cases b <;> (cases e; exact ⟨wpAny_pure q, wpAny_pure q'⟩)
    | str z =>
      simp only [VR] at r1
      subst r1
      obtain ⟨t, rfl⟩ := rx
      cases b <;> (cases e; exact ⟨wpAny_pure q, wpAny_pure q'⟩)
    | _ =>
      simp only [VR] at r1
      subst r1
      cases rx
      cases b <;> (cases e; exact ⟨wpAny_pure q, wpAny_pure q'⟩)
  | _ => cases e
theorem o_is : OpR X (compareOp .Is) (sO2 N X.K fun h a b => ofVal ((isV h a b).map .bl) h) := o_cmp fun _ _ _ _ _ _ _ _ _ _ _ _ _ _ I rh r1 r2 rx ry e q => (isV_rule (Q' := fun _ _ => True) I r1 r2 rx ry e q trivial).1
theorem o_isnot : OpR X (compareOp .IsNot) (sO2 N X.K fun h a b => ofVal (((isV h a b).map (!·)).map .bl) h) := o_cmp fun _ _ _ _ _ _ _ _ _ _ _ _ _ _ I rh r1 r2 rx ry e q => by
  obtain ⟨b, e0, rfl⟩ := map_some e
  exact (isV_rule (Q := fun _ _ => True) I r1 r2 rx ry e0 trivial q).2

/-! ### items -/
/-- a[i] at a built-in's own type -/
theorem tail_of {prog : Program} {w : World} {A : Around} {E : Value → Shared → Prop} {s : Shared} {value slice : Expr} {o i : Value} {T id : String} {R : Value → Shared → Prop} (hT : s.TypeIs o T)
    (hl : typeLookup (.type T) "__getitem__" = pure (some (.builtin id))) (hs : subscripted slice false o i = operate [o, i] (getItem o i)) (g : wpAny (model prog w) A (getItem o i) R E s) :
    wpAny (model prog w) A (subscriptTail value slice o i) R E s := by
  unfold subscriptTail
  rw [getitemInPython_of_ne hT.not_modules]
  refine wpAny_bind (wpAny_bind (wpAny_specialOf hT hl ?_))
  have last : wpAny (model prog w) A (subscripted slice false o i) (fun r s2 => wpAny (model prog w) A (letTemporaryGo value o r >>= fun _ => pure r) R E s2) E s := by
    rw [hs]
    exact wpAny_operating (thn g fun r s2 q => wpAny_bind (wpAny_letTemporaryGo (wpAny_pure q)))
  first
    | exact wpAny_pure (wpAny_bind last)
    | exact wpAny_bind (wpAny_pure (wpAny_bind last))
    | exact wpAny_bind last
/-! ### dicts -/
theorem key_eq {x y : Val} {k l : Key} (a : KR x k) (b : KR y l) : keyEq x y = decide (k = l) := by
  cases x with
  | int i =>
    simp only [KR] at a
    subst a
    cases y with
    | int j =>
      simp only [KR] at b
      subst b
      simp [keyEq]
    | str z =>
      simp only [KR] at b
      subst b
      simp [keyEq]
    | _ => simp only [KR] at b
  | str z =>
    simp only [KR] at a
    subst a
    cases y with
    | int j =>
      simp only [KR] at b
      subst b
      simp [keyEq]
    | str z =>
      simp only [KR] at b
      subst b
      simp [keyEq]
    | _ => simp only [KR] at b
  | _ => simp only [KR] at a
theorem key_of {x : Val} {v : V} (k : keyOk x = true) (r : VR N X.K ρ H x v) : ∃ c, KR x c ∧ v = kV c := by
  cases x with
  | int i =>
    simp only [VR] at r
    exact ⟨.inl i, rfl, r⟩
  | str z =>
    simp only [VR] at r
    exact ⟨.inr z, rfl, r⟩
  | _ => cases k
theorem dget_rel {y : Val} {c : Key} (kr : KR y c) : ∀ {kvs : List (Val × Val)} {kv : List (Key × V)}, DR N X.K ρ H kvs kv → (∀ w, dGet kvs y = some w → ∃ v, valV kv c = some v ∧ VR N X.K ρ H w v) ∧ (dGet kvs y = none → valV kv c = none)
  | [], kv, r => by
    simp only [DR] at r
    subst r
    refine ⟨fun w e => ?_, fun _ => rfl⟩
    cases e
  | p :: kvs, kv, r => by
    simp only [DR] at r
    obtain ⟨k, v, r', rfl, h1, h2, dd, h3⟩ := r
    have ih := dget_rel kr h3
    have q := key_eq h1 kr
    by_cases e : k = c
    · rw [decide_eq_true e] at q
      refine ⟨fun w z => ?_, fun z => ?_⟩
      · simp only [dGet, List.find?_cons, q] at z
        cases z
        exact ⟨v, by simp [valV, e], h2⟩
      · simp only [dGet, List.find?_cons, q] at z
        cases z
    · rw [decide_eq_false e] at q
      have e1 : dGet (p :: kvs) y = dGet kvs y := by simp only [dGet, List.find?_cons, q]
      have e2 : valV ((k, v) :: r') c = valV r' c := by simp [valV, e]
      rw [e1, e2]
      exact ih
theorem dany_rel {y : Val} {c : Key} (kr : KR y c) : ∀ {kvs : List (Val × Val)} {kv : List (Key × V)}, DR N X.K ρ H kvs kv → (kvs.any fun p => keyEq p.1 y) = kv.any fun q => decide (q.1 = c)
  | [], kv, r => by
    simp only [DR] at r
    subst r
    rfl
  | p :: kvs, kv, r => by
    simp only [DR] at r
    obtain ⟨k, v, r', rfl, h1, h2, dd, h3⟩ := r
    rw [List.any_cons, List.any_cons, dany_rel kr h3, key_eq h1 kr]
theorem dmap_rel {y w : Val} {c : Key} {z : V} (kr : KR y c) (rz : VR N X.K ρ H w z) (dw : dat w = true) : ∀ {kvs : List (Val × Val)} {kv : List (Key × V)}, DR N X.K ρ H kvs kv →
    DR N X.K ρ H (kvs.map fun p => if keyEq p.1 y then (p.1, w) else p) (kv.map fun q => if q.1 = c then (q.1, z) else q)
  | [], kv, r => by
    simp only [DR] at r
    subst r
    rfl
  | p :: kvs, kv, r => by
    simp only [DR] at r
    obtain ⟨k, v, r', rfl, h1, h2, dd, h3⟩ := r
    have ih := dmap_rel (w := w) kr rz dw h3
    rw [List.map_cons, List.map_cons, key_eq h1 kr]
    by_cases e : k = c
    · rw [decide_eq_true e, if_pos rfl, if_pos (show (k, v).1 = c from e)]
      simp only [DR]
      exact ⟨k, z, _, rfl, h1, rz, dw, ih⟩
    · rw [decide_eq_false e, if_neg Bool.false_ne_true, if_neg (show ¬ (k, v).1 = c from e)]
      simp only [DR]
      exact ⟨k, v, _, rfl, h1, h2, dd, ih⟩
theorem dapp_rel {y w : Val} {c : Key} {z : V} (kr : KR y c) (rz : VR N X.K ρ H w z) (dw : dat w = true) : ∀ {kvs : List (Val × Val)} {kv : List (Key × V)}, DR N X.K ρ H kvs kv → DR N X.K ρ H (kvs ++ [(y, w)]) (kv ++ [(c, z)])
  | [], kv, r => by
    simp only [DR] at r
    subst r
    show DR N X.K ρ H [(y, w)] [(c, z)]
    simp only [DR]
    exact ⟨c, z, [], rfl, kr, rz, dw, rfl⟩
  | p :: kvs, kv, r => by
    simp only [DR] at r
    obtain ⟨k, v, r', rfl, h1, h2, dd, h3⟩ := r
    show DR N X.K ρ H (p :: (kvs ++ [(y, w)])) ((k, v) :: (r' ++ [(c, z)]))
    simp only [DR]
    exact ⟨k, v, _, rfl, h1, h2, dd, dapp_rel kr rz dw h3⟩
theorem DR.length : ∀ {kvs : List (Val × Val)} {kv : List (Key × V)}, DR N X.K ρ H kvs kv → kv.length = kvs.length
  | [], kv, r => by
    simp only [DR] at r
    subst r
    rfl
  | p :: kvs, kv, r => by
    simp only [DR] at r
    obtain ⟨k, v, r', rfl, h1, h2, dd, h3⟩ := r
    rw [List.length_cons, List.length_cons, DR.length h3]
theorem dput_rel {y w : Val} {c : Key} {z : V} (kr : KR y c) (rz : VR N X.K ρ H w z) (dw : dat w = true) {kvs : List (Val × Val)} {kv : List (Key × V)} (r : DR N X.K ρ H kvs kv) : DR N X.K ρ H (dPut kvs y w) (putK kv c z) := by
  unfold dPut putK
  rw [dany_rel kr r]
  split
  · exact dmap_rel kr rz dw r
  · exact dapp_rel kr rz dw r
theorem dic_at (rh : RelH N X.K ρ h H) {r : Nat} {v : V} (rv : VR N X.K ρ H (.ref r) v) {o : Obj} (e : h[r]? = some o) : ∃ a, ρ[r]? = some a ∧ v = .ref a ∧ OR N X.K ρ H a o := by
  simp only [VR] at rv
  obtain ⟨a, e0, rfl⟩ := rv
  exact ⟨a, e0, rfl, rh.obj r a o e0 e⟩
theorem place_ix (n : Nat) (i : Int) : place n i = ixN n i := rfl
theorem at_rel {xs : List Val} {vs : List V} (r : VRs N X.K ρ H xs vs) {i : Int} {w : Val} (e : ((place xs.length i).bind fun n => xs[n]?) = some w) : ∃ v, atI vs i = some v ∧ VR N X.K ρ H w v := by
  obtain ⟨n, e1, e2⟩ := bind_some e
  obtain ⟨v, g1, g2⟩ := r.get e2
  refine ⟨v, ?_, g2⟩
  unfold atI
  rw [r.length, ← place_ix, e1]
  exact g1
theorem o_ix (B : Base X) : IxR X (sO2 N X.K fun h a b => ofVal (getIx h a b) h) := by
  intro value slice pins s σ H x y v u Q I rx ry q hs
  obtain ⟨ρ, h, wx, wy, rh, r1, r2, p0⟩ := q
  obtain ⟨w, e, p⟩ := ofVal_ok p0
  clear p0
  have seqL : ∀ (xs : List Val) (i : Int) (a : Addr) (vs : List V), x = .ref a → SqL X.K H a vs → VRs N X.K ρ H xs vs → wy = .int i → ((place xs.length i).bind fun n => xs[n]?) = some w → wpAny (model X.prog X.w) X.A (subscriptTail value slice v u) (EP X pins σ Q) X.xe s := by
    intro xs i a vs e1 e2 e3 e4 e5
    subst e4
    obtain ⟨z, g1, g2⟩ := at_rel e3 e5
    simp only [VR] at r2
    exact ix_list value slice pins s σ H x y v u Q I rx ry ⟨a, vs, i, z, e1, r2, e2, g1, p.val rh g2⟩ hs
  cases wx with
  | ref r =>
    cases ho : h[r]? with
    | none =>
      simp only [getIx, ho] at e
      cases e
    | some o =>
      simp only [getIx, ho] at e
      obtain ⟨a, e0, e1, oq⟩ := dic_at rh r1 ho
      cases o with
      | dic kvs =>
        obtain ⟨z, e⟩ := guardO_some e
        simp only [OR] at oq
        obtain ⟨kv, h1, dr⟩ := oq
        obtain ⟨c, kr, ey⟩ := key_of z r2
        obtain ⟨zv, g1, g2⟩ := (dget_rel kr dr).1 w e
        subst e1
        cases rx
        have g : DGet H a y (some zv) := by
          rw [ey, ← g1]
          exact DGet.k h1
        exact tail_of (dict_typeIs I g) PySem.F.slot_dict_getitem.lookup hs (d_getItem (by have := B.un; omega) I g ry fun w' s3 I3 rw' => ⟨zv, H, I3, rw', p.val rh g2⟩)
      | lst xs =>
        simp only [OR] at oq
        obtain ⟨vs, h1, g, dd⟩ := oq
        cases wy with
        | int i => exact seqL xs i a vs e1 (SqL.of h1) g rfl e
        | _ => cases e
      | _ => cases e
  | tup xs =>
    simp only [VR] at r1
    obtain ⟨a, vs, e1, t, g, dd⟩ := r1
    cases wy with
    | int i =>
      obtain ⟨z, g1, g2⟩ := at_rel g e
      simp only [VR] at r2
      exact ix_tup value slice pins s σ H x y v u Q I rx ry ⟨a, vs, i, z, e1, r2, t.sq, g1, p.val rh g2⟩ hs
    | _ => cases e
  | fl xs =>
    simp only [VR] at r1
    obtain ⟨a, vs, e1, t, g, dd⟩ := r1
    cases wy with
    | int i => exact seqL xs i a vs e1 t.sq g rfl e
    | _ => cases e
  | _ => cases e
theorem all_set {x : Val} (dx : dat x = true) : ∀ {xs : List Val} {n : Nat}, xs.all dat = true → (xs.set n x).all dat = true
  | [], n, h => h
  | y :: xs, 0, h => by
    rw [List.all_cons, Bool.and_eq_true] at h
    show (x :: xs).all dat = true
    rw [List.all_cons, dx, h.2]
    rfl
  | y :: xs, n + 1, h => by
    rw [List.all_cons, Bool.and_eq_true] at h
    show (y :: xs.set n x).all dat = true
    rw [List.all_cons, h.1, all_set dx h.2]
    rfl
/-- a[i] = x -/
def sPut (N : Nm) (K : PySem.W.Frag) : TSet := fun o i x H Q => ∃ ρ h wo wi wx h', RelH N K ρ h H ∧ VR N K ρ H wo o ∧ VR N K ρ H wi i ∧ VR N K ρ H wx x ∧ putIx h wo wi wx = some h' ∧ ∀ H', Ext ρ H ρ H' → RelH N K ρ h' H' → Q H'
theorem o_put (B : Base X) : PSet X (sPut N X.K) := by
  intro pins s σ H o i x ov iv u Q I ro ri rx q
  obtain ⟨ρ, h, wo, wi, wx, h', rh, r1, r2, r3, e, k⟩ := q
  cases wo with
  | ref r =>
    cases ho : h[r]? with
    | none =>
      simp only [putIx, ho] at e
      cases e
    | some ob =>
      simp only [putIx, ho] at e
      obtain ⟨a, e0, e1, oq⟩ := dic_at rh r1 ho
      subst e1
      cases ro
      cases ob with
      | dic kvs =>
        obtain ⟨z, e⟩ := guardO_some e
        cases e
        rw [Bool.and_eq_true, Bool.and_eq_true] at z
        simp only [OR] at oq
        obtain ⟨kv, h1, dr⟩ := oq
        obtain ⟨c, kr, ey⟩ := key_of z.1 r2
        have hl : kv.length < sizeLine := by
          have := fits_le z.2.1
          rw [dr.length]
          omega
        have g : DPut H a i x (upd H a (.dK (putK kv c x))) := by
          rw [ey]
          exact DPut.k h1 hl
        refine d_setItem (by have := B.un; omega) I g ri rx fun s2 I2 => ⟨_, I2, k _ (Ext.put e0) (rh.put e0 ?_)⟩
        simp only [OR]
        exact ⟨_, upd_same, (dput_rel kr r3 z.2.2 dr).mono (Ext.put e0)⟩
      | lst xs =>
        simp only [OR] at oq
        obtain ⟨vs, h1, g, dd⟩ := oq
        cases wi with
        | int j =>
          obtain ⟨dx, e⟩ := guardO_some e
          obtain ⟨n, e2, e3⟩ := map_some e
          cases e3
          simp only [VR] at r2
          refine set_list pins s σ H (.ref a) i x _ iv u Q I rfl ri rx ⟨a, vs, j, n, rfl, r2, h1, by rw [g.length, ← place_ix]; exact e2, k _ (Ext.put e0) (rh.put e0 ?_)⟩
          simp only [OR]
          exact ⟨_, upd_same, (g.set n r3).mono (Ext.put e0), all_set dx dd⟩
        | _ => cases e
      | _ => cases e
  | _ => cases e

/-! ### built-ins -/
theorem LenV.seq {x : Val} {v : V} {ys : List Val} (rh : RelH N X.K ρ h H) (r : VR N X.K ρ H x v) (e : isSeq h x = some ys) : LenV X.K v H ys.length := by
  cases x with
  | tup xs =>
    simp only [isSeq, Option.some.injEq] at e
    subst e
    simp only [VR] at r
    obtain ⟨a, vs, rfl, t, g, dd⟩ := r
    exact .inr ⟨vs, t.sq, g.length.symm⟩
  | fl xs =>
    obtain ⟨a, vs, rfl, t, g, dd⟩ := isList_sq rh r (by simpa [isSeq] using e)
    exact .inl ⟨vs, t, g.length.symm⟩
  | ref i =>
    obtain ⟨a, vs, rfl, t, g, dd⟩ := isList_sq rh r (by simpa [isSeq] using e)
    exact .inl ⟨vs, t, g.length.symm⟩
  | _ => cases e
theorem VRs.inv1 {x : Val} {vs : List V} (r : VRs N X.K ρ H [x] vs) : ∃ v, vs = [v] ∧ VR N X.K ρ H x v := by
  simp only [VRs] at r
  obtain ⟨v, r', rfl, h1, h2⟩ := r
  rw [h2]
  exact ⟨v, rfl, h1⟩
theorem VRs.inv2 {x y : Val} {vs : List V} (r : VRs N X.K ρ H [x, y] vs) : ∃ v u, vs = [v, u] ∧ VR N X.K ρ H x v ∧ VR N X.K ρ H y u := by
  simp only [VRs] at r
  obtain ⟨v, r', rfl, h1, u, r'', rfl, h2, h3⟩ := r
  rw [h3]
  exact ⟨v, u, rfl, h1, h2⟩
theorem Vals.one {v : V} {us : List Value} (r : Vals [v] us) : ∃ u, us = [u] ∧ L2.RelV v u := by
  cases r with
  | cons a b =>
    cases b
    exact ⟨_, rfl, a⟩
/-- a call of a built-in by its Mini meaning -/
abbrev sBi (N : Nm) (K : PySem.W.Frag) (f : MH → List Val → Opt) : List V → L2.Hp → VK → Prop := sOs N K fun h xs => ofOpt (f h xs)
theorem b_len : CallR X (.builtin "len") (sBi N X.K biLen) := by
  intro pins s σ H xs us Q I r q
  obtain ⟨ρ, h, ws, rh, rw_, p0⟩ := q
  obtain ⟨w, h', e, p⟩ := ofOpt_ok p0
  clear p0
  unfold biLen at e
  split at e
  · rename_i x
    obtain ⟨v, rfl, rv⟩ := rw_.inv1
    split at e
    · rename_i ys hy
      cases e
      exact call_len pins s σ H _ us Q I r ⟨v, ys.length, rfl, LenV.seq rh rv hy, p.val rh (by simp only [VR])⟩
    · split at e
      · rename_i z _
        obtain ⟨g, e⟩ := guardO_some e
        cases e
        simp only [VR] at rv
        subst rv
        exact call_len pins s σ H _ us Q I r ⟨_, z.length, rfl, ⟨fits_le g, rfl⟩, p.val rh (by simp only [VR])⟩
      · cases e
  · cases e
theorem b_int : CallR X (.type "int") (sBi N X.K biInt) := by
  intro pins s σ H xs us Q I r q
  obtain ⟨ρ, h, ws, rh, rw_, p0⟩ := q
  obtain ⟨w, h', e, p⟩ := ofOpt_ok p0
  clear p0
  unfold biInt at e
  split at e
  · obtain ⟨v, rfl, rv⟩ := rw_.inv1
    simp only [VR] at rv
    subst rv
    cases e
    exact call_int1 pins s σ H _ us Q I r (.inl ⟨_, rfl, p.val rh (by simp only [VR])⟩)
  · obtain ⟨v, rfl, rv⟩ := rw_.inv1
    simp only [VR] at rv
    subst rv
    cases e
    exact call_int1 pins s σ H _ us Q I r (.inr ⟨_, rfl, p.val rh (by simp only [VR])⟩)
  · cases e
theorem isSeq_sq (rh : RelH N X.K ρ h H) {x : Val} {v : V} (r : VR N X.K ρ H x v) {ys : List Val} (e : isSeq h x = some ys) : ∃ a vs, v = .ref a ∧ (SqL X.K H a vs ∨ SqT X.K H a vs) ∧ VRs N X.K ρ H ys vs ∧ ys.all dat = true := by
  cases x with
  | tup xs =>
    simp only [isSeq, Option.some.injEq] at e
    subst e
    simp only [VR] at r
    obtain ⟨a, vs, rfl, t, g, dd⟩ := r
    exact ⟨a, vs, rfl, .inr t.sq, g, dd⟩
  | fl xs =>
    obtain ⟨a, vs, rfl, t, g, dd⟩ := isList_sq rh r (by simpa [isSeq] using e)
    exact ⟨a, vs, rfl, .inl t, g, dd⟩
  | ref i =>
    obtain ⟨a, vs, rfl, t, g, dd⟩ := isList_sq rh r (by simpa [isSeq] using e)
    exact ⟨a, vs, rfl, .inl t, g, dd⟩
  | _ => cases e
theorem b_list : CallR X (.type "list") (sBi N X.K biList) := by
  intro pins s σ H xs us Q I r q
  obtain ⟨ρ, h, ws, rh, rw_, p0⟩ := q
  obtain ⟨w, h', e, p⟩ := ofOpt_ok p0
  clear p0
  unfold biList at e
  split at e
  · obtain ⟨v, rfl, rv⟩ := rw_.inv1
    obtain ⟨ys, hy, e⟩ := bind_some e
    obtain ⟨a, vs, rfl, sq, g, dd⟩ := isSeq_sq rh rv hy
    exact call_list_of pins s σ H _ us Q I r ⟨a, vs, rfl, sq, fun l hl => p.newLst e rh hl g dd⟩
  · cases e
theorem b_tup : CallR X (.type "tuple") (sBi N X.K biTup) := by
  intro pins s σ H xs us Q I r q
  obtain ⟨ρ, h, ws, rh, rw_, p0⟩ := q
  obtain ⟨w, h', e, p⟩ := ofOpt_ok p0
  clear p0
  unfold biTup at e
  split at e
  · rename_i x
    obtain ⟨v, rfl, rv⟩ := rw_.inv1
    obtain ⟨ys, hy, e⟩ := map_some e
    cases e
    have one : ∀ zs, isList h x = some zs → zs = ys → wpAny (model X.prog X.w) X.A (call (.type "tuple") us) (EP X pins σ Q) X.xe s := fun zs hz ez => by
      subst ez
      obtain ⟨a, vs, rfl, sq, g, dd⟩ := isList_sq rh rv hz
      exact call_tuple_of pins s σ H _ us Q I r ⟨a, vs, rfl, .inl ⟨sq, fun l hl => p.newTup rh hl g dd⟩⟩
    cases x with
    | tup zs =>
      cases hy
      have rv' := rv
      simp only [VR] at rv
      obtain ⟨a, vs, rfl, t, _⟩ := rv
      exact call_tuple_of pins s σ H _ us Q I r ⟨a, vs, rfl, .inr ⟨t.sq, p.val rh rv'⟩⟩
    | _ => exact one ys hy rfl
  · cases e
theorem b_repr (B : Base X) : CallR X (.builtin "repr") (sBi N X.K biRepr) := by
  intro pins s σ H xs us Q I r q
  obtain ⟨ρ, h, ws, rh, rw_, p0⟩ := q
  obtain ⟨w, h', e, p⟩ := ofOpt_ok p0
  clear p0
  unfold biRepr at e
  split at e
  · rename_i x
    obtain ⟨v, rfl, rv⟩ := rw_.inv1
    obtain ⟨d, hd, e⟩ := bind_some e
    obtain ⟨z, e⟩ := guardO_some e
    cases e
    rw [Bool.and_eq_true, decide_eq_true_eq] at z
    obtain ⟨u, rfl, ru⟩ := Vals.one r
    obtain ⟨as, rd, na, dp⟩ := toD_reads B I rh 60 x d hd v u rv ru
    have un := B.un
    have fin : ∀ (h' : Heap) (t : Tok) (tk : Nat), (∀ b o, s.heap.get? b = some o → h'.get? b = some o) → EP X pins σ Q (.str d.shown t) { s with heap := h', toks := tk } := fun h' t tk k =>
      ⟨.str d.shown, H, I.kept k, ⟨t, rfl⟩, p.val rh (by simp only [VR])⟩
    cases rd with
    | none => exact P.repr_of_none (fin s.heap _ _ fun _ _ e => e)
    | bool b => exact P.repr_of_bool (fin s.heap _ _ fun _ _ e => e)
    | int i t => exact P.repr_of_int (by simpa [PyData.showable] using z.1) (fin s.heap _ _ fun _ _ e => e)
    | str y t => exact P.repr_of_str (fin s.heap _ _ fun _ _ e => e) (by simpa [PyData.shown] using z.2)
    | list g1 g2 g3 g4 => exact repr_of_reads' (.list g1 g2 g3 g4) z.1 (fun _ => na) B.guards (by omega) (fun _ _ e => e) (fun h' t tk k => fin h' t tk k) z.2
    | tuple g1 g2 g3 g4 => exact repr_of_reads' (.tuple g1 g2 g3 g4) z.1 (fun _ => na) B.guards (by omega) (fun _ _ e => e) (fun h' t tk k => fin h' t tk k) z.2
    | dict g1 g2 g3 g4 g5 => exact repr_of_reads' (.dict g1 g2 g3 g4 g5) z.1 (fun _ => na) B.guards (by omega) (fun _ _ e => e) (fun h' t tk k => fin h' t tk k) z.2
  · cases e
theorem m_append : MtR X "list.append" (fun x xs H Q => ∃ ρ h wo ws, RelH N X.K ρ h H ∧ VR N X.K ρ H wo x ∧ VRs N X.K ρ H ws xs ∧ Post N X.K ρ H NoW (VR N X.K) (ofOpt (mtAppend h wo ws)) Q) := by
  intro pins s σ H x xs v us Q I rx r q
  obtain ⟨ρ, h, wo, ws, rh, ro, rw_, p0⟩ := q
  obtain ⟨w, h', e, p⟩ := ofOpt_ok p0
  clear p0
  unfold mtAppend at e
  split at e
  · rename_i y
    obtain ⟨z, rfl, rz⟩ := rw_.inv1
    split at e
    · rename_i rr
      split at e
      · rename_i ys ho
        obtain ⟨g, e⟩ := guardO_some e
        cases e
        obtain ⟨a, e0, rfl, oq⟩ := dic_at rh ro ho
        simp only [OR] at oq
        obtain ⟨vs, h1, g1, dd⟩ := oq
        rw [Bool.and_eq_true] at g
        refine mt_append pins s σ H _ _ v us Q I rx r ⟨a, vs, z, rfl, rfl, h1, by rw [g1.length]; exact of_decide_eq_true g.1, ?_⟩
        refine p ρ _ _ (Ext.put e0) (rh.put e0 ?_) (by simp only [VR])
        simp only [OR]
        exact ⟨_, upd_same, (g1.append (VRs.one rz)).mono (Ext.put e0), by rw [List.all_append, dd]; simp [g.2]⟩
      · cases e
    · cases e
  · cases e
theorem flat_v {x : Val} {v : V} (r : VR N X.K ρ H x v) (f : flatM x = true) : L2.flatV v = true := by
  cases x <;> first | (cases f; done) | (simp only [VR] at r; subst r; rfl)
theorem eqM_v {x y : Val} {v u : V} (r : VR N X.K ρ H x v) (q : VR N X.K ρ H y u) (f : flatM x = true) (g : flatM y = true) : eqM x y = L2.eqV v u := by
  cases x <;> first | (cases f; done) | (cases y <;> first | (cases g; done) | (simp only [VR] at r q; subst r q; rfl))
theorem flats_v : ∀ {ys : List Val} {vs : List V}, VRs N X.K ρ H ys vs → ys.all flatM = true → vs.all L2.flatV = true
  | [], vs, r, _ => by
    simp only [VRs] at r
    subst r
    rfl
  | y :: ys, vs, r, f => by
    simp only [VRs] at r
    obtain ⟨v, t, rfl, h1, h2⟩ := r
    rw [List.all_cons, Bool.and_eq_true] at f
    rw [List.all_cons, flat_v h1 f.1, flats_v h2 f.2]
    rfl
theorem any_v {x : Val} {v : V} (r : VR N X.K ρ H x v) (fx : flatM x = true) : ∀ {ys : List Val} {vs : List V}, VRs N X.K ρ H ys vs → ys.all flatM = true → (ys.any fun y => eqM y x) = L2.inV v vs
  | [], vs, q, _ => by
    simp only [VRs] at q
    subst q
    rfl
  | y :: ys, vs, q, f => by
    simp only [VRs] at q
    obtain ⟨u, t, rfl, h1, h2⟩ := q
    rw [List.all_cons, Bool.and_eq_true] at f
    have ih := any_v r fx h2 f.2
    unfold L2.inV at ih ⊢
    rw [List.any_cons, List.any_cons, ih, eqM_v h1 r f.1 fx]
theorem in_inv {a b : Val} {r : Bool} (e : inV h a b = some r) : ∃ ys, isSeq h b = some ys ∧ flatM a = true ∧ ys.all flatM = true ∧ r = ys.any fun y => eqM y a := by
  unfold inV at e
  obtain ⟨ys, e1, e⟩ := bind_some e
  obtain ⟨z, e⟩ := guardO_some e
  rw [Bool.and_eq_true] at z
  exact ⟨ys, e1, z.1, z.2, (Option.some.inj e).symm⟩
theorem o_in : OpR X (compareOp .In) (sO2 N X.K fun h a b => ofVal ((inV h a b).map .bl) h) := by
  intro pins s σ H x y v u Q I rx ry q
  obtain ⟨ρ, h, wx, wy, rh, r1, r2, p0⟩ := q
  obtain ⟨w, e, p⟩ := ofVal_ok p0
  clear p0
  obtain ⟨b, e1, rfl⟩ := map_some e
  obtain ⟨ys, hy, f1, f2, rfl⟩ := in_inv e1
  obtain ⟨a, vs, rfl, sq, g, dd⟩ := isSeq_sq rh r2 hy
  refine op_in_seq pins s σ H _ _ v u Q I rx ry ⟨a, vs, rfl, sq, flat_v r1 f1, flats_v g f2, ?_⟩
  rw [if_neg Bool.false_ne_true, ← any_v r1 f1 g f2]
  exact p.val rh (by simp only [VR])
theorem o_notin : OpR X (compareOp .NotIn) (sO2 N X.K fun h a b => ofVal (((inV h a b).map (!·)).map .bl) h) := by
  intro pins s σ H x y v u Q I rx ry q
  obtain ⟨ρ, h, wx, wy, rh, r1, r2, p0⟩ := q
  obtain ⟨w, e, p⟩ := ofVal_ok p0
  clear p0
  obtain ⟨b, e1, rfl⟩ := map_some e
  obtain ⟨b, e2, rfl⟩ := map_some e1
  obtain ⟨ys, hy, f1, f2, rfl⟩ := in_inv e2
  obtain ⟨a, vs, rfl, sq, g, dd⟩ := isSeq_sq rh r2 hy
  refine op_notIn_seq pins s σ H _ _ v u Q I rx ry ⟨a, vs, rfl, sq, flat_v r1 f1, flats_v g f2, ?_⟩
  rw [if_pos rfl, ← any_v r1 f1 g f2]
  exact p.val rh (by simp only [VR])
/-! all, any, extend, slices -/
theorem bls_v : ∀ {ys : List Val} {bs : List Bool} {vs : List V}, bls ys = some bs → VRs N X.K ρ H ys vs → vs = bs.map V.bl
  | [], bs, vs, e, r => by
    cases e
    simp only [VRs] at r
    rw [r]
    rfl
  | y :: ys, bs, vs, e, r => by
    cases y with
    | bl b =>
      simp only [VRs] at r
      obtain ⟨v, t, rfl, h1, h2⟩ := r
      unfold bls at e
      obtain ⟨cs, e1, rfl⟩ := map_some e
      simp only [VR] at h1
      subst h1
      rw [bls_v e1 h2, List.map_cons]
    | _ => cases e
theorem b_all (hc : X.calm = true) : CallR X (.builtin "all") (sBi N X.K biAll) := by
  intro pins s σ H xs us Q I r q
  obtain ⟨ρ, h, ws, rh, rw_, p0⟩ := q
  obtain ⟨w, h', e, p⟩ := ofOpt_ok p0
  clear p0
  unfold biAll at e
  split at e
  · obtain ⟨v, rfl, rv⟩ := rw_.inv1
    obtain ⟨ys, hy, e⟩ := bind_some e
    obtain ⟨bs, hb, e⟩ := map_some e
    cases e
    obtain ⟨a, vs, rfl, sq, g, dd⟩ := isList_sq rh rv hy
    have ev := bls_v hb g
    subst ev
    exact cr_all hc pins s σ H _ us Q I r ⟨a, bs, rfl, sq, p.val rh (by simp only [VR])⟩
  · cases e
theorem b_any (hc : X.calm = true) : CallR X (.builtin "any") (sBi N X.K biAny) := by
  intro pins s σ H xs us Q I r q
  obtain ⟨ρ, h, ws, rh, rw_, p0⟩ := q
  obtain ⟨w, h', e, p⟩ := ofOpt_ok p0
  clear p0
  unfold biAny at e
  split at e
  · obtain ⟨v, rfl, rv⟩ := rw_.inv1
    obtain ⟨ys, hy, e⟩ := bind_some e
    obtain ⟨bs, hb, e⟩ := map_some e
    cases e
    obtain ⟨a, vs, rfl, sq, g, dd⟩ := isList_sq rh rv hy
    have ev := bls_v hb g
    subst ev
    exact cr_any hc pins s σ H _ us Q I r ⟨a, bs, rfl, sq, p.val rh (by simp only [VR])⟩
  · cases e
theorem m_extend : MtR X "list.extend" (fun x xs H Q => ∃ ρ h wo ws, RelH N X.K ρ h H ∧ VR N X.K ρ H wo x ∧ VRs N X.K ρ H ws xs ∧ Post N X.K ρ H NoW (VR N X.K) (ofOpt (mtExtend h wo ws)) Q) := by
  intro pins s σ H x xs v us Q I rx r q
  obtain ⟨ρ, h, wo, ws, rh, ro, rw_, p0⟩ := q
  obtain ⟨w, h', e, p⟩ := ofOpt_ok p0
  clear p0
  unfold mtExtend at e
  split at e
  · rename_i k
    obtain ⟨z, rfl, rz⟩ := rw_.inv1
    split at e
    · rename_i rr
      split at e
      · rename_i ys ho
        split at e
        · rename_i zs hk
          obtain ⟨g, e⟩ := guardO_some e
          cases e
          obtain ⟨a, e0, rfl, oq⟩ := dic_at rh ro ho
          obtain ⟨b, f0, rfl, oq2⟩ := dic_at rh rz hk
          simp only [OR] at oq oq2
          obtain ⟨vs, h1, g1, dd⟩ := oq
          obtain ⟨vs2, h2, g2, dd2⟩ := oq2
          refine mt_extend pins s σ H _ _ v us Q I rx r ⟨a, b, vs, vs2, rfl, rfl, h1, h2, by rw [g1.length, g2.length]; exact fits_le g, ?_⟩
          refine p ρ _ _ (Ext.put e0) (rh.put e0 ?_) (by simp only [VR])
          simp only [OR]
          exact ⟨_, upd_same, (g1.append g2).mono (Ext.put e0), by rw [List.all_append, dd, dd2]; rfl⟩
        · cases e
      · cases e
    · cases e
  · cases e
theorem VRs.drop : ∀ {xs : List Val} {vs : List V} (i : Nat), VRs N X.K ρ H xs vs → VRs N X.K ρ H (xs.drop i) (vs.drop i)
  | xs, vs, 0, r => r
  | [], vs, i + 1, r => by
    simp only [VRs] at r
    subst r
    simp [VRs]
  | x :: xs, vs, i + 1, r => by
    simp only [VRs] at r
    obtain ⟨v, t, rfl, h1, h2⟩ := r
    exact VRs.drop i h2
theorem VRs.take : ∀ {xs : List Val} {vs : List V} (i : Nat), VRs N X.K ρ H xs vs → VRs N X.K ρ H (xs.take i) (vs.take i)
  | xs, vs, 0, r => by simp [VRs]
  | [], vs, i + 1, r => by
    simp only [VRs] at r
    subst r
    simp [VRs]
  | x :: xs, vs, i + 1, r => by
    simp only [VRs] at r
    obtain ⟨v, t, rfl, h1, h2⟩ := r
    show VRs N X.K ρ H (x :: xs.take i) (v :: t.take i)
    simp only [VRs]
    exact ⟨v, _, rfl, h1, VRs.take i h2⟩
theorem VRs.cut {xs : List Val} {vs : List V} {lo hi : Option Int} (r : VRs N X.K ρ H xs vs) : VRs N X.K ρ H (cutM xs lo hi) (cutV vs lo hi) := by
  unfold cutM cutV
  rw [r.length]
  exact (r.drop _).take _
theorem all_cut {xs : List Val} {lo hi : Option Int} (d : xs.all dat = true) : (cutM xs lo hi).all dat = true := by
  rw [List.all_eq_true] at d ⊢
  exact fun x hx => d x (List.mem_of_mem_drop (List.mem_of_mem_take hx))
theorem cut_whole {xs : List Val} {lo hi : Option Int} (h : HT.sIx xs.length 0 lo = 0 ∧ HT.sIx xs.length xs.length hi = xs.length) : cutM xs lo hi = xs := by
  unfold cutM
  rw [h.1, h.2]
  simp
/-- a slice's outcome -/
def sSl (N : Nm) (K : PySem.W.Frag) : V → Option Int → Option Int → L2.Hp → VK → Prop := fun x lo hi H Q => ∃ ρ h w, RelH N K ρ h H ∧ VR N K ρ H w x ∧ Post N K ρ H NoW (VR N K) (ofOpt (slV h w lo hi)) Q
theorem o_sl : SlR X (sSl N X.K) := by
  intro pins s σ H x v vl vu lo hi sl Q I rx hs pl pu q
  obtain ⟨ρ, h, wx, rh, r1, p0⟩ := q
  obtain ⟨w, h', e, p⟩ := ofOpt_ok p0
  clear p0
  have lst : ∀ xs, isList h wx = some xs → alloc h (.lst (cutM xs lo hi)) = some (w, h') → ∃ T id, typeLookup (.type T) "__getitem__" = pure (some (.builtin id)) ∧ s.TypeIs v T ∧ wpAny (model X.prog X.w) X.A (getItem v (.ref sl)) (EP X pins σ Q) X.xe s := by
    intro xs e1 e2
    obtain ⟨a, vs, rfl, sq, g, dd⟩ := isList_sq rh r1 e1
    exact sl_list pins s σ H _ v vl vu lo hi sl Q I rx hs pl pu ⟨a, vs, rfl, sq, fun l hl => p.newLst e2 rh hl g.cut (all_cut dd)⟩
  cases wx with
  | tup xs =>
    have e' : some (Val.tup (cutM xs lo hi), h) = some (w, h') := e
    cases e'
    have r1' := r1
    simp only [VR] at r1
    obtain ⟨a, vs, rfl, t, g, dd⟩ := r1
    refine sl_tupA pins s σ H _ v vl vu lo hi sl Q I rx hs pl pu ⟨a, vs, rfl, t.sq, fun hw => ?_, fun _ l hl => p.newTup rh hl g.cut (all_cut dd)⟩
    rw [g.length] at hw
    rw [cut_whole hw] at p
    exact p.val rh r1'
  | ref _ =>
    obtain ⟨xs, e1, e2⟩ := bind_some (show (isList h (.ref _)).bind _ = _ from e)
    exact lst xs e1 e2
  | fl xs => exact lst xs rfl e
  | _ => cases e
end
end Mini
set_option Elab.async false
set_option linter.all false
set_option maxRecDepth 100000
set_option maxHeartbeats 2000000
/-! Mini against the model: expressions. -/
namespace Mini
open PySem PySem.Spec PyProof.Rows L2
section
variable {N : Nm} {X : Cx} {W : WX} {Γ : Sys} {σ : L2.St} {H : L2.Hp} {Q : VK} {Q' : Bool → L2.Hp → Prop}
/-- in the middle: values at hand, what is still to come -/
def sM {α β : Type} (N : Nm) (K : PySem.W.Frag) (W : WX) (vs : List V) (rel : List Addr → L2.Hp → α → β → Prop) (g : List Val → MF → MH → Res α) (σ : L2.St) (H : L2.Hp) (Q : β → L2.Hp → Prop) : Prop :=
  ∃ ρ h τ ws, RelH N K ρ h H ∧ FR N K ρ H τ σ ∧ VRs N K ρ H ws vs ∧ Post N K ρ H (fun c d H' => W c d σ H') rel (g ws τ h) Q
theorem sE_sM {m : MF → MH → Res Val} {g : List Val → MF → MH → Res Val} (hg : ∀ τ h, g [] τ h = m τ h) (q : sE N X.K W m σ H Q) : sM N X.K W [] (VR N X.K) g σ H Q := by
  obtain ⟨ρ, h, τ, rh, fr, p⟩ := q
  exact ⟨ρ, h, τ, [], rh, fr, by simp only [VRs], by rw [hg]; exact p⟩
theorem sM_bind {α β : Type} {rel : List Addr → L2.Hp → α → β → Prop} {Q : β → L2.Hp → Prop} {vs : List V} {ma : MF → MH → Res Val} {g : List Val → MF → MH → Res α} (q : sM N X.K W vs rel (fun ws τ h => (ma τ h).bind fun x h1 => g (x :: ws) τ h1) σ H Q) :
    sE N X.K W ma σ H fun v H1 => sM N X.K W (v :: vs) rel g σ H1 Q := by
  obtain ⟨ρ, h, τ, ws, rh, fr, rw_, p⟩ := q
  refine ⟨ρ, h, τ, rh, fr, p.bind.imp ?_⟩
  rintro v H1 ⟨ρ1, h1, x, e, rh1, rv, p1⟩
  refine ⟨ρ1, h1, τ, x :: ws, rh1, fr.mono e, ?_, p1⟩
  simp only [VRs]
  exact ⟨v, vs, rfl, rv, rw_.mono e⟩
theorem sM_binds {α β : Type} {rel : List Addr → L2.Hp → α → β → Prop} {Q : β → L2.Hp → Prop} {vs : List V} {ma : MF → MH → Res (List Val)} {g : List Val → List Val → MF → MH → Res α} (q : sM N X.K W vs rel (fun ws τ h => (ma τ h).bind fun x h1 => g x ws τ h1) σ H Q) :
    sA N X.K W ma σ H fun us H1 => ∃ ρ h τ ws xs, RelH N X.K ρ h H1 ∧ FR N X.K ρ H1 τ σ ∧ VRs N X.K ρ H1 ws vs ∧ VRs N X.K ρ H1 xs us ∧ Post N X.K ρ H1 (fun c d H' => W c d σ H') rel (g xs ws τ h) Q := by
  obtain ⟨ρ, h, τ, ws, rh, fr, rw_, p⟩ := q
  refine ⟨ρ, h, τ, rh, fr, p.bind.imp ?_⟩
  rintro us H1 ⟨ρ1, h1, xs, e, rh1, rv, p1⟩
  exact ⟨ρ1, h1, τ, ws, xs, rh1, fr.mono e, rw_.mono e, rv, p1⟩
/-- what raises nothing -/
theorem Post.nowish {Wx : Value → Option Addr → L2.Hp → Prop} {ρ : List Addr} {K : PySem.W.Frag} {r : Opt} (p : Post N K ρ H Wx (VR N K) (ofOpt r) Q) : Post N K ρ H NoW (VR N K) (ofOpt r) Q := by
  cases r with
  | none => exact p
  | some q => exact p
theorem Post.nowishV {Wx : Value → Option Addr → L2.Hp → Prop} {ρ : List Addr} {K : PySem.W.Frag} {h : MH} {α β : Type} {rel : List Addr → L2.Hp → α → β → Prop} {Q : β → L2.Hp → Prop} {r : Option α} (p : Post N K ρ H Wx rel (ofVal r h) Q) : Post N K ρ H NoW rel (ofVal r h) Q := by
  cases r with
  | none => exact p
  | some q => exact p

theorem x_var {i : Nat} {x : Str} {pos : Pos} (hN : X.N[i]? = some x) (hv : Vis X.env.scope x) (hd : (x == ("__debug__" : Str)) = false) (hcd : (x == ("__classdict__" : Str)) = false) : PE X (.Name x pos) (sE N X.K W (evE Γ (.v i))) :=
  (pe_var hN hv hd hcd).weak fun σ H Q ⟨ρ, h, τ, rh, fr, p⟩ => by
    unfold evE at p
    split at p
    · rename_i w e
      obtain ⟨v, h1, h2⟩ := fr.at_ i w e
      exact ⟨v, h1, p.ok rh h2⟩
    · exact p.elim
theorem x_int {i : Int} {j : Nat} {pos : Pos} : PE X (.Constant (.int i) j pos) (sE N X.K W (evE Γ (.ki i))) :=
  pe_int.weak fun σ H Q ⟨ρ, h, τ, rh, fr, p⟩ => by
    unfold evE at p
    exact p.ok rh (by simp only [VR])
theorem x_bl {b : Bool} {j : Nat} {pos : Pos} : PE X (.Constant (.bool b) j pos) (sE N X.K W (evE Γ (.kb b))) :=
  pe_bl.weak fun σ H Q ⟨ρ, h, τ, rh, fr, p⟩ => by
    unfold evE at p
    exact p.ok rh (by simp only [VR])
theorem x_non {j : Nat} {pos : Pos} : PE X (.Constant .none j pos) (sE N X.K W (evE Γ .kn)) :=
  pe_non.weak fun σ H Q ⟨ρ, h, τ, rh, fr, p⟩ => by
    unfold evE at p
    exact p.ok rh (by simp only [VR])
theorem x_str {z : Str} {j : Nat} {pos : Pos} : PE X (.Constant (.str z) j pos) (sE N X.K W (evE Γ (.ks z))) :=
  pe_str.weak fun σ H Q ⟨ρ, h, τ, rh, fr, p⟩ => by
    unfold evE at p
    exact p.ok rh (by simp only [VR])
/-- a global name that stands for a value -/
theorem x_glob {x : Str} {w : Val} {v : V} {u : Value} {pos : Pos} (hg : Gl X x) (hm : X.mg x = some u) (r : L2.RelV v u) (hr : ∀ ρ H, VR N X.K ρ H w v) (hd : (x == ("__debug__" : Str)) = false) : PE X (.Name x pos) (sE N X.K W (evE Γ (.gv w))) :=
  (pe_glob hg hm r hd).weak fun σ H Q ⟨ρ, h, τ, rh, fr, p⟩ => by
    unfold evE at p
    exact p.ok rh (hr _ _)
theorem x_bltn {x : Str} {w : Val} {v : V} {u : Value} {pos : Pos} (hg : Gl X x) (hm : X.mg x = none) (hv : bootBuiltins x = some u) (r : L2.RelV v u) (hr : ∀ ρ H, VR N X.K ρ H w v) (hn : x ≠ "__name__") (hd : (x == ("__debug__" : Str)) = false) : PE X (.Name x pos) (sE N X.K W (evE Γ (.gv w))) :=
  (pe_bltn hg hm hv r hn hd).weak fun σ H Q ⟨ρ, h, τ, rh, fr, p⟩ => by
    unfold evE at p
    exact p.ok rh (hr _ _)
section
variable {a b c e : Expr} {es : List Expr} {ca cb cc ces : C} {pos : Pos}
/-- two values, then an operation -/
theorem sM_two {f : MH → Val → Val → Res Val} (hf : ∀ {σ : L2.St} {H : L2.Hp} {Q : VK} {ρ : List Addr} {h : MH} {x y : Val}, Post N X.K ρ H (fun c d H' => W c d σ H') (VR N X.K) (f h x y) Q → Post N X.K ρ H NoW (VR N X.K) (f h x y) Q) {x y : V}
    (q : sM N X.K W [y, x] (VR N X.K) (fun ws _ h => match ws with | [wy, wx] => f h wx wy | _ => .bad) σ H Q) : sO2 N X.K f x y H Q := by
  obtain ⟨ρ, h, τ, ws, rh, fr, r, p⟩ := q
  cases ws with
  | nil => exact p.elim
  | cons w1 ws =>
    cases ws with
    | nil => exact p.elim
    | cons w2 ws =>
      cases ws with
      | cons _ _ => exact p.elim
      | nil =>
        obtain ⟨v, u, e, h1, h2⟩ := r.inv2
        cases e
        exact ⟨ρ, h, w2, w1, rh, h2, h1, hf p⟩
theorem bind_two {f : MH → Val → Val → Res Val} {ma mb : MF → MH → Res Val} (q : sE N X.K W (fun τ h => (ma τ h).bind fun x h1 => (mb τ h1).bind fun y h2 => f h2 x y) σ H Q) :
    sE N X.K W ma σ H fun x H1 => sE N X.K W mb σ H1 fun y H2 => sM N X.K W [y, x] (VR N X.K) (fun ws _ h => match ws with | [wy, wx] => f h wx wy | _ => .bad) σ H2 Q := by
  have q1 := sM_bind (g := fun ws τ h1 => match ws with | [x] => (mb τ h1).bind fun y h2 => f h2 x y | _ => .bad) (sE_sM (fun _ _ => rfl) q)
  obtain ⟨ρ, h, τ, rh, fr, p⟩ := q1
  refine ⟨ρ, h, τ, rh, fr, p.imp fun x H1 q2 => ?_⟩
  obtain ⟨ρ1, h1, τ1, ws, rh1, fr1, r1, p1⟩ := q2
  cases ws with
  | nil => exact p1.elim
  | cons w1 ws =>
    cases ws with
    | cons _ _ => exact p1.elim
    | nil => exact sM_bind (g := fun ws _ h => match ws with | [wy, wx] => f h wx wy | _ => .bad) ⟨ρ1, h1, τ1, [w1], rh1, fr1, r1, p1⟩
theorem x_bop (o : BOp) (ha : PE X a (sE N X.K W (evE Γ ca))) (hb : PE X b (sE N X.K W (evE Γ cb))) : PE X (.BinOp a (bopOf o) b pos) (sE N X.K W (evE Γ (.op o ca cb))) :=
  (pe_op (o_bop (N := N) o) ha hb).weak fun σ H Q q => by
    have q1 : sE N X.K W (fun τ h => (evE Γ ca τ h).bind fun x h1 => (evE Γ cb τ h1).bind fun y h2 => (fun h x y => ofOpt (bop o h x y)) h2 x y) σ H Q := by
      obtain ⟨ρ, h, τ, rh, fr, p⟩ := q
      unfold evE at p
      exact ⟨ρ, h, τ, rh, fr, p⟩
    obtain ⟨ρ, h, τ, rh, fr, p⟩ := bind_two q1
    refine ⟨ρ, h, τ, rh, fr, p.imp fun x H1 q2 => ?_⟩
    obtain ⟨ρ, h, τ, rh, fr, p⟩ := q2
    exact ⟨ρ, h, τ, rh, fr, p.imp fun y H2 q3 => sM_two (fun p => p.nowish) q3⟩

def copOf : COp → CmpOp
  | .eq => .Eq
  | .ne => .NotEq
  | .lt => .Lt
  | .le => .LtE
  | .gt => .Gt
  | .ge => .GtE
  | .is => .Is
  | .isnot => .IsNot
  | .isin => .In
  | .notin => .NotIn
theorem o_none {f : Value → Value → Sem Value} {c : MH → Val → Val → Option Bool} (hc : ∀ h x y, c h x y = none) : OpR X f (sO2 N X.K fun h a b => ofVal ((c h a b).map .bl) h) := by
  intro pins s σ H x y v u Q I rx ry q
  obtain ⟨ρ, h, wx, wy, rh, r1, r2, p0⟩ := q
  dsimp only at p0
  rw [hc] at p0
  exact p0.elim
theorem o_cop (B : Base X) : ∀ o : COp, OpR X (compareOp (copOf o)) (sO2 N X.K fun h a b => ofVal ((cop o h a b).map .bl) h)
  | .eq => o_eq B
  | .ne => o_ne B
  | .lt => o_lt
  | .le => o_le
  | .gt => o_gt
  | .ge => o_ge
  | .is => o_is
  | .isnot => o_isnot
  | .isin => o_in
  | .notin => o_notin
theorem imp_cm (o : COp) (q : sE N X.K W (evE Γ (.cm o ca cb)) σ H Q) : tOp (sO2 N X.K fun h a b => ofVal ((cop o h a b).map .bl) h) (sE N X.K W (evE Γ ca)) (sE N X.K W (evE Γ cb)) σ H Q := by
  have q1 : sE N X.K W (fun τ h => (evE Γ ca τ h).bind fun x h1 => (evE Γ cb τ h1).bind fun y h2 => (fun h x y => ofVal ((cop o h x y).map .bl) h) h2 x y) σ H Q := by
    obtain ⟨ρ, h, τ, rh, fr, p⟩ := q
    unfold evE at p
    exact ⟨ρ, h, τ, rh, fr, p⟩
  obtain ⟨ρ, h, τ, rh, fr, p⟩ := bind_two q1
  refine ⟨ρ, h, τ, rh, fr, p.imp fun x H1 q2 => ?_⟩
  obtain ⟨ρ, h, τ, rh, fr, p⟩ := q2
  exact ⟨ρ, h, τ, rh, fr, p.imp fun y H2 q3 => sM_two (fun p => p.nowishV) q3⟩
theorem x_cm (B : Base X) (o : COp) (ha : PE X a (sE N X.K W (evE Γ ca))) (hb : PE X b (sE N X.K W (evE Γ cb))) (hm : behindInMarks (copOf o) b = false) : PE X (.Compare a [copOf o] [b] pos) (sE N X.K W (evE Γ (.cm o ca cb))) :=
  (pe_cmpR (o_cop (N := N) B o) ha hb hm).weak fun σ H Q q => imp_cm o q
theorem imp_ch (o o' : COp) (q : sE N X.K W (evE Γ (.ch o o' ca cb cc)) σ H Q) : tChain (sO2 N X.K fun h a b => ofVal ((cop o h a b).map .bl) h) (sO2 N X.K fun h a b => ofVal ((cop o' h a b).map .bl) h) (sE N X.K W (evE Γ ca)) (sE N X.K W (evE Γ cb)) (sE N X.K W (evE Γ cc)) σ H Q := by
    obtain ⟨ρ, h, τ, rh, fr, p⟩ := q
    unfold evE at p
    refine ⟨ρ, h, τ, rh, fr, p.bind.imp ?_⟩
    rintro x H1 ⟨ρ1, h1, wx, e1, rh1, r1, p1⟩
    refine ⟨ρ1, h1, τ, rh1, fr.mono e1, p1.bind.imp ?_⟩
    rintro y H2 ⟨ρ2, h2, wy, e2, rh2, r2, p2⟩
    refine ⟨ρ2, h2, wx, wy, rh2, r1.mono e2, r2, ?_⟩
    cases hc : cop o h2 wx wy with
    | none =>
      rw [hc] at p2
      exact p2.elim
    | some b =>
      rw [hc] at p2
      show Post N X.K ρ2 H2 _ _ (ofVal ((cop o h2 wx wy).map Val.bl) h2) _
      rw [hc]
      intro ρ3 H3 z e3 rh3 rz
      simp only [VR] at rz
      refine ⟨b, rz, ?_⟩
      cases b with
      | false =>
        rw [if_neg Bool.false_ne_true]
        exact p2 ρ3 H3 _ e3 rh3 (by simp only [VR])
      | true =>
        rw [if_pos rfl]
        have p3 := Post.later e3 (r := (evE Γ cc τ h2).bind fun z h3 => ofVal ((cop o' h3 wy z).map Val.bl) h3) p2
        refine ⟨ρ3, h2, τ, rh3, fr.mono (e1.trans (e2.trans e3)), p3.bind.imp ?_⟩
        rintro w H4 ⟨ρ4, h4, wz, e4, rh4, r4, p4⟩
        exact ⟨ρ4, h4, wy, wz, rh4, (r2.mono (e3.trans e4)), r4, p4.nowishV⟩
/-- a op b op' c -/
theorem x_ch (B : Base X) (o o' : COp) (ha : PE X a (sE N X.K W (evE Γ ca))) (hb : PE X b (sE N X.K W (evE Γ cb))) (hc : PE X c (sE N X.K W (evE Γ cc))) (hm : lastMarks [copOf o, copOf o'] [b, c] = false) : PE X (.Compare a [copOf o, copOf o'] [b, c] pos) (sE N X.K W (evE Γ (.ch o o' ca cb cc))) :=
  (pe_chain (o_cop (N := N) B o) (o_cop (N := N) B o') ha hb hc hm).weak fun σ H Q q => imp_ch o o' q
/-- a test's reading from its value's -/
theorem sT_sE {m : MF → MH → Res Val} (q : sT N X.K W (fun τ h => (m τ h).bind fun x h1 => ofVal (tru h1 x) h1) σ H Q') : sE N X.K W m σ H fun v H1 => ∃ ρ h x b, RelH N X.K ρ h H1 ∧ VR N X.K ρ H1 x v ∧ tru h x = some b ∧ Q' b H1 := by
  obtain ⟨ρ, h, τ, rh, fr, p⟩ := q
  refine ⟨ρ, h, τ, rh, fr, p.bind.imp ?_⟩
  rintro v H1 ⟨ρ1, h1, x, e, rh1, rv, p1⟩
  cases ht : tru h1 x with
  | none =>
    rw [ht] at p1
    exact p1.elim
  | some b =>
    rw [ht] at p1
    exact ⟨ρ1, h1, x, b, rh1, rv, ht, p1.ok rh1 rfl⟩
theorem tru_rel {ρ : List Addr} {h : MH} (rh : RelH N X.K ρ h H) {x : Val} {v : V} {b : Bool} (r : VR N X.K ρ H x v) (e : tru h x = some b) : TruV X.K v H b := by
  cases x with
  | non =>
    simp only [VR] at r
    subst r
    cases e
    rfl
  | bl c =>
    simp only [VR] at r
    subst r
    cases e
    rfl
  | int i =>
    simp only [VR] at r
    subst r
    cases e
    rfl
  | _ => cases e
theorem x_tru (ha : PE X a (sE N X.K W (evE Γ ca))) (ht : ∀ whole, isTrue a X.env whole = (do let v ← whole; standAt a.pos; holding [v] (truthy v))) : PT X a (sT N X.K W (evT Γ ca)) :=
  (pt_truth ha ht).weak fun σ H Q q => by
    obtain ⟨ρ, h, τ, rh, fr, p⟩ := sT_sE q
    refine ⟨ρ, h, τ, rh, fr, p.imp ?_⟩
    rintro v H1 ⟨ρ1, h1, x, b, rh1, rv, ht, q1⟩
    exact ⟨b, tru_rel rh1 rv ht, q1⟩
theorem bind_ok {α β : Type} {r : Res α} {f : α → MH → Res β} {y : β} {h' : MH} (e : r.bind f = .ok y h') : ∃ x h, r = .ok x h ∧ f x h = .ok y h' := by
  cases r with
  | ok x h => exact ⟨x, h, rfl, e⟩
  | exc c fs h => cases e
  | bad => cases e
theorem cm_bl {o : COp} {τ : MF} {h h' : MH} {x : Val} (e : evE Γ (.cm o ca cb) τ h = .ok x h') : ∃ b, x = .bl b := by
  unfold evE at e
  obtain ⟨_, _, _, e⟩ := bind_ok e
  obtain ⟨_, _, _, e⟩ := bind_ok e
  cases hc : cop o _ _ _ with
  | none =>
    rw [hc] at e
    cases e
  | some b =>
    rw [hc] at e
    cases e
    exact ⟨b, rfl⟩
/-- a test whose value is a bool -/
theorem sT_bl {m : MF → MH → Res Val} (hb : ∀ τ h x h', m τ h = .ok x h' → ∃ b, x = .bl b) (q : sT N X.K W (fun τ h => (m τ h).bind fun x h1 => ofVal (tru h1 x) h1) σ H Q') : sE N X.K W m σ H fun v H1 => ∃ b, v = .bl b ∧ Q' b H1 := by
  obtain ⟨ρ, h, τ, rh, fr, p⟩ := q
  dsimp only at p
  refine ⟨ρ, h, τ, rh, fr, ?_⟩
  cases hm : m τ h with
  | bad =>
    rw [hm] at p
    exact p.elim
  | exc c fs h1 =>
    rw [hm] at p
    exact p
  | ok x h1 =>
    obtain ⟨b, rfl⟩ := hb _ _ _ _ hm
    rw [hm] at p
    intro ρ1 H1 v e rh1 rv
    simp only [VR] at rv
    exact ⟨b, rv, p ρ1 H1 b e rh1 rfl⟩
theorem x_cmT (B : Base X) (o : COp) (ha : PE X a (sE N X.K W (evE Γ ca))) (hb : PE X b (sE N X.K W (evE Γ cb))) (hm : behindInMarks (copOf o) b = false) : PT X (.Compare a [copOf o] [b] pos) (sT N X.K W (evT Γ (.cm o ca cb))) :=
  (pt_cmpR (o_cop (N := N) B o) ha hb hm).weak fun σ H Q q => imp_cm o (sT_bl (fun _ _ _ _ e => cm_bl e) q)
theorem ch_bl {o p : COp} {τ : MF} {h h' : MH} {x : Val} (e : evE Γ (.ch o p ca cb cc) τ h = .ok x h') : ∃ b, x = .bl b := by
  unfold evE at e
  obtain ⟨_, _, _, e⟩ := bind_ok e
  obtain ⟨_, _, _, e⟩ := bind_ok e
  split at e
  · obtain ⟨_, _, _, e⟩ := bind_ok e
    cases hc : cop p _ _ _ with
    | none =>
      rw [hc] at e
      cases e
    | some b =>
      rw [hc] at e
      cases e
      exact ⟨b, rfl⟩
  · cases e
    exact ⟨_, rfl⟩
  · cases e
theorem x_chT (B : Base X) (o o' : COp) (ha : PE X a (sE N X.K W (evE Γ ca))) (hb : PE X b (sE N X.K W (evE Γ cb))) (hc : PE X c (sE N X.K W (evE Γ cc))) (hm : lastMarks [copOf o, copOf o'] [b, c] = false) : PT X (.Compare a [copOf o, copOf o'] [b, c] pos) (sT N X.K W (evT Γ (.ch o o' ca cb cc))) :=
  (pt_chain (o_cop (N := N) B o) (o_cop (N := N) B o') ha hb hc hm).weak fun σ H Q q => imp_ch o o' (sT_bl (fun _ _ _ _ e => ch_bl e) q)
/-- and, or, not -/
theorem x_andV {rest : List Expr} (ha : PE X a (sE N X.K W (evE Γ ca))) (hb : PE X (.BoolOp .And (b :: rest) pos) (sE N X.K W (evE Γ cb))) : PE X (.BoolOp .And (a :: b :: rest) pos) (sE N X.K W (evE Γ (.and ca cb))) :=
  (pe_and ha hb).weak fun σ H Q ⟨ρ, h, τ, rh, fr, p⟩ => by
    unfold evE at p
    refine ⟨ρ, h, τ, rh, fr, p.bind.imp ?_⟩
    rintro v H1 ⟨ρ1, h1, x, e, rh1, rv, p1⟩
    split at p1
    · simp only [VR] at rv
      exact ⟨true, rv, ρ1, h1, τ, rh1, fr.mono e, p1⟩
    · simp only [VR] at rv
      exact ⟨false, rv, p1.ok rh1 (by simp only [VR])⟩
    · exact p1.elim
theorem x_orV {rest : List Expr} (ha : PE X a (sE N X.K W (evE Γ ca))) (hb : PE X (.BoolOp .Or (b :: rest) pos) (sE N X.K W (evE Γ cb))) : PE X (.BoolOp .Or (a :: b :: rest) pos) (sE N X.K W (evE Γ (.or ca cb))) :=
  (pe_or ha hb).weak fun σ H Q ⟨ρ, h, τ, rh, fr, p⟩ => by
    unfold evE at p
    refine ⟨ρ, h, τ, rh, fr, p.bind.imp ?_⟩
    rintro v H1 ⟨ρ1, h1, x, e, rh1, rv, p1⟩
    split at p1
    · simp only [VR] at rv
      exact ⟨true, rv, p1.ok rh1 (by simp only [VR])⟩
    · simp only [VR] at rv
      exact ⟨false, rv, ρ1, h1, τ, rh1, fr.mono e, p1⟩
    · exact p1.elim
theorem x_notV (ha : PE X a (sE N X.K W (evE Γ ca))) : PE X (.UnaryOp .Not a pos) (sE N X.K W (evE Γ (.not ca))) :=
  (pe_not ha).weak fun σ H Q ⟨ρ, h, τ, rh, fr, p⟩ => by
    unfold evE at p
    refine ⟨ρ, h, τ, rh, fr, p.bind.imp ?_⟩
    rintro v H1 ⟨ρ1, h1, x, e, rh1, rv, p1⟩
    split at p1
    · simp only [VR] at rv
      exact ⟨_, rv, p1.ok rh1 (by simp only [VR])⟩
    · exact p1.elim
theorem x_neg (ha : PE X a (sE N X.K W (evE Γ ca))) : PE X (.UnaryOp .USub a pos) (sE N X.K W (evE Γ (.neg ca))) :=
  (pe_un un_neg ha).weak fun σ H Q ⟨ρ, h, τ, rh, fr, p⟩ => by
    unfold evE at p
    refine ⟨ρ, h, τ, rh, fr, p.bind.imp ?_⟩
    rintro v H1 ⟨ρ1, h1, x, e, rh1, rv, p1⟩
    split at p1
    · simp only [VR] at rv
      exact ⟨_, rv, p1.ok rh1 (by simp only [VR])⟩
    · exact p1.elim
theorem x_andT {rest : List Expr} (ha : PT X a (sT N X.K W (evT Γ ca))) (hb : PW X (.BoolOp .And (b :: rest) pos) (sT N X.K W (evT Γ cb))) : PW X (.BoolOp .And (a :: b :: rest) pos) (sT N X.K W (evT Γ (.and ca cb))) := by
  refine ⟨fun whole pins s σ H Q I q => (pw_and ha hb).run whole pins s σ H Q I ?_⟩
  obtain ⟨ρ, h, τ, rh, fr, p⟩ := q
  unfold evT at p
  unfold evE at p
  refine ⟨ρ, h, τ, rh, fr, ?_⟩
  unfold evT
  cases hm : evE Γ ca τ h with
  | bad =>
    rw [hm] at p
    exact p.elim
  | exc c fs h1 =>
    rw [hm] at p
    exact p
  | ok x h1 =>
    rw [hm] at p
    cases x with
    | bl c =>
      intro ρ1 H1 v e rh1 rv
      have rv : v = c := rv
      rw [rv]
      cases c with
      | true => exact ⟨ρ1, h1, τ, rh1, fr.mono e, Post.later e p⟩
      | false => exact p ρ1 H1 false e rh1 rfl
    | _ => exact p.elim
theorem x_orT {rest : List Expr} (ha : PT X a (sT N X.K W (evT Γ ca))) (hb : PW X (.BoolOp .Or (b :: rest) pos) (sT N X.K W (evT Γ cb))) : PW X (.BoolOp .Or (a :: b :: rest) pos) (sT N X.K W (evT Γ (.or ca cb))) := by
  refine ⟨fun whole pins s σ H Q I q => (pw_or ha hb).run whole pins s σ H Q I ?_⟩
  obtain ⟨ρ, h, τ, rh, fr, p⟩ := q
  unfold evT at p
  unfold evE at p
  refine ⟨ρ, h, τ, rh, fr, ?_⟩
  unfold evT
  cases hm : evE Γ ca τ h with
  | bad =>
    rw [hm] at p
    exact p.elim
  | exc c fs h1 =>
    rw [hm] at p
    exact p
  | ok x h1 =>
    rw [hm] at p
    cases x with
    | bl c =>
      intro ρ1 H1 v e rh1 rv
      have rv : v = c := rv
      rw [rv]
      cases c with
      | false => exact ⟨ρ1, h1, τ, rh1, fr.mono e, Post.later e p⟩
      | true => exact p ρ1 H1 true e rh1 rfl
    | _ => exact p.elim
theorem x_notT (ha : PT X a (sT N X.K W (evT Γ ca))) : PT X (.UnaryOp .Not a pos) (sT N X.K W (evT Γ (.not ca))) :=
  (pt_not ha).weak fun σ H Q ⟨ρ, h, τ, rh, fr, p⟩ => by
    unfold evT at p
    unfold evE at p
    refine ⟨ρ, h, τ, rh, fr, ?_⟩
    unfold evT
    cases hm : evE Γ ca τ h with
    | bad =>
      rw [hm] at p
      exact p.elim
    | exc c fs h1 =>
      rw [hm] at p
      exact p
    | ok x h1 =>
      rw [hm] at p
      cases x with
      | bl c =>
        intro ρ1 H1 v e rh1 rv
        have rv : v = c := rv
        rw [rv]
        exact p ρ1 H1 _ e rh1 rfl
      | _ => exact p.elim
theorem x_ifx {c : Expr} (hc : PT X c (sT N X.K W (evT Γ cc))) (ha : PE X a (sE N X.K W (evE Γ ca))) (hb : PE X b (sE N X.K W (evE Γ cb))) : PE X (.IfExp c a b pos) (sE N X.K W (evE Γ (.ifx cc ca cb))) :=
  (pe_ifExp hc ha hb).weak fun σ H Q ⟨ρ, h, τ, rh, fr, p⟩ => by
    unfold evE at p
    refine ⟨ρ, h, τ, rh, fr, ?_⟩
    unfold evT
    cases hm : evE Γ cc τ h with
    | bad =>
      rw [hm] at p
      exact p.elim
    | exc c fs h1 =>
      rw [hm] at p
      exact p
    | ok x h1 =>
      rw [hm] at p
      cases ht : tru h1 x with
      | none =>
        have p' : Post N X.K ρ H (fun c d H' => W c d σ H') (VR N X.K) (match tru h1 x with | some true => evE Γ ca τ h1 | some false => evE Γ cb τ h1 | none => .bad) Q := p
        rw [ht] at p'
        exact p'.elim
      | some t =>
        have p' : Post N X.K ρ H (fun c d H' => W c d σ H') (VR N X.K) (match tru h1 x with | some true => evE Γ ca τ h1 | some false => evE Γ cb τ h1 | none => .bad) Q := p
        rw [ht] at p'
        show Post N X.K ρ H _ _ (ofVal (tru h1 x) h1) _
        rw [ht]
        intro ρ1 H1 v e rh1 rv
        have rv : v = t := rv
        rw [rv]
        cases t with
        | true => exact ⟨ρ1, h1, τ, rh1, fr.mono e, Post.later e p'⟩
        | false => exact ⟨ρ1, h1, τ, rh1, fr.mono e, Post.later e p'⟩
end
end
end Mini
set_option Elab.async false
set_option linter.all false
set_option maxRecDepth 100000
set_option maxHeartbeats 2000000
/-! Mini against the model: argument lists, displays, items, calls. -/
namespace Mini
open PySem PySem.Spec PyProof.Rows L2
open L2H (RoomH Hot1 PinOk HotC)
section
variable {N : Nm} {X : Cx} {W : WX} {Γ : Sys} {σ : L2.St} {H : L2.Hp} {Q : VK}
variable {a b c e : Expr} {es : List Expr} {ca cb cc ces : C} {pos : Pos}
def notStar : Expr → Bool
  | .Starred _ _ => false
  | _ => true
theorem star_of {env : PySem.Env} (h : notStar e = true) : starEach (e :: es) env = (false, eval e env) :: starEach es env := by
  cases e <;> first | rfl | cases h
theorem noStars {env : PySem.Env} {p : Pos} : ∀ {es : List Expr}, es.all notStar = true → (backTo p (starEach es env)).any (·.1) = false
  | [], _ => rfl
  | e :: es, h => by
    rw [List.all_cons, Bool.and_eq_true] at h
    rw [star_of h.1]
    show (false || (backTo p (starEach es env)).any (·.1)) = false
    rw [noStars h.2]
    rfl
theorem x_nil : PA X [] (sA N X.K W (evEs Γ .nil)) :=
  pa_nil.weak fun σ H Q ⟨ρ, h, τ, rh, fr, p⟩ => by
    unfold evEs at p
    exact p.ok rh (by simp only [VRs])
theorem x_cons (ha : PE X e (sE N X.K W (evE Γ ca))) (hb : PA X es (sA N X.K W (evEs Γ ces))) (hs : notStar e = true) : PA X (e :: es) (sA N X.K W (evEs Γ (.cons ca ces))) :=
  (pa_cons ha hb (star_of hs)).weak fun σ H Q ⟨ρ, h, τ, rh, fr, p⟩ => by
    unfold evEs at p
    refine ⟨ρ, h, τ, rh, fr, p.bind.imp ?_⟩
    rintro v H1 ⟨ρ1, h1, x, e, rh1, rv, p1⟩
    refine ⟨ρ1, h1, τ, rh1, fr.mono e, p1.bind.imp ?_⟩
    rintro us H2 ⟨ρ2, h2, xs, e2, rh2, r2, p2⟩
    refine p2.ok rh2 ?_
    simp only [VRs]
    exact ⟨v, us, rfl, rv.mono e2, r2⟩
theorem x_tup {k : Nat} (hb : PA X es (sA N X.K W (evEs Γ ces))) : PE X (.Tuple es k pos) (sE N X.K W (evE Γ (.tup ces))) :=
  (pe_tup hb).weak fun σ H Q ⟨ρ, h, τ, rh, fr, p⟩ => by
    unfold evE at p
    refine ⟨ρ, h, τ, rh, fr, p.bind.imp ?_⟩
    rintro us H1 ⟨ρ1, h1, xs, e, rh1, r1, p1⟩
    split at p1
    · rename_i z
      rw [Bool.and_eq_true] at z
      refine ⟨by rw [r1.length]; exact fits_le z.1, fun l hl => p1 ρ1 _ _ (Ext.newT hl) (rh1.newT hl) ?_⟩
      simp only [VR]
      exact ⟨l, us, rfl, .inl ⟨.inl upd_same, rh1.notin hl⟩, r1.mono (Ext.newT hl), z.2⟩
    · exact p1.elim
theorem x_lst (hb : PA X es (sA N X.K W (evEs Γ ces))) : PE X (.List es pos) (sE N X.K W (evE Γ (.lst ces))) :=
  (pe_lst hb).weak fun σ H Q ⟨ρ, h, τ, rh, fr, p⟩ => by
    unfold evE at p
    refine ⟨ρ, h, τ, rh, fr, p.bind.imp ?_⟩
    rintro us H1 ⟨ρ1, h1, xs, e, rh1, r1, p1⟩
    split at p1
    · rename_i z
      rw [Bool.and_eq_true] at z
      exact ⟨by rw [r1.length]; exact fits_le z.1, fun l hl => p1.nowish.newLst rfl rh1 hl r1 z.2⟩
    · exact p1.elim
theorem x_ix (B : Base X) (ha : PE X a (sE N X.K W (evE Γ ca))) (hb : PE X b (sE N X.K W (evE Γ cb))) (hs : PlainIx b) : PE X (.Subscript a b pos) (sE N X.K W (evE Γ (.ix ca cb))) :=
  (pe_ix (o_ix (N := N) B) ha hb hs).weak fun σ H Q q => by
    have q1 : sE N X.K W (fun τ h => (evE Γ ca τ h).bind fun x h1 => (evE Γ cb τ h1).bind fun y h2 => (fun h x y => ofVal (getIx h x y) h) h2 x y) σ H Q := by
      obtain ⟨ρ, h, τ, rh, fr, p⟩ := q
      unfold evE at p
      exact ⟨ρ, h, τ, rh, fr, p⟩
    obtain ⟨ρ, h, τ, rh, fr, p⟩ := bind_two q1
    refine ⟨ρ, h, τ, rh, fr, p.imp fun x H1 q2 => ?_⟩
    obtain ⟨ρ, h, τ, rh, fr, p⟩ := q2
    exact ⟨ρ, h, τ, rh, fr, p.imp fun y H2 q3 => sM_two (fun p => p.nowishV) q3⟩
/-- a call's reading by its Mini meaning -/
def sC (N : Nm) (K : PySem.W.Frag) (W : WX) (m : List Val → MH → Res Val) (σ : L2.St) (vs : List V) (H : L2.Hp) (Q : VK) : Prop := ∃ ρ h ws, RelH N K ρ h H ∧ VRs N K ρ H ws vs ∧ Post N K ρ H (fun c d H' => W c d σ H') (VR N K) (m ws h) Q
/-- the def at f may be called here, by the meaning m -/
def CallOk (N : Nm) (X : Cx) (W : WX) (f : Addr) (m : List Val → MH → Res Val) : Prop :=
  ∀ (pins : List (Addr × PySem.Obj)) (s : Shared) (σ : L2.St) (H : L2.Hp) (us : List Value) (vs : List V) (Q : VK), Inv X pins σ H s → Vals vs us → sC N X.K W m σ vs H Q → wpAny (model X.prog X.w) X.A (call (.ref f) us) (EP X pins σ Q) X.xe s
theorem imp_args {m : List Val → MH → Res Val} (q : sE N X.K W (fun τ h => (evEs Γ ces τ h).bind fun xs h1 => m xs h1) σ H Q) : sA N X.K W (evEs Γ ces) σ H fun vs H1 => sC N X.K W m σ vs H1 Q := by
  obtain ⟨ρ, h, τ, rh, fr, p⟩ := q
  refine ⟨ρ, h, τ, rh, fr, p.bind.imp ?_⟩
  rintro us H1 ⟨ρ1, h1, xs, e, rh1, r1, p1⟩
  exact ⟨ρ1, h1, xs, rh1, r1, p1⟩
theorem x_call {x : Str} {f : Addr} {i : Nat} {p : Pos} (hg : Gl X x) (hm : X.mg x = some (.ref f)) (hk : PySem.W.keepIn X.K (.ref f) = true) (ok : CallOk N X W f (Γ.call i)) (ha : PA X (e :: es) (sA N X.K W (evEs Γ ces)))
    (hd : (x == ("__debug__" : Str)) = false) (hs : notStar e = true) (hss : es.all notStar = true) : PE X (.Call (.Name x p) (e :: es) [] pos) (sE N X.K W (evE Γ (.call i ces))) := by
  refine ⟨fun pins s σ H Q I q => ?_⟩
  have q1 : sE N X.K W (fun τ h => (evEs Γ ces τ h).bind fun xs h1 => Γ.call i xs h1) σ H Q := by
    obtain ⟨ρ, h, τ, rh, fr, p⟩ := q
    unfold evE at p
    exact ⟨ρ, h, τ, rh, fr, p⟩
  refine wpAny_Call_Name_kw (ld_glob I hg hm ?_ hd)
  refine PySem.W.callWith_K (h₀ := X.base) I.ok.mod.kin hk (thn (ha.run pos pins s σ H _ I (imp_args q1)) fun us s1 ⟨vs, H1, I1, r, q2⟩ => ⟨I1.kIn, ok pins s1 σ H1 us vs Q I1 r q2⟩) (star_of hs) (noStars hss)
theorem x_call0 {x : Str} {f : Addr} {i : Nat} {p : Pos} (hg : Gl X x) (hm : X.mg x = some (.ref f)) (hk : PySem.W.keepIn X.K (.ref f) = true) (ok : CallOk N X W f (Γ.call i))
    (hd : (x == ("__debug__" : Str)) = false) : PE X (.Call (.Name x p) [] [] pos) (sE N X.K W (evE Γ (.call i .nil))) := by
  refine ⟨fun pins s σ H Q I q => ?_⟩
  have q1 : sE N X.K W (fun τ h => (evEs Γ .nil τ h).bind fun xs h1 => Γ.call i xs h1) σ H Q := by
    obtain ⟨ρ, h, τ, rh, fr, p⟩ := q
    unfold evE at p
    exact ⟨ρ, h, τ, rh, fr, p⟩
  have q2 : sC N X.K W (Γ.call i) σ [] H Q := by
    obtain ⟨ρ, h, τ, rh, fr, p⟩ := q1
    unfold evEs at p
    exact ⟨ρ, h, [], rh, by simp only [VRs], p⟩
  exact wpAny_Call_Name_kw (ld_glob I hg hm (PySem.W.callWith_K0 I.kIn hk (ok pins s σ H [] [] Q I .nil q2)) hd)

/-! ### built-ins, methods -/
theorem imp_bi {f : MH → List Val → Opt} (q : sE N X.K W (fun τ h => (evEs Γ ces τ h).bind fun xs h1 => ofOpt (f h1 xs)) σ H Q) : tCB (sBi N X.K f) (sA N X.K W (evEs Γ ces)) σ H Q := by
  obtain ⟨ρ, h, τ, rh, fr, p⟩ := q
  refine ⟨ρ, h, τ, rh, fr, p.bind.imp ?_⟩
  rintro us H1 ⟨ρ1, h1, xs, e, rh1, r1, p1⟩
  exact ⟨ρ1, h1, xs, rh1, r1, p1.nowish⟩
theorem x_bB {id : String} {x : Str} {p : Pos} {bi : Bi} (rule : CallR X (.builtin id) (sBi N X.K fun h xs => biV Γ bi h xs)) (hg : Gl X x) (hm : X.mg x = none) (hv : bootBuiltins x = some (.builtin id)) (ha : PA X (e :: es) (sA N X.K W (evEs Γ ces)))
    (hn : x ≠ "__name__") (hd : (x == ("__debug__" : Str)) = false) (hs : notStar e = true) (hss : es.all notStar = true) : PE X (.Call (.Name x p) (e :: es) [] pos) (sE N X.K W (evE Γ (.blt bi ces))) :=
  (pe_callB rule hg hm hv ha hn hd (star_of hs) (noStars hss)).weak fun σ H Q q => imp_bi (f := fun h xs => biV Γ bi h xs) (by
    obtain ⟨ρ, h, τ, rh, fr, p⟩ := q
    unfold evE at p
    exact ⟨ρ, h, τ, rh, fr, p⟩)
theorem x_bT {T : String} {x : Str} {p : Pos} {bi : Bi} (rule : CallR X (.type T) (sBi N X.K fun h xs => biV Γ bi h xs)) (hg : Gl X x) (hm : X.mg x = none) (hv : bootBuiltins x = some (.type T)) (ha : PA X (e :: es) (sA N X.K W (evEs Γ ces)))
    (hn : x ≠ "__name__") (hd : (x == ("__debug__" : Str)) = false) (hs : notStar e = true) (hss : es.all notStar = true) : PE X (.Call (.Name x p) (e :: es) [] pos) (sE N X.K W (evE Γ (.blt bi ces))) :=
  (pe_callTy rule hg hm hv ha hn hd (star_of hs) (noStars hss)).weak fun σ H Q q => imp_bi (f := fun h xs => biV Γ bi h xs) (by
    obtain ⟨ρ, h, τ, rh, fr, p⟩ := q
    unfold evE at p
    exact ⟨ρ, h, τ, rh, fr, p⟩)
/-- nothing can be shown of it -/
theorem b_never {f : Value} {g : MH → List Val → Opt} (hg : ∀ h xs, g h xs = none) : CallR X f (sBi N X.K g) := by
  intro pins s σ H xs us Q I r q
  obtain ⟨ρ, h, ws, rh, rw_, p0⟩ := q
  dsimp only at p0
  rw [hg] at p0
  exact p0.elim

/-! ### a caught error -/
/-- what the classes of errors say -/
structure XF (N : Nm) (K : PySem.W.Frag) (Γ : Sys) : Prop where
  hcl : ∀ c, Γ.isx c = true → (PySem.W.clsIn K (He.ga K (N.cls c))).isSome = true
  hga : ∀ c, Γ.isx c = true → PySem.W.findIn K (.ref (He.ga K (N.cls c))) "__getattribute__" = some (some (.builtin "BaseException.__getattribute__"))
  hgt : ∀ c, Γ.isx c = true → PySem.W.findIn K (.ref (He.ga K (N.cls c))) "__getattr__" = some none
  hsub : ∀ c, Γ.isx c = true → PySem.W.subIn K (.ref (He.ga K (N.cls c))) (.type "BaseException") = some true
  hdi : ∀ c, Γ.isx c = true → PySem.W.hasDictIn K (He.ga K (N.cls c)) = true
  ha : ∀ c, Γ.isx c = true → PySem.W.findIn K (.ref (He.ga K (N.cls c))) "__class__" = some (some (.builtin "object.__class__"))
  hm : ∀ c, Γ.isx c = true → PySem.W.mroIn K (He.ga K (N.cls c)) (.type "object") = some true
  hn : PySem.W.specialIn K (.builtin "object.__class__") "__get__" = some (some (.builtin "getset_descriptor.__get__"))
  htk : PySem.W.takesIn K (.builtin "object.__class__") = some true
  kit : ∀ c d, Γ.isx c = true → Γ.isx d = true → PySem.W.kitOne K (.ref (He.ga K (N.cls c))) (.ref (He.ga K (N.cls d))) = some (Γ.sub c d)
  kitT : ∀ c n, Γ.isx c = true → excTypes.contains n = true → PySem.W.kitOne K (.ref (He.ga K (N.cls c))) (.type n) = some true
  fld : ∀ c f, Γ.isx c = true → f ∈ N.flds c → PySem.W.findIn K (.ref (He.ga K (N.cls c))) f = some none
  flds : Γ.flds = N.flds
  ndf : ∀ c, (N.flds c).Nodup
/-- the caught error stands, pinned -/
def HotE (N : Nm) (X : Cx) (Γ : Sys) : Prop := ∀ c a d, N.ex = some (c, a, d) → Γ.isx c = true ∧ ∃ oe, (a, oe) ∈ X.pn ∧ Zc (.ref (He.ga X.K (N.cls c))) d oe ∧ (∃ vs, oe.data = .fields vs) ∧ Hot1 X.A (a, oe)
theorem exn_pin (E : HotE N X Γ) {ρ : List Addr} {c : Nat} {fs : List Val} {v : V} (r : VR N X.K ρ H (.exn c fs) v) {pins : List (Addr × PySem.Obj)} {s : Shared} (I : Inv X pins σ H s) :
    Γ.isx c = true ∧ ∃ (a : Addr) (d : Option Addr) (oe : PySem.Obj) (ox : Option PySem.Obj) (vs : List V), v = .ref a ∧ Zc (.ref (He.ga X.K (N.cls c))) d oe ∧ PySem.W.InstAt s.heap a oe (He.ga X.K (N.cls c)) ox ∧ VRs N X.K ρ H fs vs ∧
      ((N.flds c = [] ∧ d = none) ∨ (N.flds c ≠ [] ∧ ∃ dd od, d = some dd ∧ H dd = some (.xd ((N.flds c).zip vs)) ∧ ox = some od ∧ s.heap.get? dd = some od)) := by
  simp only [VR] at r
  obtain ⟨a, d, vs, e1, rfl, rs, _, z⟩ := r
  obtain ⟨ix, oe, hp, hz, ⟨ws, hv⟩, _⟩ := E c a d e1
  obtain ⟨hget, _⟩ := I.pin (a, oe) (List.mem_append.mpr (.inl hp))
  have hget' : s.heap.get? a = some oe := hget
  rcases z with ⟨z1, z2⟩ | ⟨z1, dd, z2, z3, z4⟩
  · refine ⟨ix, a, d, oe, none, vs, rfl, hz, ⟨hget', hz.1, by unfold PySem.W.notCls; rw [hv], ?_⟩, rs, .inl ⟨z1, z2⟩⟩
    rw [hz.2, z2]
    trivial
  · obtain ⟨mA, hns, hr⟩ := show ObjOk X.prog X.w H s.heap dd (.xd _) from I.hok dd _ z3
    obtain ⟨od, ho, hl⟩ := lookIn_ns hns
    refine ⟨ix, a, d, oe, some od, vs, rfl, hz, ⟨hget', hz.1, by unfold PySem.W.notCls; rw [hv], by rw [hz.2, z2]; exact ho⟩, rs, .inr ⟨z1, dd, od, z2, z3, rfl, ho⟩⟩
theorem tySub_kit {K : PySem.W.Frag} {a b : String} (ha : a ∈ tyTags) (hb : b ∈ tyTags) : PySem.W.kitOne K (.type a) (.type b) = some (tySub a b) := by
  have h : (tyTags.all fun a => tyTags.all fun b => decide (kitB a b = some (tySub a b))) = true := by decide +kernel
  exact kit_ty (of_decide_eq_true (List.all_eq_true.mp (List.all_eq_true.mp h a ha) b hb))
theorem tag_ty {ρ : List Addr} {h : MH} (rh : RelH N X.K ρ h H) {x : Val} {v : V} (r : VR N X.K ρ H x v) {t : String} (e : tagOf h x = some t) : TyX X.K H v (.type t) ∧ t ∈ tyTags := by
  cases x with
  | non =>
    simp only [VR] at r
    subst r
    cases e
    exact ⟨.base .non, by decide⟩
  | bl b =>
    simp only [VR] at r
    subst r
    cases e
    exact ⟨.base (.bl b), by decide⟩
  | int i =>
    simp only [VR] at r
    subst r
    cases e
    exact ⟨.base (.int i), by decide⟩
  | str z =>
    simp only [VR] at r
    subst r
    cases e
    exact ⟨.base (.str z), by decide⟩
  | tup xs =>
    simp only [VR] at r
    obtain ⟨a, vs, rfl, q, _⟩ := r
    cases e
    rcases q with ⟨q | ⟨o, q⟩, _⟩ | ⟨o, its, n, q, c, _⟩
    · exact ⟨.base (.tup q), by decide⟩
    · exact ⟨.fTuple q, by decide⟩
    · exact ⟨.kTuple q c, by decide⟩
  | fl xs =>
    simp only [VR] at r
    obtain ⟨a, vs, rfl, q, _⟩ := r
    cases e
    rcases q with ⟨⟨o, q⟩, _⟩ | ⟨o, its, n, q, c, _⟩
    · exact ⟨.base (.frz q), by decide⟩
    · exact ⟨.kList q c, by decide⟩
  | ref i =>
    have e' : (match h[i]? with
      | some (.lst _) => some "list"
      | some (.dic _) => some "dict"
      | _ => none) = some t := e
    cases ho : h[i]? with
    | none =>
      rw [ho] at e'
      cases e'
    | some o =>
      rw [ho] at e'
      obtain ⟨a, _, rfl, oq⟩ := dic_at rh r ho
      cases o with
      | lst xs =>
        cases e'
        simp only [OR] at oq
        obtain ⟨vs, q, _⟩ := oq
        exact ⟨.base (.lst q), by decide⟩
      | dic xs =>
        cases e'
        simp only [OR] at oq
        obtain ⟨vs, q, _⟩ := oq
        exact ⟨.base (.dK q), by decide⟩
      | _ => cases e'
  | _ => cases e
theorem tyAny_kit {ρ : List Addr} {K : PySem.W.Frag} {t : String} (ht : t ∈ tyTags) {b : Bool} : ∀ {ts : List Val} {cs : List V}, VRs N K ρ H ts cs → tyAny t ts = some b → ∃ us : List Value, Paired ClsV cs us ∧ PySem.W.kitAny K (.type t) us = some b
  | [], cs, r, e => by
    simp only [VRs] at r
    subst r
    cases e
    exact ⟨[], .nil, rfl⟩
  | y :: ts, cs, r, e => by
    simp only [VRs] at r
    obtain ⟨v, r', rfl, h1, h2⟩ := r
    cases y with
    | ty n =>
      simp only [VR] at h1
      subst h1
      unfold tyAny at e
      obtain ⟨g, e⟩ := guardO_some e
      have kn := tySub_kit (K := K) ht (List.contains_iff_mem.mp g)
      obtain ⟨b2, e2, e3⟩ := map_some e
      obtain ⟨us, p, q⟩ := tyAny_kit ht h2 e2
      refine ⟨.type n :: us, .cons (.ty n) p, ?_⟩
      subst e3
      cases hs : tySub t n with
      | true =>
        rw [hs] at kn
        exact kitAny_cons kn (fun z => by cases z) (fun _ => rfl)
      | false =>
        rw [hs] at kn
        exact kitAny_cons kn (fun _ => q) (fun z => by cases z)
    | _ => cases e
theorem b_isi (F : XF N X.K Γ) (E : HotE N X Γ) : CallR X (.builtin "isinstance") (sBi N X.K fun h xs => biIsi Γ h xs) := by
  intro pins s σ H xs us Q I r q
  obtain ⟨ρ, h, ws, rh, rw_, p0⟩ := q
  obtain ⟨w, h', e, p⟩ := ofOpt_ok p0
  clear p0
  unfold biIsi at e
  dsimp only at e
  split at e
  · rename_i x c
    obtain ⟨b, e1, e2⟩ := map_some e
    cases e2
    obtain ⟨v, u, rfl, rv, rc⟩ := rw_.inv2
    cases r with
    | cons q1 q2 =>
      cases q2 with
      | cons q3 q4 =>
        cases q4
        have go : ∀ {k : Nat} {fs : List Val} {cv : Value}, VR N X.K ρ H (.exn k fs) v → ∀ {ux uc : Value}, L2.RelV v ux → uc = cv → PySem.W.kitOne X.K (.ref (He.ga X.K (N.cls k))) cv = some b → wpAny (model X.prog X.w) X.A (call (.builtin "isinstance") [ux, uc]) (EP X pins σ Q) X.xe s := by
          intro k fs cv rk ux uc rx ec kit
          obtain ⟨ix, a, d, oe, ox, vs, rfl, hz, J, _, _⟩ := exn_pin E rk I
          cases rx
          rw [ec]
          exact PySem.W.kia_one (PySem.W.kitx_exc (F.hcl k ix) (F.hga k ix) (F.hgt k ix) (F.hsub k ix) (F.ha k ix) F.hn F.htk (F.hm k ix)) I.kIn J kit (fun z => nomatch z) fun tk => ⟨.bl b, H, I.kept (t' := tk) fun _ _ z => z, rfl, p.val rh (by simp only [VR])⟩
        unfold isInst at e1
        split at e1
        · split at e1
          · obtain ⟨z, e1⟩ := guardO_some e1
            cases e1
            simp only [VR] at rc
            subst rc
            obtain ⟨ix, _⟩ := exn_pin E rv I
            exact go rv q1 q3 (F.kit _ _ ix z)
          · cases e1
        · split at e1
          · obtain ⟨z, e1⟩ := guardO_some e1
            cases e1
            simp only [VR] at rc
            subst rc
            obtain ⟨ix, _⟩ := exn_pin E rv I
            exact go rv q1 q3 (F.kitT _ _ ix z)
          · obtain ⟨t, e2, e3⟩ := bind_some e1
            obtain ⟨z, e4⟩ := guardO_some e3
            cases e4
            simp only [VR] at rc
            subst rc
            obtain ⟨ty, mem⟩ := tag_ty rh rv e2
            exact call_isi pins s σ H _ _ Q I (.cons q1 (.cons q3 .nil)) ⟨v, _, _, _, _, rfl, .ty _, ty, tySub_kit mem (List.contains_iff_mem.mp z), p.val rh (by simp only [VR])⟩
        · obtain ⟨t, e2, e3⟩ := bind_some e1
          obtain ⟨ty, mem⟩ := tag_ty rh rv e2
          simp only [VR] at rc
          obtain ⟨a, cs, rfl, tp, rs, _⟩ := rc
          obtain ⟨us2, pr, ka⟩ := tyAny_kit mem rs e3
          have fin : Q (.bl b) H := p.val rh (by simp only [VR])
          rcases tp with ⟨tp | ⟨o, tp⟩, _⟩ | ⟨o, its, n, lk, oc, od, _, vls⟩
          rotate_left
          · exact Hs.isi_frz I (.cons q1 (.cons q3 .nil)) tp pr ty ka fin
          rotate_left
          · exact call_isiT pins s σ H _ _ Q I (.cons q1 (.cons q3 .nil)) ⟨v, a, cs, _, us2, b, rfl, tp, pr, ty, ka, fin⟩
          · have e5 := ClsV.all pr vls
            obtain ⟨c0, d0, dt0, sl0⟩ := o
            dsimp only at oc od
            subst oc od
            exact call_isiK pins s σ H _ _ Q I (.cons q1 (.cons q3 .nil)) ⟨v, a, d0, us2, n, sl0, _, b, rfl, by rw [← e5]; exact lk, ty, ka, fin⟩
        · cases e1
  · cases e
theorem zip_look {ρ : List Addr} {f : Str} {w : Val} : ∀ {fl : List Str} {fs : List Val} {vs : List V}, VRs N X.K ρ H fs vs → (fl.idxOf? f |>.bind fun i => fs[i]?) = some w → ∃ v, (fl.zip vs).lookup f = some v ∧ VR N X.K ρ H w v
  | [], fs, vs, r, e => by
    simp [List.idxOf?] at e
  | g :: fl, [], vs, r, e => by
    cases hq : (g :: fl).idxOf? f with
    | none =>
      rw [hq] at e
      cases e
    | some i =>
      rw [hq] at e
      simp at e
  | g :: fl, y :: fs, vs, r, e => by
    simp only [VRs] at r
    obtain ⟨v, r', rfl, h1, h2⟩ := r
    by_cases hgf : g = f
    · subst hgf
      have e1 : (g :: fl).idxOf? g = some 0 := by simp [List.idxOf?, List.findIdx?_cons]
      rw [e1] at e
      simp at e
      subst e
      exact ⟨v, by simp [List.zip_cons_cons, List.lookup_cons], h1⟩
    · have e1 : (g :: fl).idxOf? f = (fl.idxOf? f).map (· + 1) := by
        simp [List.idxOf?, List.findIdx?_cons, hgf]
      rw [e1] at e
      have e2 : (fl.idxOf? f |>.bind fun i => fs[i]?) = some w := by
        cases hq : fl.idxOf? f with
        | none =>
          rw [hq] at e
          cases e
        | some i =>
          rw [hq] at e
          simpa using e
      obtain ⟨v', a1, a2⟩ := zip_look h2 e2
      refine ⟨v', ?_, a2⟩
      have hfg : (f == g) = false := beq_eq_false_iff_ne.mpr fun z => hgf z.symm
      rw [List.zip_cons_cons, List.lookup_cons, hfg]
      exact a1
theorem x_fld (F : XF N X.K Γ) (E : HotE N X Γ) {f : Str} (ha : PE X a (sE N X.K W (evE Γ ca))) (hb : attributeBase a f X.env (eval a X.env) = eval a X.env) : PE X (.Attribute a f pos) (sE N X.K W (evE Γ (.fld ca f))) := by
  refine ⟨fun pins s σ H Q I q => ?_⟩
  obtain ⟨ρ, h, τ, rh, fr, p⟩ := q
  unfold evE at p
  refine attr_of hb (thn (ha.run pins s σ H _ I ⟨ρ, h, τ, rh, fr, p.bind⟩) ?_)
  rintro u s1 ⟨v, H1, I1, rx, ρ1, h1, x, e, rh1, rv, p1⟩
  cases hg : getFld Γ.flds h1 x f with
  | none =>
    rw [hg] at p1
    exact p1.elim
  | some w =>
    rw [hg] at p1
    cases x with
    | exn c fs =>
      have hg' : ((Γ.flds c).idxOf? f |>.bind fun i => fs[i]?) = some w := hg
      rw [F.flds] at hg'
      obtain ⟨ix, a', d, oe, ox, vs, rfl, hz, J, rs, z⟩ := exn_pin E rv I1
      cases rx
      obtain ⟨v', l1, l2⟩ := zip_look rs hg'
      have hf : f ∈ N.flds c := by
        cases hq : (N.flds c).idxOf? f with
        | none =>
          rw [hq] at hg'
          cases hg'
        | some i =>
          unfold List.idxOf? at hq
          obtain ⟨hi, hp, _⟩ := List.findIdx?_eq_some_iff_getElem.mp hq
          have := beq_iff_eq.mp hp
          rw [← this]
          exact List.getElem_mem _
      rcases z with ⟨z1, _⟩ | ⟨z1, dd, od, z2, z3, z4, z5⟩
      · rw [z1] at hf
        cases hf
      · obtain ⟨mA, hns, hr⟩ := show ObjOk X.prog X.w H1 s1.heap dd (.xd _) from I1.hok dd _ z3
        obtain ⟨od', ho, hl⟩ := lookIn_ns hns
        rw [z5] at ho
        cases ho
        obtain ⟨u', hu, ru⟩ := RelO.some_of (v := v') (o := mA f) (by rw [← l1]; exact hr f)
        rw [z4] at J
        exact HandSPX.exc_get I1.kIn J (F.hga c ix) (F.hgt c ix) (F.hsub c ix) (PySem.W.findObj_own (F.hdi c ix) (F.fld c f ix hf) rfl (by rw [hl, hu])) (handed_of ru) ⟨v', H1, I1.tok _, ru, p1.ok rh1 l2⟩
    | ref r =>
      cases ho : h1[r]? with
      | none =>
        simp only [getFld, ho] at hg
        cases hg
      | some o =>
        simp only [getFld, ho] at hg
        obtain ⟨a', e0, e1, oq⟩ := dic_at rh1 rv ho
        cases o with
        | ins c fs => simp only [OR] at oq
        | _ => cases hg
    | _ => cases hg
end
end Mini
set_option Elab.async false
set_option linter.all false
set_option maxRecDepth 100000
set_option maxHeartbeats 2000000
/-! Mini against the model: displays of dicts, methods, targets, statements. -/
namespace Mini
open PySem PySem.Spec PyProof.Rows L2
/-! ### what holds of every text of a form -/
def isLC : Expr → Bool
  | .ListComp _ _ _ _ => true
  | .DictComp _ _ _ _ _ => true
  | .SetComp _ _ _ _ => true
  | _ => false
theorem noswap {e : Expr} {t : Option Expr} {n : Nat} {env : PySem.Env} (h : isLC e = false) : swapsWith e t n env = pure false := by
  cases e <;> first | rfl | cases h
theorem noswapS {tg e : Expr} {n : Nat} {env : PySem.Env} (h : isLC e = false) : swapsWithSole [tg] e n env = pure false := by
  cases e <;> first | rfl | cases h | (cases tg <;> rfl)
theorem asg1 {tg : Expr} {env : PySem.Env} (h : notStar tg = true) : (assignEach [tg] env).map (·.2) = [assign tg env] := by
  cases tg <;> first | rfl | cases h
theorem asgc {tg : Expr} {es : List Expr} {env : PySem.Env} (h : notStar tg = true) : (assignEach (tg :: es) env).map (·.2) = assign tg env :: (assignEach es env).map (·.2) := by
  cases tg <;> first | rfl | cases h
theorem asg_len {env : PySem.Env} : ∀ {es : List Expr}, es.all notStar = true → (assignEach es env).length = es.length ∧ (assignEach es env).findIdx? (·.1) = none
  | [], _ => ⟨rfl, rfl⟩
  | e :: es, h => by
    rw [List.all_cons, Bool.and_eq_true] at h
    obtain ⟨h1, h2⟩ := asg_len (env := env) h.2
    have hq : ∃ p : Value → Sem Unit, assignEach (e :: es) env = (false, p) :: assignEach es env := by
      cases e <;> first | exact ⟨_, rfl⟩ | cases h.1
    obtain ⟨p, hq⟩ := hq
    rw [hq]
    refine ⟨by rw [List.length_cons, h1, List.length_cons], ?_⟩
    rw [List.findIdx?_cons, h2]
    rfl
def plainTg : Expr → Bool
  | .Name _ _ => true
  | .Subscript _ _ _ => true
  | .Tuple _ _ _ => true
  | _ => false
def pairedValue : Expr → Bool
  | .Tuple _ _ _ => true
  | _ => false
def attrOk : Expr → Bool
  | .Name _ _ => true
  | .Subscript _ _ _ => true
  | .Attribute _ _ _ => true
  | _ => false
theorem attrb {e : Expr} {f : Str} {env : PySem.Env} (h : attrOk e = true) : attributeBase e f env (eval e env) = eval e env := by
  cases e <;> first | rfl | cases h
def isSlice : Expr → Bool
  | .Slice _ _ _ _ => true
  | _ => false
theorem plainix {b : Expr} (h : isSlice b = false) : PlainIx b := by
  cases b <;> first | (intro o i; rfl) | cases h
def isSetD : Expr → Bool
  | .Set _ _ _ => true
  | .List _ _ => true
  | .Tuple _ _ _ => true
  | _ => false
def isSetI : Expr → Bool
  | .Set _ _ _ => true
  | _ => false
def markOk : CmpOp → Expr → Bool
  | .In, b => !isSetD b
  | .NotIn, b => !isSetD b
  | _, .Set _ _ _ => false
  | _, _ => true
theorem behind {op : CmpOp} {b : Expr} (h : markOk op b = true) : behindInMarks op b = false := by
  cases op <;> cases b <;> first | rfl | cases h
def plainT : Expr → Bool
  | .BoolOp .. => false
  | .UnaryOp .. => false
  | .Compare .. => false
  | .IfExp .. => false
  | _ => true
theorem ist {e : Expr} {env : PySem.Env} (h : plainT e = true) : ∀ whole, isTrue e env whole = (do let v ← whole; standAt e.pos; holding [v] (truthy v)) := by
  cases e <;> first | (intro w; rfl) | cases h
section
variable {N : Nm} {X : Cx} {W : WX} {Γ : Sys} {σ : L2.St} {H H' : L2.Hp} {Q : VK} {ρ ρ' : List Addr} {h : MH}
variable {a b c e o : Expr} {es : List Expr} {ca cb cc ces : C} {pos apos : Pos}

/-! ### o.append(x) -/
theorem tyV_list {x : Val} {v : V} (rh : RelH N X.K ρ h H) (r : VR N X.K ρ H x v) (t : mtTy .append h x = true) : tyV X.K "list" v H := by
  cases x with
  | ref i =>
    have t' : (match h[i]? with
      | some (.lst _) => true
      | _ => false) = true := t
    cases e : h[i]? with
    | none =>
      rw [e] at t'
      cases t'
    | some ob =>
      rw [e] at t'
      obtain ⟨a, e0, rfl, oq⟩ := dic_at rh r e
      cases ob with
      | lst xs =>
        simp only [OR] at oq
        obtain ⟨vs, q, _⟩ := oq
        exact .inl ⟨rfl, vs, .inl (.inl q)⟩
      | _ => cases t'
  | _ => cases t
theorem few1 {cpos : Pos} {env : PySem.Env} (hs : notStar e = true) : ((backTo cpos (starEach [e] env)).all (fun x => !x.1) && (backToKw cpos (keywordEach [] env)).all (fun x => x.1.isSome)
      && decide (([e] : List Expr).length + ([] : List Keyword).length + (if ([] : List Keyword).isEmpty then 0 else 1) < 30)) = true := by
  cases e <;> first | rfl | cases hs
/-- a method of a built-in type, one argument -/
theorem x_mth1 {m : Mt} {T id : String} {name : Str} (pa : PlainAttrs T) (slot : Slot T name id) (hty : typeOf (.builtin id) = pure (.type "method_descriptor"))
    (hm : MtR X id (fun x xs H Q => ∃ ρ h wo ws, RelH N X.K ρ h H ∧ VR N X.K ρ H wo x ∧ VRs N X.K ρ H ws xs ∧ Post N X.K ρ H NoW (VR N X.K) (ofOpt (mtV m h wo ws)) Q))
    (ht : ∀ {ρ : List Addr} {h : MH} {H : L2.Hp} {x : Val} {v : V}, RelH N X.K ρ h H → VR N X.K ρ H x v → mtTy m h x = true → tyV X.K T v H)
    (ho : PE X o (sE N X.K W (evE Γ ca))) (ha : PA X [e] (sA N X.K W (evEs Γ ces))) (hb : attrOk o = true) (hl : (apos.endLine == pos.line) = true) (hs : notStar e = true) :
    PE X (.Call (.Attribute o name apos) [e] [] pos) (sE N X.K W (evE Γ (.mth m ca ces))) :=
  (pe_bm pa slot hty hm ho ha (attrb hb) (few1 hs) hl (star_of hs) (noStars (by rfl))).weak fun σ H Q ⟨ρ, h, τ, rh, fr, p⟩ => by
    unfold evE at p
    refine ⟨ρ, h, τ, rh, fr, p.bind.imp ?_⟩
    rintro v H1 ⟨ρ1, h1, x, e1, rh1, rv, p1⟩
    split at p1
    · rename_i t
      refine ⟨ht rh1 rv t, ρ1, h1, τ, rh1, fr.mono e1, p1.bind.imp ?_⟩
      rintro us H2 ⟨ρ2, h2, xs, e2, rh2, rv2, p2⟩
      exact ⟨ρ2, h2, x, xs, rh2, rv.mono e2, rv2, p2.nowish⟩
    · exact p1.elim

/-! ### {k: v, ..} -/
def trsOf (N : Nm) (K : PySem.W.Frag) (W : WX) (Γ : Sys) : C → List (TE × TE)
  | .cons k (.cons v r) => (sE N K W (evE Γ k), sE N K W (evE Γ v)) :: trsOf N K W Γ r
  | _ => []
def evenC : C → Bool
  | .nil => true
  | .cons _ (.cons _ r) => evenC r
  | _ => false
def flatV : List (V × V) → List V
  | [] => []
  | p :: r => p.1 :: p.2 :: flatV r
theorem tPairs_of {Q : List V → L2.Hp → Prop} : ∀ {c : C}, evenC c = true → ∀ {σ : L2.St} {H : L2.Hp}, sA N X.K W (evEs Γ c) σ H Q → tPairs (trsOf N X.K W Γ c) σ H fun ps H' => Q (flatV ps) H'
  | .nil, _, σ, H, ⟨ρ, h, τ, rh, fr, p⟩ => by
    unfold evEs at p
    exact p.ok rh (by simp only [VRs, flatV])
  | .cons k (.cons v r), he, σ, H, ⟨ρ, h, τ, rh, fr, p⟩ => by
    unfold evEs at p
    refine ⟨ρ, h, τ, rh, fr, p.bind.imp ?_⟩
    rintro x H1 ⟨ρ1, h1, wx, e1, rh1, r1, p1⟩
    unfold evEs at p1
    cases hv : evE Γ v τ h1 with
    | bad =>
      rw [hv] at p1
      exact p1.elim
    | exc c fs h2 =>
      rw [hv] at p1
      refine ⟨ρ1, h1, τ, rh1, fr.mono e1, ?_⟩
      rw [hv]
      exact p1
    | ok wy h2 =>
      rw [hv] at p1
      refine ⟨ρ1, h1, τ, rh1, fr.mono e1, ?_⟩
      rw [hv]
      intro ρ2 H2 y e2 rh2 r2
      refine tPairs_of (c := r) (Q := fun l H' => Q (x :: y :: l) H') he ⟨ρ2, h2, τ, rh2, fr.mono (e1.trans e2), ?_⟩
      have p2 : Post N X.K ρ2 H2 (fun c d H' => W c d σ H') (VRs N X.K) ((evEs Γ r τ h2).bind fun zs h3 => .ok (wx :: wy :: zs) h3) Q := by
        have p3 := Post.later e2 (r := _) p1
        cases hr : evEs Γ r τ h2 with
        | bad =>
          simp only [Res.bind, hr] at p3 ⊢
          exact p3
        | exc c fs h3 =>
          simp only [Res.bind, hr] at p3 ⊢
          exact p3
        | ok zs h3 =>
          simp only [Res.bind, hr] at p3 ⊢
          exact p3
      refine p2.bind.imp ?_
      rintro zs H3 ⟨ρ3, h3, ws, e3, rh3, r3, p3⟩
      refine p3.ok rh3 ?_
      simp only [VRs]
      exact ⟨x, _, rfl, r1.mono (e2.trans e3), y, _, rfl, r2.mono e3, r3⟩
  | .cons k .nil, he, _, _, _ => by cases he
theorem pair_rel : ∀ {ps : List (V × V)} {ws : List Val} {kvs : List (Val × Val)}, pairUp ws = some kvs → VRs N X.K ρ H ws (flatV ps) → kvs.all (fun p => keyOk p.1 && dat p.2) = true →
    ∃ kv : List (Key × V), ps = kv.map (fun q => (kV q.1, q.2)) ∧ DR N X.K ρ H kvs kv
  | [], ws, kvs, e, r, _ => by
    cases ws with
    | nil =>
      cases e
      exact ⟨[], rfl, by simp only [DR]⟩
    | cons w ws =>
      simp only [VRs, flatV] at r
      obtain ⟨_, _, z, _⟩ := r
      cases z
  | p :: ps, ws, kvs, e, r, g => by
    cases ws with
    | nil =>
      simp only [VRs, flatV] at r
      cases r
    | cons k ws =>
      cases ws with
      | nil => cases e
      | cons v ws =>
        simp only [VRs, flatV] at r
        obtain ⟨v1, r1, z1, h1, v2, r2, z2, h2, h3⟩ := r
        injection z1 with z1 z3
        subst z1 z3
        injection z2 with z2 z4
        subst z2 z4
        simp only [pairUp] at e
        obtain ⟨kvs', e1, rfl⟩ := map_some e
        rw [List.all_cons, Bool.and_eq_true, Bool.and_eq_true] at g
        obtain ⟨kv, rfl, d⟩ := pair_rel e1 h3 g.2
        obtain ⟨c, kr, hk⟩ := key_of g.1.1 h1
        refine ⟨(c, p.2) :: kv, ?_, ?_⟩
        · rw [List.map_cons, ← hk]
        · simp only [DR]
          exact ⟨c, p.2, kv, rfl, kr, h2, g.1.2, d⟩
theorem merge_rel : ∀ {kvs : List (Val × Val)} {kv : List (Key × V)} {d : List (Val × Val)} {dv : List (Key × V)}, DR N X.K ρ H kvs kv → DR N X.K ρ H d dv → DR N X.K ρ H (kvs.foldl (fun d p => dPut d p.1 p.2) d) (mergeK dv kv)
  | [], kv, d, dv, r, q => by
    simp only [DR] at r
    subst r
    exact q
  | p :: kvs, kv, d, dv, r, q => by
    simp only [DR] at r
    obtain ⟨k, v, r', rfl, h1, h2, h3, h4⟩ := r
    exact merge_rel (kvs := kvs) (kv := r') (dv := putK dv k v) h4 (dput_rel h1 h2 h3 q)
theorem trs_cons {k v r : C} : trsOf N X.K W Γ (.cons k (.cons v r)) = (sE N X.K W (evE Γ k), sE N X.K W (evE Γ v)) :: trsOf N X.K W Γ r := rfl
def goodTr (N : Nm) (K : PySem.W.Frag) (W : WX) (l : List (TE × TE)) : Prop := ∀ p ∈ l, ∃ m1 m2, p = (sE N K W m1, sE N K W m2)
theorem trs_good : ∀ {c : C}, evenC c = true → goodTr N X.K W (trsOf N X.K W Γ c)
  | .nil, _ => fun _ h => by cases h
  | .cons k (.cons v r), he => fun p h => by
    rcases List.mem_cons.mp h with z | z
    · exact ⟨_, _, z⟩
    · exact trs_good (c := r) he p z
  | .cons k .nil, he => by cases he
theorem tPairs_imp {Q Q' : List (V × V) → L2.Hp → Prop} : ∀ {l : List (TE × TE)} {σ : L2.St} {H : L2.Hp}, goodTr N X.K W l → (∀ ps H', Q ps H' → Q' ps H') → tPairs l σ H Q → tPairs l σ H Q'
  | [], σ, H, _, hq, q => hq _ _ q
  | (a, b) :: r, σ, H, g, hq, q => by
    obtain ⟨m1, m2, e⟩ := g _ List.mem_cons_self
    cases e
    obtain ⟨ρ, h, τ, rh, fr, p⟩ := q
    refine ⟨ρ, h, τ, rh, fr, p.imp ?_⟩
    rintro x H1 ⟨ρ, h, τ, rh, fr, p⟩
    exact ⟨ρ, h, τ, rh, fr, p.imp fun y H2 q => tPairs_imp (l := r) (fun p hp => g p (List.mem_cons_of_mem _ hp)) (fun ps H' z => hq _ _ z) q⟩
theorem x_dct {keys : List (Option Expr)} {values : List Expr} (hp : PPs X pos keys values (trsOf N X.K W Γ ces)) (he : evenC ces = true) (hall : keys.all (·.isSome) = true) (hl : keys.length = values.length) (h0 : keys ≠ []) (h15 : keys.length ≤ 15) :
    PE X (.Dict keys values pos) (sE N X.K W (evE Γ (.dct ces))) :=
  (pe_disp hp hall hl h0 h15).weak fun σ H Q ⟨ρ, h, τ, rh, fr, p⟩ => by
    unfold evE at p
    intro a ha
    have e0 : Ext ρ H ρ (upd H a (.dK [])) := Ext.newT ha
    have na : a ∉ ρ := rh.notin ha
    have z := tPairs_of (N := N) (X := X) (W := W) (Γ := Γ) (c := ces) (σ := σ) (H := upd H a (.dK [])) (Q := fun l H2 => ∀ ps : List (V × V), l = flatV ps → H2 a = some (.dK []) ∧ ∃ kvs : List (Key × V), ps = kvs.map (fun kv => (kV kv.1, kv.2)) ∧ kvs.length ≤ 15 ∧ Q (.ref a) (upd H2 a (.dK (mergeK [] kvs)))) he ?_
    · exact tPairs_imp (trs_good he) (fun ps H2 q => q ps rfl) z
    · refine ⟨ρ, h, τ, rh.newT ha, fr.mono e0, ?_⟩
      cases hr : evEs Γ ces τ h with
      | bad =>
        rw [hr] at p
        exact p.elim
      | exc c fs h2 =>
        rw [hr] at p
        intro ρ2 H2 vs d e2
        exact p ρ2 H2 vs d (e0.trans e2)
      | ok xs h2 =>
        rw [hr] at p
        intro ρ2 H2 l e2 rh2 r2 ps hl
        subst hl
        have ea : H2 a = some (.dK []) := e2.keep a _ upd_same na (fun ps z => by cases z)
        refine ⟨ea, ?_⟩
        have p' : Post N X.K ρ H (fun c d H' => W c d σ H') (VR N X.K) (ofOpt (newDic h2 xs)) Q := p
        cases hn : newDic h2 xs with
        | none =>
          rw [hn] at p'
          exact p'.elim
        | some q =>
          rw [hn] at p'
          unfold newDic at hn
          obtain ⟨kvs, hk, hn⟩ := bind_some hn
          obtain ⟨g, hn⟩ := guardO_some hn
          rw [Bool.and_eq_true] at g
          obtain ⟨kv, hps, dr⟩ := pair_rel hk r2 g.1
          refine ⟨kv, hps, by rw [DR.length dr]; exact of_decide_eq_true g.2, ?_⟩
          cases hn
          have na2 : a ∉ ρ2 := e2.notin upd_same na
          have eN : Ext ρ H (ρ2 ++ [a]) (upd H2 a (.dK (mergeK [] kv))) := by
            obtain ⟨m1, q1, q2⟩ := e2.pre
            refine ⟨⟨m1 ++ [a], by rw [q1, List.append_assoc], fun b hb => ?_⟩, fun b o hb nb nt => ?_, fun b hb => ?_⟩
            · rcases List.mem_append.mp hb with z | z
              · exact e0.dom b (q2 b z)
              · rw [List.mem_singleton] at z
                rw [z]
                exact ha
            · have nba : b ≠ a := fun z => by
                rw [z, ha] at hb
                cases hb
              rw [upd_ne nba]
              exact e2.keep b o (by rw [upd_ne nba]; exact hb) nb nt
            · have nba : b ≠ a := fun z => by
                rw [z, upd_same] at hb
                cases hb
              rw [upd_ne nba] at hb
              exact e0.dom b (e2.dom b hb)
          have kN : Kp ρ2 H2 (ρ2 ++ [a]) (upd H2 a (.dK (mergeK [] kv))) := by
            refine ⟨fun i b hb => by rw [List.getElem?_append_left (List.getElem?_eq_some_iff.mp hb).1]; exact hb, fun b o hb nb im => ?_⟩
            have nba : b ≠ a := fun z => by
              rw [z, ea] at hb
              cases hb
              exact im
            refine ⟨by rw [upd_ne nba]; exact hb, fun hm => ?_⟩
            rcases List.mem_append.mp hm with z | z
            · exact nb z
            · exact nba (List.mem_singleton.mp z)
          refine p' _ _ _ eN (rh2.newK na2 (fun u e => by rw [ea] at e; cases e; exact ⟨fun _ z => (by cases z), fun _ z => (by cases z)⟩) kN ?_) (VR.newRef rh2)
          simp only [OR]
          exact ⟨_, upd_same, merge_rel (dr.kp kN) (by simp only [DR])⟩
theorem x_dct0 : PE X (.Dict [] [] pos) (sE N X.K W (evE Γ (.dct .nil))) :=
  pe_dnewK.weak fun σ H Q ⟨ρ, h, τ, rh, fr, p⟩ => by
    unfold evE evEs at p
    intro a ha
    refine p _ _ _ (Ext.new ha) (rh.new ha ?_) (VR.newRef rh)
    simp only [OR]
    exact ⟨_, upd_same, by simp [DR, mkDic]⟩
end
end Mini
set_option Elab.async false
set_option linter.all false
set_option maxRecDepth 100000
set_option maxHeartbeats 2000000
/-! Mini against the model: targets, statements. -/
namespace Mini
open PySem PySem.Spec PyProof.Rows L2
theorem _root_.L2.PG.weak {X : Cx} {e : Expr} {t t' : TG} (p : PG X e t) (h : ∀ v σ H Q, t' v σ H Q → t v σ H Q) : PG X e t' := ⟨fun pins s σ H v u Q I r q => p.run pins s σ H v u Q I r (h v σ H Q q)⟩
theorem _root_.L2.PGs.weak {X : Cx} {e : List Expr} {t t' : TGs} (p : PGs X e t) (h : ∀ v σ H Q, t' v σ H Q → t v σ H Q) : PGs X e t' := ⟨fun pins s σ H v u Q I r q => p.run pins s σ H v u Q I r (h v σ H Q q)⟩
def nxO (f : L2.St → L2.Hp → Prop) : Ends := { nx := f, rt := fun _ _ => False }
section
variable (N : Nm) (K : PySem.W.Frag) (W : WX)
def sG (m : Val → MF → MH → Out) : TG := fun v σ H Q => ∃ ρ h τ x, RelH N K ρ h H ∧ FR N K ρ H τ σ ∧ VR N K ρ H x v ∧ PostS N K ρ H W (nxO Q) (m x τ h)
def sGs (m : List Val → MF → MH → Out) : TGs := fun v σ H Q => ∃ ρ h τ x, RelH N K ρ h H ∧ FR N K ρ H τ σ ∧ VRs N K ρ H x v ∧ PostS N K ρ H W (nxO Q) (m x τ h)
end
section
variable {N : Nm} {X : Cx} {W : WX} {Γ : Sys} {σ : L2.St} {H H' : L2.Hp} {Q : VK} {ρ ρ' : List Addr} {h : MH} {D : Ends}
variable {a b c e o : Expr} {es : List Expr} {ca cb cc ces ct cts : C} {pos apos : Pos} {st : Stmt} {sts : List Stmt}
theorem PostS.go {K : PySem.W.Frag} {α β : Type} {rel : List Addr → L2.Hp → α → β → Prop} {r : Res α} {f : α → MH → Out} {τ : MF} (fr : FR N K ρ H τ σ) (p : PostS N K ρ H W D (r.go τ f)) :
    Post N K ρ H (fun c d H' => W c d σ H') rel r fun v H1 => ∃ ρ1 h1 x, Ext ρ H ρ1 H1 ∧ RelH N K ρ1 h1 H1 ∧ rel ρ1 H1 x v ∧ PostS N K ρ1 H1 W D (f x h1) := by
  cases r with
  | ok x h => exact fun ρ1 H1 v e rh rv => ⟨ρ1, h, x, e, rh, rv, PostS.later (r := f x h) e p⟩
  | exc c fs h => exact fun ρ1 H1 vs d e rh rv hd xd => p ρ1 H1 σ vs d e rh (fr.mono e) rv hd xd
  | bad => exact p
theorem PostS.nx {K : PySem.W.Frag} {τ : MF} (fr : FR N K ρ H τ σ) (rh : RelH N K ρ h H) (p : PostS N K ρ H W D (.nx τ h)) : D.nx σ H := p ρ H σ Ext.refl rh fr

/-! ### targets -/
theorem g_tv {i : Nat} {x : Str} (hN : X.N.Nodup) (hi : X.N[i]? = some x) (hx : Loc X.env.scope x) (hf : X.fn x = true ∨ X.env.scope.names.lookup x = some .local) : PG X (.Name x pos) (sG N X.K W (asg Γ (.tv i))) :=
  (pg_name hN hi hx hf).weak fun v σ H Q ⟨ρ, h, τ, x, rh, fr, rv, p⟩ => by
    unfold asg at p
    exact p ρ H _ Ext.refl rh (fr.set i rv)
theorem gs_nil : PGs X [] (sGs N X.K W (asgs Γ .nil)) :=
  pgs_nil.weak fun v σ H Q ⟨ρ, h, τ, x, rh, fr, rv, p⟩ => by
    cases x with
    | nil =>
      unfold asgs at p
      simp only [VRs] at rv
      exact ⟨rv, p ρ H _ Ext.refl rh fr⟩
    | cons y ys =>
      unfold asgs at p
      exact p.elim
theorem gs_cons (h1 : PG X e (sG N X.K W (asg Γ ct))) (h2 : PGs X es (sGs N X.K W (asgs Γ cts))) (hs : notStar e = true) : PGs X (e :: es) (sGs N X.K W (asgs Γ (.cons ct cts))) :=
  (pgs_cons h1 h2 (asgc hs)).weak fun v σ H Q ⟨ρ, h, τ, x, rh, fr, rv, p⟩ => by
    cases x with
    | nil =>
      unfold asgs at p
      exact p.elim
    | cons y ys =>
      unfold asgs at p
      simp only [VRs] at rv
      obtain ⟨v1, r1, rfl, ry, rys⟩ := rv
      refine ⟨v1, r1, rfl, ρ, h, τ, y, rh, fr, ry, ?_⟩
      cases ha : asg Γ ct y τ h with
      | nx τ1 h1 =>
        rw [ha] at p
        intro ρ1 H1 σ1 e1 rh1 fr1
        exact ⟨ρ1, h1, τ1, ys, rh1, fr1, rys.mono e1, PostS.later (r := asgs Γ cts ys τ1 h1) e1 p⟩
      | rt w h1 =>
        rw [ha] at p
        exact p
      | bk τ1 h1 =>
        rw [ha] at p
        exact p
      | ct τ1 h1 =>
        rw [ha] at p
        exact p
      | ex c fs τ1 h1 =>
        rw [ha] at p
        exact p
      | bad =>
        rw [ha] at p
        exact p
theorem g_tt {k : Nat} (hc : X.calm = true) (hg : PGs X es (sGs N X.K W (asgs Γ cts))) (hl : es.length = lenC cts) (hs : es.all notStar = true) : PG X (.Tuple es k pos) (sG N X.K W (asg Γ (.tt cts))) :=
  (pg_tup (n := es.length) hc hg (asg_len hs).1 (asg_len hs).2).weak fun v σ H Q ⟨ρ, h, τ, x, rh, fr, rv, p⟩ => by
    cases x with
    | tup xs =>
      unfold asg at p
      dsimp only at p
      split at p
      · rename_i hx
        simp only [VR] at rv
        obtain ⟨a, vs, rfl, t, rs, _⟩ := rv
        exact ⟨a, vs, rfl, t.sq, by rw [rs.length, hx, hl], ρ, h, τ, xs, rh, fr, rs, p⟩
      · exact p.elim
    | _ =>
      unfold asg at p
      exact p.elim
theorem g_tix (B : Base X) (ha : PE X a (sE N X.K W (evE Γ ca))) (hb : PE X b (sE N X.K W (evE Γ cb))) (hs : isSlice b = false) : PG X (.Subscript a b pos) (sG N X.K W (asg Γ (.tix ca cb))) := by
  refine (pg_sub ha hb (o_put (N := N) B) ?_).weak fun v σ H Q ⟨ρ, h, τ, x, rh, fr, rv, p⟩ => ?_
  · intro w
    cases b <;> first | rfl | cases hs
  · unfold asg at p
    refine ⟨ρ, h, τ, rh, fr, (PostS.go (rel := VR N X.K) fr p).imp ?_⟩
    rintro y H1 ⟨ρ1, h1, wy, e1, rh1, r1, p1⟩
    refine ⟨ρ1, h1, τ, rh1, fr.mono e1, (PostS.go (rel := VR N X.K) (fr.mono e1) p1).imp ?_⟩
    rintro z H2 ⟨ρ2, h2, wz, e2, rh2, r2, p2⟩
    cases hp : putIx h2 wy wz x with
    | none =>
      rw [hp] at p2
      exact p2.elim
    | some h3 =>
      rw [hp] at p2
      exact ⟨ρ2, h2, wy, wz, x, h3, rh2, r1.mono e2, r2, rv.mono (e1.trans e2), hp, fun H3 e3 rh3 => p2 ρ2 H3 σ e3 rh3 (fr.mono (e1.trans (e2.trans e3)))⟩
def simple : Out → Bool
  | .nx _ _ => true
  | .ex _ _ _ _ => true
  | .bad => true
  | _ => false
theorem simple_go {α : Type} {r : Res α} {τ : MF} {f : α → MH → Out} (hf : ∀ x h, simple (f x h) = true) : simple (r.go τ f) = true := by
  cases r with
  | ok x h => exact hf x h
  | exc c fs h => rfl
  | bad => rfl
mutual
theorem asg_simple : ∀ (t : C) (x : Val) (τ : MF) (h : MH), simple (asg Γ t x τ h) = true := by
  intro t x τ h
  cases t with
  | tv i =>
    unfold asg
    rfl
  | tt ts =>
    cases x with
    | tup xs =>
      unfold asg
      dsimp only
      split
      · exact asgs_simple ts xs τ h
      · rfl
    | _ =>
      unfold asg
      rfl
  | tix o i =>
    unfold asg
    refine simple_go fun y h1 => simple_go fun z h2 => ?_
    cases putIx h2 y z x <;> rfl
  | _ =>
    unfold asg
    rfl
theorem asgs_simple : ∀ (t : C) (x : List Val) (τ : MF) (h : MH), simple (asgs Γ t x τ h) = true := by
  intro t x τ h
  cases t with
  | nil => cases x <;> (unfold asgs; rfl)
  | cons t ts =>
    cases x with
    | nil =>
      unfold asgs
      rfl
    | cons y ys =>
      unfold asgs
      have q := asg_simple t y τ h
      cases ha : asg Γ t y τ h with
      | nx τ1 h1 => exact asgs_simple ts ys τ1 h1
      | _ =>
        rw [ha] at q
        exact q
  | _ =>
    unfold asgs
    rfl
end
theorem PostS.nxO {r : Out} {K : PySem.W.Frag} (s : simple r = true) (p : PostS N K ρ H W D r) : PostS N K ρ H W (nxO D.nx) r := by
  cases r with
  | nx τ h => exact p
  | ex c fs τ h => exact p
  | bad => exact p
  | _ => cases s

/-! ### plain statements -/
theorem x_set (he : PE X e (sE N X.K W (evE Γ ca))) {tg : Expr} (hg : PG X tg (sG N X.K W (asg Γ ct))) (hl : isLC e = false) (hs : notStar tg = true) (hw : swappedStores [tg] e X.env = pure none) : PS X (.Assign [tg] e pos) (sS N X.K W (evS Γ (.set ct ca))) :=
  (ps_asg he hg (noswapS hl) hw (asg1 hs)).weak fun D σ H ⟨ρ, h, τ, rh, fr, p⟩ => by
    unfold evS at p
    refine ⟨ρ, h, τ, rh, fr, (PostS.go (rel := VR N X.K) fr p).imp ?_⟩
    rintro y H1 ⟨ρ1, h1, wy, e1, rh1, r1, p1⟩
    exact ⟨ρ1, h1, τ, wy, rh1, fr.mono e1, r1, p1.nxO (asg_simple ct wy τ h1)⟩
theorem x_ex (he : PE X e (sE N X.K W (evE Γ ca))) (hl : isLC e = false) : PS X (.Expr e pos) (sS N X.K W (evS Γ (.ex ca))) :=
  (ps_expr he (noswap hl)).weak fun D σ H ⟨ρ, h, τ, rh, fr, p⟩ => by
    unfold evS at p
    refine ⟨ρ, h, τ, rh, fr, (PostS.go (rel := VR N X.K) fr p).imp ?_⟩
    rintro y H1 ⟨ρ1, h1, wy, e1, rh1, r1, p1⟩
    exact p1.nx (fr.mono e1) rh1
theorem x_ret (he : PE X e (sE N X.K W (evE Γ ca))) : PS X (.Return (some e) pos) (sS N X.K W (evS Γ (.ret ca))) :=
  (ps_ret he).weak fun D σ H ⟨ρ, h, τ, rh, fr, p⟩ => by
    unfold evS at p
    refine ⟨ρ, h, τ, rh, fr, (PostS.go (rel := VR N X.K) fr p).imp ?_⟩
    rintro y H1 ⟨ρ1, h1, wy, e1, rh1, r1, p1⟩
    exact p1 _ _ _ Ext.refl rh1 r1
theorem x_retn : PS X (.Return none pos) (sS N X.K W (evS Γ .retn)) :=
  ps_retN.weak fun D σ H ⟨ρ, h, τ, rh, fr, p⟩ => by
    unfold evS at p
    exact p _ _ _ Ext.refl rh (by simp only [VR])
theorem x_pass : PS X (.Pass pos) (sS N X.K W (evS Γ .pass)) :=
  ps_pass.weak fun D σ H ⟨ρ, h, τ, rh, fr, p⟩ => by
    unfold evS at p
    exact p.nx fr rh
theorem x_brk : PS X (.Break pos) (sS N X.K W (evS Γ .brk)) :=
  ps_break.weak fun D σ H ⟨ρ, h, τ, rh, fr, p⟩ => by
    unfold evS at p
    exact p _ _ _ Ext.refl rh fr
theorem x_cnt : PS X (.Continue pos) (sS N X.K W (evS Γ .cnt)) :=
  ps_continue.weak fun D σ H ⟨ρ, h, τ, rh, fr, p⟩ => by
    unfold evS at p
    exact p _ _ _ Ext.refl rh fr
theorem x_snil : PSs X [] (sS N X.K W (evSs Γ .nil)) :=
  pss_nil.weak fun D σ H ⟨ρ, h, τ, rh, fr, p⟩ => by
    unfold evSs at p
    exact p.nx fr rh
theorem PostS.seq {r : Out} {f : MF → MH → Out} (p : PostS N X.K ρ H W D (r.seq f)) : PostS N X.K ρ H W { D with nx := fun σ1 H1 => sS N X.K W f D σ1 H1 } r := by
  cases r with
  | nx τ1 h1 => exact fun ρ1 H1 σ1 e1 rh1 fr1 => ⟨ρ1, h1, τ1, rh1, fr1, PostS.later (r := f τ1 h1) e1 p⟩
  | rt v h1 => exact p
  | bk τ1 h1 => exact p
  | ct τ1 h1 => exact p
  | ex c fs τ1 h1 => exact p
  | bad => exact p
theorem x_scons (h1 : PS X st (sS N X.K W (evS Γ ca))) (h2 : PSs X sts (sS N X.K W (evSs Γ cb))) : PSs X (st :: sts) (sS N X.K W (evSs Γ (.cons ca cb))) :=
  (pss_cons h1 h2).weak fun D σ H ⟨ρ, h, τ, rh, fr, p⟩ => by
    unfold evSs at p
    exact ⟨ρ, h, τ, rh, fr, p.seq⟩
theorem x_ite {sa sb : List Stmt} (hc : PT X c (sT N X.K W (evT Γ cc))) (ha : PSs X sa (sS N X.K W (evSs Γ ca))) (hb : PSs X sb (sS N X.K W (evSs Γ cb))) : PS X (.If c sa sb pos) (sS N X.K W (evS Γ (.ite cc ca cb))) :=
  (ps_if hc ha hb).weak fun D σ H ⟨ρ, h, τ, rh, fr, p⟩ => by
    unfold evS at p
    refine ⟨ρ, h, τ, rh, fr, (PostS.go (rel := fun _ _ x v => v = x) fr p).imp ?_⟩
    rintro b H1 ⟨ρ1, h1, x, e1, rh1, rfl, p1⟩
    cases b with
    | true => exact ⟨ρ1, h1, τ, rh1, fr.mono e1, p1⟩
    | false => exact ⟨ρ1, h1, τ, rh1, fr.mono e1, p1⟩
/-- one turn of a loop, then the rest -/
def turnThen (r : Out) (f : MF → MH → Out) : Out := match r with
  | .nx σ' h' => f σ' h'
  | .ct σ' h' => f σ' h'
  | .bk σ' h' => .nx σ' h'
  | r => r
theorem PostS.turn {r : Out} {f : MF → MH → Out} {R : L2.St → L2.Hp → Prop} (hR : ∀ ρ' h τ σ H', Ext ρ H ρ' H' → RelH N X.K ρ' h H' → FR N X.K ρ' H' τ σ → PostS N X.K ρ' H' W D (f τ h) → R σ H')
    (p : PostS N X.K ρ H W D (turnThen r f)) : PostS N X.K ρ H W { D with nx := R, ct := R, bk := D.nx } r := by
  cases r with
  | nx τ1 h1 => exact fun ρ1 H1 σ1 e1 rh1 fr1 => hR ρ1 h1 τ1 σ1 H1 e1 rh1 fr1 (PostS.later (r := f τ1 h1) e1 p)
  | rt v h1 => exact p
  | bk τ1 h1 => exact p
  | ct τ1 h1 => exact fun ρ1 H1 σ1 e1 rh1 fr1 => hR ρ1 h1 τ1 σ1 H1 e1 rh1 fr1 (PostS.later (r := f τ1 h1) e1 p)
  | ex c fs τ1 h1 => exact p
  | bad => exact p
theorem x_whl {sb : List Stmt} (hp : PassesOwn (model X.prog X.w) X.A X.env X.xe) (hc : PT X c (sT N X.K W (evT Γ cc))) (hb : PSs X sb (sS N X.K W (evSs Γ cb))) : PS X (.While c sb [] pos) (sS N X.K W (evS Γ (.whl cc cb))) :=
  (ps_while hp hc hb).weak fun D σ H ⟨ρ, h, τ, rh, fr, p⟩ => by
    unfold evS at p
    refine ⟨fun m σ H => ∃ ρ h τ, RelH N X.K ρ h H ∧ FR N X.K ρ H τ σ ∧ PostS N X.K ρ H W D (whileF (evT Γ cc) (evSs Γ cb) m τ h), ⟨FUEL, ρ, h, τ, rh, fr, p⟩, ?_⟩
    rintro m σ H ⟨ρ, h, τ, rh, fr, p⟩
    cases m with
    | zero =>
      unfold whileF at p
      exact p.elim
    | succ m =>
      unfold whileF at p
      refine ⟨ρ, h, τ, rh, fr, (PostS.go (rel := fun _ _ x v => v = x) fr p).imp ?_⟩
      rintro b H1 ⟨ρ1, h1, x, e1, rh1, rfl, p1⟩
      cases b with
      | true =>
        rw [if_pos rfl]
        refine ⟨fun σ' H' => ∃ ρ h τ, RelH N X.K ρ h H' ∧ FR N X.K ρ H' τ σ' ∧ PostS N X.K ρ H' W D (whileF (evT Γ cc) (evSs Γ cb) m τ h), fun σ' H' q => ⟨m, Nat.lt_succ_self m, q⟩, ρ1, h1, τ, rh1, fr.mono e1, ?_⟩
        rw [if_pos rfl] at p1
        exact PostS.turn (f := whileF (evT Γ cc) (evSs Γ cb) m) (fun ρ h τ σ H _ a b c => ⟨ρ, h, τ, a, b, c⟩) p1
      | false =>
        rw [if_neg Bool.false_ne_true]
        rw [if_neg Bool.false_ne_true] at p1
        exact p1.nx (fr.mono e1) rh1

/-! ### for -/
def iSeq (K : PySem.W.Frag) (tl : TE) : TI := fun σ H R => tl σ H fun x H1 => ∃ a, x = .ref a ∧ (((∃ xs, SqL K H1 a xs) ∧ R (Itl K a) H1) ∨ ((∃ xs, SqT K H1 a xs) ∧ R (Itt K a) H1))
theorem pi_seq {tg l : Expr} {tl : TE} (hl : PE X l tl) : PI X tg l (iSeq X.K tl) := by
  refine ⟨fun pins s σ H R I h => ?_⟩
  refine thn (hl.run pins s σ H _ I h) fun v s1 ⟨x, H1, I1, r1, q1⟩ => ?_
  obtain ⟨a, e, q⟩ := q1
  subst e
  cases r1
  rcases q with ⟨⟨xs, hq⟩, q⟩ | ⟨⟨xs, hq⟩, q⟩
  · obtain ⟨its, rv, p, hz⟩ := I1.list hq
    refine wpAny_pyIter_list p.isList ?_
    refine ⟨s1.heap.objs.size, [s1.heap.objs.size], _, _, H1, rfl, I1.kept (t' := s1.toks) fun b o e => Heap.get?_push_of_some _ e, turn_list a _, ⟨_, Heap.get?_push_size _ rfl, rfl, rfl⟩, fun b hb => ?_, q⟩
    have e : b = s1.heap.objs.size := by simpa using hb
    rw [e]
    exact I1.fpOk (Nat.le_refl _) (I1.hok.fresh (Nat.le_refl _))
  · obtain ⟨its, rv, p, hz⟩ := I1.tuple hq
    refine wpAny_pyIter_tuple (show s1.heap.IsTuple a its.toArray from p) ?_
    refine ⟨s1.heap.objs.size, [s1.heap.objs.size], _, _, H1, rfl, I1.kept (t' := s1.toks) fun b o e => Heap.get?_push_of_some _ e, turn_tuple a _, ⟨_, Heap.get?_push_size _ rfl, rfl, rfl⟩, fun b hb => ?_, q⟩
    have e : b = s1.heap.objs.size := by simpa using hb
    rw [e]
    exact I1.fpOk (Nat.le_refl _) (I1.hok.fresh (Nat.le_refl _))
/-- how an iterator drives a loop of Mini -/
structure Drv (N : Nm) (K : PySem.W.Frag) (turn : Val → MF → MH → Out) (J : It) where
  st : Nat → Nat → (MF → MH → Out) → List Addr → MH → L2.Hp → Prop
  step : ∀ i m rest ρ h H, st i m rest ρ h H → RelH N K ρ h H → (∀ τ, rest τ h = .bad) ∨ (J.stop i H ∧ ∀ τ, rest τ h = .nx τ h) ∨
    (J.go i H ∧ ∃ x rest' m', m' < m ∧ (∀ v H', J.yld i H v H' → H' = H ∧ VR N K ρ H x v) ∧ (∀ τ, rest τ h = turnThen (turn x τ h) rest') ∧ ∀ ρ' h' H', Ext ρ H ρ' H' → RelH N K ρ' h' H' → st (i + 1) m' rest' ρ' h' H')
theorem forL_cons {turn : Val → MF → MH → Out} {x : Val} {xs : List Val} {τ : MF} : forL turn (x :: xs) τ h = turnThen (turn x τ h) (forL turn xs) := by
  unfold forL turnThen
  cases turn x τ h <;> rfl
def drvT {turn : Val → MF → MH → Out} (a : Addr) (xs : List Val) : Drv N X.K turn (Itt X.K a) where
  st := fun i m rest ρ h H => VR N X.K ρ H (.tup xs) (.ref a) ∧ i + m = xs.length ∧ rest = forL turn (xs.drop i)
  step := by
    rintro i m rest ρ h H ⟨rv, hm, rfl⟩ rh
    simp only [VR] at rv
    obtain ⟨a', vs, ea, t, rs, dd⟩ := id rv
    cases ea
    by_cases hi : i < xs.length
    · right; right
      obtain ⟨v, hv, rx⟩ := rs.get (List.getElem?_eq_getElem hi)
      refine ⟨⟨vs, v, t.sq, hv⟩, xs[i], forL turn (xs.drop (i + 1)), m - 1, by omega, fun u H' ⟨e1, e2⟩ => ⟨e1, ?_⟩, fun τ => ?_, fun ρ' h' H' e rh' => ⟨VR.mono e (.tup xs) _ (by simp only [VR]; exact rv), by omega, rfl⟩⟩
      · have := e2 vs t.sq
        rw [hv] at this
        cases this
        exact rx
      · rw [List.drop_eq_getElem_cons hi]
        exact forL_cons
    · right; left
      refine ⟨⟨vs, t.sq, by rw [rs.length]; omega⟩, fun τ => ?_⟩
      rw [List.drop_eq_nil_of_le (by omega)]
      rfl
def drvF {turn : Val → MF → MH → Out} (a : Addr) (xs : List Val) : Drv N X.K turn (Itl X.K a) where
  st := fun i m rest ρ h H => VR N X.K ρ H (.fl xs) (.ref a) ∧ i + m = xs.length ∧ rest = forL turn (xs.drop i)
  step := by
    rintro i m rest ρ h H ⟨rv, hm, rfl⟩ rh
    simp only [VR] at rv
    obtain ⟨a', vs, ea, t, rs, dd⟩ := id rv
    cases ea
    by_cases hi : i < xs.length
    · right; right
      obtain ⟨v, hv, rx⟩ := rs.get (List.getElem?_eq_getElem hi)
      refine ⟨⟨vs, v, t.sq, hv⟩, xs[i], forL turn (xs.drop (i + 1)), m - 1, by omega, fun u H' ⟨e1, e2⟩ => ⟨e1, ?_⟩, fun τ => ?_, fun ρ' h' H' e rh' => ⟨VR.mono e (.fl xs) _ (by simp only [VR]; exact rv), by omega, rfl⟩⟩
      · have := e2 vs t.sq
        rw [hv] at this
        cases this
        exact rx
      · rw [List.drop_eq_getElem_cons hi]
        exact forL_cons
    · right; left
      refine ⟨⟨vs, t.sq, by rw [rs.length]; omega⟩, fun τ => ?_⟩
      rw [List.drop_eq_nil_of_le (by omega)]
      rfl
theorem lst_sq {K : PySem.W.Frag} {a : Addr} {vs : List V} (q : H a = some (.lst vs)) : SqL K H a vs := .inl (.inl q)
def drvR {turn : Val → MF → MH → Out} (a : Addr) (r : Nat) : Drv N X.K turn (Itl X.K a) where
  st := fun i m rest ρ h H => ρ[r]? = some a ∧ rest = forR turn r m i
  step := by
    rintro i m rest ρ h H ⟨ra, rfl⟩ rh
    cases m with
    | zero => exact .inl fun τ => rfl
    | succ m =>
      obtain ⟨o, ho, oq⟩ := rh.some_ ra
      cases o with
      | lst xs =>
        simp only [OR] at oq
        obtain ⟨vs, hq, rs, dd⟩ := oq
        right
        cases hx : xs[i]? with
        | none =>
          left
          refine ⟨⟨vs, lst_sq hq, by rw [rs.length]; exact List.getElem?_eq_none_iff.mp hx⟩, fun τ => ?_⟩
          unfold forR
          simp only [ho, hx]
        | some x =>
          right
          obtain ⟨v, hv, rx⟩ := rs.get hx
          refine ⟨⟨vs, v, lst_sq hq, hv⟩, x, forR turn r m (i + 1), m, Nat.lt_succ_self m, fun u H' ⟨e1, e2⟩ => ⟨e1, ?_⟩, fun τ => ?_, fun ρ' h' H' e rh' => ⟨e.at_ ra, rfl⟩⟩
          · have := e2 vs (lst_sq hq)
            rw [hv] at this
            cases this
            exact rx
          · rw [forR]
            simp only [ho, hx]
            unfold turnThen
            cases turn x τ h <;> rfl
      | _ =>
        left
        intro τ
        unfold forR
        simp only [ho]
def drvN {turn : Val → MF → MH → Out} (n : Nat) : Drv N X.K turn (Itr 0 n) where
  st := fun i m rest ρ h H => i + m = n ∧ rest = forL turn (((List.range n).map fun (k : Nat) => Val.int k).drop i)
  step := by
    rintro i m rest ρ h H ⟨hm, rfl⟩ rh
    by_cases hi : i < n
    · right; right
      refine ⟨hi, .int i, _, m - 1, by omega, fun u H' ⟨e1, e2⟩ => ⟨e1, ?_⟩, fun τ => ?_, fun ρ' h' H' e rh' => ⟨by omega, rfl⟩⟩
      · rw [e2]
        simp [VR]
      · rw [List.drop_eq_getElem_cons (by simpa using hi)]
        simp only [List.getElem_map, List.getElem_range]
        exact forL_cons
    · right; left
      refine ⟨Nat.le_of_not_lt hi, fun τ => ?_⟩
      rw [List.drop_eq_nil_of_le (by simp; omega)]
      rfl
theorem for_drv {J : It} {τ : MF} {rest : MF → MH → Out} {m : Nat} (Dr : Drv N X.K (fun x σ' h' => (asg Γ ct x σ' h').seq (evSs Γ cb)) J) (s : Dr.st 0 m rest ρ h H) (rh : RelH N X.K ρ h H) (fr : FR N X.K ρ H τ σ) (p : PostS N X.K ρ H W D (rest τ h)) :
    ∃ W' : Nat → Nat → L2.St → L2.Hp → Prop, (∃ m, W' 0 m σ H) ∧ ∀ i m σ H, W' i m σ H → (J.stop i H ∧ D.nx σ H) ∨ (J.go i H ∧ ∃ N' : L2.St → L2.Hp → Prop, (∀ σ' H', N' σ' H' → ∃ m', m' < m ∧ W' (i + 1) m' σ' H') ∧
      ∀ x H', J.yld i H x H' → (sG N X.K W (asg Γ ct)) x σ H' fun σ2 H2 => (sS N X.K W (evSs Γ cb)) { D with nx := N', ct := N', bk := D.nx } σ2 H2) := by
  refine ⟨fun i m σ H => ∃ ρ h τ rest, RelH N X.K ρ h H ∧ FR N X.K ρ H τ σ ∧ Dr.st i m rest ρ h H ∧ PostS N X.K ρ H W D (rest τ h), ⟨m, ρ, h, τ, rest, rh, fr, s, p⟩, ?_⟩
  rintro i m σ H ⟨ρ, h, τ, rest, rh, fr, s, p⟩
  rcases Dr.step i m rest ρ h H s rh with z | ⟨z1, z2⟩ | ⟨go, x, rest', m', hm, hy, hr, hs⟩
  · rw [z τ] at p
    exact p.elim
  · rw [z2 τ] at p
    exact .inl ⟨z1, p.nx fr rh⟩
  · refine .inr ⟨go, _, fun σ' H' q => ⟨m', hm, q⟩, fun v H' y => ?_⟩
    obtain ⟨rfl, rv⟩ := hy v H' y
    rw [hr τ] at p
    refine ⟨ρ, h, τ, x, rh, fr, rv, ?_⟩
    exact (PostS.turn (fun ρ' h τ σ H' e rh' fr' p' => ⟨ρ', h, τ, rest', rh', fr', hs ρ' h H' e rh', p'⟩) p).seq.nxO (asg_simple ct x τ h)
theorem fold_set {iter : Expr} {env : PySem.Env} (hs : isSetI iter = false) : ∀ x, foldedSetIterable iter env x = pure x := by
  intro x
  cases iter <;> first | rfl | cases hs
theorem x_for {tg iter : Expr} {sb : List Stmt} (hp : PassesOwn (model X.prog X.w) X.A X.env X.xe) (hc : X.calm = true) (hi : PE X iter (sE N X.K W (evE Γ cc))) (hg : PG X tg (sG N X.K W (asg Γ ct))) (hb : PSs X sb (sS N X.K W (evSs Γ cb)))
    (hs : isSetI iter = false) : PS X (.For tg iter sb [] pos) (sS N X.K W (evS Γ (.for_ ct (.each cc) cb))) :=
  (ps_for hp hc (pi_seq hi) hg hb (fold_set hs)).weak fun D σ H ⟨ρ, h, τ, rh, fr, p⟩ => by
    unfold evS at p
    dsimp only [evI] at p
    have p' : PostS N X.K ρ H W D ((evE Γ cc τ h).go τ fun x h1 => (ofVal (walkOf h1 x) h1).go τ fun w h1 => walkFor (fun x σ' h' => (asg Γ ct x σ' h').seq (evSs Γ cb)) w τ h1) := by
      cases hq : evE Γ cc τ h <;> (rw [hq] at p; exact p)
    refine ⟨ρ, h, τ, rh, fr, (PostS.go (rel := VR N X.K) fr p').imp ?_⟩
    rintro v H1 ⟨ρ1, h1, x, e1, rh1, r1, p1⟩
    cases hw : walkOf h1 x with
    | none =>
      rw [hw] at p1
      exact p1.elim
    | some w =>
      rw [hw] at p1
      have p2 : PostS N X.K ρ1 H1 W D (walkFor (fun x σ' h' => (asg Γ ct x σ' h').seq (evSs Γ cb)) w τ h1) := p1
      cases x with
      | tup xs =>
        cases hw
        obtain ⟨a, vs, rfl, t, rs, dd⟩ := (by simpa only [VR] using r1 : ∃ (a : Addr) (vs : List V), v = .ref a ∧ TupAt X.K ρ1 H1 a vs ∧ VRs N X.K ρ1 H1 xs vs ∧ xs.all dat = true)
        exact ⟨a, rfl, .inr ⟨⟨vs, t.sq⟩, for_drv (drvT (N := N) (X := X) a xs) (m := xs.length) (rest := forL _ xs) ⟨r1, by omega, rfl⟩ rh1 (fr.mono e1) p2⟩⟩
      | fl xs =>
        cases hw
        obtain ⟨a, vs, rfl, t, rs, dd⟩ := (by simpa only [VR] using r1 : ∃ (a : Addr) (vs : List V), v = .ref a ∧ FlAt X.K ρ1 H1 a vs ∧ VRs N X.K ρ1 H1 xs vs ∧ xs.all dat = true)
        exact ⟨a, rfl, .inl ⟨⟨vs, t.sq⟩, for_drv (drvF (N := N) (X := X) a xs) (m := xs.length) (rest := forL _ xs) ⟨r1, by omega, rfl⟩ rh1 (fr.mono e1) p2⟩⟩
      | ref r =>
        have hw' : (match h1[r]? with
          | some (.lst _) => some (Walk.live r)
          | _ => none) = some w := hw
        cases ho : h1[r]? with
        | none =>
          rw [ho] at hw'
          cases hw'
        | some o =>
          rw [ho] at hw'
          obtain ⟨a, ra, rfl, oq⟩ := dic_at rh1 r1 ho
          cases o with
          | lst xs =>
            cases hw'
            simp only [OR] at oq
            obtain ⟨vs, hq, _⟩ := oq
            exact ⟨a, rfl, .inl ⟨⟨vs, lst_sq hq⟩, for_drv (drvR (N := N) (X := X) a r) (m := FUEL) (rest := forR _ r FUEL 0) ⟨ra, rfl⟩ rh1 (fr.mono e1) p2⟩⟩
          | _ => cases hw'
      | _ => cases hw
theorem x_forR {tg e : Expr} {p0 p1 : Pos} {sb : List Stmt} (hp : PassesOwn (model X.prog X.w) X.A X.env X.xe) (hc : X.calm = true) (hG : Gl X "range") (hm : X.mg "range" = none) (hi : PE X e (sE N X.K W (evE Γ cc))) (hg : PG X tg (sG N X.K W (asg Γ ct))) (hb : PSs X sb (sS N X.K W (evSs Γ cb)))
    (hs : notStar e = true) : PS X (.For tg (.Call (.Name "range" p0) [e] [] p1) sb [] pos) (sS N X.K W (evS Γ (.for_ ct (.rng1 cc) cb))) :=
  (ps_for hp hc (pi_range1 hG hm (x_cons (Γ := Γ) (ces := .nil) hi x_nil hs) (star_of hs)) hg hb).weak fun D σ H ⟨ρ, h, τ, rh, fr, p⟩ => by
    unfold evS at p
    dsimp only [evI] at p
    have ee : evEs Γ (.cons cc .nil) τ h = (evE Γ cc τ h).bind fun x h1 => .ok [x] h1 := by
      simp only [evEs]
      rfl
    refine ⟨ρ, h, τ, rh, fr, ?_⟩
    rw [ee]
    cases hq : evE Γ cc τ h with
    | bad =>
      rw [hq] at p
      exact p.elim
    | exc c fs h1 =>
      rw [hq] at p
      exact fun ρ1 H1 vs d e rh rv hd xd => p ρ1 H1 σ vs d e rh (fr.mono e) rv hd xd
    | ok x h1 =>
      rw [hq] at p
      intro ρ1 H1 vs e1 rh1 rv
      simp only [VRs] at rv
      obtain ⟨v, r', rfl, rx, rfl⟩ := rv
      cases x with
      | int n =>
        simp only [VR] at rx
        subst rx
        dsimp only [Res.bind] at p
        split at p
        · rename_i hn
          have p' : PostS N X.K ρ H W D (forL (fun x σ' h' => (asg Γ ct x σ' h').seq (evSs Γ cb)) ((List.range n.toNat).map fun (k : Nat) => Val.int k) τ h1) := p
          exact ⟨n, rfl, hn.1, hn.2, for_drv (drvN (N := N) (X := X) n.toNat) (m := n.toNat) (rest := forL _ _) ⟨by omega, rfl⟩ rh1 (fr.mono e1) (PostS.later e1 p')⟩
        · exact p.elim
      | _ => exact p.elim

/-! ### a, b = x, y -/
end
/-! ### a, b = x, y -/
theorem star_any : ∀ {es : List Expr}, es.all notStar = true → (es.any fun e => !notStar e) = false := by
  intro es h
  induction es with
  | nil => rfl
  | cons e es ih =>
    rw [List.all_cons, Bool.and_eq_true] at h
    rw [List.any_cons, ih h.2, h.1]
    rfl
theorem star_fun : (fun e : Expr => match e with | .Starred .. => true | _ => false) = fun e => !notStar e := by
  funext e
  cases e <;> rfl
def nmF (env : PySem.Env) (line : Nat) : Expr → Option Str
  | .Name id pos => if env.kindOf id == some .local && pos.line == line then some id else none
  | _ => none
theorem swapG {env : PySem.Env} {ts vs : List Expr} {xs : List Str} {pt pt2 : Pos} {kt k2 : Nat} (hn : (ts.length == 2 || ts.length == 3) = true) (hv : vs.length = ts.length) (hk : env.blockKind = .function) (ha : vs.all notStar = true)
    (hfm : ts.filterMap (nmF env ((ts.head?.map (·.pos.line)).getD 0)) = xs) (hd : xs.eraseDups = xs) (hl : xs.length = ts.length) (hf : vs.all (foldedForSure 8) = false) (hc : vs.all (constantsAlone 8) = false) :
    swappedStores [.Tuple ts kt pt] (.Tuple vs k2 pt2) env = pure (some xs) := by
  have fe : (fun e : Expr => match e with
    | .Name id pos => if env.kindOf id == some .local && pos.line == ((ts.head?.map (·.pos.line)).getD 0) then some id else none
    | _ => none) = nmF env ((ts.head?.map (·.pos.line)).getD 0) := by
    funext e
    cases e <;> rfl
  unfold swappedStores
  dsimp only
  refine (if_neg (by rw [hn, hv, hk]; simp)).trans ?_
  refine (if_neg (fun z => ?_)).trans ?_
  · have z2 : (vs.any (fun e : Expr => match e with | .Starred .. => true | _ => false)) = true := z
    rw [star_fun, star_any ha] at z2
    cases z2
  refine (if_neg (fun z => ?_)).trans ?_
  · have z2 : ((ts.filterMap (fun e : Expr => match e with
      | .Name id pos => if env.kindOf id == some .local && pos.line == ((ts.head?.map (·.pos.line)).getD 0) then some id else none
      | _ => none)).length != ts.length || (ts.filterMap (fun e : Expr => match e with
      | .Name id pos => if env.kindOf id == some .local && pos.line == ((ts.head?.map (·.pos.line)).getD 0) then some id else none
      | _ => none)).eraseDups.length != (ts.filterMap (fun e : Expr => match e with
      | .Name id pos => if env.kindOf id == some .local && pos.line == ((ts.head?.map (·.pos.line)).getD 0) then some id else none
      | _ => none)).length) = true := z
    rw [fe, hfm, hd, hl] at z2
    simp at z2
  refine (if_neg (by rw [hf]; decide)).trans ?_
  refine (if_neg (by rw [hc]; decide)).trans ?_
  show pure (some (ts.filterMap (fun e : Expr => match e with
      | .Name id pos => if env.kindOf id == some .local && pos.line == ((ts.head?.map (·.pos.line)).getD 0) then some id else none
      | _ => none))) = _
  rw [fe, hfm]
theorem erase2 {x y : Str} (h : x ≠ y) : [x, y].eraseDups = [x, y] := by
  have e1 : (y == x) = false := beq_eq_false_iff_ne.mpr (Ne.symm h)
  simp [List.eraseDups_cons, e1]
theorem erase3 {x y z : Str} (h : x ≠ y) (h2 : x ≠ z) (h3 : y ≠ z) : [x, y, z].eraseDups = [x, y, z] := by
  have e1 : (y == x) = false := beq_eq_false_iff_ne.mpr (Ne.symm h)
  have e2 : (z == x) = false := beq_eq_false_iff_ne.mpr (Ne.symm h2)
  have e3 : (z == y) = false := beq_eq_false_iff_ne.mpr (Ne.symm h3)
  simp [List.eraseDups_cons, e1, e2, e3]
section
variable {N : Nm} {X : Cx} {W : WX} {Γ : Sys} {σ : L2.St} {H H' : L2.Hp} {Q : VK} {ρ ρ' : List Addr} {h : MH} {D : Ends}
variable {a b c e o : Expr} {es : List Expr} {ca cb cc ces ct cts : C} {pos apos : Pos} {st : Stmt} {sts : List Stmt}
/-- a tuple whose parts are stored at once -/
theorem par_pre {τ : MF} (rh : RelH N X.K ρ h H) (fr : FR N X.K ρ H τ σ) (p : PostS N X.K ρ H W D (evS Γ (.set (.tt cts) (.tup ces)) τ h)) : Post N X.K ρ H (fun c d H' => W c d σ H') (VRs N X.K) (evEs Γ ces τ h) fun vs H1 =>
    ∃ ρ1 h1 xs, RelH N X.K ρ1 h1 H1 ∧ FR N X.K ρ1 H1 τ σ ∧ VRs N X.K ρ1 H1 xs vs ∧ xs.length = lenC cts ∧ PostS N X.K ρ1 H1 W D (asgs Γ cts xs τ h1) := by
  unfold evS at p
  unfold evE at p
  cases hq : evEs Γ ces τ h with
  | bad =>
    rw [hq] at p
    exact p.elim
  | exc c fs h1 =>
    rw [hq] at p
    exact fun ρ1 H1 vs d e rh rv hd xd => p ρ1 H1 σ vs d e rh (fr.mono e) rv hd xd
  | ok xs h1 =>
    rw [hq] at p
    intro ρ1 H1 vs e1 rh1 rv
    have p' : PostS N X.K ρ H W D ((if (fits xs.length && xs.all dat) = true then Res.ok (Val.tup xs) h1 else .bad : Res Val).go τ fun x h1 => asg Γ (.tt cts) x τ h1) := p
    split at p'
    · have p2 : PostS N X.K ρ H W D (asg Γ (.tt cts) (.tup xs) τ h1) := p'
      unfold asg at p2
      dsimp only at p2
      split at p2
      · rename_i hl
        exact ⟨ρ1, h1, xs, rh1, fr.mono e1, rv, hl, PostS.later e1 p2⟩
      · exact p2.elim
    · exact p'.elim
theorem VRs.inv3 {x y z : Val} {vs : List V} (r : VRs N X.K ρ H [x, y, z] vs) : ∃ v u w, vs = [v, u, w] ∧ VR N X.K ρ H x v ∧ VR N X.K ρ H y u ∧ VR N X.K ρ H z w := by
  simp only [VRs] at r
  obtain ⟨v, _, rfl, h1, u, _, rfl, h2, w, _, rfl, h3, rfl⟩ := r
  exact ⟨v, u, w, rfl, h1, h2, h3⟩
theorem x_par2 {i j : Nat} {x y : Str} {px py pt pt2 : Pos} {kt k2 : Nat} (hc : X.calm = true) (hN : X.N.Nodup) (hi : X.N[i]? = some x) (hj : X.N[j]? = some y) (hij : i ≠ j) (hk : X.env.blockKind = .function)
    (hx : X.env.scope.names.lookup x = some .local) (hy : X.env.scope.names.lookup y = some .local) (ha : PA X [a, b] (sA N X.K W (evEs Γ ces))) (hl : (py.line == px.line) = true) (hxy : x ≠ y) (hs : [a, b].all notStar = true)
    (hf : [a, b].all (foldedForSure 8) = false) (hcs : [a, b].all (constantsAlone 8) = false) :
    PS X (.Assign [.Tuple [.Name x px, .Name y py] kt pt] (.Tuple [a, b] k2 pt2) pos) (sS N X.K W (evS Γ (.set (.tt (.cons (.tv i) (.cons (.tv j) .nil))) (.tup ces)))) :=
  (ps_par hc hN hi hj hij hx hy ha (swapG (by rfl) (by rfl) hk hs (by
      have hx' : X.env.kindOf x = some .local := hx
      have hy' : X.env.kindOf y = some .local := hy
      have hl' : (py.line == ((List.head? [Expr.Name x px, .Name y py]).map (·.pos.line)).getD 0) = true := hl
      have hl0 : (px.line == ((List.head? [Expr.Name x px, .Name y py]).map (·.pos.line)).getD 0) = true := beq_self_eq_true _
      simp only [List.filterMap_cons, List.filterMap_nil, nmF, hx', hy', hl', hl0]
      rfl) (erase2 hxy) (by rfl) hf hcs)).weak fun D σ H ⟨ρ, h, τ, rh, fr, p⟩ => by
    refine ⟨ρ, h, τ, rh, fr, (par_pre rh fr p).imp ?_⟩
    rintro vs H1 ⟨ρ1, h1, xs, rh1, fr1, rv, hlen, p1⟩
    match xs, hlen with
    | [u, w], _ =>
      obtain ⟨v1, v2, rfl, r1, r2⟩ := rv.inv2
      have p2 : PostS N X.K ρ1 H1 W D (.nx ((τ.set i (some u)).set j (some w)) h1) := by
        simpa only [asgs, asg, Out.seq] using p1
      exact ⟨v1, v2, rfl, p2.nx ((fr1.set i r1).set j r2) rh1⟩
theorem x_par3 {i j l : Nat} {x y z : Str} {px py pz pt pt2 : Pos} {kt k2 : Nat} (hc : X.calm = true) (hN : X.N.Nodup) (hi : X.N[i]? = some x) (hj : X.N[j]? = some y) (hl : X.N[l]? = some z) (hij : i ≠ j) (hil : i ≠ l) (hjl : j ≠ l) (hk : X.env.blockKind = .function)
    (hx : X.env.scope.names.lookup x = some .local) (hy : X.env.scope.names.lookup y = some .local) (hz : X.env.scope.names.lookup z = some .local) (ha : PA X [a, b, c] (sA N X.K W (evEs Γ ces))) (hl1 : (py.line == px.line) = true) (hl2 : (pz.line == px.line) = true)
    (hxy : x ≠ y) (hxz : x ≠ z) (hyz : y ≠ z) (hs : [a, b, c].all notStar = true) (hf : [a, b, c].all (foldedForSure 8) = false) (hcs : [a, b, c].all (constantsAlone 8) = false) :
    PS X (.Assign [.Tuple [.Name x px, .Name y py, .Name z pz] kt pt] (.Tuple [a, b, c] k2 pt2) pos) (sS N X.K W (evS Γ (.set (.tt (.cons (.tv i) (.cons (.tv j) (.cons (.tv l) .nil)))) (.tup ces)))) :=
  (ps_par3 hc hN hi hj hl hij hil hjl hx hy hz ha (swapG (by rfl) (by rfl) hk hs (by
      have hx' : X.env.kindOf x = some .local := hx
      have hy' : X.env.kindOf y = some .local := hy
      have hz' : X.env.kindOf z = some .local := hz
      have h1' : (py.line == ((List.head? [Expr.Name x px, .Name y py, .Name z pz]).map (·.pos.line)).getD 0) = true := hl1
      have h2' : (pz.line == ((List.head? [Expr.Name x px, .Name y py, .Name z pz]).map (·.pos.line)).getD 0) = true := hl2
      have hl0 : (px.line == ((List.head? [Expr.Name x px, .Name y py, .Name z pz]).map (·.pos.line)).getD 0) = true := beq_self_eq_true _
      simp only [List.filterMap_cons, List.filterMap_nil, nmF, hx', hy', hz', h1', h2', hl0]
      rfl) (erase3 hxy hxz hyz) (by rfl) hf hcs)).weak fun D σ H ⟨ρ, h, τ, rh, fr, p⟩ => by
    refine ⟨ρ, h, τ, rh, fr, (par_pre rh fr p).imp ?_⟩
    rintro vs H1 ⟨ρ1, h1, xs, rh1, fr1, rv, hlen, p1⟩
    match xs, hlen with
    | [u, w, t], _ =>
      obtain ⟨v1, v2, v3, rfl, r1, r2, r3⟩ := rv.inv3
      have p2 : PostS N X.K ρ1 H1 W D (.nx (((τ.set i (some u)).set j (some w)).set l (some t)) h1) := by
        simpa only [asgs, asg, Out.seq] using p1
      exact ⟨v1, v2, v3, rfl, p2.nx (((fr1.set i r1).set j r2).set l r3) rh1⟩
end
end Mini
set_option Elab.async false
set_option linter.all false
set_option maxRecDepth 100000
set_option maxHeartbeats 4000000
/-! Mini against the model: enumerate(a tuple). -/
namespace Mini
open PySem PySem.Spec PyProof.Rows L2 RZ
section
variable {prog : Program} {w : World} {A : Around}
abbrev tupIt (it l : Addr) (items : Array Value) (i : Nat) (h : Heap) : Prop := h.IsTupleIter it l i ∧ h.IsTuple l items
theorem drawsTup (hh : A.handled = none) (it l : Addr) (hne : l ≠ it) (items : Array Value) : Draws prog w A it [it, l] items.size (fun i v => items[i]? = some v) (tupIt it l items) :=
  ⟨fun i h st => by
      obtain ⟨⟨o, ho, _⟩, _⟩ := st
      exact ⟨o, ho⟩,
    fun i h h' st hk => ⟨st.1.at fun o e => hk it (by simp) o e, by
      obtain ⟨o, ho, r⟩ := st.2
      exact ⟨o, hk l (by simp) o ho, r⟩⟩,
    fun i s Q E hi st hQ => by
      refine nextOf_tuple_item st.1 st.2 (x := items[i]) (by simp [hi]) fun h' hit' hs' => ?_
      obtain ⟨o, ho, r⟩ := st.2
      exact hQ _ h' s.toks (by simp [hi]) ⟨hit', o, hs'.extBut l o hne ho, r⟩ hs',
    fun s Q E st hE => nextOf_tuple_end hh st.1 st.2 (by simp) hE⟩
open AutoSeq1 (wpAny_loadPart') in
theorem enum_newT (l : Addr) (items : Array Value) (n : Nat) (dct : Option Addr) (sl : Array (Option Value)) :
    Meets (Builtin.«enumerate.__new__» ⟨[.type "enumerate", .ref l], []⟩) (fun _ R s => s.heap.get? l = some { cls := .type "tuple", dict := dct, data := .seq items n, slots := sl } ∧ R (.ok (.ret (.ref (s.heap.objs.size + 1)))) { s with heap := (s.heap.push { cls := .type "tuple_iterator", data := .fields #[.ref l, .int 0 0] }).push { cls := .type "enumerate", data := .fields #[.none, .bool false, .ref s.heap.objs.size, rawInt 0, .none, .none] } }) :=
  .of_wp fun prog w A R s h => by
    obtain ⟨hp, gn, dr, tk, os⟩ := s
    obtain ⟨ht, h⟩ := h
    have hs := sub_enumerate
    have hT : (Shared.heap ⟨hp, gn, dr, tk, os⟩).IsTuple l items := ⟨_, ht, rfl, n, rfl⟩
    have hz : (hp.push { cls := .type "tuple_iterator", data := .fields #[.ref l, .int 0 0] }).objs.size = hp.objs.size + 1 := Heap.size_push ..
    rw [← hz] at h
    wp_walk using wpAny_loadPart' ht
    refine wpAny_stack_any fun st => wpAny_pure ?_
    split
    · rename_i c _ _ _ _ _
      cases (c == Value.type "enumerate") <;> (wp_walk using wpAny_loadPart' ht, wpAny_pyIter_tuple hT; exact ⟨_, rfl, h⟩)
    · wp_walk using wpAny_loadPart' ht, wpAny_pyIter_tuple hT
      exact ⟨_, rfl, h⟩
theorem call_enumT {s : Shared} {E : Value → Shared → Prop} {l : Addr} {items : Array Value} {Q : Value → Shared → Prop} (ht : s.heap.IsTuple l items)
    (k : ∀ h', IsEnum h' (s.heap.objs.size + 1) s.heap.objs.size 0 .none → h'.IsTupleIter s.heap.objs.size l 0 → (∀ b o, s.heap.get? b = some o → h'.get? b = some o) → Q (.ref (s.heap.objs.size + 1)) { s with heap := h' }) :
    wpAny (model prog w) A (call (.type "enumerate") [.ref l]) Q E s := by
  obtain ⟨⟨c, dc, dt, sl⟩, hl, hc, n, hd⟩ := ht
  dsimp only at hc hd
  subst hc hd
  refine callType_new F.called_enumerate (by decide) (F.typeCall_enumerate_1 _) (F.newCall_enumerate_1 _) (fun obj => F.args_object_init_2 obj _) F.entry_enumerate_new (enum_newT l items n dc sl) ⟨hl, ?_⟩
  obtain ⟨h1, e1⟩ : ∃ h1, h1 = s.heap.push { cls := .type "tuple_iterator", data := .fields #[.ref l, .int 0 0] } := ⟨_, rfl⟩
  have hz : h1.objs.size = s.heap.objs.size + 1 := by rw [e1]; exact Heap.size_push ..
  have g0 : h1.get? s.heap.objs.size = some { cls := .type "tuple_iterator", data := .fields #[.ref l, .int 0 0] } := by rw [e1]; exact Heap.get?_push_size _ rfl
  have gk : ∀ b o, s.heap.get? b = some o → h1.get? b = some o := fun b o x => by rw [e1]; exact Heap.get?_push_of_some _ x
  have he : IsEnum (h1.push { cls := .type "enumerate", data := .fields #[.none, .bool false, .ref s.heap.objs.size, rawInt 0, .none, .none] }) (s.heap.objs.size + 1) s.heap.objs.size 0 .none := by
    have z := Heap.get?_push_size h1 (o := { cls := .type "enumerate", data := .fields #[.none, .bool false, .ref s.heap.objs.size, rawInt 0, .none, .none] }) rfl
    rw [hz] at z
    exact z
  rw [← e1]
  exact ⟨⟨_, he, rfl⟩, k _ he ⟨_, Heap.get?_push_of_some _ g0, rfl, rfl⟩ fun b o x => Heap.get?_push_of_some _ (gk b o x)⟩
end
/-- a tuple's items with their places -/
def IteT (K : PySem.W.Frag) (a : Addr) : It :=
  ⟨fun i H => ∃ (xs : List V) (x : V), SqT K H a xs ∧ xs[i]? = some x,
    fun i H v H' => ∃ T x, v = .ref T ∧ H T = none ∧ H' = upd H T (.tup [.int (i : Nat), x]) ∧ ∀ xs, SqT K H a xs → xs[i]? = some x,
    fun i H => ∃ xs : List V, SqT K H a xs ∧ xs.length ≤ i⟩
theorem turn_enumT {P : Program} {w : World} {K : PySem.W.Frag} {elts : List Expr} {kk : Nat} {tpos : Pos} (a e it : Addr) :
    Turn P w K (.Tuple elts kk tpos) (IteT K a) [e, it] e (fun i h => (∃ old, IsEnum h e it ((i : Nat) : Int) old) ∧ h.IsTupleIter it a i ∧ (e ≠ it ∧ (a ≠ it ∧ a ≠ e))) := by
  have two : ∀ {b : Addr}, b ∈ [e, it] → b = e ∨ b = it := fun hb => by simpa using hb
  refine ⟨by simp, fun i h st b hb => ?_, fun i h h' st k => ?_, ?_, ?_, ?_⟩
  · obtain ⟨⟨old, he⟩, ⟨o, ho, _, hd⟩, _⟩ := st
    rcases two hb with z | z
    · subst z
      exact ⟨_, he, fun v q => nomatch q⟩
    · subst z
      exact ⟨o, ho, fun v q => by rw [hd] at q; cases q⟩
  · obtain ⟨⟨old, he⟩, hi, hne⟩ := st
    exact ⟨⟨old, k e (by simp) _ he⟩, hi.at fun o q => k it (by simp) o q, hne⟩
  · rintro X rfl rfl rfl hc i pins s σ H E I hf ⟨⟨old, he⟩, hit, hne, hai, hae⟩ ⟨xs, x, hq, hx⟩
    obtain ⟨its, rv, pt, hz⟩ := I.tuple hq
    obtain ⟨u, hu, ru⟩ := rv.get hx
    have hlt : i < its.toArray.size := by simpa using (List.getElem?_eq_some_iff.mp hu).1
    have hel : e < s.heap.objs.size := Heap.lt_size he
    have hil : it < s.heap.objs.size := by
      obtain ⟨_, q, _⟩ := hit
      exact Heap.lt_size q
    refine wpAny_pyNext_enum_itemD (drawsTup (A := X.A.in1) (I.ok.hd hc) it a hai its.toArray) he ⟨hit, pt⟩ hlt hne (by simp [hne, Ne.symm hae]) fun u' h' tk hp ho st' hT hsz hk => ?_
    have hu' : its.toArray[i]? = some u := by simpa using hu
    have eu : u' = u := by
      rw [hu'] at hp
      exact (Option.some.inj hp).symm
    subst eu
    refine ⟨_, rfl, wpAny_letOwnedTupleGo_enum (s := { s with heap := h', toks := tk + 1 }) ho fun h2 he2 sb => ?_⟩
    have hT2 : h2.get? s.heap.objs.size = some { cls := .type "tuple", data := .seq #[.int i tk, u'] } := (sb.2 _ (Nat.ne_of_gt hel)).trans hT
    have new : ObjOk X.prog X.w (upd H s.heap.objs.size (.tup [.int (i : Nat), x])) h2 s.heap.objs.size (.tup [.int (i : Nat), x]) := ⟨by show 2 ≤ sizeLine; decide, [.int i tk, u'], .cons ⟨_, rfl⟩ (.cons ru .nil), ⟨_, hT2, rfl, _, rfl⟩⟩
    have I1 : Inv X pins σ (upd H s.heap.objs.size (.tup [.int (i : Nat), x])) { s with heap := h2, toks := tk + 1 } :=
      I.turnedNew (ch := [e, it]) (fun b ob hb q => (sb.2 b fun z => hb (by simp [z])).trans (hk b ob (fun z => hb (by simp [z])) (fun z => hb (by simp [z])) q)) hf (Nat.le_refl _) new
    refine ⟨.ref s.heap.objs.size, _, I1, rfl, ⟨_, x, rfl, I.hok.fresh (Nat.le_refl _), rfl, fun ys hy => by rw [I.tuple_inj hy hq]; exact hx⟩, ⟨⟨u', ?_⟩, st'.1.at fun o q => (sb.2 it (Ne.symm hne)).trans q, hne, hai, hae⟩, fun b hb => ?_⟩
    · rw [show ((i + 1 : Nat) : Int) = (i : Int) + 1 by omega]
      exact he2
    · have hb' : b < s.heap.objs.size := by
        rcases two hb with z | z
        · rw [z]
          exact hel
        · rw [z]
          exact hil
      rw [upd_ne (Nat.ne_of_lt hb')]
      exact (hf b hb).1
  · rintro X rfl rfl rfl hc i pins s σ H E I hf ⟨⟨old, he⟩, hit, hne, hai, hae⟩ ⟨xs, hq, hx⟩
    obtain ⟨its, rv, pt, hz⟩ := I.tuple hq
    obtain ⟨f0, f1, f2, f3, f4, f5⟩ := hf it (by simp)
    have hl := rv.length
    -- behind the last item
    have hT : s.TypeIs (.ref e) "enumerate" := ⟨_, he, rfl⟩
    unfold pyNext
    refine wpAny_bind (wpAny_attempt (wpAny_callSpecial?_slot (name := Str.ofString "__next__") hT F.slot_enumerate_next (wpAny_call_entry F.slot_enumerate_next hT F.entry_enumerate_next ?_ (F.args_enumerate_next_1 _))))
    show wpAny _ _ (PySem.field (.ref e) 2 >>= _) _ _ _
    refine wpAny_bind (wpAny_field he rfl (x := .ref it) rfl (wpAny_bind (nextOf_tuple_end (I.ok.hd hc) hit pt (by simp; omega) fun h' x he' hx' => ?_)))
    obtain ⟨o, ho, hc2⟩ := hx'
    exact wpAny_bind (wpAny_isInstance (T := "StopIteration") (b := true) ⟨o, ho, hc2⟩ isSubtype_stop (wpAny_pure ⟨rfl, I.turned (t' := s.toks) (fun b o hb q => he' b o hb q) f0 f1 f3 f4 f5⟩))
  · rintro A i s Q E ⟨⟨_, he⟩, _⟩ h
    exact wpAny_pyIter_enum he h
def iEnumT (K : PySem.W.Frag) (ta : TA) : TI := fun σ H R => ta σ H fun vs H1 => ∃ a xs, vs = [.ref a] ∧ SqT K H1 a xs ∧ R (IteT K a) H1
theorem pi_enumT {X : Cx} {e : Expr} {ta : TA} {p pos tpos : Pos} {elts : List Expr} {kk : Nat} (hg : Gl X "enumerate") (hm : X.mg "enumerate" = none) (ha : PA X [e] ta) (hs : starEach [e] X.env = [(false, eval e X.env)]) :
    PI X (.Tuple elts kk tpos) (.Call (.Name "enumerate" p) [e] [] pos) (iEnumT X.K ta) := by
  refine ⟨fun pins s σ H R I q => Call_ (ld_blt I hg hm boot_enumerate (PyProof.Rows.callWith_type1 (thn (ha.run pos pins s σ H _ I q) fun us s1 z => ?_) hs rfl))⟩
  obtain ⟨vs, H1, I1, r1, a, xs, rfl, hq, q1⟩ := z
  cases r1 with
  | cons r rr =>
    cases rr
    cases r
    obtain ⟨its, rv, pt, hz⟩ := I1.tuple hq
    obtain ⟨oa, hoa, _⟩ := id pt
    have hal := Heap.lt_size hoa
    refine call_enumT (show s1.heap.IsTuple a its.toArray from pt) fun h' he hit hk => wpAny_pyIter_enum he ?_
    refine ⟨s1.heap.objs.size + 1, [s1.heap.objs.size + 1, s1.heap.objs.size], _, _, H1, rfl, I1.kept (t' := s1.toks) hk, turn_enumT a (s1.heap.objs.size + 1) s1.heap.objs.size, ⟨⟨.none, he⟩, hit, Nat.succ_ne_self _, Nat.ne_of_lt hal, Nat.ne_of_lt (Nat.lt_succ_of_lt hal)⟩, fun b hb => ?_, q1⟩
    have hle : s1.heap.objs.size ≤ b := by
      rcases (show b = s1.heap.objs.size + 1 ∨ b = s1.heap.objs.size by simpa using hb) with z | z
      · rw [z]
        exact Nat.le_add_right _ _
      · rw [z]
        exact Nat.le_refl _
    exact I1.fpOk hle (I1.hok.fresh hle)
end Mini
set_option Elab.async false
set_option linter.all false
set_option maxRecDepth 100000
set_option maxHeartbeats 4000000
/-! Mini against the model: what an iterator walks; list comprehensions. -/
namespace Mini
open PySem PySem.Spec PyProof.Rows L2
theorem _root_.L2.PI.weak {X : Cx} {tg e : Expr} {t t' : TI} (p : PI X tg e t) (h : ∀ σ H R, t' σ H R → t σ H R) : PI X tg e t' := ⟨fun pins s σ H R I q => p.run pins s σ H R I (h σ H R q)⟩
def WJ (N : Nm) (K : PySem.W.Frag) (ρ : List Addr) (H : L2.Hp) (w : Walk) (J : It) : Prop :=
  (∃ a xs, J = Itt K a ∧ w = .items xs ∧ VR N K ρ H (.tup xs) (.ref a)) ∨
  (∃ a xs, J = Itl K a ∧ w = .items xs ∧ VR N K ρ H (.fl xs) (.ref a)) ∨
  (∃ a r, J = Itl K a ∧ w = .live r ∧ ρ[r]? = some a) ∨
  (∃ n : Nat, J = Itr 0 n ∧ w = .items ((List.range n).map fun (k : Nat) => .int k)) ∨
  (∃ a xs, J = IteT K a ∧ w = .items (enumV xs) ∧ VR N K ρ H (.tup xs) (.ref a)) ∨
  (∃ a b xs ys, J = RZ.ItzT K a b ∧ w = .items (zipV xs ys) ∧ VR N K ρ H (.tup xs) (.ref a) ∧ VR N K ρ H (.tup ys) (.ref b))
def sI (N : Nm) (K : PySem.W.Frag) (W : WX) (m : MF → MH → Res Walk) : TI := fun σ H R => ∃ ρ h τ, RelH N K ρ h H ∧ FR N K ρ H τ σ ∧ Post N K ρ H (fun c d H' => W c d σ H') (WJ N K) (m τ h) R
section
variable {N : Nm} {X : Cx} {W : WX} {Γ : Sys} {σ : L2.St} {H H' : L2.Hp} {Q : VK} {ρ ρ' : List Addr} {h : MH} {D : Ends}
variable {a b c e o : Expr} {es : List Expr} {ca cb cc ces ct cts : C} {pos apos : Pos}
theorem WJ.kp {K : PySem.W.Frag} (x : Kp ρ H ρ' H') {w : Walk} {J : It} (wj : WJ N K ρ H w J) : WJ N K ρ' H' w J := by
  rcases wj with ⟨a, xs, e1, e2, r⟩ | ⟨a, xs, e1, e2, r⟩ | ⟨a, r, e1, e2, z⟩ | z | ⟨a, xs, e1, e2, r⟩ | ⟨a, b, xs, ys, e1, e2, r, r2⟩
  · exact .inl ⟨a, xs, e1, e2, VR.kp x _ _ r⟩
  · exact .inr (.inl ⟨a, xs, e1, e2, VR.kp x _ _ r⟩)
  · exact .inr (.inr (.inl ⟨a, r, e1, e2, x.at_ _ _ z⟩))
  · exact .inr (.inr (.inr (.inl z)))
  · exact .inr (.inr (.inr (.inr (.inl ⟨a, xs, e1, e2, VR.kp x _ _ r⟩))))
  · exact .inr (.inr (.inr (.inr (.inr ⟨a, b, xs, ys, e1, e2, VR.kp x _ _ r, VR.kp x _ _ r2⟩))))
theorem WJ.mono {K : PySem.W.Frag} (x : Ext ρ H ρ' H') {w : Walk} {J : It} (wj : WJ N K ρ H w J) : WJ N K ρ' H' w J := wj.kp x.kp
theorem newPair {K : PySem.W.Frag} {T : Addr} {p q : Val} {v u : V} (hT : H T = none) (r1 : VR N K ρ H p v) (r2 : VR N K ρ H q u) (d1 : dat p = true) (d2 : dat q = true) :
    Ext ρ H ρ (upd H T (.tup [v, u])) ∧ ∀ h, RelH N K ρ h H → RelH N K ρ h (upd H T (.tup [v, u])) ∧ VR N K ρ (upd H T (.tup [v, u])) (.tup [p, q]) (.ref T) := by
  refine ⟨Ext.newT hT, fun h rh => ⟨rh.newT hT, ?_⟩⟩
  simp only [VR]
  refine ⟨T, _, rfl, .inl ⟨.inl upd_same, rh.notin hT⟩, ?_, by rw [List.all_cons, List.all_cons, d1, d2]; rfl⟩
  simp only [VRs]
  exact ⟨v, _, rfl, VR.mono (Ext.newT hT) _ _ r1, u, _, rfl, VR.mono (Ext.newT hT) _ _ r2, rfl⟩
theorem stays {K : PySem.W.Frag} {x : Val} {v : V} (r : VR N K ρ H x v) {H' : L2.Hp} (e : H' = H) : Ext ρ H ρ H' ∧ ∀ h, RelH N K ρ h H → RelH N K ρ h H' ∧ VR N K ρ H' x v := by
  subst e
  exact ⟨Ext.refl, fun h rh => ⟨rh, r⟩⟩
theorem WJ.items {K : PySem.W.Frag} {xs : List Val} {J : It} (wj : WJ N K ρ H (.items xs) J) (i : Nat) : (∀ x, xs[i]? = some x → J.go i H ∧ ∀ v H', J.yld i H v H' → Ext ρ H ρ H' ∧ ∀ h, RelH N K ρ h H → RelH N K ρ h H' ∧ VR N K ρ H' x v) ∧ (xs[i]? = none → J.stop i H) := by
  rcases wj with ⟨a, ys, rfl, e2, r⟩ | ⟨a, ys, rfl, e2, r⟩ | ⟨a, r, _, e2, _⟩ | ⟨n, rfl, e2⟩ | ⟨a, ys, rfl, e2, r⟩ | ⟨a, b, ys, zs, rfl, e2, r, r2⟩
  · cases e2
    simp only [VR] at r
    obtain ⟨_, vs, e1, t, rs, _⟩ := r
    cases e1
    refine ⟨fun x hx => ?_, fun hx => ⟨vs, t.sq, by rw [rs.length]; exact List.getElem?_eq_none_iff.mp hx⟩⟩
    obtain ⟨v, hv, rx⟩ := rs.get hx
    refine ⟨⟨vs, v, t.sq, hv⟩, fun u H' ⟨e1, e2⟩ => ?_⟩
    have z := e2 vs t.sq
    rw [hv] at z
    cases z
    exact stays rx e1
  · cases e2
    simp only [VR] at r
    obtain ⟨_, vs, e1, t, rs, _⟩ := r
    cases e1
    refine ⟨fun x hx => ?_, fun hx => ⟨vs, t.sq, by rw [rs.length]; exact List.getElem?_eq_none_iff.mp hx⟩⟩
    obtain ⟨v, hv, rx⟩ := rs.get hx
    refine ⟨⟨vs, v, t.sq, hv⟩, fun u H' ⟨e1, e2⟩ => ?_⟩
    have z := e2 vs t.sq
    rw [hv] at z
    cases z
    exact stays rx e1
  · cases e2
  · cases e2
    refine ⟨fun x hx => ?_, fun hx => ?_⟩
    · rw [List.getElem?_map] at hx
      by_cases hi : i < n
      · rw [List.getElem?_range hi] at hx
        cases hx
        refine ⟨hi, fun u H' ⟨e1, e2⟩ => stays ?_ e1⟩
        rw [e2]
        simp [VR]
      · rw [List.getElem?_eq_none (by simpa using hi)] at hx
        cases hx
    · have := List.getElem?_eq_none_iff.mp hx
      simp at this
      exact this
  · cases e2
    simp only [VR] at r
    obtain ⟨_, vs, e1, t, rs, dd⟩ := r
    cases e1
    refine ⟨fun x hx => ?_, fun hx => ⟨vs, t.sq, by have := List.getElem?_eq_none_iff.mp hx; rw [rs.length]; simpa [enumV] using this⟩⟩
    unfold enumV at hx
    rw [List.getElem?_mapIdx] at hx
    cases hy : ys[i]? with
    | none =>
      rw [hy] at hx
      cases hx
    | some y =>
      rw [hy] at hx
      cases hx
      obtain ⟨v, hv, ry⟩ := rs.get hy
      refine ⟨⟨vs, v, t.sq, hv⟩, ?_⟩
      rintro u H' ⟨T, x, rfl, hT, rfl, e2⟩
      have z := e2 vs t.sq
      rw [hv] at z
      cases z
      exact newPair hT (by simp only [VR]) ry rfl (List.all_eq_true.mp dd _ (List.mem_of_getElem? hy))
  · cases e2
    simp only [VR] at r r2
    obtain ⟨_, vs, e1, t, rs, dd⟩ := r
    cases e1
    obtain ⟨_, us, e1, t2, rs2, dd2⟩ := r2
    cases e1
    refine ⟨fun x hx => ?_, fun hx => ⟨vs, us, t.sq, t2.sq, ?_⟩⟩
    · unfold zipV at hx
      rw [List.getElem?_map] at hx
      cases hy : (ys.zip zs)[i]? with
      | none =>
        rw [hy] at hx
        cases hx
      | some p =>
        rw [hy] at hx
        cases hx
        obtain ⟨p1, p2⟩ := p
        rw [List.getElem?_zip_eq_some] at hy
        obtain ⟨v, hv, ry⟩ := rs.get hy.1
        obtain ⟨u, hu, rz⟩ := rs2.get hy.2
        refine ⟨⟨vs, us, v, u, t.sq, t2.sq, hv, hu⟩, ?_⟩
        rintro w H' ⟨T, x, y, rfl, hT, rfl, e2, e3⟩
        have z := e2 vs t.sq
        rw [hv] at z
        cases z
        have z := e3 us t2.sq
        rw [hu] at z
        cases z
        exact newPair hT ry rz (List.all_eq_true.mp dd _ (List.mem_of_getElem? hy.1)) (List.all_eq_true.mp dd2 _ (List.mem_of_getElem? hy.2))
    · have := List.getElem?_eq_none_iff.mp hx
      rw [rs.length, rs2.length]
      simp [zipV] at this
      omega
theorem WJ.live {K : PySem.W.Frag} {r : Nat} {J : It} (wj : WJ N K ρ H (.live r) J) (rh : RelH N K ρ h H) (i : Nat) : (∀ xs, h[r]? = some (.lst xs) → (∀ x, xs[i]? = some x → J.go i H ∧ ∀ v H', J.yld i H v H' → H' = H ∧ VR N K ρ H x v) ∧ (xs[i]? = none → J.stop i H)) := by
  intro xs hr
  rcases wj with ⟨a, ys, _, e2, _⟩ | ⟨a, ys, _, e2, _⟩ | ⟨a, r', rfl, e2, ra⟩ | ⟨n, _, e2⟩ | ⟨a, ys, _, e2, _⟩ | ⟨a, b, ys, zs, _, e2, _⟩
  · cases e2
  · cases e2
  · cases e2
    have oq := rh.obj r a _ ra hr
    simp only [OR] at oq
    obtain ⟨vs, hq, rs, _⟩ := oq
    refine ⟨fun x hx => ?_, fun hx => ⟨vs, lst_sq hq, by rw [rs.length]; exact List.getElem?_eq_none_iff.mp hx⟩⟩
    obtain ⟨v, hv, rx⟩ := rs.get hx
    refine ⟨⟨vs, v, lst_sq hq, hv⟩, fun u H' ⟨e1, e2⟩ => ⟨e1, ?_⟩⟩
    have z := e2 vs (lst_sq hq)
    rw [hv] at z
    cases z
    exact rx
  · cases e2
  · cases e2
  · cases e2
theorem i_each {tg iter : Expr} (hi : PE X iter (sE N X.K W (evE Γ cc))) : PI X tg iter (sI N X.K W (evI Γ (.each cc))) :=
  (pi_seq hi).weak fun σ H R ⟨ρ, h, τ, rh, fr, p⟩ => by
    dsimp only [evI] at p
    refine ⟨ρ, h, τ, rh, fr, p.bind.imp ?_⟩
    rintro v H1 ⟨ρ1, h1, x, e1, rh1, r1, p1⟩
    cases hw : walkOf h1 x with
    | none =>
      rw [hw] at p1
      exact p1.elim
    | some w =>
      rw [hw] at p1
      have go : ∀ J, WJ N X.K ρ1 H1 w J → R J H1 := fun J wj => p1 ρ1 H1 J Ext.refl rh1 wj
      cases x with
      | tup xs =>
        cases hw
        obtain ⟨a, vs, rfl, t, rs, dd⟩ := (by simpa only [VR] using r1 : ∃ (a : Addr) (vs : List V), v = .ref a ∧ TupAt X.K ρ1 H1 a vs ∧ VRs N X.K ρ1 H1 xs vs ∧ xs.all dat = true)
        exact ⟨a, rfl, .inr ⟨⟨vs, t.sq⟩, go _ (.inl ⟨a, xs, rfl, rfl, r1⟩)⟩⟩
      | fl xs =>
        cases hw
        obtain ⟨a, vs, rfl, t, rs, dd⟩ := (by simpa only [VR] using r1 : ∃ (a : Addr) (vs : List V), v = .ref a ∧ FlAt X.K ρ1 H1 a vs ∧ VRs N X.K ρ1 H1 xs vs ∧ xs.all dat = true)
        exact ⟨a, rfl, .inl ⟨⟨vs, t.sq⟩, go _ (.inr (.inl ⟨a, xs, rfl, rfl, r1⟩))⟩⟩
      | ref r =>
        have hw' : (match h1[r]? with
          | some (.lst _) => some (Walk.live r)
          | _ => none) = some w := hw
        cases ho : h1[r]? with
        | none =>
          rw [ho] at hw'
          cases hw'
        | some o =>
          rw [ho] at hw'
          obtain ⟨a, ra, rfl, oq⟩ := dic_at rh1 r1 ho
          cases o with
          | lst xs =>
            cases hw'
            simp only [OR] at oq
            obtain ⟨vs, hq, _⟩ := oq
            exact ⟨a, rfl, .inl ⟨⟨vs, lst_sq hq⟩, go _ (.inr (.inr (.inl ⟨a, r, rfl, rfl, ra⟩)))⟩⟩
          | _ => cases hw'
      | _ => cases hw
theorem i_enum {es0 : List Expr} {kk : Nat} {tpos p0 p1 : Pos} {e : Expr} (hG : Gl X "enumerate") (hm : X.mg "enumerate" = none) (hi : PE X e (sE N X.K W (evE Γ cc))) (hs : notStar e = true) : PI X (.Tuple es0 kk tpos) (.Call (.Name "enumerate" p0) [e] [] p1) (sI N X.K W (evI Γ (.enum cc))) :=
  (pi_enumT hG hm (x_cons (Γ := Γ) (ces := .nil) hi x_nil hs) (star_of hs)).weak fun σ H R ⟨ρ, h, τ, rh, fr, p⟩ => by
    dsimp only [evI] at p
    have ee : evEs Γ (.cons cc .nil) τ h = (evE Γ cc τ h).bind fun x h1 => .ok [x] h1 := by
      simp only [evEs]
      rfl
    refine ⟨ρ, h, τ, rh, fr, ?_⟩
    rw [ee]
    cases hq : evE Γ cc τ h with
    | bad =>
      rw [hq] at p
      exact p.elim
    | exc c fs h1 =>
      rw [hq] at p
      exact p
    | ok x h1 =>
      rw [hq] at p
      intro ρ1 H1 vs e1 rh1 rv
      obtain ⟨v, rfl, rx⟩ := rv.inv1
      cases x with
      | tup xs =>
        have rx' := rx
        simp only [VR] at rx
        obtain ⟨a, vs, rfl, t, rs, _⟩ := rx
        exact ⟨a, vs, rfl, t.sq, p ρ1 H1 _ e1 rh1 (.inr (.inr (.inr (.inr (.inl ⟨a, xs, rfl, rfl, rx'⟩)))))⟩
      | _ => exact p.elim
theorem i_zip {es0 : List Expr} {kk : Nat} {tpos p0 p1 : Pos} {e e' : Expr} {cc' : C} (hG : Gl X "zip") (hm : X.mg "zip" = none) (hi : PE X e (sE N X.K W (evE Γ cc))) (hi' : PE X e' (sE N X.K W (evE Γ cc'))) (hs : notStar e = true) (hs' : notStar e' = true) : PI X (.Tuple es0 kk tpos) (.Call (.Name "zip" p0) [e, e'] [] p1) (sI N X.K W (evI Γ (.zip cc cc'))) :=
  (RZ.pi_zipA hG hm (x_cons (Γ := Γ) hi (x_cons (Γ := Γ) (ces := .nil) hi' x_nil hs') hs) (star_of hs) (noStars (by simp [hs']))).weak fun σ H R ⟨ρ, h, τ, rh, fr, p⟩ => by
    dsimp only [evI] at p
    have ee : evEs Γ (.cons cc (.cons cc' .nil)) τ h = (evE Γ cc τ h).bind fun x h1 => (evE Γ cc' τ h1).bind fun y h2 => .ok [x, y] h2 := by
      simp only [evEs]
      cases evE Γ cc τ h with
      | ok x h1 =>
        simp only [Res.bind]
        cases evE Γ cc' τ h1 <;> rfl
      | _ => rfl
    refine ⟨ρ, h, τ, rh, fr, ?_⟩
    rw [ee]
    cases hq : evE Γ cc τ h with
    | bad =>
      rw [hq] at p
      exact p.elim
    | exc c fs h1 =>
      rw [hq] at p
      exact p
    | ok x h1 =>
      rw [hq] at p
      cases hq2 : evE Γ cc' τ h1 with
      | bad =>
        simp only [Res.bind, hq2] at p
        exact p.elim
      | exc c fs h2 =>
        simp only [Res.bind, hq2] at p ⊢
        exact p
      | ok y h2 =>
        simp only [Res.bind, hq2] at p ⊢
        intro ρ1 H1 vs e1 rh1 rv
        obtain ⟨v, u, rfl, rx, ry⟩ := rv.inv2
        cases x with
        | tup xs =>
          cases y with
          | tup ys =>
            have rx' := rx
            have ry' := ry
            simp only [VR] at rx ry
            obtain ⟨a, vs, rfl, t, _⟩ := rx
            obtain ⟨b, us, rfl, t2, _⟩ := ry
            exact ⟨a, b, vs, us, rfl, .inr ⟨t.sq, t2.sq, p ρ1 H1 _ e1 rh1 (.inr (.inr (.inr (.inr (.inr ⟨a, b, xs, ys, rfl, rfl, rx', ry'⟩)))))⟩⟩
          | _ => exact p.elim
        | _ => exact p.elim
theorem i_rng {tg e : Expr} {p0 p1 : Pos} (hG : Gl X "range") (hm : X.mg "range" = none) (hi : PE X e (sE N X.K W (evE Γ cc))) (hs : notStar e = true) : PI X tg (.Call (.Name "range" p0) [e] [] p1) (sI N X.K W (evI Γ (.rng1 cc))) :=
  (pi_range1 hG hm (x_cons (Γ := Γ) (ces := .nil) hi x_nil hs) (star_of hs)).weak fun σ H R ⟨ρ, h, τ, rh, fr, p⟩ => by
    dsimp only [evI] at p
    have ee : evEs Γ (.cons cc .nil) τ h = (evE Γ cc τ h).bind fun x h1 => .ok [x] h1 := by
      simp only [evEs]
      rfl
    refine ⟨ρ, h, τ, rh, fr, ?_⟩
    rw [ee]
    cases hq : evE Γ cc τ h with
    | bad =>
      rw [hq] at p
      exact p.elim
    | exc c fs h1 =>
      rw [hq] at p
      exact p
    | ok x h1 =>
      rw [hq] at p
      intro ρ1 H1 vs e1 rh1 rv
      simp only [VRs] at rv
      obtain ⟨v, r', rfl, rx, rfl⟩ := rv
      cases x with
      | int n =>
        simp only [VR] at rx
        subst rx
        dsimp only [Res.bind] at p
        split at p
        · rename_i hn
          exact ⟨n, rfl, hn.1, hn.2, p ρ1 H1 _ e1 rh1 (.inr (.inr (.inr (.inl ⟨n.toNat, rfl, rfl⟩))))⟩
        · exact p.elim
      | _ => exact p.elim
/-- for target in iter: .. -/
theorem x_forW {tg iter : Expr} {sb : List Stmt} {cit : C} (hp : PassesOwn (model X.prog X.w) X.A X.env X.xe) (hc : X.calm = true) (hi : PI X tg iter (sI N X.K W (evI Γ cit))) (hg : PG X tg (sG N X.K W (asg Γ ct))) (hb : PSs X sb (sS N X.K W (evSs Γ cb))) (hs : isSetI iter = false) :
    PS X (.For tg iter sb [] pos) (sS N X.K W (evS Γ (.for_ ct cit cb))) :=
  (ps_for hp hc hi hg hb (fold_set hs)).weak fun D σ H ⟨ρ, h, τ, rh, fr, p⟩ => by
    unfold evS at p
    refine ⟨ρ, h, τ, rh, fr, (PostS.go (rel := WJ N X.K) fr p).imp ?_⟩
    rintro J H1 ⟨ρ1, h1, w, e1, rh1, wj, p1⟩
    cases w with
    | items xs =>
      refine ⟨fun i m σ H => ∃ ρ h τ, RelH N X.K ρ h H ∧ FR N X.K ρ H τ σ ∧ WJ N X.K ρ H (.items xs) J ∧ i + m = xs.length ∧ PostS N X.K ρ H W D (forL (fun x σ' h' => (asg Γ ct x σ' h').seq (evSs Γ cb)) (xs.drop i) τ h), ⟨xs.length, ρ1, h1, τ, rh1, fr.mono e1, wj, by omega, p1⟩, ?_⟩
      rintro i m σ H ⟨ρ, h, τ, rh, fr, wj, hm, p⟩
      obtain ⟨w1, w2⟩ := wj.items i
      cases hx : xs[i]? with
      | none =>
        rw [List.drop_eq_nil_of_le (List.getElem?_eq_none_iff.mp hx)] at p
        unfold forL at p
        exact .inl ⟨w2 hx, p.nx fr rh⟩
      | some x =>
        obtain ⟨hi2, ex⟩ := List.getElem?_eq_some_iff.mp hx
        obtain ⟨go, yld⟩ := w1 x hx
        rw [List.drop_eq_getElem_cons hi2, ex, forL_cons] at p
        refine .inr ⟨go, _, fun σ' H' q => ⟨m - 1, by omega, q⟩, fun v H' y => ?_⟩
        obtain ⟨e, k⟩ := yld v H' y
        obtain ⟨rh', rv⟩ := k _ rh
        refine ⟨ρ, h, τ, x, rh', fr.mono e, rv, ?_⟩
        exact (PostS.turn (fun ρ' h τ σ H' e2 rh2 fr2 p2 => ⟨ρ', h, τ, rh2, fr2, (wj.mono e).mono e2, by omega, p2⟩) (PostS.later e p)).seq.nxO (asg_simple ct x τ h)
    | live r =>
      refine ⟨fun i m σ H => ∃ ρ h τ, RelH N X.K ρ h H ∧ FR N X.K ρ H τ σ ∧ WJ N X.K ρ H (.live r) J ∧ PostS N X.K ρ H W D (forR (fun x σ' h' => (asg Γ ct x σ' h').seq (evSs Γ cb)) r m i τ h), ⟨FUEL, ρ1, h1, τ, rh1, fr.mono e1, wj, p1⟩, ?_⟩
      rintro i m σ H ⟨ρ, h, τ, rh, fr, wj, p⟩
      cases m with
      | zero =>
        unfold forR at p
        exact p.elim
      | succ m =>
        cases hr : h[r]? with
        | none =>
          unfold forR at p
          simp only [hr] at p
          exact p.elim
        | some o =>
          cases o with
          | lst xs =>
            obtain ⟨w1, w2⟩ := wj.live rh i xs hr
            cases hx : xs[i]? with
            | none =>
              unfold forR at p
              simp only [hr, hx] at p
              exact .inl ⟨w2 hx, p.nx fr rh⟩
            | some x =>
              obtain ⟨go, yld⟩ := w1 x hx
              have p' : PostS N X.K ρ H W D (turnThen ((asg Γ ct x τ h).seq (evSs Γ cb)) (forR (fun x σ' h' => (asg Γ ct x σ' h').seq (evSs Γ cb)) r m (i + 1))) := by
                unfold forR at p
                simp only [hr, hx] at p
                unfold turnThen
                exact p
              refine .inr ⟨go, _, fun σ' H' q => ⟨m, Nat.lt_succ_self m, q⟩, fun v H' y => ?_⟩
              obtain ⟨rfl, rv⟩ := yld v H' y
              refine ⟨ρ, h, τ, x, rh, fr, rv, ?_⟩
              exact (PostS.turn (fun ρ' h τ σ H' e2 rh2 fr2 p2 => ⟨ρ', h, τ, rh2, fr2, wj.mono e2, p2⟩) p').seq.nxO (asg_simple ct x τ h)
          | _ =>
            unfold forR at p
            simp only [hr] at p
            exact p.elim
/-! ### targets of a comprehension: names, tuples of names -/
def outOf (vs : List Nat) (σ σ' : L2.St) : Prop := σ'.length = σ.length ∧ ∀ i, i ∉ vs → σ'[i]? = σ[i]?
theorem wipe_at {σ : L2.St} {i : Nat} : ∀ {vs : List Nat}, (wipe σ vs)[i]? = if i ∈ vs then (if i < σ.length then some none else none) else σ[i]?
  | [] => by simp [wipe]
  | v :: vs => by
    unfold wipe
    by_cases h : v = i
    · subst h
      rw [if_pos List.mem_cons_self, List.getElem?_set]
      simp [wipe_length]
    · rw [List.getElem?_set_ne h, wipe_at (vs := vs)]
      have e : (i ∈ v :: vs) ↔ i ∈ vs := by
        simp only [List.mem_cons]
        exact ⟨fun z => z.elim (fun y => absurd y.symm h) id, Or.inr⟩
      simp only [e]
theorem wipe_out_eq {vs : List Nat} {σ σ' : L2.St} (o : outOf vs σ σ') : wipe σ' vs = wipe σ vs := by
  apply List.ext_getElem?
  intro i
  rw [wipe_at, wipe_at, o.1]
  by_cases h : i ∈ vs
  · rw [if_pos h, if_pos h]
  · rw [if_neg h, if_neg h, o.2 i h]
def sGv (N : Nm) (K : PySem.W.Frag) (vs : List Nat) (m : Val → MF → MH → Out) : TG := fun v σ H Q => ∃ ρ h τ x, RelH N K ρ h H ∧ FR N K ρ H τ σ ∧ VR N K ρ H x v ∧ match m x τ h with
  | .nx τ' h' => h' = h ∧ ∀ σ', FR N K ρ H τ' σ' → outOf vs σ σ' → Q σ' H
  | _ => False
def sGvs (N : Nm) (K : PySem.W.Frag) (vs : List Nat) (m : List Val → MF → MH → Out) : TGs := fun v σ H Q => ∃ ρ h τ x, RelH N K ρ h H ∧ FR N K ρ H τ σ ∧ VRs N K ρ H x v ∧ match m x τ h with
  | .nx τ' h' => h' = h ∧ ∀ σ', FR N K ρ H τ' σ' → outOf vs σ σ' → Q σ' H
  | _ => False
/-! names and tuples of names, all among vs -/
mutual
def nmT (vs : List Nat) : C → Bool
  | .tv i => vs.contains i
  | .tt ts => nmTs vs ts
  | _ => false
def nmTs (vs : List Nat) : C → Bool
  | .nil => true
  | .cons a b => nmT vs a && nmTs vs b
  | _ => false
end
mutual
theorem nm_heap {vs : List Nat} : ∀ (t : C) (x : Val) (τ τ' : MF) (h h' : MH), nmT vs t = true → asg Γ t x τ h = .nx τ' h' → h' = h := by
  intro t x τ τ' h h' hn he
  cases t with
  | tv i =>
    unfold asg at he
    cases he
    rfl
  | tt ts =>
    cases x with
    | tup xs =>
      unfold asg at he
      dsimp only at he
      split at he
      · exact nms_heap ts xs τ τ' h h' (by unfold nmT at hn; exact hn) he
      · cases he
    | _ =>
      unfold asg at he
      cases he
  | _ => (unfold nmT at hn; cases hn)
theorem nms_heap {vs : List Nat} : ∀ (t : C) (x : List Val) (τ τ' : MF) (h h' : MH), nmTs vs t = true → asgs Γ t x τ h = .nx τ' h' → h' = h := by
  intro t x τ τ' h h' hn he
  cases t with
  | nil =>
    cases x with
    | nil =>
      unfold asgs at he
      cases he
      rfl
    | cons y ys =>
      unfold asgs at he
      cases he
  | cons a b =>
    cases x with
    | nil =>
      unfold asgs at he
      cases he
    | cons y ys =>
      unfold asgs at he
      unfold nmTs at hn
      rw [Bool.and_eq_true] at hn
      cases ha : asg Γ a y τ h with
      | nx τ1 h1 =>
        rw [ha] at he
        have e1 := nm_heap a y τ τ1 h h1 hn.1 ha
        have e2 := nms_heap b ys τ1 τ' h1 h' hn.2 he
        rw [e2, e1]
      | _ =>
        rw [ha] at he
        cases he
  | _ => (unfold nmTs at hn; cases hn)
end
theorem v_tv {vs : List Nat} {i : Nat} {x : Str} (hv : i ∈ vs) (hN : X.N.Nodup) (hi : X.N[i]? = some x) (hx : Loc X.env.scope x) (hf : X.fn x = true ∨ X.env.scope.names.lookup x = some .local) : PG X (.Name x pos) (sGv N X.K vs (asg Γ (.tv i))) :=
  (pg_name hN hi hx hf).weak fun v σ H Q ⟨ρ, h, τ, x, rh, fr, rv, p⟩ => by
    unfold asg at p
    exact p.2 _ (fr.set i rv) ⟨by simp, fun j hj => List.getElem?_set_ne fun z => by rw [← z] at hj; exact hj hv⟩
theorem v_nil {vs : List Nat} : PGs X [] (sGvs N X.K vs (asgs Γ .nil)) :=
  pgs_nil.weak fun v σ H Q ⟨ρ, h, τ, x, rh, fr, rv, p⟩ => by
    cases x with
    | nil =>
      unfold asgs at p
      simp only [VRs] at rv
      exact ⟨rv, p.2 _ fr ⟨rfl, fun _ _ => rfl⟩⟩
    | cons y ys =>
      unfold asgs at p
      exact p.elim
theorem v_cons {vs : List Nat} (h1 : PG X e (sGv N X.K vs (asg Γ ct))) (h2 : PGs X es (sGvs N X.K vs (asgs Γ cts))) (hs : notStar e = true) (hn : nmT vs ct = true) : PGs X (e :: es) (sGvs N X.K vs (asgs Γ (.cons ct cts))) :=
  (pgs_cons h1 h2 (asgc hs)).weak fun v σ H Q ⟨ρ, h, τ, x, rh, fr, rv, p⟩ => by
    cases x with
    | nil =>
      unfold asgs at p
      exact p.elim
    | cons y ys =>
      unfold asgs at p
      simp only [VRs] at rv
      obtain ⟨v1, r1, rfl, ry, rys⟩ := rv
      refine ⟨v1, r1, rfl, ρ, h, τ, y, rh, fr, ry, ?_⟩
      cases ha : asg Γ ct y τ h with
      | nx τ1 h1 =>
        rw [ha] at p
        have p' : match asgs Γ cts ys τ1 h1 with
          | .nx τ' h' => h' = h ∧ ∀ σ', FR N X.K ρ H τ' σ' → outOf vs σ σ' → Q σ' H
          | _ => False := p
        cases hb : asgs Γ cts ys τ1 h1 with
        | nx τ2 h2 =>
          rw [hb] at p'
          have e1 := nm_heap ct y τ τ1 h h1 hn ha
          subst e1
          refine ⟨rfl, fun σ1 fr1 o1 => ⟨ρ, h1, τ1, ys, rh, fr1, rys, ?_⟩⟩
          rw [hb]
          exact ⟨p'.1, fun σ2 fr2 o2 => p'.2 σ2 fr2 ⟨o2.1.trans o1.1, fun i hi => (o2.2 i hi).trans (o1.2 i hi)⟩⟩
        | _ =>
          rw [hb] at p'
          exact p'.elim
      | _ =>
        rw [ha] at p
        exact p.elim
theorem v_tt {vs : List Nat} {k : Nat} (hc : X.calm = true) (hg : PGs X es (sGvs N X.K vs (asgs Γ cts))) (hl : es.length = lenC cts) (hs : es.all notStar = true) : PG X (.Tuple es k pos) (sGv N X.K vs (asg Γ (.tt cts))) :=
  (pg_tup (n := es.length) hc hg (asg_len hs).1 (asg_len hs).2).weak fun v σ H Q ⟨ρ, h, τ, x, rh, fr, rv, p⟩ => by
    cases x with
    | tup xs =>
      unfold asg at p
      dsimp only at p
      by_cases hx : xs.length = lenC cts
      · rw [if_pos hx] at p
        simp only [VR] at rv
        obtain ⟨a, us, rfl, t, rs, _⟩ := rv
        exact ⟨a, us, rfl, t.sq, by rw [rs.length, hx, hl], ρ, h, τ, xs, rh, fr, rs, p⟩
      · rw [if_neg hx] at p
        exact p.elim
    | _ =>
      unfold asg at p
      exact p.elim
/-! ### a comprehension's turns -/
abbrev NW : WX := fun _ _ _ _ => False
def tTest (N : Nm) (K : PySem.W.Frag) (Γ : Sys) (c : C) : TT := if isNil c = true then tYes else sT N K NW (evT Γ c)
def stepLc (r : Res (Option Val)) (acc : List Val) (next : List Val → MH → Res (List Val)) : Res (List Val) := match r with
  | .ok (some y) h1 => if acc.length < sizeLine then next (acc ++ [y]) h1 else .bad
  | .ok none h1 => next acc h1
  | _ => .bad
theorem Kp.trans {ρ ρ' ρ'' : List Addr} {H H' H'' : L2.Hp} (a : Kp ρ H ρ' H') (b : Kp ρ' H' ρ'' H'') : Kp ρ H ρ'' H'' :=
  ⟨fun i x h => b.at_ i x (a.at_ i x h), fun x o h n im => let ⟨h1, n1⟩ := a.keep x o h n im; b.keep x o h1 n1 im⟩
theorem kp_upd {ρ : List Addr} {H : L2.Hp} {L : Addr} {l : List V} {o : HO} (hD : H L = some (.lst l)) : Kp ρ H ρ (upd H L o) :=
  ⟨fun _ _ h => h, fun b u hb nb im => by
    have ne : b ≠ L := fun z => by
      rw [z, hD] at hb
      cases hb
      exact im
    exact ⟨by rw [upd_ne ne]; exact hb, nb⟩⟩
theorem RelH.upD {K : PySem.W.Frag} {L : Addr} {l : List V} {o : HO} (r : RelH N K ρ h H) (nD : L ∉ ρ) (hD : H L = some (.lst l)) : RelH N K ρ h (upd H L o) :=
  ⟨r.len, r.nd, (fun i a u e1 e2 => (r.obj i a u e1 e2).kp (kp_upd hD) (upd_ne fun z => nD (z ▸ List.mem_of_getElem? e1))), Tabs_upd r.tb fun u e => by rw [hD] at e; cases e; exact ⟨fun _ z => (by cases z), fun _ z => (by cases z)⟩⟩
structure LcS (N : Nm) (K : PySem.W.Frag) (ρ1 : List Addr) (H1 : L2.Hp) (L : Addr) (w : Walk) (J : It) (τ : MF) (σ : L2.St) (ρ : List Addr) (h : MH) (H : L2.Hp) (acc : List Val) (accV : List V) : Prop where
  ext : Ext ρ1 H1 ρ H
  rh : RelH N K ρ h H
  nD : L ∉ ρ
  hD : H L = some (.lst accV)
  ra : VRs N K ρ H acc accV
  wj : WJ N K ρ H w J
  fr : FR N K ρ H τ σ
theorem LcS.later {K : PySem.W.Frag} {ρ1 : List Addr} {H1 : L2.Hp} {L : Addr} {w : Walk} {J : It} {τ : MF} {h' : MH} {acc : List Val} {accV : List V} (S : LcS N K ρ1 H1 L w J τ σ ρ h H acc accV) (e : Ext ρ H ρ' H') (rh : RelH N K ρ' h' H') : LcS N K ρ1 H1 L w J τ σ ρ' h' H' acc accV :=
  ⟨S.ext.trans e, rh, e.notin S.hD S.nD, e.keep L _ S.hD S.nD (fun ps z => by cases z), S.ra.mono e, S.wj.mono e, S.fr.mono e⟩
theorem LcS.push {K : PySem.W.Frag} {ρ1 : List Addr} {H1 : L2.Hp} {L : Addr} {w : Walk} {J : It} {τ : MF} {acc : List Val} {accV : List V} {y : Val} {v : V} (S : LcS N K ρ1 H1 L w J τ σ ρ h H acc accV) (n1 : H1 L = none) (ry : VR N K ρ H y v) :
    LcS N K ρ1 H1 L w J τ σ ρ h (upd H L (.lst (accV ++ [v]))) (acc ++ [y]) (accV ++ [v]) := by
  have k : Kp ρ H ρ (upd H L (.lst (accV ++ [v]))) := kp_upd S.hD
  refine ⟨⟨S.ext.pre, fun b o hb nb nt => ?_, fun b hb => ?_⟩, S.rh.upD S.nD S.hD, S.nD, upd_same, VRs.kp k _ _ (S.ra.append (VRs.one ry)), S.wj.kp k, S.fr.kp k⟩
  · rw [upd_ne (fun z => by rw [z, n1] at hb; cases hb)]
    exact S.ext.keep b o hb nb nt
  · have ne : b ≠ L := fun z => by
      rw [z, upd_same] at hb
      cases hb
    rw [upd_ne ne] at hb
    exact S.ext.dom b hb
theorem wipe_wipe {σ : L2.St} {vs : List Nat} : wipe (wipe σ vs) vs = wipe σ vs := wipe_out_eq ⟨wipe_length σ vs, fun i hi => by rw [wipe_at, if_neg hi]⟩
theorem lc_turn {ρ1 : List Addr} {H1 : L2.Hp} {L : Addr} {w : Walk} {J : It} {τ : MF} {acc : List Val} {accV : List V} {x : Val} {v : V} {vs : List Nat} {ce : C} {next : List Val → MH → Res (List Val)} {G : Res (List Val) → Prop} {Nx : L2.Hp → Prop}
    (hn : nmT vs ct = true) (n1 : H1 L = none) (S : LcS N X.K ρ1 H1 L w J τ (wipe σ vs) ρ h H acc accV) (rv : VR N X.K ρ H x v) (hG : ¬ G .bad) (p : G (stepLc (lcTurn (isNil cc) (asg Γ ct x τ h) (evE Γ cc) (evE Γ ce)) acc next))
    (hNx : ∀ ρ' h' H' acc accV, LcS N X.K ρ1 H1 L w J τ (wipe σ vs) ρ' h' H' acc accV → Kp ρ H ρ' H' → G (next acc h') → Nx H') :
    (sGv N X.K vs (asg Γ ct)) v (wipe σ vs) H fun σ2 H2 => wipe σ2 vs = wipe σ vs ∧ tTest N X.K Γ cc σ2 H2 fun b H3 =>
      if b = true then (sE N X.K NW (evE Γ ce)) σ2 H3 fun y H4 => ∃ l, H4 L = some (.lst l) ∧ l.length < sizeLine ∧ Nx (upd H4 L (.lst (l ++ [y]))) else Nx H3 := by
  refine ⟨ρ, h, τ, x, S.rh, S.fr, rv, ?_⟩
  cases ha : asg Γ ct x τ h with
  | nx τ2 h2 =>
    rw [ha] at p
    have e0 := nm_heap ct x τ τ2 h h2 hn ha
    subst e0
    refine ⟨rfl, fun σ2 fr2 o2 => ⟨(wipe_out_eq o2).trans wipe_wipe, ?_⟩⟩
    -- what the item's making leaves
    have elt : ∀ {ρ3 : List Addr} {h3 : MH} {H3 : L2.Hp}, Ext ρ H ρ3 H3 → RelH N X.K ρ3 h3 H3 → G (stepLc ((noExc (evE Γ ce τ2 h3)).bind fun y h4 => .ok (some y) h4) acc next) →
        (sE N X.K NW (evE Γ ce)) σ2 H3 fun y H4 => ∃ l, H4 L = some (.lst l) ∧ l.length < sizeLine ∧ Nx (upd H4 L (.lst (l ++ [y]))) := by
      intro ρ3 h3 H3 e3 rh3 p3
      refine ⟨ρ3, h3, τ2, rh3, fr2.mono e3, ?_⟩
      cases hy : evE Γ ce τ2 h3 with
      | ok y h4 =>
        rw [hy] at p3
        intro ρ4 H4 vy e4 rh4 ry
        have S4 := S.later (e3.trans e4) rh4
        have p4 : G (if acc.length < sizeLine then next (acc ++ [y]) h4 else .bad) := p3
        by_cases hz : acc.length < sizeLine
        · rw [if_pos hz] at p4
          exact ⟨accV, S4.hD, by rw [S4.ra.length]; exact hz, hNx _ _ _ _ _ (S4.push n1 ry) ((e3.trans e4).kp.trans (kp_upd S4.hD)) p4⟩
        · rw [if_neg hz] at p4
          exact (hG p4).elim
      | exc c fs h4 =>
        rw [hy] at p3
        exact (hG p3).elim
      | bad =>
        rw [hy] at p3
        exact (hG p3).elim
    unfold tTest
    unfold lcTurn at p
    dsimp only at p
    by_cases hnil : isNil cc = true
    · rw [if_pos hnil] at p ⊢
      have p' : G (stepLc ((noExc (evE Γ ce τ2 h2)).bind fun y h4 => .ok (some y) h4) acc next) := p
      unfold tYes
      exact elt Ext.refl S.rh p'
    · rw [if_neg hnil] at p ⊢
      refine ⟨ρ, h2, τ2, S.rh, fr2, ?_⟩
      unfold evT
      cases ht : evE Γ cc τ2 h2 with
      | ok z h3 =>
        rw [ht] at p
        cases htr : tru h3 z with
        | none =>
          have p' : G (stepLc ((ofVal (tru h3 z) h3).bind fun b h2 => if b then (noExc (evE Γ ce τ2 h2)).bind fun y h3 => .ok (some y) h3 else .ok none h2) acc next) := p
          rw [htr] at p'
          exact (hG p').elim
        | some b =>
          have p' : G (stepLc ((ofVal (tru h3 z) h3).bind fun b h2 => if b then (noExc (evE Γ ce τ2 h2)).bind fun y h3 => .ok (some y) h3 else .ok none h2) acc next) := p
          rw [htr] at p'
          show Post N X.K ρ H _ _ (ofVal (tru h3 z) h3) _
          rw [htr]
          intro ρ3 H3 b' e3 rh3 eb
          have eb' : b' = b := eb
          subst eb'
          cases b' with
          | true =>
            rw [if_pos rfl]
            exact elt e3 rh3 p'
          | false =>
            rw [if_neg Bool.false_ne_true]
            exact hNx _ _ _ _ _ (S.later e3 rh3) e3.kp p'
      | exc c fs h3 =>
        rw [ht] at p
        exact (hG p).elim
      | bad =>
        rw [ht] at p
        exact (hG p).elim
  | _ =>
    rw [ha] at p
    exact (hG p).elim
theorem lcL_cons {turn : Val → MH → Res (Option Val)} {x : Val} {xs acc : List Val} : lcL turn (x :: xs) acc h = stepLc (turn x h) acc (lcL turn xs) := by
  unfold lcL stepLc
  cases turn x h with
  | ok o h1 => cases o <;> rfl
  | _ => rfl
theorem lcR_some {turn : Val → MH → Res (Option Val)} {r n i : Nat} {x : Val} {xs acc : List Val} (h1 : h[r]? = some (.lst xs)) (h2 : xs[i]? = some x) : lcR turn r (n + 1) i acc h = stepLc (turn x h) acc (lcR turn r n (i + 1)) := by
  rw [lcR]
  simp only [h1, h2]
  unfold stepLc
  cases turn x h with
  | ok o h1 => cases o <;> rfl
  | _ => rfl
/-- a comprehension's reading from its meaning -/
theorem imp_lc {cit ce : C} {vs : List Nat} (hn : nmT vs ct = true) (q : sE N X.K W (evE Γ (.lc vs ce ct cit cc)) σ H Q) : tLc (sI N X.K W (evI Γ cit)) (sGv N X.K vs (asg Γ ct)) (tTest N X.K Γ cc) (sE N X.K NW (evE Γ ce)) vs σ H Q := by
  obtain ⟨ρ, h, τ, rh, fr, p⟩ := q
  unfold evE at p
  refine ⟨ρ, h, τ, rh, fr, p.bind.imp ?_⟩
  rintro J H1 ⟨ρ1, h1, w, e1, rh1, wj, p1⟩
  intro L hL
  -- what is good to end by
  obtain ⟨fin, efin⟩ : ∃ fin : List Val → MH → Res Val, fin = fun ys h3 => if ys.all dat = true then ofOpt (alloc h3 (.lst ys)) else .bad := ⟨_, rfl⟩
  rw [← efin] at p1
  obtain ⟨G, eG⟩ : ∃ G : Res (List Val) → Prop, G = fun r => Post N X.K ρ1 H1 (fun c d H' => W c d σ H') (VR N X.K) (r.bind fin) Q := ⟨_, rfl⟩
  have p2 : G (walkLc (fun x h2 => lcTurn (isNil cc) (asg Γ ct x (wipeM τ vs) h2) (evE Γ cc) (evE Γ ce)) w h1) := by
    rw [eG]
    exact p1
  have hG : ¬ G .bad := by
    rw [eG]
    exact fun z => z
  have frw : ∀ {ρ : List Addr} {H : L2.Hp} {vs : List Nat}, FR N X.K ρ H τ σ → FR N X.K ρ H (wipeM τ vs) (wipe σ vs) := by
    intro ρ H vs f
    induction vs with
    | nil => exact f
    | cons v vs ih =>
      refine ⟨by simp [wipe, wipeM, ih.len], fun j y hy => ?_⟩
      by_cases hj : v = j
      · subst hj
        unfold wipeM at hy
        rw [List.getElem?_set] at hy
        by_cases hl : v < (wipeM τ vs).length
        · rw [if_pos rfl, if_pos hl] at hy
          cases hy
        · rw [if_pos rfl, if_neg hl] at hy
          cases hy
      · unfold wipeM at hy
        rw [List.getElem?_set_ne hj] at hy
        unfold wipe
        rw [List.getElem?_set_ne hj]
        exact ih.at_ j y hy
  have e2 : Ext ρ1 H1 ρ1 (upd H1 L (.lst [])) := Ext.newT hL
  have S0 : LcS N X.K ρ1 H1 L w J (wipeM τ vs) (wipe σ vs) ρ1 h1 (upd H1 L (.lst [])) [] [] :=
    ⟨e2, rh1.newT hL, rh1.notin hL, upd_same, by simp only [VRs], wj.mono e2, frw (fr.mono (e1.trans e2))⟩
  -- the end
  have done : ∀ {ρ' : List Addr} {h' : MH} {H' : L2.Hp} {acc : List Val} {accV : List V}, LcS N X.K ρ1 H1 L w J (wipeM τ vs) (wipe σ vs) ρ' h' H' acc accV → G (.ok acc h') → Q (.ref L) H' := by
    intro ρ' h' H' acc accV S g
    rw [eG, efin] at g
    have g' : Post N X.K ρ1 H1 (fun c d H' => W c d σ H') (VR N X.K) (if acc.all dat = true then ofOpt (alloc h' (.lst acc)) else .bad) Q := g
    by_cases hd : acc.all dat = true
    · rw [if_pos hd] at g'
      have eH : upd H' L (.lst accV) = H' := by
        funext b
        by_cases hb : b = L
        · rw [hb, upd_same, S.hD]
        · rw [upd_ne hb]
      have kN : Kp ρ' H' (ρ' ++ [L]) (upd H' L (.lst accV)) := by
        refine ⟨fun i b hb => by rw [List.getElem?_append_left (List.getElem?_eq_some_iff.mp hb).1]; exact hb, fun b o hb nb im => ?_⟩
        have ne : b ≠ L := fun z => by
          rw [z, S.hD] at hb
          cases hb
          exact im
        refine ⟨by rw [upd_ne ne]; exact hb, fun hm => ?_⟩
        rcases List.mem_append.mp hm with z | z
        · exact nb z
        · exact ne (List.mem_singleton.mp z)
      have eN : Ext ρ1 H1 (ρ' ++ [L]) (upd H' L (.lst accV)) := by
        rw [eH]
        obtain ⟨m1, q1, q2⟩ := S.ext.pre
        refine ⟨⟨m1 ++ [L], by rw [q1, List.append_assoc], fun b hb => ?_⟩, S.ext.keep, S.ext.dom⟩
        rcases List.mem_append.mp hb with z | z
        · exact q2 b z
        · rw [List.mem_singleton.mp z]
          exact hL
      have z := g' _ _ _ eN (S.rh.newK S.nD (fun u e => by rw [S.hD] at e; cases e; exact ⟨fun _ z => (by cases z), fun _ z => (by cases z)⟩) kN (by simp only [OR]; exact ⟨accV, upd_same, VRs.kp kN _ _ S.ra, hd⟩)) (VR.newRef S.rh)
      rw [eH] at z
      exact z
    · rw [if_neg hd] at g'
      exact g'.elim
  cases w with
  | items xs =>
    refine ⟨fun i m H' => ∃ ρ' h' acc accV, LcS N X.K ρ1 H1 L (.items xs) J (wipeM τ vs) (wipe σ vs) ρ' h' H' acc accV ∧ i + m = xs.length ∧ G (lcL (fun x h2 => lcTurn (isNil cc) (asg Γ ct x (wipeM τ vs) h2) (evE Γ cc) (evE Γ ce)) (xs.drop i) acc h'),
      ⟨xs.length, ρ1, h1, [], [], S0, by omega, p2⟩, ?_⟩
    rintro i m H' ⟨ρ', h', acc, accV, S, hm, g⟩
    obtain ⟨w1, w2⟩ := S.wj.items i
    cases hx : xs[i]? with
    | none =>
      left
      have : xs.drop i = [] := List.drop_eq_nil_of_le (List.getElem?_eq_none_iff.mp hx)
      rw [this] at g
      exact ⟨w2 hx, done S g⟩
    | some x =>
      right
      obtain ⟨hi2, ex⟩ := List.getElem?_eq_some_iff.mp hx
      obtain ⟨go, yld⟩ := w1 x hx
      rw [List.drop_eq_getElem_cons hi2, ex, lcL_cons] at g
      refine ⟨go, _, fun H'' q => ⟨m - 1, by omega, q⟩, fun v H'' y => ?_⟩
      obtain ⟨e, k⟩ := yld v H'' y
      obtain ⟨rh', rv⟩ := k _ S.rh
      exact lc_turn hn hL (S.later e rh') rv hG g fun ρ2 h2 H2 acc2 accV2 S2 _ g2 => ⟨ρ2, h2, acc2, accV2, S2, by omega, g2⟩
  | live r =>
    refine ⟨fun i m H' => ∃ ρ' h' acc accV, LcS N X.K ρ1 H1 L (.live r) J (wipeM τ vs) (wipe σ vs) ρ' h' H' acc accV ∧ G (lcR (fun x h2 => lcTurn (isNil cc) (asg Γ ct x (wipeM τ vs) h2) (evE Γ cc) (evE Γ ce)) r m i acc h'),
      ⟨FUEL, ρ1, h1, [], [], S0, p2⟩, ?_⟩
    rintro i m H' ⟨ρ', h', acc, accV, S, g⟩
    cases m with
    | zero => exact (hG g).elim
    | succ m =>
      cases hr : h'[r]? with
      | none =>
        rw [lcR] at g
        simp only [hr] at g
        exact (hG g).elim
      | some o =>
        cases o with
        | lst xs =>
          obtain ⟨w1, w2⟩ := S.wj.live S.rh i xs hr
          cases hx : xs[i]? with
          | none =>
            left
            rw [lcR] at g
            simp only [hr, hx] at g
            exact ⟨w2 hx, done S g⟩
          | some x =>
            right
            obtain ⟨go, yld⟩ := w1 x hx
            rw [lcR_some hr hx] at g
            refine ⟨go, _, fun H'' q => ⟨m, Nat.lt_succ_self m, q⟩, fun v H'' y => ?_⟩
            obtain ⟨rfl, rv⟩ := yld v H'' y
            exact lc_turn hn hL S rv hG g fun ρ2 h2 H2 acc2 accV2 S2 _ g2 => ⟨ρ2, h2, acc2, accV2, S2, g2⟩
        | _ =>
          rw [lcR] at g
          simp only [hr] at g
          exact (hG g).elim
/-- [elt for target in iter if ..] -/
theorem x_lc {own : List (Str × Nat)} {scope : Scope} {tg iter elt : Expr} {ifs : List Expr} {cit ce : C} {vs : List Nat} (hc : X.calm = true) (hN : X.N.Nodup) (hi : PI X tg iter (sI N X.K W (evI Γ cit))) (ok : BlkOk X.N X.env.scope scope own) (hv : own.map (·.2) = vs) (hn : nmT vs ct = true)
    (hg : ∀ (s : Shared) (H : L2.Hp) (A : Addr) (cl : List (Str × Addr)) (fp : List Addr), PG (X.blk s H scope (compEnvC scope cl A X.env) fp) tg (sGv N X.K vs (asg Γ ct)))
    (ht : ∀ (s : Shared) (H : L2.Hp) (A : Addr) (cl : List (Str × Addr)) (fp : List Addr), PTs (X.blk s H scope (compEnvC scope cl A X.env) fp) ifs (tTest N X.K Γ cc))
    (he : ∀ (s : Shared) (H : L2.Hp) (A : Addr) (cl : List (Str × Addr)) (fp : List Addr), PE (X.blk s H scope (compEnvC scope cl A X.env) fp) elt (sE N X.K NW (evE Γ ce))) (hs : isSetI iter = false) :
    PE X (.ListComp elt [⟨tg, iter, ifs, 0⟩] scope pos) (sE N X.K W (evE Γ (.lc vs ce ct cit cc))) := by
  have core := pe_lc (pos := pos) hc hN hi ok hg ht he (fold_set hs)
  rw [hv] at core
  exact core.weak fun σ H Q q => imp_lc hn q
/-- x = [elt for target in iter if ..], on one line -/
theorem x_setLc {own : List (Str × Nat)} {scope : Scope} {tg iter elt : Expr} {ifs : List Expr} {cit ce : C} {vs : List Nat} {i : Nat} {y : Str} {py spos : Pos} (hc : X.calm = true) (hN : X.N.Nodup) (hy : X.N[i]? = some y) (hyl : X.env.scope.names.lookup y = some .local) (hk : X.env.scope.kind = .function) (hl : (py.line == pos.line) = true)
    (hno : (scope.names.any fun (n, k) => n == y && (k == .local || k == .cell)) = false) (hi : PI X tg iter (sI N X.K W (evI Γ cit))) (ok : BlkOk X.N X.env.scope scope own) (hv : own.map (·.2) = vs) (hn : nmT vs ct = true)
    (hg : ∀ (s : Shared) (H : L2.Hp) (A : Addr) (cl : List (Str × Addr)) (fp : List Addr), PG (X.blk s H scope (compEnvC scope cl A X.env) fp) tg (sGv N X.K vs (asg Γ ct)))
    (ht : ∀ (s : Shared) (H : L2.Hp) (A : Addr) (cl : List (Str × Addr)) (fp : List Addr), PTs (X.blk s H scope (compEnvC scope cl A X.env) fp) ifs (tTest N X.K Γ cc))
    (he : ∀ (s : Shared) (H : L2.Hp) (A : Addr) (cl : List (Str × Addr)) (fp : List Addr), PE (X.blk s H scope (compEnvC scope cl A X.env) fp) elt (sE N X.K NW (evE Γ ce))) (hs : isSetI iter = false) :
    PS X (.Assign [.Name y py] (.ListComp elt [⟨tg, iter, ifs, 0⟩] scope pos) spos) (sS N X.K W (evS Γ (.set (.tv i) (.lc vs ce ct cit cc)))) := by
  have core := ps_setLc (pos := pos) (spos := spos) (py := py) (i := i) hc hN hy hyl (sw_true hk hyl hl hno) hi ok hg ht he (fold_set hs)
  rw [hv] at core
  refine core.weak fun D σ H ⟨ρ, h, τ, rh, fr, p⟩ => ?_
  unfold evS at p
  refine imp_lc hn ⟨ρ, h, τ, rh, fr, (PostS.go (rel := VR N X.K) fr p).imp ?_⟩
  rintro v H1 ⟨ρ1, h1, x, e1, rh1, rv, p1⟩
  have p2 : PostS N X.K ρ1 H1 W D (.nx (τ.set i (some x)) h1) := by
    unfold asg at p1
    exact p1
  exact p2.nx ((fr.mono e1).set i rv) rh1
/-! ### slices -/
theorem _root_.L2.PO.weak {e : Option Expr} {t t' : TO} (p : PO X e t) (h : ∀ σ H Q, t' σ H Q → t σ H Q) : PO X e t' := ⟨fun pins s σ H Q I q => p.run pins s σ H Q I (h σ H Q q)⟩
def evP (Γ : Sys) (c : C) (σ : MF) (h : MH) : Res (Option Int) := if isNil c then .ok none h else (evE Γ c σ h).bind fun y h2 => ofVal (partV y) h2
def sPo (N : Nm) (K : PySem.W.Frag) (W : WX) (m : MF → MH → Res (Option Int)) : TO := fun σ H Q => ∃ ρ h τ, RelH N K ρ h H ∧ FR N K ρ H τ σ ∧ Post N K ρ H (fun c d H' => W c d σ H') (fun _ _ x o => o = x) (m τ h) Q
theorem x_po0 : PO X none (sPo N X.K W (evP Γ .nil)) := po_none.weak fun σ H Q ⟨ρ, h, τ, rh, fr, p⟩ => p.ok rh rfl
theorem x_po1 (he : PE X e (sE N X.K W (evE Γ cc))) (hn : isNil cc = false) : PO X (some e) (sPo N X.K W (evP Γ cc)) :=
  (po_some he).weak fun σ H Q ⟨ρ, h, τ, rh, fr, p⟩ => by
    unfold evP at p
    rw [if_neg (by rw [hn]; decide)] at p
    refine ⟨ρ, h, τ, rh, fr, p.bind.imp ?_⟩
    rintro v H1 ⟨ρ1, h1, x, e1, rh1, rv, p1⟩
    cases x with
    | int i =>
      simp only [VR] at rv
      exact ⟨i, rv, p1.ok rh1 rfl⟩
    | _ => exact p1.elim
theorem x_sl {lo hi : Option Expr} {cl ch : C} {p2 : Pos} (ha : PE X a (sE N X.K W (evE Γ ca))) (hl : PO X lo (sPo N X.K W (evP Γ cl))) (hh : PO X hi (sPo N X.K W (evP Γ ch))) : PE X (.Subscript a (.Slice lo hi none p2) pos) (sE N X.K W (evE Γ (.sl ca cl ch))) :=
  (pe_slice (o_sl (N := N)) ha hl hh).weak fun σ H Q ⟨ρ, h, τ, rh, fr, p⟩ => by
    unfold evE at p
    have p' : Post N X.K ρ H (fun c d H' => W c d σ H') (VR N X.K) ((evE Γ ca τ h).bind fun x h1 => (evP Γ cl τ h1).bind fun l h3 => (evP Γ ch τ h3).bind fun u h5 => ofOpt (slV h5 x l u)) Q := p
    refine ⟨ρ, h, τ, rh, fr, p'.bind.imp ?_⟩
    rintro x H1 ⟨ρ1, h1, wx, e1, rh1, r1, p1⟩
    refine ⟨ρ1, h1, τ, rh1, fr.mono e1, p1.bind.imp ?_⟩
    rintro l H2 ⟨ρ2, h2, wl, e2, rh2, rl, p2⟩
    refine ⟨ρ2, h2, τ, rh2, fr.mono (e1.trans e2), p2.bind.imp ?_⟩
    rintro u H3 ⟨ρ3, h3, wu, e3, rh3, ru, p3⟩
    subst rl ru
    exact ⟨ρ3, h3, wx, rh3, r1.mono (e2.trans e3), p3.nowish⟩
/-! ### a call of what a name holds -/
/-- the def number f may be called -/
def FnAt (N : Nm) (X : Cx) (W : WX) (Γ : Sys) : Prop := ∀ f, Γ.isf f = true → PySem.W.keepIn X.K (.ref (He.ga X.K (N.fn f))) = true ∧ CallOk N X W (He.ga X.K (N.fn f)) (Γ.call f)
theorem x_callv {x : Str} {i : Nat} {p : Pos} (ok : FnAt N X W Γ) (hN : X.N[i]? = some x) (hv : Vis X.env.scope x) (hd : (x == ("__debug__" : Str)) = false) (hcd : (x == ("__classdict__" : Str)) = false) (ha : PA X (e :: es) (sA N X.K W (evEs Γ ces))) (hs : notStar e = true) (hss : es.all notStar = true) :
    PE X (.Call (.Name x p) (e :: es) [] pos) (sE N X.K W (evE Γ (.callv i ces))) := by
  refine ⟨fun pins s σ H Q I q => ?_⟩
  obtain ⟨ρ, h, τ, rh, fr, p0⟩ := q
  unfold evE at p0
  split at p0
  · rename_i f e0
    obtain ⟨v, hv1, rv⟩ := fr.at_ i _ e0
    simp only [VR] at rv
    subst rv
    split at p0
    · rename_i hf
      obtain ⟨kf, ck⟩ := ok f hf
      have q1 : sE N X.K W (fun τ h => (evEs Γ ces τ h).bind fun xs h1 => Γ.call f xs h1) σ H Q := ⟨ρ, h, τ, rh, fr, p0⟩
      refine wpAny_Call_Name_kw (thn ((pe_var (pos := p) hN hv hd hcd).run pins s σ H (fun v H1 => v = .ref (He.ga X.K (N.fn f)) ∧ H1 = H) I ⟨_, hv1, rfl, rfl⟩) fun u s1 z => ?_)
      obtain ⟨v, H1, I1, r1, rfl, rfl⟩ := z
      cases r1
      exact PySem.W.callWith_K (h₀ := X.base) I.ok.mod.kin kf (thn (ha.run pos pins s1 σ _ _ I1 (imp_args q1)) fun us s2 ⟨vs, H2, I2, r, q2⟩ => ⟨I2.kIn, ck pins s2 σ H2 us vs Q I2 r q2⟩) (star_of hs) (noStars hss)
    · exact p0.elim
  · exact p0.elim
/-! ### tuple(range(n)) -/
theorem rg_rel {n : Int} : VRs N X.K ρ H (rgM n) (rgV 0 n) := by
  unfold rgM rgV
  have e : (n - 0).toNat = n.toNat := by rw [Int.sub_zero]
  rw [e]
  have go : ∀ l : List Nat, VRs N X.K ρ H (l.map fun (k : Nat) => Val.int k) (l.map fun (i : Nat) => V.int (0 + (i : Int))) := fun l => by
    induction l with
    | nil => simp only [List.map_nil, VRs]
    | cons k l ih =>
      simp only [List.map_cons, VRs]
      exact ⟨_, _, rfl, by simp only [VR, Int.zero_add], ih⟩
  exact go _
theorem rg_dat {n : Int} : (rgM n).all dat = true := by
  rw [List.all_eq_true]
  intro x hx
  obtain ⟨k, _, rfl⟩ := List.mem_map.mp hx
  rfl
theorem x_tupr {p0 p1 : Pos} (hc : X.calm = true) (hg : Gl X "tuple") (hm : X.mg "tuple" = none) (hg2 : Gl X "range") (hm2 : X.mg "range" = none) (ha : PE X a (sE N X.K W (evE Γ ca))) (hs : notStar a = true) :
    PE X (.Call (.Name "tuple" p0) [.Call (.Name "range" p1) [a] [] pos] [] apos) (sE N X.K W (evE Γ (.tupr ca))) :=
  (pe_tupRg hc hg hm (prg_1 hg2 hm2 ha (star_of hs))).weak fun σ H Q ⟨ρ, h, τ, rh, fr, p⟩ => by
    unfold evE at p
    refine ⟨ρ, h, τ, rh, fr, p.bind.imp ?_⟩
    rintro v H1 ⟨ρ1, h1, x, e1, rh1, rv, p1⟩
    cases x with
    | int n =>
      simp only [VR] at rv
      dsimp only at p1
      split at p1
      · rename_i z
        rw [Bool.and_eq_true, decide_eq_true_eq, decide_eq_true_eq] at z
        refine ⟨n, rv, ⟨by omega, by omega, by omega, by omega, by omega⟩, fun q hq => ?_⟩
        refine p1 ρ1 _ _ (Ext.newT hq) (rh1.newT hq) ?_
        simp only [VR]
        exact ⟨q, _, rfl, .inl ⟨.inl upd_same, rh1.notin hq⟩, rg_rel, rg_dat⟩
      · exact p1.elim
    | _ => exact p1.elim
end
end Mini
set_option Elab.async false
set_option linter.all false
set_option maxRecDepth 100000
set_option maxHeartbeats 2000000
/-! Mini against the model: raising, an error's own fields. -/
namespace Mini
open PySem PySem.Spec PyProof.Rows L2
/-! ### an error class with fields: its __init__ -/
/-- self.f = p, field by field, from parameter i on -/
def chkInit (self : Str) : List Str → List Str → List Stmt → Bool
  | [], [], [] => true
  | f :: fs, p :: ps, .Assign [.Attribute (.Name s _) g _] (.Name q _) _ :: r => decide (s = self) && (decide (g = f) && (decide (q = p) && chkInit self fs ps r))
  | _, _, _ => false
theorem chkInit_inv {self f p : Str} {fs ps : List Str} {st : Stmt} {r : List Stmt} (h : chkInit self (f :: fs) (p :: ps) (st :: r) = true) :
    ∃ p1 p2 p3 p4, st = .Assign [.Attribute (.Name self p1) f p2] (.Name p p3) p4 ∧ chkInit self fs ps r = true := by
  unfold chkInit at h
  split at h
  · rename_i h1 h2 h3
    cases h1
  · rename_i h1 h2 h3
    injection h1 with e1 e2
    injection h2 with e3 e4
    injection h3 with e5 e6
    subst e1 e2 e3 e4 e6
    rw [Bool.and_eq_true, Bool.and_eq_true, Bool.and_eq_true] at h
    obtain ⟨a, b, c, d⟩ := h
    have a := of_decide_eq_true a
    have b := of_decide_eq_true b
    have c := of_decide_eq_true c
    subst a b c
    exact ⟨_, _, _, _, e5, d⟩
  · cases h
/-- names of a def's frame that are plain local ones -/
def allLocal (sc : Scope) (ps : List Str) : Bool := ps.all fun x => decide (sc.names.lookup x = some .local) && (!(x == ("__debug__" : Str)) && !(x == ("__classdict__" : Str)))
def fnScopeB (N P : List Str) (sc : Scope) : Bool := decide (sc.kind = .function) && (!sc.isCoroutine && (!sc.isGenerator && (decide N.Nodup && (decide (N.take P.length = P) && (P.all (fun x => decide (sc.names.lookup x = some .local) || decide (sc.names.lookup x = some .cell)) && sc.names.all fun y => decide (y.2 ≠ .free))))))
theorem fnScope_of {N P : List Str} {sc : Scope} (h : fnScopeB N P sc = true) : FnScope N P sc := by
  unfold fnScopeB at h
  simp only [Bool.and_eq_true, Bool.not_eq_true', decide_eq_true_eq, List.all_eq_true, Bool.or_eq_true] at h
  obtain ⟨h1, h2, h3, h4, h5, h6, h7⟩ := h
  exact ⟨h1, h2, h3, h4, h5, h6, h7⟩
section
variable {X : Cx} {C : Addr}
/-- the fields that stand, the ones to come -/
def fieldsOf (done : List (Str × V)) : List Str → List V → List (Str × V)
  | f :: fs, v :: vs => fieldsOf ((f, v) :: done) fs vs
  | _, _ => done
/-- what is left of an __init__ that has stored a field -/
def tRest (C : Addr) (K : PySem.W.Frag) (fs : List Str) (j : Nat) : TS := fun D σ H => ∃ (a dx : Addr) (done : List (Str × V)) (vs : List V), σ[0]? = some (some (.ref a)) ∧ H a = some (exo a C (some dx)) ∧ H dx = some (exd dx done) ∧ a ≠ dx ∧ done.length + fs.length ≤ 900 ∧ vs.length = fs.length ∧
  (∀ i v, vs[i]? = some v → σ[j + i]? = some (some v)) ∧ D.nx σ (upd H dx (exd dx (fieldsOf done fs vs)))
theorem upd_upd {H : L2.Hp} {a : Addr} {o u : HO} : upd (upd H a o) a u = upd H a u := by
  funext b
  by_cases h : b = a
  · rw [h, upd_same, upd_same]
  · rw [upd_ne h, upd_ne h, upd_ne h]
theorem upd_self {H : L2.Hp} {a : Addr} {o : HO} (h : H a = some o) : upd H a o = H := by
  funext b
  by_cases e : b = a
  · rw [e, upd_same, h]
  · rw [upd_ne e]
theorem init_rest {self : Str} (T : OexC X.K C) (h0 : X.N[0]? = some self) (hs : Vis X.env.scope self) (hd : (self == ("__debug__" : Str)) = false) (hcd : (self == ("__classdict__" : Str)) = false) : ∀ (fs ps : List Str) (st : List Stmt) (j : Nat), chkInit self fs ps st = true → ps.length = fs.length →
    (∀ i p, ps[i]? = some p → X.N[j + i]? = some p ∧ Vis X.env.scope p ∧ (p == ("__debug__" : Str)) = false ∧ (p == ("__classdict__" : Str)) = false) → (∀ f ∈ fs, PySem.W.findIn X.K (.ref C) f = some none) → PSs X st (tRest C X.K fs j)
  | [], ps, st, j, hc, hl, hp, hf => by
    cases ps with
    | cons _ _ => cases hl
    | nil =>
      cases st with
      | cons _ _ => cases hc
      | nil =>
        refine pss_nil.weak fun D σ H ⟨a, dx, done, vs, _, h1, h2, _, _, hv, _, q⟩ => ?_
        have e : vs = [] := List.eq_nil_of_length_eq_zero hv
        subst e
        have q' : D.nx σ (upd H dx (exd dx done)) := q
        rw [upd_self h2] at q'
        exact q'
  | f :: fs, ps, st, j, hc, hl, hp, hf => by
    cases ps with
    | nil => cases hl
    | cons p ps =>
      cases st with
      | nil => cases hc
      | cons st r =>
        obtain ⟨p1, p2, p3, p4, rfl, hc'⟩ := chkInit_inv hc
        obtain ⟨n0, v0, d0, c0⟩ := hp 0 p rfl
        have rest := init_rest T h0 hs hd hcd fs ps r (j + 1) hc' (by simpa using hl) (fun i q hq => by
          have := hp (i + 1) q (by simpa using hq)
          rw [show j + 1 + i = j + (i + 1) by omega]
          exact this) (fun g hg => hf g (List.mem_cons_of_mem _ hg))
        refine (pss_cons (ps_ost (pe_var h0 hs hd hcd) (pe_var n0 v0 d0 c0) (by rfl)) rest).weak fun D σ H ⟨a, dx, done, vs, hs0, h1, h2, ne, h9, hv, hσ, q⟩ => ?_
        cases vs with
        | nil => cases hv
        | cons v vs =>
          refine ⟨v, by simpa using hσ 0 v rfl, .ref a, hs0, a, C, rfl, T, hf f List.mem_cons_self, .inr ⟨dx, done, h1, h2, by simp at h9; omega, a, dx, (f, v) :: done, vs, hs0, ?_, upd_same, ne, by simp at h9 ⊢; omega, by simpa using hv, fun i w hw => ?_, ?_⟩⟩
          · rw [upd_ne ne]
            exact h1
          · rw [show j + 1 + i = j + (i + 1) by omega]
            exact hσ (i + 1) w (by simpa using hw)
          · rw [upd_upd]
            exact q
/-- what an __init__ promises -/
def spInit (C : Addr) (fs : List Str) : Sp := fun vs H Q _ => ∃ (a : Addr) (ws : List V), vs = .ref a :: ws ∧ ws.length = fs.length ∧ H a = some (exo a C none) ∧
  ∀ dx, H dx = none → dx ≠ a → Q .non (upd (upd H a (exo a C (some dx))) dx (exd dx (fieldsOf [] fs ws)))
def tInit (C : Addr) (fs : List Str) : TS := fun D σ H => ∃ (a : Addr) (ws : List V), σ[0]? = some (some (.ref a)) ∧ ws.length = fs.length ∧ fs.length ≤ 900 ∧ (∀ i v, ws[i]? = some v → σ[1 + i]? = some (some v)) ∧ H a = some (exo a C none) ∧
  ∀ dx, H dx = none → dx ≠ a → D.nx σ (upd (upd H a (exo a C (some dx))) dx (exd dx (fieldsOf [] fs ws)))
theorem init_all {self f : Str} {fs ps : List Str} {st : List Stmt} (T : OexC X.K C) (h0 : X.N[0]? = some self) (hs : Vis X.env.scope self) (hd : (self == ("__debug__" : Str)) = false) (hcd : (self == ("__classdict__" : Str)) = false) (hc : chkInit self (f :: fs) ps st = true) (hl : ps.length = (f :: fs).length)
    (hp : ∀ i p, ps[i]? = some p → X.N[1 + i]? = some p ∧ Vis X.env.scope p ∧ (p == ("__debug__" : Str)) = false ∧ (p == ("__classdict__" : Str)) = false) (hf : ∀ g ∈ f :: fs, PySem.W.findIn X.K (.ref C) g = some none) : PSs X st (tInit C (f :: fs)) := by
  cases ps with
  | nil => cases hl
  | cons p ps =>
    cases st with
    | nil => cases hc
    | cons st r =>
      obtain ⟨p1, p2, p3, p4, rfl, hc'⟩ := chkInit_inv hc
      obtain ⟨n0, v0, d0, c0⟩ := hp 0 p rfl
      have rest := init_rest T h0 hs hd hcd fs ps r 2 hc' (by simpa using hl) (fun i q hq => by
        have := hp (i + 1) q (by simpa using hq)
        rw [show 2 + i = 1 + (i + 1) by omega]
        exact this) (fun g hg => hf g (List.mem_cons_of_mem _ hg))
      refine (pss_cons (ps_ost (pe_var h0 hs hd hcd) (pe_var n0 v0 d0 c0) (by rfl)) rest).weak fun D σ H ⟨a, vs, hs0, hv, h9, hσ, h1, q⟩ => ?_
      cases vs with
      | nil => cases hv
      | cons v vs =>
        refine ⟨v, by simpa using hσ 0 v rfl, .ref a, hs0, a, C, rfl, T, hf f List.mem_cons_self, .inl ⟨h1, fun dx hn ne => ⟨a, dx, [(f, v)], vs, hs0, upd_same, ?_, ne.symm, by simp at h9 ⊢; omega, by simpa using hv, fun i w hw => ?_, ?_⟩⟩⟩
        · rw [upd_ne ne, upd_same]
        · rw [show 2 + i = 1 + (i + 1) by omega]
          exact hσ (i + 1) w (by simpa using hw)
        · have e : upd (upd (upd H dx (exd dx [(f, v)])) a (exo a C (some dx))) dx (exd dx (fieldsOf [(f, v)] fs vs)) = upd (upd H a (exo a C (some dx))) dx (exd dx (fieldsOf [] (f :: fs) (v :: vs))) := by
            funext b
            by_cases hb : b = dx
            · rw [hb, upd_same, upd_same]
              rfl
            · rw [upd_ne hb, upd_ne hb]
              by_cases ha : b = a
              · rw [ha, upd_same, upd_same]
              · rw [upd_ne ha, upd_ne ha, upd_ne hb]
          rw [e]
          exact q dx hn ne
theorem init_ok {P : Program} {w : World} {K : PySem.W.Frag} {mg : Str → Option Value} {base : Heap} {CX : CXT} {x qual self f0 : Str} {params : Arguments} {st : List Stmt} {scope : Scope} {f : Addr} {fd : FuncData} {fs ps : List Str} (F : FunD K x qual params st scope [] [] f fd) (T : OexC K C)
    (hS : fnScopeB (self :: ps) (self :: ps) scope = true) (hL : allLocal scope (self :: ps) = true) (hc : chkInit self (f0 :: fs) ps st = true) (hl : ps.length = (f0 :: fs).length) (h9 : (f0 :: fs).length ≤ 900) (hf : ∀ g ∈ f0 :: fs, PySem.W.findIn K (.ref C) g = some none) :
    FnOk P w K mg base CX 1 f fd (self :: ps) (spInit C (f0 :: fs)) := by
  refine F.ok (fnScope_of hS) (fun vs H Q E h => ?_) (fun cdv A outer s H vs Q E hr h => ⟨tInit C (f0 :: fs), ?_, ?_⟩)
  · obtain ⟨a, ws, rfl, h2, _⟩ := h
    rw [List.length_cons, List.length_cons, h2, hl]
  · have loc : ∀ y ∈ self :: ps, Vis scope y ∧ (y == ("__debug__" : Str)) = false ∧ (y == ("__classdict__" : Str)) = false := fun y hy => by
      have := List.all_eq_true.mp hL y hy
      simp only [Bool.and_eq_true, decide_eq_true_eq, Bool.not_eq_true'] at this
      exact ⟨.inl this.1, this.2.1, this.2.2⟩
    refine init_all (X := cxOf CX P w K mg base (self :: ps) qual scope f cdv A outer s H E) T rfl (loc self List.mem_cons_self).1 (loc self List.mem_cons_self).2.1 (loc self List.mem_cons_self).2.2 hc hl (fun i p hp => ⟨?_, loc p (List.mem_cons_of_mem _ (List.mem_of_getElem? hp))⟩) hf
    show (self :: ps)[1 + i]? = some p
    rw [Nat.add_comm, List.getElem?_cons_succ]
    exact hp
  · obtain ⟨a, ws, rfl, h2, h3, q⟩ := h
    refine ⟨a, ws, rfl, h2, h9, fun i v hv => ?_, h3, fun dx n1 n2 => q dx n1 n2⟩
    show (L2.start (self :: ps) (.ref a :: ws))[1 + i]? = some (some v)
    unfold L2.start
    have hi : i < ws.length := (List.getElem?_eq_some_iff.mp hv).1
    rw [List.getElem?_append_left (by simp; omega), List.getElem?_map, Nat.add_comm, List.getElem?_cons_succ, hv]
    rfl
theorem lookup_fields {g : Str} : ∀ {fs : List Str} {vs : List V} {done : List (Str × V)}, fs.Nodup → (fieldsOf done fs vs).lookup g = match (fs.zip vs).lookup g with | some v => some v | none => done.lookup g
  | [], vs, done, _ => by
    unfold fieldsOf
    rfl
  | f :: fs, [], done, _ => by
    unfold fieldsOf
    rfl
  | f :: fs, v :: vs, done, nd => by
    have ih := lookup_fields (g := g) (fs := fs) (vs := vs) (done := (f, v) :: done) (List.nodup_cons.mp nd).2
    show (fieldsOf ((f, v) :: done) fs vs).lookup g = _
    rw [ih, List.zip_cons_cons, List.lookup_cons, List.lookup_cons]
    cases hg : (g == f) with
    | true =>
      have e := beq_iff_eq.mp hg
      subst e
      have nf := (List.nodup_cons.mp nd).1
      have : (fs.zip vs).lookup g = none := by
        rw [List.lookup_eq_none_iff]
        intro p hp
        have := (List.of_mem_zip (a := p.1) (b := p.2) hp).1
        simp
        intro z
        exact nf (z ▸ this)
      rw [this]
    | false => rfl
theorem exd_fields {dx : Addr} {fs : List Str} {vs : List V} (nd : fs.Nodup) : exd dx (fieldsOf [] fs vs) = exd dx (fs.zip vs) := by
  have e : ∀ g, (fieldsOf [] fs vs).lookup g = (fs.zip vs).lookup g := fun g => by
    rw [lookup_fields nd]
    cases (fs.zip vs).lookup g <;> rfl
  unfold exd
  congr 1
  funext h
  simp only [e]
/-- C(e, ..) where nothing is handled -/
theorem pmk_init {CX : CXT} {x : Str} {fI : Addr} {fd : FuncData} {ps fs : List Str} {ta : TA} {e : Expr} {es : List Expr} {p pos : Pos} (T : OexC X.K C) (iC : PySem.W.findIn X.K (.ref C) "__init__" = some (some (.ref fI))) (tI : PySem.W.typeIn X.K (.ref fI) = some (.type "function"))
    (F1 : FnOk X.prog X.w X.K X.mg X.base CX 1 fI fd ps (spInit C fs)) (nd : fs.Nodup) (hr : Room 2 X.A) (hb : Binds X.K fd ps []) (hx : Passes CX X (fun _ _ _ => False)) (hg : Gl X x) (hm : X.mg x = some (.ref C)) (ha : PA X (e :: es) ta)
    (hdb : (x == ("__debug__" : Str)) = false) (he : starEach (e :: es) X.env = (false, eval e X.env) :: starEach es X.env) (hpl : (backTo pos (starEach es X.env)).any (·.1) = false) :
    L2N.PMk X (.Call (.Name x p) (e :: es) [] pos) (fun σ H Q => ta σ H fun vs H1 => vs.length = fs.length ∧ vs.length ≤ 1000 ∧ ∀ d, H1 d = none → Q (.ref C) (some d) (upd H1 d (.xd (fs.zip vs)))) := by
  intro pins s σ H Q I h
  obtain ⟨nm, qn, Ns, bs, bm, sn, sub, ab, col, dd, c0, c1, c2, c3, c5, hC, hbm⟩ := T.cls
  refine wpAny_Call_Name_kw (ld_glob I hg hm ?_ hdb)
  refine PySem.W.callWith_K (h₀ := X.base) I.ok.mod.kin T.kC (thn (ha.run pos pins s σ H _ I h) fun us s1 ⟨vs, H1, I1, r1, hvl, hz, q1⟩ => ⟨I1.kIn, ?_⟩) he hpl
  show wpAny _ _ (call (.ref C) us) _ _ _
  obtain ⟨hp, gn, dr, tk, os⟩ := s1
  obtain ⟨xa, exa⟩ : ∃ xa, xa = hp.objs.size + 1 := ⟨_, rfl⟩
  have le_xa : hp.objs.size ≤ xa := by omega
  have none_xa : H1 xa = none := I1.hok.fresh le_xa
  obtain ⟨hp2, ehp2⟩ : ∃ hp2, hp2 = (hp.push (PySem.W.kdv_tup us)).push (PySem.HandSPX.excO C hp.objs.size) := ⟨_, rfl⟩
  have keep2 : ∀ b o, hp.get? b = some o → hp2.get? b = some o := fun b o z => by
    rw [ehp2]
    exact Heap.get?_push_of_some _ (Heap.get?_push_of_some _ z)
  have at_xa : hp2.get? xa = some (PySem.HandSPX.excO C hp.objs.size) := by
    rw [ehp2, exa]
    heap_get
  have J2 : Inv X pins σ (upd H1 xa (exo xa C none)) ⟨hp2, gn, dr, tk, os⟩ := I1.laid (t' := tk) (a := xa) (o := exo xa C none) (h' := hp2) keep2 le_xa (exo_ok at_xa)
  have vals2 : Vals (V.ref xa :: vs) (Value.ref xa :: us) := .cons rfl r1
  have hsp : spInit C fs (V.ref xa :: vs) (upd H1 xa (exo xa C none)) (fun v H2 => v = .non ∧ ∃ (d : Addr) (gs : List (Str × V)), H2 xa = some (exo xa C (some d)) ∧ H2 d = some (exd d gs) ∧ H1 d = none ∧ Q (.ref C) (some d) (upd (del H2 xa) d (.xd gs))) (fun _ _ _ => False) := by
    refine ⟨xa, vs, rfl, hvl, upd_same, fun dx n1 n2 => ⟨rfl, dx, fs.zip vs, ?_, ?_, ?_, ?_⟩⟩
    · rw [upd_ne (Ne.symm n2), upd_same]
    · rw [upd_same, exd_fields nd]
    · rw [upd_ne n2] at n1
      exact n1
    · have n1' : H1 dx = none := by
        rw [upd_ne n2] at n1
        exact n1
      have e2 : upd (del (upd (upd (upd H1 xa (exo xa C none)) xa (exo xa C (some dx))) dx (exd dx (fieldsOf [] fs vs))) xa) dx (.xd (fs.zip vs)) = upd H1 dx (.xd (fs.zip vs)) := by
        funext b
        by_cases hb : b = dx
        · rw [hb, upd_same, upd_same]
        · rw [upd_ne hb, upd_ne hb]
          by_cases hba : b = xa
          · rw [hba, del_same, none_xa]
          · rw [del_ne hba, upd_ne hb, upd_ne hba, upd_ne hba]
      rw [e2]
      exact q1 dx n1'
  have hlen : (Value.ref xa :: us ++ []).length = ps.length := by
    have z := vals2.length
    rw [F1.len _ _ _ _ hsp] at z
    rw [List.append_nil]
    exact z.symm
  have few : us.length ≤ sizeLine := by
    rw [← Paired.length r1, sizeLine_eq]
    omega
  have bnd := hb ⟨hp2, gn, dr, tk, os⟩ (Value.ref xa :: us) J2.kIn hlen
  rw [List.append_nil] at bnd
  have env2 := (J2.env0.make C us [])
  subst exa ehp2
  refine wpAny_call (PySem.HandSPX.call_own F.excBase_ValueError (fun Y => PySem.HandSPX.refsVE_contains Y bm hbm) (I1.kIn _ _ hC) (PySem.W.looks_findIn I1.kIn iC) (fun self => PySem.W.bind_fn I1.kIn self tI) few
    (codeAny_mono (F1.run _ X.stack _ _ _ _ _ _ (fun _ _ _ => False) (hr.make C us []) env2 bnd vals2 hsp) fun r s' hq' => ?_))
  cases r with
  | error er => exact hx pins σ _ _ er s' J2 hq'
  | ok fl =>
    cases fl with
    | next => exact False.elim hq'
    | brk => exact False.elim hq'
    | cont => exact False.elim hq'
    | ret u =>
      obtain ⟨v, H2, os2, bare2, un2, hok2, rv, ev, d, gs, ea, ed, nd1, q2⟩ := hq'
      subst ev
      obtain ⟨h2, g2, d2, t2, os'⟩ := s'
      obtain ⟨t0, G, J, kG, ge, hoe, na⟩ := mk_end0 (d2 := d2) (t2 := t2) I1 le_xa keep2 un2 hok2 os2 bare2 ea ed nd1
      refine ⟨rv, hp.objs.size + 1, _, _, ⟨G, g2, d2, t2, os'⟩, _, .ref C, some d, rfl, J, kG, ge, hoe, ⟨rfl, rfl, fun l hl => ?_⟩, rfl, rfl, na, rfl, bare2, raises_own T.exC T.tyC, q2⟩
      cases hl
      rfl
/-- C() of a class without own __init__ -/
theorem pmk_own0 {bmB : List Value} {B newId initId : String} {x : Str} {p pos : Pos} (F : ExcBaseFacts B newId initId bmB) (q : PySem.W.excIn X.K C bmB newId = true) (gC : X.mg x = some (.ref C)) (kC : PySem.W.keepIn X.K (.ref C) = true) (r : Raises X (.ref C)) (hg : Gl X x)
    (hdb : (x == ("__debug__" : Str)) = false) : L2N.PMk X (.Call (.Name x p) [] [] pos) (fun _ H Q => Q (.ref C) none H) := by
  intro pins s σ H Q I h
  refine wpAny_Call_Name_kw (ld_glob I hg gC (PySem.W.callWith_K0 I.kIn kC ?_) hdb)
  show wpAny _ _ (call (.ref C) []) _ _ _
  obtain ⟨bm, Ns, nm, qn, bs, hdct, sn, sub, ab, col, dd, c0, c1, c2, c3, c5, mN, hC, hN, hni, T⟩ := exc_obj I.kIn q
  exact wpAny_call_exc_subT F T hC hN hni (fun h' a hm => L2N.mk_of I hm r h (I.hok.gone hm.new)) (Nat.zero_le _)
end
end Mini
set_option Elab.async false
set_option linter.all false
set_option maxRecDepth 100000
set_option maxHeartbeats 4000000
/-! Mini against the model: a lambda without parameters, handed to a def that calls it. -/
namespace Mini
open PySem PySem.Spec PyProof.Rows L2
open L2H (RoomH Hot1 PinOk HotC)
open LamX (TabS Tabs TabB CodeO LamS lamCx lamEnv)
section
variable {N : Nm} {X : Cx} {W : WX} {Γ : Sys} {σ : L2.St} {H : L2.Hp} {ρ : List Addr} {h : MH} {pins : List (Addr × PySem.Obj)} {s : Shared}
abbrev lamQ (X : Cx) : Str := X.env.qual ++ "<lambda>"
/-- what the making of lambdas asks of the def that makes them -/
structure LamM (N : Nm) (X : Cx) : Prop where
  ex : ∃ c P : Addr, TabB X.base X.mg c P ∧ X.env.code = .ref c ∧ (P, lamQ X) ∈ N.tabs ∧ ∀ p ∈ N.tabs, p.1 = P → p.2 = lamQ X
theorem tab_other {P c : Addr} {q : Str} {ps more : Array Value} (hP : H P = some (.tbl ps)) (hc : H c = none) : Ext ρ H ρ (upd (upd H P (.tbl (ps ++ more))) c (CodeO c q)) := by
  refine ⟨⟨[], by simp, by simp⟩, fun b o hb _ nt => ?_, fun b hb => ?_⟩
  · have n1 : b ≠ c := ne_of_none hb hc
    have n2 : b ≠ P := fun z => by
      rw [z, hP] at hb
      exact nt ps (Option.some.inj hb).symm
    rw [upd_ne n1, upd_ne n2]
    exact hb
  · by_cases z : b = c
    · rw [z, upd_same] at hb
      cases hb
    · rw [upd_ne z] at hb
      by_cases y : b = P
      · rw [y, upd_same] at hb
        cases hb
      · rw [upd_ne y] at hb
        exact hb
theorem lam_mk {params : Arguments} {body : Expr} {scope : Scope} {pos : Pos} {E Q : Value → Shared → Prop} (M : LamM N X) (I : Inv X pins σ H s) (rh : RelH N X.K ρ h H) (hdef : defaultsOf params X.env = ([], [])) (hfree : ∀ y ∈ scope.names, y.2 = .free → ∃ c, X.env.cells.lookup y.1 = some c)
    (k : ∀ (f c' : Addr) (pm ctv : Value) (H1 : L2.Hp) (s' : Shared), Inv X pins σ H1 s' → Ext ρ H ρ H1 → RelH N X.K ρ h H1 → s'.heap.get? f = some (PySem.W.kla_obj "<lambda>" (lamQ X) params body scope (cloFrom X.env.cells scope.names []) pm c' ctv) →
      H1 f = none → f ∉ frs X.stack → H1 c' = some (CodeO c' (lamQ X)) → Q (.ref f) s') : wpAny (model X.prog X.w) X.A (eval (.Lambda params body scope pos) X.env) Q E s := by
  obtain ⟨c, P, TB, ec, mem, uni⟩ := M.ex
  obtain ⟨ps, hP, tri, cod⟩ := rh.tb _ mem
  have gP : s.heap.get? P = some { cls := .none, data := .fields ps } := I.hok P _ hP
  have far : ∀ {a : Addr}, s.heap.objs.size ≤ a → a ∉ frs X.stack := fun {a} ha z => by
    rcases List.mem_cons.mp (I.stkSub _ z) with y | y
    · rw [y] at ha
      exact Nat.lt_irrefl _ (Nat.lt_of_lt_of_le I.lt ha)
    · exact I.nofs ha y
  refine PySem.W.kla_eval hdef ?_
  rcases hq : codeAmong pos ps.toList with _ | cv
  · refine PySem.W.kla_makeFunction (P := P) (c := c) (ps := ps) (mg := X.mg) (closure_ok hfree) I.ok.glob (I.mod.glob.keeps I.bk) ec (TB.code.keeps I.bk) gP tri hq TB.gP (TB.bm.keeps I.bk) fun c' ctv h' tk hx hge hlt hrec htb => ?_
    obtain ⟨c2, oc, vs, t, e2, hoc, hd, hv⟩ := hrec
    cases e2
    have nC : H c' = none := I.hok.fresh hge
    have ge : s.heap.objs.size ≤ h'.objs.size := Nat.le_trans hge (Nat.le_of_lt hlt)
    obtain ⟨H1, eH⟩ : ∃ H1, H1 = upd (upd H P (.tbl (ps ++ #[rawInt pos.line, rawInt pos.col, .ref c']))) c' (CodeO c' (lamQ X)) := ⟨_, rfl⟩
    have nPc : P ≠ c' := ne_of_none hP nC
    have ext : Ext ρ H ρ H1 := by
      rw [eH]
      exact tab_other hP nC
    have atC : H1 c' = some (CodeO c' (lamQ X)) := by rw [eH, upd_same]
    have atP : H1 P = some (.tbl (ps ++ #[rawInt pos.line, rawInt pos.col, .ref c'])) := by rw [eH, upd_ne nPc, upd_same]
    have old : ∀ b u, H b = some u → (∀ qs, u ≠ .tbl qs) → H1 b = some u := fun b u e n => by
      rw [eH, upd_ne (ne_of_none e nC), upd_ne fun z => ?_]
      · exact e
      · rw [z, hP] at e
        exact n ps (Option.some.inj e).symm
    have J := LamX.inv_table (q := lamQ X) (t' := tk) (more := #[rawInt pos.line, rawInt pos.col, .ref c']) (h' := h'.push (PySem.W.kla_obj "<lambda>" (lamQ X) params body scope (cloFrom X.env.cells scope.names []) ((X.mg "__name__").getD .none) c' ctv)) I hP
      (fun b o nb e => Heap.get?_push_of_some _ (hx b o nb e)) (Heap.get?_push_of_some _ htb) hge ⟨oc, vs, t, Heap.get?_push_of_some _ hoc, hd, hv⟩
    rw [← eH] at J
    have tabs : Tabs N.tabs H1 := fun p hp => by
      by_cases hb : p.1 = P
      · rw [uni p hp hb, hb]
        have el : (ps ++ #[rawInt pos.line, rawInt pos.col, .ref c']).toList = ps.toList ++ [rawInt pos.line, rawInt pos.col, .ref c'] := by simp
        refine ⟨_, atP, by rw [el]; exact PySem.TriplesOk_snoc _ _ _ _ tri, fun p' cv hcv => ?_⟩
        rw [el] at hcv
        rcases LamX.among_app _ tri hcv with z | z
        · obtain ⟨c0, e1, e2⟩ := cod p' cv z
          exact ⟨c0, e1, old _ _ e2 LamX.codeO_ne⟩
        · exact ⟨c', z, atC⟩
      · obtain ⟨qs, a1, a2, a3⟩ := rh.tb p hp
        refine ⟨qs, by rw [eH, upd_ne (ne_of_none a1 nC), upd_ne hb]; exact a1, a2, fun p' cv hcv => ?_⟩
        obtain ⟨c0, e1, e2⟩ := a3 p' cv hcv
        exact ⟨c0, e1, old _ _ e2 LamX.codeO_ne⟩
    have rel : RelH N X.K ρ h H1 := ⟨rh.len, rh.nd, fun i a o e1 e2 => by
      have oq := rh.obj i a o e1 e2
      obtain ⟨u, hu, _, nt, _⟩ := oq.some_
      exact oq.mono ext ((old a u hu nt).trans hu.symm), tabs⟩
    refine k h'.objs.size c' _ ctv H1 _ J ext rel (Heap.get?_push_size _ rfl) ?_ (far ge) atC
    have n1 : h'.objs.size ≠ c' := Nat.ne_of_gt hlt
    have n2 : h'.objs.size ≠ P := Nat.ne_of_gt (Nat.lt_of_lt_of_le (Heap.lt_size gP) ge)
    rw [eH, upd_ne n1, upd_ne n2]
    exact I.hok.fresh ge
  · obtain ⟨c', ecv, hco⟩ := cod pos cv hq
    subst ecv
    refine PySem.W.kla_makeFunctionHit (P := P) (c := c) (ps := ps) (mg := X.mg) (closure_ok hfree) I.ok.glob (I.mod.glob.keeps I.bk) ec (TB.code.keeps I.bk) gP tri hq (TB.bm.keeps I.bk) fun ctv h' tk hx ge => ?_
    exact k h'.objs.size c' _ ctv H _ (I.kept (t' := tk) fun b o e => Heap.get?_push_of_some _ (hx b o e)) Ext.refl rh (Heap.get?_push_size _ rfl) (I.hok.fresh ge) (far ge) hco
/-- the context of a lambda's body -/
def lamC (X : Cx) (A : Around) (outer : List Env) (s : Shared) (H : L2.Hp) (E : XK) (scope : Scope) (f c' : Addr) : Cx :=
  (lamCx X A outer s H E scope f c').wish fun e s' => wpAny (model X.prog X.w) (A.deeper (lamEnv X scope s.heap.objs.size f c')) (leaving (lamEnv X scope s.heap.objs.size f c') e) (fun _ s2 => L2N.CX X.prog X.w outer H s E e s2) (fun e' s2 => L2N.CX X.prog X.w outer H s E e' s2) s'
abbrev calleeCx (P : Program) (w : World) (K : PySem.W.Frag) (mg : Str → Option Value) (base : Heap) (A : Around) (outer : List Env) (s : Shared) (H : L2.Hp) (Ng : List Str) (q : Str) (sg : Scope) (g : Addr) (cd : Value) (E : XK) : Cx := cxOf (L2N.CX P w) P w K mg base Ng q sg g cd A outer s H E
/-- the lambda at f may be called by what is called next; tl: what its body does -/
def ActF (P : Program) (w : World) (K : PySem.W.Frag) (mg : Str → Option Value) (base : Heap) (A : Around) (outer : List Env) (s : Shared) (H : L2.Hp) (f : Addr) (tl : XK → L2.Hp → VK → Prop) : Prop :=
  ∀ (Ng : List Str) (q : Str) (sg : Scope) (g : Addr) (cd : Value) (E : XK) (pn : List (Addr × PySem.Obj)) (xe : Value → Shared → Prop) (W : WX) (i : Nat) (a : Str) (p1 p2 : Pos),
    L2N.Takes ((calleeCx P w K mg base A outer s H Ng q sg g cd E).tr pn xe) W → Ng[i]? = some a → Vis sg a → (a == ("__debug__" : Str)) = false → (a == ("__classdict__" : Str)) = false →
    PE ((calleeCx P w K mg base A outer s H Ng q sg g cd E).tr pn xe) (.Call (.Name a p1) [] [] p2) (fun σ HZ Q => σ[i]? = some (some (.ref f)) ∧ HZ = H ∧ tl (fun c d H' => W c d σ H') HZ Q)
theorem act_of {f c' : Addr} {pm ctv : Value} {params : Arguments} {body : Expr} {scope : Scope} {tl : XK → L2.Hp → VK → Prop} (I : Inv X pins σ H s) (L : LamS X.env.scope scope) (hh : X.A.handled = none)
    (room : ∀ e1 : Env, (X.A.deeper e1).depth < recursionLimit)
    (hf : s.heap.get? f = some (PySem.W.kla_obj "<lambda>" (lamQ X) params body scope (cloFrom X.env.cells scope.names []) pm c' ctv)) (hfn : H f = none) (hfr : f ∉ frs X.stack) (hco : H c' = some (CodeO c' (lamQ X)))
    (hbind : bindArgs (PySem.W.kla_fn "<lambda>" (lamQ X) params body scope (cloFrom X.env.cells scope.names []) pm (.ref c') ctv) ⟨[], []⟩ = pure [])
    (hbody : ∀ (e1 : Env) (outer : List Env) (s1 : Shared) (E : XK), PE (lamC X (X.A.deeper e1) outer s1 H E scope f c') body fun σ' HZ Q => σ' = σ ∧ tl E HZ Q) : ActF X.prog X.w X.K X.mg X.base X.A X.stack s H f tl := by
  intro Ng q sg g cd E pn xe W i a p1 p2 tk hN hv hd hcd
  refine ⟨fun pinsZ sZ σZ HZ Q IZ z => ?_⟩
  obtain ⟨hs, rfl, ht⟩ := z
  refine wpAny_Call_Name_kw (thn ((pe_var (pos := p1) hN hv hd hcd).run pinsZ sZ σZ HZ (fun v H1 => v = .ref f ∧ H1 = HZ) IZ ⟨.ref f, hs, rfl, rfl⟩) fun u s1 z => ?_)
  obtain ⟨v, H1, I1, r1, rfl, rfl⟩ := z
  cases r1
  have of1 : s1.heap.get? f = some (PySem.W.kla_obj "<lambda>" (lamQ X) params body scope (cloFrom X.env.cells scope.names []) pm c' ctv) := I1.base.keep f _ hf hfn hfr (fun z => nomatch (show f ∈ ([] : List Addr) from z))
  refine PySem.W.callWith_F0 ⟨_, _, _, _, of1⟩ ?_
  obtain ⟨⟨oc, vs, t, hoc, hdc, hvc⟩, _, _⟩ := I1.hok c' _ hco
  have rc : codeAny (model X.prog X.w) (X.A.deeper (envOfC q sg s.heap.objs.size g cd)) (.call (.ref f) ⟨[], []⟩) (CR (L2N.CX X.prog X.w) (envOfC q sg s.heap.objs.size g cd :: X.stack) X.prog X.w H1 s1 Q (WE W σZ)) s1 := by
    refine PySem.W.kla_callFunE (room _) of1 rfl L.co L.gen rfl ⟨c', oc, vs, t, rfl, hoc, hdc, hvc⟩ ?_
    rw [hbind]
    refine wpAny_pure (wpAny_newFunctionEnv (fun y hy => (L.own y hy).2) (fun y hy => absurd hy (by simp)) (fun h1 hns hsb => ⟨I1.nolimit.fresh _ hsb, ?_⟩) L.kind)
    show codeAny _ _ (.expr body (lamEnv X scope s1.heap.objs.size f c')) _ _
    have kp : ∀ b o, s1.heap.get? b = some o → h1.get? b = some o := fun b o e => hsb.extBut b o (Nat.ne_of_lt (Heap.lt_size e)) (Heap.get?_push_of_some _ e)
    have J0 := LamX.lam_start2 (E := WE W σZ) (f := f) (c' := c') (tk := s1.toks + ([] : List (Str × Value)).length) I L I1.env0 (show (X.A.deeper _).handled = none from hh) I1.base hns kp
    have J : Inv (lamC X (X.A.deeper (envOfC q sg s.heap.objs.size g cd)) (envOfC q sg s.heap.objs.size g cd :: X.stack) s1 H1 (WE W σZ) scope f c') [] σ H1 { s1 with heap := h1, toks := s1.toks + ([] : List (Str × Value)).length } := J0.wish _
    refine PySem.W.kla_codeExpr (wpAny_mono ((hbody _ _ s1 (WE W σZ)).run [] _ _ H1 Q J ⟨rfl, ht⟩) (fun v s' hq => ?_) fun e s' hq => hq)
    obtain ⟨w', H', J', rv, q⟩ := hq
    exact ⟨w', H', J'.os, J'.bare, J'.base, J'.hok, rv, q⟩
  refine wpAny_call (codeAny_mono rc fun r s' hq => ?_)
  cases r with
  | error e => exact L2N.passAt tk σZ pinsZ H1 s1 e s' I1 hq
  | ok fl =>
    cases fl with
    | ret u => exact I1.after hq
    | next => exact False.elim hq
    | brk => exact False.elim hq
    | cont => exact False.elim hq
/-- a def that calls the lambda which it gets -/
def PromF (P : Program) (w : World) (K : PySem.W.Frag) (mg : Str → Option Value) (base : Heap) (N : Nm) (k : Nat) (g : Addr) (m : Res Val → Res Val) : Prop :=
  ∃ (fd : FuncData) (a : Str), Binds K fd [a] [] ∧ ∀ (A : Around) (outer : List Env) (s : Shared) (H : L2.Hp) (args : Args) (f : Addr) (Q : VK) (E : XK) (tl : XK → L2.Hp → VK → Prop), RoomH (k + 4) A → A.guards = some [] → N.ex = none → A.handled = none → Env0 P w K mg base A outer s H →
    BindsTo s fd args [(a, .ref f)] → ActF P w K mg base A outer s H f tl → (∃ ρ h r, RelH N K ρ h H ∧ (∀ E' Q', Post N K ρ H E' (VR N K) r Q' → tl E' H Q') ∧ Post N K ρ H E (VR N K) (m r) Q) →
    codeAny (model P w) A (.call (.ref g) args) (CR (L2N.CX P w) outer P w H s Q E) s
/-- x(lambda: body) -/
theorem x_flt {x : Str} {g : Addr} {i k : Nat} {params : Arguments} {body : Expr} {scope : Scope} {cb : C} {p lpos pos : Pos} (M : LamM N X) (pf : PromF X.prog X.w X.K X.mg X.base N k g (Γ.thunk i)) (hg : Gl X x) (hm : X.mg x = some (.ref g)) (hk : PySem.W.keepIn X.K (.ref g) = true) (hd : (x == ("__debug__" : Str)) = false)
    (L : LamS X.env.scope scope) (hdef : defaultsOf params X.env = ([], [])) (hbind : ∀ (q : Str) (cl : List (Str × Addr)) (pm cv ctv : Value), bindArgs (PySem.W.kla_fn "<lambda>" q params body scope cl pm cv ctv) ⟨[], []⟩ = pure [])
    (tk : L2N.Takes X W) (hh : X.A.handled = none) (hN : N.ex = none) (guards : X.A.guards = some []) (room : RoomH (k + 4) X.A) (room2 : ∀ e1 : Env, (X.A.deeper e1).depth < recursionLimit)
    (hbody : ∀ (e1 : Env) (outer : List Env) (s1 : Shared) (H : L2.Hp) (E : XK) (f c' : Addr), PE (lamC X (X.A.deeper e1) outer s1 H E scope f c') body (sE N X.K (fun c d _ H' => E c d H') (evE Γ cb))) :
    PE X (.Call (.Name x p) [.Lambda params body scope lpos] [] pos) (sE N X.K W (evE Γ (.flt i cb))) := by
  refine ⟨fun pins s σ H Q I q => ?_⟩
  obtain ⟨ρ, h, τ, rh, fr, pq⟩ := q
  unfold evE at pq
  obtain ⟨fd, a, hb, run⟩ := pf
  refine wpAny_Call_Name_kw (ld_glob I hg hm ?_ hd)
  refine PySem.W.callWith_K (h₀ := X.base) I.ok.mod.kin hk ?_ (by rfl) (by rfl)
  show wpAny _ _ (spliced ((false, eval (.Lambda params body scope lpos) X.env) :: backTo pos (starEach [] X.env))) _ _ s
  refine Calls.spliced_cons (lam_mk M I rh hdef (L.has I.ok) fun f c' pm ctv H1 s1 I1 e1 rh1 hf hfn hfr hco => ?_)
  refine Calls.spliced_nil ⟨I1.kIn, ?_⟩
  have act : ActF X.prog X.w X.K X.mg X.base X.A X.stack s1 H1 f fun E' HZ Q' => sE N X.K (fun c d _ H' => E' c d H') (evE Γ cb) σ HZ Q' :=
    act_of I1 L hh room2 hf hfn hfr hco (hbind _ _ _ _ _) fun e2 outer s2 E => (hbody e2 outer s2 H1 E f c').weak fun σ' HZ Q' z => by
      obtain ⟨rfl, z⟩ := z
      exact z
  have bd : BindsTo s1 fd ⟨[.ref f], []⟩ [(a, .ref f)] := hb s1 [.ref f] I1.kIn rfl
  refine wpAny_call (codeAny_mono (run X.A X.stack s1 H1 ⟨[.ref f], []⟩ f Q (WE W σ) _ room guards hN hh I1.env0 bd act ⟨ρ, h, evE Γ cb τ h, rh1, fun E' Q' z => ⟨ρ, h, τ, rh1, fr.mono e1, z⟩, Post.later e1 pq⟩) fun res s' hq => ?_)
  cases res with
  | error e => exact L2N.passAt tk σ pins H1 s1 e s' I1 hq
  | ok fl =>
    cases fl with
    | ret u => exact I1.after hq
    | next => exact False.elim hq
    | brk => exact False.elim hq
    | cont => exact False.elim hq
end
end Mini
set_option Elab.async false
set_option linter.all false
set_option maxRecDepth 100000
set_option maxHeartbeats 4000000
/-! Mini against the model: x *= y, t.count(k), t[::-1], sorted(set(t)), comprehensions of two for's. -/
namespace Mini
open PySem PySem.Spec PyProof.Rows L2
section
variable {N : Nm} {X : Cx} {W : WX} {Γ : Sys} {σ : L2.St} {H H' : L2.Hp} {Q : VK} {ρ ρ' : List Addr} {h : MH}
variable {a b c e o : Expr} {es : List Expr} {ca cb cc ces ct ce : C} {pos apos : Pos}
/-! ### x *= y -/
def iopOf : BOp → Option Operator
  | .iadd => some .Add
  | .isub => some .Sub
  | .imul => some .Mult
  | _ => none
theorem o_iop {o : BOp} {op : Operator} (h : iopOf o = some op) : PIp X op (sO2 N X.K fun h a b => ofOpt (bop o h a b)) := by
  cases o with
  | iadd =>
    cases h
    exact o_opin (N := N) (oper := inplaceOp .Add) fun pins s σ H x y v u Q I rx ry ⟨i, j, e1, e2, _, q⟩ => iop_add pins s σ H x y v u Q I rx ry ⟨i, j, e1, e2, q⟩
  | isub =>
    cases h
    exact o_opin (N := N) (oper := inplaceOp .Sub) fun pins s σ H x y v u Q I rx ry ⟨i, j, e1, e2, _, q⟩ => iop_sub pins s σ H x y v u Q I rx ry ⟨i, j, e1, e2, q⟩
  | imul =>
    cases h
    exact o_opin (N := N) (oper := inplaceOp .Mult) fun pins s σ H x y v u Q I rx ry ⟨i, j, e1, e2, c, q⟩ => iop_mul pins s σ H x y v u Q I rx ry ⟨i, j, e1, e2, by
      unfold CMul
      simpa only [lim64, Bool.and_eq_true, decide_eq_true_eq] using c, q⟩
  | _ => cases h
theorem x_aug {o : BOp} {op : Operator} {i : Nat} {x : Str} {p : Pos} (h : iopOf o = some op) (hN : X.N.Nodup) (hi : X.N[i]? = some x) (hx : Loc X.env.scope x) (hf : X.fn x = true ∨ X.env.scope.names.lookup x = some .local) (he : PE X e (sE N X.K W (evE Γ ca))) :
    PS X (.AugAssign (.Name x p) op e pos) (sS N X.K W (evS Γ (.set (.tv i) (.op o (.v i) ca)))) :=
  (ps_aug hN hi hx he (o_iop (N := N) h) hf).weak fun D σ H ⟨ρ, h, τ, rh, fr, p⟩ => by
    unfold evS at p
    have p1 := PostS.go (rel := VR N X.K) fr p
    unfold evE at p1
    cases hv : evE Γ (.v i) τ h with
    | ok wx h0 =>
      rw [hv] at p1
      unfold evE at hv
      cases ht : τ[i]? with
      | none =>
        simp only [ht] at hv
        cases hv
      | some o1 =>
        cases o1 with
        | none =>
          simp only [ht] at hv
          cases hv
        | some w1 =>
          simp only [ht] at hv
          cases hv
          obtain ⟨v, hv1, rv⟩ := fr.at_ i _ ht
          have p2 : Post N X.K ρ H (fun c d H' => W c d σ H') (VR N X.K) ((evE Γ ca τ h).bind fun y h2 => ofOpt (bop o h2 wx y)) fun v H1 => ∃ ρ1 h1 x, Ext ρ H ρ1 H1 ∧ RelH N X.K ρ1 h1 H1 ∧ VR N X.K ρ1 H1 x v ∧ PostS N X.K ρ1 H1 W D (asg Γ (.tv i) x τ h1) := p1
          refine ⟨v, hv1, ρ, h, τ, rh, fr, p2.bind.imp ?_⟩
          rintro u H1 ⟨ρ1, h1, wy, e1, rh1, r1, p3⟩
          refine ⟨ρ1, h1, wx, wy, rh1, rv.mono e1, r1, p3.nowish.imp ?_⟩
          rintro z H2 ⟨ρ2, h2, wz, e2, rh2, r2, p4⟩
          unfold asg at p4
          have p5 : PostS N X.K ρ2 H2 W D (.nx (τ.set i (some wz)) h2) := p4
          exact p5.nx ((fr.mono e2).set i r2) rh2
    | exc c fs h0 =>
      unfold evE at hv
      split at hv <;> cases hv
    | bad =>
      rw [hv] at p1
      exact p1.elim
/-! ### t.count(k) -/
theorem intsV_vals : ∀ {xs : List Val} {ns : List Int} {vs : List V}, intsV xs = some ns → VRs N X.K ρ H xs vs → vs = ns.map V.int
  | [], ns, vs, e, r => by
    unfold intsV at e
    cases e
    simp only [VRs] at r
    rw [r]
    rfl
  | x :: xs, ns, vs, e, r => by
    simp only [VRs] at r
    obtain ⟨v, us, rfl, r1, r2⟩ := r
    cases x with
    | int i =>
      unfold intsV at e
      obtain ⟨is, e1, rfl⟩ := map_some e
      simp only [VR] at r1
      rw [intsV_vals e1 r2, r1]
      rfl
    | _ => cases e
theorem x_count (ho : PE X o (sE N X.K W (evE Γ ca))) (ha : PA X [e] (sA N X.K W (evEs Γ ces))) (hb : attrOk o = true) (hl : (apos.endLine == pos.line) = true) (hs : notStar e = true) :
    PE X (.Call (.Attribute o "count" apos) [e] [] pos) (sE N X.K W (evE Γ (.mth .count ca ces))) :=
  (Hs.pe_tcnt ho ha (attrb hb) (few1 hs) hl (star_of hs)).weak fun σ H Q ⟨ρ, h, τ, rh, fr, p⟩ => by
    unfold evE at p
    refine ⟨ρ, h, τ, rh, fr, p.bind.imp ?_⟩
    rintro v H1 ⟨ρ1, h1, x, e1, rh1, rv, p1⟩
    cases x with
    | tp ys =>
      simp only [VR] at rv
      obtain ⟨a, vs, rfl, t, g, dd⟩ := rv
      have t' := t
      obtain ⟨ob, t1, t2, t3, _⟩ := t'
      have p1' : Post N X.K ρ1 H1 (fun c d H' => W c d σ H') (VR N X.K) ((evEs Γ ces τ h1).bind fun xs h2 => ofOpt (mtV .count h2 (.tp ys) xs)) Q := p1
      refine ⟨⟨a, ob, vs, rfl, t1, t2, t3⟩, ρ1, h1, τ, rh1, fr.mono e1, p1'.bind.imp ?_⟩
      rintro us H2 ⟨ρ2, h2, xs, e2, rh2, rv2, p2⟩
      obtain ⟨w, h', e, p⟩ := ofOpt_ok p2.nowish
      have e' : mtCount h2 (.tp ys) xs = some (w, h') := e
      unfold mtCount at e'
      split at e'
      · rename_i k
        obtain ⟨z, rfl, rz⟩ := rv2.inv1
        dsimp only at e'
        obtain ⟨ns, en, e3⟩ := map_some e'
        cases e3
        simp only [VR] at rz
        subst rz
        have ev := intsV_vals en (g.mono e2)
        subst ev
        exact ⟨a, ns, k, rfl, rfl, (t.kp e2.kp).tup.sq, p.val rh2 (by simp only [VR])⟩
      · cases e'
    | _ => exact p1.elim
/-! ### tuples known to hold no dict -/
theorem VR.unt {p : List Addr} : ∀ {x : Val} {v : V}, VR N X.K p H x v → VR N X.K p H (untV x) v
  | .tp xs, v, r => by
    simp only [untV, VR] at r ⊢
    obtain ⟨a, vs, rfl, t, g, dd⟩ := r
    exact ⟨a, vs, rfl, t.tup, g, dd⟩
  | .non, _, r => r
  | .bl _, _, r => r
  | .int _, _, r => r
  | .str _, _, r => r
  | .tup _, _, r => r
  | .fl _, _, r => r
  | .ref _, _, r => r
  | .ty _, _, r => r
  | .fn _, _, r => r
  | .cls _, _, r => r
  | .exn _ _, _, r => r
  | .clo _ _, _, r => r
  | .own _, _, r => r
theorem x_unt (ha : PE X a (sE N X.K W (evE Γ ca))) : PE X a (sE N X.K W (evE Γ (.unt ca))) :=
  ha.weak fun σ H Q ⟨ρ, h, τ, rh, fr, p⟩ => by
    unfold evE at p
    refine ⟨ρ, h, τ, rh, fr, p.bind.imp ?_⟩
    rintro v H1 ⟨ρ1, h1, x, e1, rh1, rv, p1⟩
    exact p1.ok rh1 rv.unt
theorem x_btup {p0 : Pos} (hg : Gl X "tuple") (hm : X.mg "tuple" = none) (ha : PE X a (sE N X.K W (evE Γ ca))) (hs : notStar a = true) : PE X (.Call (.Name "tuple" p0) [a] [] pos) (sE N X.K W (evE Γ (.btup ca))) :=
  (pe_callTy Hs.cr_tupF hg hm (by decide +kernel) (pa_cons ha pa_nil (star_of hs)) (by decide) (by decide) (star_of hs) (by rfl)).weak fun σ H Q ⟨ρ, h, τ, rh, fr, p⟩ => by
    unfold evE at p
    refine ⟨ρ, h, τ, rh, fr, p.bind.imp ?_⟩
    rintro v H1 ⟨ρ1, h1, x, e1, rh1, rv, p1⟩
    obtain ⟨w, h', e, p2⟩ := ofOpt_ok p1.nowish
    have lst : ∀ ys, isList h1 x = some ys → w = .tp ys → h' = h1 → Hs.rTupF X.K [v] H1 Q := fun ys hy ew eh => by
      subst ew eh
      obtain ⟨a, vs, rfl, sq, g, dd⟩ := isList_sq rh1 rv hy
      refine ⟨a, vs, rfl, .inl ⟨sq, fun l o hl oc od => ?_⟩⟩
      refine p2 ρ1 _ _ (Ext.newT hl) (rh1.newT hl) ?_
      simp only [VR]
      exact ⟨l, vs, rfl, ⟨o, upd_same, oc, od, rh1.notin hl⟩, g.mono (Ext.newT hl), dd⟩
    cases x with
    | tp xs =>
      cases e
      have rv' := rv
      simp only [VR] at rv
      obtain ⟨a, vs, rfl, t, g, dd⟩ := rv
      exact ⟨a, vs, rfl, .inr ⟨t.tup.sq, p2.val rh1 rv'⟩⟩
    | tup xs =>
      cases e
      have rv' := rv
      simp only [VR] at rv
      obtain ⟨a, vs, rfl, t, g, dd⟩ := rv
      exact ⟨a, vs, rfl, .inr ⟨t.sq, p2.val rh1 rv'⟩⟩
    | fl xs =>
      obtain ⟨ys, hy, e3⟩ := map_some (show (isList h1 (.fl xs)).map (fun xs => (Val.tp xs, h1)) = some (w, h') from e)
      cases e3
      exact lst ys hy rfl rfl
    | ref i =>
      obtain ⟨ys, hy, e3⟩ := map_some (show (isList h1 (.ref i)).map (fun xs => (Val.tp xs, h1)) = some (w, h') from e)
      cases e3
      exact lst ys hy rfl rfl
    | _ => cases e
/-! ### t[::-1] -/
theorem VRs.rev {p : List Addr} : ∀ {xs : List Val} {vs : List V}, VRs N X.K p H xs vs → VRs N X.K p H xs.reverse vs.reverse
  | [], vs, r => by
    simp only [VRs] at r
    rw [r]
    simp only [List.reverse_nil, VRs]
  | x :: xs, vs, r => by
    simp only [VRs] at r
    obtain ⟨v, us, rfl, r1, r2⟩ := r
    rw [List.reverse_cons, List.reverse_cons]
    exact (VRs.rev r2).append (VRs.one r1)
theorem x_rvs {k : Nat} {p1 p2 p3 : Pos} (ha : PE X a (sE N X.K W (evE Γ ca))) : PE X (.Subscript a (.Slice none none (some (.UnaryOp .USub (.Constant (.int 1) k p1) p2)) p3) pos) (sE N X.K W (evE Γ (.rvs ca))) :=
  (Hs.pe_revT ha).weak fun σ H Q ⟨ρ, h, τ, rh, fr, p⟩ => by
    unfold evE at p
    refine ⟨ρ, h, τ, rh, fr, p.bind.imp ?_⟩
    rintro v H1 ⟨ρ1, h1, x, e1, rh1, rv, p1⟩
    cases x with
    | tup xs =>
      simp only [VR] at rv
      obtain ⟨a, vs, rfl, t, g, dd⟩ := rv
      refine ⟨a, vs, rfl, t.sq, fun q hq => ?_⟩
      exact Post.newTup (ws := xs.reverse) p1.nowish rh1 hq (VRs.rev g) (by rw [List.all_reverse]; exact dd)
    | _ => exact p1.elim
/-! ### sorted(set(t)) -/
theorem mem_insU {k j : Int} : ∀ {xs : List Int}, j ∈ insU k xs ↔ j = k ∨ j ∈ xs
  | [] => by simp [insU]
  | x :: xs => by
    unfold insU
    split
    · simp
    · split
      · rename_i h1 h2
        subst h2
        simp
      · rw [List.mem_cons, mem_insU, List.mem_cons]
        constructor <;> (rintro (h | h | h) <;> simp [h])
theorem mem_sortU {j : Int} : ∀ {xs : List Int}, j ∈ sortU xs ↔ j ∈ xs
  | [] => by simp [sortU]
  | x :: xs => by rw [sortU, mem_insU, mem_sortU, List.mem_cons]
theorem up_insU {k : Int} : ∀ {xs : List Int}, xs.Pairwise (· < ·) → (insU k xs).Pairwise (· < ·)
  | [], _ => by simp [insU]
  | x :: xs, h => by
    obtain ⟨h1, h2⟩ := List.pairwise_cons.mp h
    unfold insU
    split
    · rename_i hk
      refine List.pairwise_cons.mpr ⟨fun j hj => ?_, h⟩
      rcases List.mem_cons.mp hj with rfl | z
      · exact hk
      · exact Int.lt_trans hk (h1 j z)
    · split
      · exact h
      · rename_i a1 a2
        refine List.pairwise_cons.mpr ⟨fun j hj => ?_, up_insU h2⟩
        rcases mem_insU.mp hj with rfl | z
        · omega
        · exact h1 j z
theorem up_sortU : ∀ {xs : List Int}, (sortU xs).Pairwise (· < ·)
  | [] => by simp [sortU]
  | x :: xs => by
    rw [sortU]
    exact up_insU up_sortU
/-- two rising lists of the same -/
theorem up_unique : ∀ {xs ys : List Int}, xs.Pairwise (· < ·) → ys.Pairwise (· < ·) → (∀ j, j ∈ xs ↔ j ∈ ys) → xs = ys
  | [], [], _, _, _ => rfl
  | [], y :: ys, _, _, h => by
    have := (h y).mpr List.mem_cons_self
    cases this
  | x :: xs, [], _, _, h => by
    have := (h x).mp List.mem_cons_self
    cases this
  | x :: xs, y :: ys, hx, hy, h => by
    obtain ⟨a1, a2⟩ := List.pairwise_cons.mp hx
    obtain ⟨b1, b2⟩ := List.pairwise_cons.mp hy
    have e : x = y := by
      rcases List.mem_cons.mp ((h x).mp List.mem_cons_self) with z | z
      · exact z
      · rcases List.mem_cons.mp ((h y).mpr List.mem_cons_self) with u | u
        · exact u.symm
        · have := a1 y u
          have := b1 x z
          omega
    subst e
    rw [up_unique a2 b2 fun j => ?_]
    constructor
    · intro hj
      rcases List.mem_cons.mp ((h j).mp (List.mem_cons_of_mem _ hj)) with z | z
      · have := a1 j hj
        omega
      · exact z
    · intro hj
      rcases List.mem_cons.mp ((h j).mpr (List.mem_cons_of_mem _ hj)) with z | z
      · have := b1 j hj
        omega
      · exact z
theorem ints_rel {p : List Addr} {ns : List Int} : VRs N X.K p H (ns.map Val.int) (ns.map V.int) := by
  induction ns with
  | nil => simp only [List.map_nil, VRs]
  | cons n ns ih =>
    rw [List.map_cons, List.map_cons]
    simp only [VRs]
    exact ⟨_, _, rfl, by simp only [VR], ih⟩
theorem x_sset {p0 p1 : Pos} (hc : X.calm = true) (hg : Gl X "sorted") (hm : X.mg "sorted" = none) (hg2 : Gl X "set") (hm2 : X.mg "set" = none) (ha : PE X a (sE N X.K W (evE Γ ca))) (hs : notStar a = true) :
    PE X (.Call (.Name "sorted" p0) [.Call (.Name "set" p1) [a] [] pos] [] apos) (sE N X.K W (evE Γ (.sset ca))) :=
  (pe_callB (cr_sortedSet hc) hg hm (by decide +kernel) (pa_cons (pe_callTy (Hs.cr_setI hc) hg2 hm2 (by decide +kernel) (pa_cons ha pa_nil (star_of hs)) (by decide) (by decide) (star_of hs) (by rfl)) pa_nil (by rfl)) (by decide) (by decide) (by rfl) (by rfl)).weak fun σ H Q ⟨ρ, h, τ, rh, fr, p⟩ => by
    unfold evE at p
    refine ⟨ρ, h, τ, rh, fr, p.bind.imp ?_⟩
    rintro v H1 ⟨ρ1, h1, x, e1, rh1, rv, p1⟩
    cases x with
    | tup xs =>
      have p2 := p1
      obtain ⟨w, h', e, p3⟩ := ofOpt_ok p2.nowish
      obtain ⟨ns, en, e⟩ := bind_some e
      obtain ⟨z, e⟩ := guardO_some e
      simp only [VR] at rv
      obtain ⟨a, vs, rfl, t, g, dd⟩ := rv
      have ev := intsV_vals en g
      subst ev
      have hl : ns.length < 64 := of_decide_eq_true z
      refine ⟨a, ns, rfl, t.sq, by omega, fun q S n hq hS hn => ?_⟩
      refine ⟨q, S, n, rfl, upd_same, by omega, fun ns' p' up hmem _ hp' => ?_⟩
      have es : ns' = sortU ns := up_unique up up_sortU fun j => by
        rw [hmem, hS, decide_eq_true_eq, mem_sortU]
      subst es
      cases e
      have e2 : Ext ρ1 H1 (ρ1 ++ [p']) (upd (upd H1 q (SetO X.w q S n)) p' (.lst ((sortU ns).map V.int))) := (Ext.newT hq).trans (Ext.new hp')
      refine p3 (ρ1 ++ [p']) _ _ e2 ((rh1.newT hq).new hp' ?_) (VR.newRef (rh1.newT hq))
      simp only [OR]
      exact ⟨_, upd_same, ints_rel, by
        rw [List.all_map, List.all_eq_true]
        intro x _
        rfl⟩
    | _ => exact p1.elim
end
end Mini
namespace Mini
open PySem PySem.Spec PyProof.Rows L2
section
variable {N : Nm} {X : Cx} {W : WX} {Γ : Sys} {σ : L2.St} {H H' : L2.Hp} {Q : VK} {ρ ρ' : List Addr} {h : MH}
variable {ca cb cc ces ct ce ct1 cc1 cit cit1 : C} {pos apos : Pos}
/-! ### two for's -/
def stepA (r : Res (List Val)) (next : List Val → MH → Res (List Val)) : Res (List Val) := match r with
  | .ok acc h => next acc h
  | _ => .bad
theorem lc2L_cons {turn : Val → List Val → MH → Res (List Val)} {x : Val} {xs acc : List Val} : lc2L turn (x :: xs) acc h = stepA (turn x acc h) (lc2L turn xs) := by
  unfold lc2L stepA
  cases turn x acc h <;> rfl
theorem lc2R_some {turn : Val → List Val → MH → Res (List Val)} {r n i : Nat} {x : Val} {xs acc : List Val} (h1 : h[r]? = some (.lst xs)) (h2 : xs[i]? = some x) : lc2R turn r (n + 1) i acc h = stepA (turn x acc h) (lc2R turn r n (i + 1)) := by
  rw [lc2R]
  simp only [h1, h2]
  unfold stepA
  cases turn x acc h <;> rfl
theorem fr_wipe {ρ : List Addr} {H : L2.Hp} {τ : MF} {σ : L2.St} {vs : List Nat} (f : FR N X.K ρ H τ σ) : FR N X.K ρ H (wipeM τ vs) (wipe σ vs) := by
  induction vs with
  | nil => exact f
  | cons v vs ih =>
    refine ⟨by simp [wipe, wipeM, ih.len], fun j y hy => ?_⟩
    by_cases hj : v = j
    · subst hj
      unfold wipeM at hy
      rw [List.getElem?_set] at hy
      by_cases hl : v < (wipeM τ vs).length
      · rw [if_pos rfl, if_pos hl] at hy
        cases hy
      · rw [if_pos rfl, if_neg hl] at hy
        cases hy
    · unfold wipeM at hy
      rw [List.getElem?_set_ne hj] at hy
      unfold wipe
      rw [List.getElem?_set_ne hj]
      exact ih.at_ j y hy
/-- the inner items of one outer turn -/
theorem lc_inner {ρ1 : List Addr} {H1 : L2.Hp} {L : Addr} {w : Walk} {J : It} {τ τ2 : MF} {σ2 : L2.St} {acc : List Val} {accV : List V} {vs1 : List Nat} {next : List Val → MH → Res (List Val)} {G : Res (List Val) → Prop} {Nx : L2.Hp → Prop}
    (hn : nmT vs1 ct1 = true) (n1 : H1 L = none) (S : LcS N X.K ρ1 H1 L w J τ σ ρ h H acc accV) (fr2 : FR N X.K ρ H τ2 σ2) (hG : ¬ G .bad)
    (p : G (stepA ((noExc (evI Γ cit1 τ2 h)).bind fun w1 h4 => walkAcc (fun y h5 => lcTurn (isNil cc1) (asg Γ ct1 y (wipeM τ2 vs1) h5) (evE Γ cc1) (evE Γ ce)) w1 acc h4) next))
    (hNx : ∀ ρ' h' H' acc accV, LcS N X.K ρ1 H1 L w J τ σ ρ' h' H' acc accV → G (next acc h') → Nx H') :
    (sI N X.K NW (evI Γ cit1)) σ2 H fun J1 H4 => ∃ W1 : Nat → Nat → L2.Hp → Prop, (∃ m, W1 0 m H4) ∧ ∀ j k H, W1 j k H → (J1.stop j H ∧ Nx H) ∨ (J1.go j H ∧ ∃ Nx1 : L2.Hp → Prop, (∀ H', Nx1 H' → ∃ k', k' < k ∧ W1 (j + 1) k' H') ∧
      ∀ x H', J1.yld j H x H' → (sGv N X.K vs1 (asg Γ ct1)) x (wipe σ2 vs1) H' fun σ3 H5 => wipe σ3 vs1 = wipe σ2 vs1 ∧ tTest N X.K Γ cc1 σ3 H5 fun b H6 =>
        if b = true then (sE N X.K NW (evE Γ ce)) σ3 H6 fun y H7 => ∃ acc, H7 L = some (.lst acc) ∧ acc.length < sizeLine ∧ Nx1 (upd H7 L (.lst (acc ++ [y]))) else Nx1 H6) := by
  refine ⟨ρ, h, τ2, S.rh, fr2, ?_⟩
  cases hi : evI Γ cit1 τ2 h with
  | exc c fs h3 =>
    rw [hi] at p
    exact (hG p).elim
  | bad =>
    rw [hi] at p
    exact (hG p).elim
  | ok w1 h4 =>
    rw [hi] at p
    intro ρ4 H4 J1 e4 rh4 wj1
    have S4 := S.later e4 rh4
    obtain ⟨t1, et1⟩ : ∃ t1, t1 = fun (y : Val) (h5 : MH) => lcTurn (isNil cc1) (asg Γ ct1 y (wipeM τ2 vs1) h5) (evE Γ cc1) (evE Γ ce) := ⟨_, rfl⟩
    obtain ⟨G1, eG1⟩ : ∃ G1 : Res (List Val) → Prop, G1 = fun r => G (stepA r next) := ⟨_, rfl⟩
    have p1 : G1 (walkAcc t1 w1 acc h4) := by
      rw [eG1, et1]
      exact p
    have hG1 : ¬ G1 .bad := by
      rw [eG1]
      exact hG
    have Si : LcS N X.K ρ1 H1 L w1 J1 (wipeM τ2 vs1) (wipe σ2 vs1) ρ4 h4 H4 acc accV := ⟨S4.ext, S4.rh, S4.nD, S4.hD, S4.ra, wj1, fr_wipe (fr2.mono e4)⟩
    have done : ∀ {ρ' : List Addr} {h' : MH} {H' : L2.Hp} {a : List Val} {aV : List V}, LcS N X.K ρ1 H1 L w1 J1 (wipeM τ2 vs1) (wipe σ2 vs1) ρ' h' H' a aV → Kp ρ4 H4 ρ' H' → G1 (.ok a h') → Nx H' := by
      intro ρ' h' H' a aV S' kp g
      rw [eG1] at g
      exact hNx _ _ _ _ _ ⟨S'.ext, S'.rh, S'.nD, S'.hD, S'.ra, S4.wj.kp kp, S4.fr.kp kp⟩ g
    have kp0 : Kp ρ4 H4 ρ4 H4 := Ext.refl.kp
    cases w1 with
    | items xs =>
      refine ⟨fun j k H' => ∃ ρ' h' a aV, LcS N X.K ρ1 H1 L (.items xs) J1 (wipeM τ2 vs1) (wipe σ2 vs1) ρ' h' H' a aV ∧ Kp ρ4 H4 ρ' H' ∧ j + k = xs.length ∧ G1 (lcL t1 (xs.drop j) a h'), ⟨xs.length, ρ4, h4, acc, accV, Si, kp0, by omega, p1⟩, ?_⟩
      rintro j k H' ⟨ρ', h', a, aV, S', kp, hm, g⟩
      obtain ⟨y1, y2⟩ := S'.wj.items j
      cases hx : xs[j]? with
      | none =>
        left
        have : xs.drop j = [] := List.drop_eq_nil_of_le (List.getElem?_eq_none_iff.mp hx)
        rw [this] at g
        exact ⟨y2 hx, done S' kp g⟩
      | some x =>
        right
        obtain ⟨hi2, ex⟩ := List.getElem?_eq_some_iff.mp hx
        obtain ⟨go, yld⟩ := y1 x hx
        rw [List.drop_eq_getElem_cons hi2, ex, lcL_cons, et1] at g
        refine ⟨go, _, fun H'' q => ⟨k - 1, by omega, q⟩, fun v H'' y => ?_⟩
        obtain ⟨e, kk⟩ := yld v H'' y
        obtain ⟨rh', rv⟩ := kk _ S'.rh
        exact lc_turn hn n1 (S'.later e rh') rv hG1 g fun ρ2 h2 H2 a2 aV2 S2 k2 g2 => ⟨ρ2, h2, a2, aV2, S2, (kp.trans e.kp).trans k2, by omega, by rw [et1]; exact g2⟩
    | live r =>
      refine ⟨fun j k H' => ∃ ρ' h' a aV, LcS N X.K ρ1 H1 L (.live r) J1 (wipeM τ2 vs1) (wipe σ2 vs1) ρ' h' H' a aV ∧ Kp ρ4 H4 ρ' H' ∧ G1 (lcR t1 r k j a h'), ⟨FUEL, ρ4, h4, acc, accV, Si, kp0, p1⟩, ?_⟩
      rintro j k H' ⟨ρ', h', a, aV, S', kp, g⟩
      cases k with
      | zero => exact (hG1 g).elim
      | succ k =>
        cases hr : h'[r]? with
        | none =>
          rw [lcR] at g
          simp only [hr] at g
          exact (hG1 g).elim
        | some o =>
          cases o with
          | lst xs =>
            obtain ⟨y1, y2⟩ := S'.wj.live S'.rh j xs hr
            cases hx : xs[j]? with
            | none =>
              left
              rw [lcR] at g
              simp only [hr, hx] at g
              exact ⟨y2 hx, done S' kp g⟩
            | some x =>
              right
              obtain ⟨go, yld⟩ := y1 x hx
              rw [lcR_some hr hx, et1] at g
              refine ⟨go, _, fun H'' q => ⟨k, Nat.lt_succ_self k, q⟩, fun v H'' y => ?_⟩
              obtain ⟨rfl, rv⟩ := yld v H'' y
              exact lc_turn hn n1 S' rv hG1 g fun ρ2 h2 H2 a2 aV2 S2 k2 g2 => ⟨ρ2, h2, a2, aV2, S2, kp.trans k2, by rw [et1]; exact g2⟩
          | _ =>
            rw [lcR] at g
            simp only [hr] at g
            exact (hG1 g).elim
/-- one outer turn -/
theorem lc2_turn {ρ1 : List Addr} {H1 : L2.Hp} {L : Addr} {w : Walk} {J : It} {τ : MF} {acc : List Val} {accV : List V} {x : Val} {v : V} {vs vs1 : List Nat} {next : List Val → MH → Res (List Val)} {G : Res (List Val) → Prop} {Nx : L2.Hp → Prop}
    (hn : nmT vs ct = true) (hn1 : nmT vs1 ct1 = true) (n1 : H1 L = none) (S : LcS N X.K ρ1 H1 L w J τ (wipe σ vs) ρ h H acc accV) (rv : VR N X.K ρ H x v) (hG : ¬ G .bad)
    (p : G (stepA (turn2 (isNil cc) (asg Γ ct x τ h) (evE Γ cc) (evI Γ cit1) (fun σ2 w1 acc2 h4 => walkAcc (fun y h5 => lcTurn (isNil cc1) (asg Γ ct1 y (wipeM σ2 vs1) h5) (evE Γ cc1) (evE Γ ce)) w1 acc2 h4) acc) next))
    (hNx : ∀ ρ' h' H' acc accV, LcS N X.K ρ1 H1 L w J τ (wipe σ vs) ρ' h' H' acc accV → G (next acc h') → Nx H') :
    (sGv N X.K vs (asg Γ ct)) v (wipe σ vs) H fun σ2 H2 => wipe σ2 vs = wipe σ vs ∧ tTest N X.K Γ cc σ2 H2 fun b H3 =>
      if b = true then (sI N X.K NW (evI Γ cit1)) σ2 H3 fun J1 H4 => ∃ W1 : Nat → Nat → L2.Hp → Prop, (∃ m, W1 0 m H4) ∧ ∀ j k H, W1 j k H → (J1.stop j H ∧ Nx H) ∨ (J1.go j H ∧ ∃ Nx1 : L2.Hp → Prop, (∀ H', Nx1 H' → ∃ k', k' < k ∧ W1 (j + 1) k' H') ∧
        ∀ x H', J1.yld j H x H' → (sGv N X.K vs1 (asg Γ ct1)) x (wipe σ2 vs1) H' fun σ3 H5 => wipe σ3 vs1 = wipe σ2 vs1 ∧ tTest N X.K Γ cc1 σ3 H5 fun b H6 =>
          if b = true then (sE N X.K NW (evE Γ ce)) σ3 H6 fun y H7 => ∃ acc, H7 L = some (.lst acc) ∧ acc.length < sizeLine ∧ Nx1 (upd H7 L (.lst (acc ++ [y]))) else Nx1 H6)
      else Nx H3 := by
  refine ⟨ρ, h, τ, x, S.rh, S.fr, rv, ?_⟩
  cases ha : asg Γ ct x τ h with
  | nx τ2 h2 =>
    rw [ha] at p
    have e0 := nm_heap ct x τ τ2 h h2 hn ha
    subst e0
    refine ⟨rfl, fun σ2 fr2 o2 => ⟨(wipe_out_eq o2).trans wipe_wipe, ?_⟩⟩
    have inn := fun {ρ3 : List Addr} {h3 : MH} {H3 : L2.Hp} (e3 : Ext ρ H ρ3 H3) (rh3 : RelH N X.K ρ3 h3 H3) (p3 : G (stepA ((noExc (evI Γ cit1 τ2 h3)).bind fun w1 h4 => walkAcc (fun y h5 => lcTurn (isNil cc1) (asg Γ ct1 y (wipeM τ2 vs1) h5) (evE Γ cc1) (evE Γ ce)) w1 acc h4) next)) =>
      lc_inner (vs1 := vs1) hn1 n1 (S.later e3 rh3) (fr2.mono e3) hG p3 hNx
    unfold tTest
    unfold turn2 at p
    dsimp only at p
    by_cases hnil : isNil cc = true
    · rw [if_pos hnil] at p ⊢
      unfold tYes
      exact inn Ext.refl S.rh p
    · rw [if_neg hnil] at p ⊢
      refine ⟨ρ, h2, τ2, S.rh, fr2, ?_⟩
      unfold evT
      cases ht : evE Γ cc τ2 h2 with
      | ok z h3 =>
        rw [ht] at p
        cases htr : tru h3 z with
        | none =>
          have p' : G (stepA ((ofVal (tru h3 z) h3).bind fun b h2 => if b then (noExc (evI Γ cit1 τ2 h2)).bind fun w1 h4 => walkAcc (fun y h5 => lcTurn (isNil cc1) (asg Γ ct1 y (wipeM τ2 vs1) h5) (evE Γ cc1) (evE Γ ce)) w1 acc h4 else .ok acc h2) next) := p
          rw [htr] at p'
          exact (hG p').elim
        | some b =>
          have p' : G (stepA ((ofVal (tru h3 z) h3).bind fun b h2 => if b then (noExc (evI Γ cit1 τ2 h2)).bind fun w1 h4 => walkAcc (fun y h5 => lcTurn (isNil cc1) (asg Γ ct1 y (wipeM τ2 vs1) h5) (evE Γ cc1) (evE Γ ce)) w1 acc h4 else .ok acc h2) next) := p
          rw [htr] at p'
          show Post N X.K ρ H _ _ (ofVal (tru h3 z) h3) _
          rw [htr]
          intro ρ3 H3 b' e3 rh3 eb
          have eb' : b' = b := eb
          subst eb'
          cases b' with
          | true =>
            rw [if_pos rfl]
            exact inn e3 rh3 p'
          | false =>
            rw [if_neg Bool.false_ne_true]
            exact hNx _ _ _ _ _ (S.later e3 rh3) p'
      | exc c fs h3 =>
        rw [ht] at p
        exact (hG p).elim
      | bad =>
        rw [ht] at p
        exact (hG p).elim
  | _ =>
    rw [ha] at p
    exact (hG p).elim
end
end Mini

namespace Mini
open PySem PySem.Spec PyProof.Rows L2
section
variable {N : Nm} {X : Cx} {W : WX} {Γ : Sys} {σ : L2.St} {H H' : L2.Hp} {Q : VK} {ρ ρ' : List Addr} {h : MH}
variable {ca cb cc ces ct ce ct1 cc1 cit cit1 : C} {pos apos : Pos}
/-- its reading from its meaning -/
theorem imp_lc2 {vs vs1 : List Nat} (hn : nmT vs ct = true) (hn1 : nmT vs1 ct1 = true) (q : sE N X.K W (evE Γ (.lc2 vs ce ct cit cc vs1 ct1 cit1 cc1)) σ H Q) :
    tLc2 (sI N X.K W (evI Γ cit)) (sGv N X.K vs (asg Γ ct)) (tTest N X.K Γ cc) (sI N X.K NW (evI Γ cit1)) (sGv N X.K vs1 (asg Γ ct1)) (tTest N X.K Γ cc1) (sE N X.K NW (evE Γ ce)) vs vs1 σ H Q := by
  obtain ⟨ρ, h, τ, rh, fr, p⟩ := q
  unfold evE at p
  refine ⟨ρ, h, τ, rh, fr, p.bind.imp ?_⟩
  rintro J H1 ⟨ρ1, h1, w, e1, rh1, wj, p1⟩
  intro L hL
  obtain ⟨fin, efin⟩ : ∃ fin : List Val → MH → Res Val, fin = fun ys h3 => if ys.all dat = true then ofOpt (alloc h3 (.lst ys)) else .bad := ⟨_, rfl⟩
  rw [← efin] at p1
  obtain ⟨G, eG⟩ : ∃ G : Res (List Val) → Prop, G = fun r => Post N X.K ρ1 H1 (fun c d H' => W c d σ H') (VR N X.K) (r.bind fin) Q := ⟨_, rfl⟩
  obtain ⟨t2, et2⟩ : ∃ t2, t2 = fun (x : Val) (acc : List Val) (h2 : MH) => turn2 (isNil cc) (asg Γ ct x (wipeM τ vs) h2) (evE Γ cc) (evI Γ cit1) (fun σ2 w1 acc2 h4 => walkAcc (fun y h5 => lcTurn (isNil cc1) (asg Γ ct1 y (wipeM σ2 vs1) h5) (evE Γ cc1) (evE Γ ce)) w1 acc2 h4) acc := ⟨_, rfl⟩
  have p2 : G (walk2 t2 w h1) := by
    rw [eG, et2]
    exact p1
  have hG : ¬ G .bad := by
    rw [eG]
    exact fun z => z
  have e2 : Ext ρ1 H1 ρ1 (upd H1 L (.lst [])) := Ext.newT hL
  have S0 : LcS N X.K ρ1 H1 L w J (wipeM τ vs) (wipe σ vs) ρ1 h1 (upd H1 L (.lst [])) [] [] :=
    ⟨e2, rh1.newT hL, rh1.notin hL, upd_same, by simp only [VRs], wj.mono e2, fr_wipe (fr.mono (e1.trans e2))⟩
  -- the end
  have done : ∀ {ρ' : List Addr} {h' : MH} {H' : L2.Hp} {acc : List Val} {accV : List V}, LcS N X.K ρ1 H1 L w J (wipeM τ vs) (wipe σ vs) ρ' h' H' acc accV → G (.ok acc h') → Q (.ref L) H' := by
    intro ρ' h' H' acc accV S g
    rw [eG, efin] at g
    have g' : Post N X.K ρ1 H1 (fun c d H' => W c d σ H') (VR N X.K) (if acc.all dat = true then ofOpt (alloc h' (.lst acc)) else .bad) Q := g
    by_cases hd : acc.all dat = true
    · rw [if_pos hd] at g'
      have eH : upd H' L (.lst accV) = H' := by
        funext b
        by_cases hb : b = L
        · rw [hb, upd_same, S.hD]
        · rw [upd_ne hb]
      have kN : Kp ρ' H' (ρ' ++ [L]) (upd H' L (.lst accV)) := by
        refine ⟨fun i b hb => by rw [List.getElem?_append_left (List.getElem?_eq_some_iff.mp hb).1]; exact hb, fun b o hb nb im => ?_⟩
        have ne : b ≠ L := fun z => by
          rw [z, S.hD] at hb
          cases hb
          exact im
        refine ⟨by rw [upd_ne ne]; exact hb, fun hm => ?_⟩
        rcases List.mem_append.mp hm with z | z
        · exact nb z
        · exact ne (List.mem_singleton.mp z)
      have eN : Ext ρ1 H1 (ρ' ++ [L]) (upd H' L (.lst accV)) := by
        rw [eH]
        obtain ⟨m1, q1, q2⟩ := S.ext.pre
        refine ⟨⟨m1 ++ [L], by rw [q1, List.append_assoc], fun b hb => ?_⟩, S.ext.keep, S.ext.dom⟩
        rcases List.mem_append.mp hb with z | z
        · exact q2 b z
        · rw [List.mem_singleton.mp z]
          exact hL
      have z := g' _ _ _ eN (S.rh.newK S.nD (fun u e => by rw [S.hD] at e; cases e; exact ⟨fun _ z => (by cases z), fun _ z => (by cases z)⟩) kN (by simp only [OR]; exact ⟨accV, upd_same, VRs.kp kN _ _ S.ra, hd⟩)) (VR.newRef S.rh)
      rw [eH] at z
      exact z
    · rw [if_neg hd] at g'
      exact g'.elim
  cases w with
  | items xs =>
    refine ⟨fun i m H' => ∃ ρ' h' acc accV, LcS N X.K ρ1 H1 L (.items xs) J (wipeM τ vs) (wipe σ vs) ρ' h' H' acc accV ∧ i + m = xs.length ∧ G (lc2L t2 (xs.drop i) acc h'), ⟨xs.length, ρ1, h1, [], [], S0, by omega, p2⟩, ?_⟩
    rintro i m H' ⟨ρ', h', acc, accV, S, hm, g⟩
    obtain ⟨w1, w2⟩ := S.wj.items i
    cases hx : xs[i]? with
    | none =>
      left
      have : xs.drop i = [] := List.drop_eq_nil_of_le (List.getElem?_eq_none_iff.mp hx)
      rw [this] at g
      exact ⟨w2 hx, done S g⟩
    | some x =>
      right
      obtain ⟨hi2, ex⟩ := List.getElem?_eq_some_iff.mp hx
      obtain ⟨go, yld⟩ := w1 x hx
      rw [List.drop_eq_getElem_cons hi2, ex, lc2L_cons, et2] at g
      refine ⟨go, _, fun H'' q => ⟨m - 1, by omega, q⟩, fun v H'' y => ?_⟩
      obtain ⟨e, k⟩ := yld v H'' y
      obtain ⟨rh', rv⟩ := k _ S.rh
      exact lc2_turn hn hn1 hL (S.later e rh') rv hG g fun ρ2 h2 H2 acc2 accV2 S2 g2 => ⟨ρ2, h2, acc2, accV2, S2, by omega, by rw [et2]; exact g2⟩
  | live r =>
    refine ⟨fun i m H' => ∃ ρ' h' acc accV, LcS N X.K ρ1 H1 L (.live r) J (wipeM τ vs) (wipe σ vs) ρ' h' H' acc accV ∧ G (lc2R t2 r m i acc h'), ⟨FUEL, ρ1, h1, [], [], S0, p2⟩, ?_⟩
    rintro i m H' ⟨ρ', h', acc, accV, S, g⟩
    cases m with
    | zero => exact (hG g).elim
    | succ m =>
      cases hr : h'[r]? with
      | none =>
        rw [lc2R] at g
        simp only [hr] at g
        exact (hG g).elim
      | some o =>
        cases o with
        | lst xs =>
          obtain ⟨w1, w2⟩ := S.wj.live S.rh i xs hr
          cases hx : xs[i]? with
          | none =>
            left
            rw [lc2R] at g
            simp only [hr, hx] at g
            exact ⟨w2 hx, done S g⟩
          | some x =>
            right
            obtain ⟨go, yld⟩ := w1 x hx
            rw [lc2R_some hr hx, et2] at g
            refine ⟨go, _, fun H'' q => ⟨m, Nat.lt_succ_self m, q⟩, fun v H'' y => ?_⟩
            obtain ⟨rfl, rv⟩ := yld v H'' y
            exact lc2_turn hn hn1 hL S rv hG g fun ρ2 h2 H2 acc2 accV2 S2 g2 => ⟨ρ2, h2, acc2, accV2, S2, by rw [et2]; exact g2⟩
        | _ =>
          rw [lc2R] at g
          simp only [hr] at g
          exact (hG g).elim
/-- [elt for target in iter if .. for target in iter if ..] -/
theorem x_lc2 {own : List (Str × Nat)} {scope : Scope} {tg iter tg1 iter1 elt : Expr} {ifs ifs1 : List Expr} {vs vs1 : List Nat} (hc : X.calm = true) (hN : X.N.Nodup) (hi : PI X tg iter (sI N X.K W (evI Γ cit))) (ok : BlkOk X.N X.env.scope scope own) (hv : own.map (·.2) = vs) (hv1 : ∀ i ∈ vs1, i ∈ vs) (hn : nmT vs ct = true) (hn1 : nmT vs1 ct1 = true)
    (hg : ∀ (s : Shared) (H : L2.Hp) (A : Addr) (cl : List (Str × Addr)) (fp : List Addr), PG (X.blk s H scope (compEnvC scope cl A X.env) fp) tg (sGv N X.K vs (asg Γ ct)))
    (ht : ∀ (s : Shared) (H : L2.Hp) (A : Addr) (cl : List (Str × Addr)) (fp : List Addr), PTs (X.blk s H scope (compEnvC scope cl A X.env) fp) ifs (tTest N X.K Γ cc))
    (hi1 : ∀ (s : Shared) (H : L2.Hp) (A : Addr) (cl : List (Str × Addr)) (fp : List Addr), PI (X.blk s H scope (compEnvC scope cl A X.env) fp) tg1 iter1 (sI N X.K NW (evI Γ cit1)))
    (hg1 : ∀ (s : Shared) (H : L2.Hp) (A : Addr) (cl : List (Str × Addr)) (fp : List Addr), PG (X.blk s H scope (compEnvC scope cl A X.env) fp) tg1 (sGv N X.K vs1 (asg Γ ct1)))
    (ht1 : ∀ (s : Shared) (H : L2.Hp) (A : Addr) (cl : List (Str × Addr)) (fp : List Addr), PTs (X.blk s H scope (compEnvC scope cl A X.env) fp) ifs1 (tTest N X.K Γ cc1))
    (he : ∀ (s : Shared) (H : L2.Hp) (A : Addr) (cl : List (Str × Addr)) (fp : List Addr), PE (X.blk s H scope (compEnvC scope cl A X.env) fp) elt (sE N X.K NW (evE Γ ce))) (hs : isSetI iter = false) (hs1 : isSetI iter1 = false) :
    PE X (.ListComp elt [⟨tg, iter, ifs, 0⟩, ⟨tg1, iter1, ifs1, 0⟩] scope pos) (sE N X.K W (evE Γ (.lc2 vs ce ct cit cc vs1 ct1 cit1 cc1))) := by
  have core := pe_lc2 (pos := pos) hc hN hi ok (by rw [hv]; exact hv1) hg ht hi1 hg1 ht1 he (fold_set hs) (fun env => fold_set hs1)
  rw [hv] at core
  exact core.weak fun σ H Q q => imp_lc2 hn hn1 q
theorem x_setLc2 {own : List (Str × Nat)} {scope : Scope} {tg iter tg1 iter1 elt : Expr} {ifs ifs1 : List Expr} {vs vs1 : List Nat} {i : Nat} {y : Str} {py spos : Pos} (hc : X.calm = true) (hN : X.N.Nodup) (hy : X.N[i]? = some y) (hyl : X.env.scope.names.lookup y = some .local)
    (hk : X.env.scope.kind = .function) (hl : (py.line == pos.line) = true) (hno : (scope.names.any fun (n, k) => n == y && (k == .local || k == .cell)) = false) (hi : PI X tg iter (sI N X.K W (evI Γ cit))) (ok : BlkOk X.N X.env.scope scope own) (hv : own.map (·.2) = vs) (hv1 : ∀ i ∈ vs1, i ∈ vs) (hn : nmT vs ct = true) (hn1 : nmT vs1 ct1 = true)
    (hg : ∀ (s : Shared) (H : L2.Hp) (A : Addr) (cl : List (Str × Addr)) (fp : List Addr), PG (X.blk s H scope (compEnvC scope cl A X.env) fp) tg (sGv N X.K vs (asg Γ ct)))
    (ht : ∀ (s : Shared) (H : L2.Hp) (A : Addr) (cl : List (Str × Addr)) (fp : List Addr), PTs (X.blk s H scope (compEnvC scope cl A X.env) fp) ifs (tTest N X.K Γ cc))
    (hi1 : ∀ (s : Shared) (H : L2.Hp) (A : Addr) (cl : List (Str × Addr)) (fp : List Addr), PI (X.blk s H scope (compEnvC scope cl A X.env) fp) tg1 iter1 (sI N X.K NW (evI Γ cit1)))
    (hg1 : ∀ (s : Shared) (H : L2.Hp) (A : Addr) (cl : List (Str × Addr)) (fp : List Addr), PG (X.blk s H scope (compEnvC scope cl A X.env) fp) tg1 (sGv N X.K vs1 (asg Γ ct1)))
    (ht1 : ∀ (s : Shared) (H : L2.Hp) (A : Addr) (cl : List (Str × Addr)) (fp : List Addr), PTs (X.blk s H scope (compEnvC scope cl A X.env) fp) ifs1 (tTest N X.K Γ cc1))
    (he : ∀ (s : Shared) (H : L2.Hp) (A : Addr) (cl : List (Str × Addr)) (fp : List Addr), PE (X.blk s H scope (compEnvC scope cl A X.env) fp) elt (sE N X.K NW (evE Γ ce))) (hs : isSetI iter = false) (hs1 : isSetI iter1 = false) :
    PS X (.Assign [.Name y py] (.ListComp elt [⟨tg, iter, ifs, 0⟩, ⟨tg1, iter1, ifs1, 0⟩] scope pos) spos) (sS N X.K W (evS Γ (.set (.tv i) (.lc2 vs ce ct cit cc vs1 ct1 cit1 cc1)))) := by
  have core := ps_setLc2 (pos := pos) (spos := spos) (py := py) (i := i) hc hN hy hyl (sw_true hk hyl hl hno) hi ok (by rw [hv]; exact hv1) hg ht hi1 hg1 ht1 he (fold_set hs) (fun env => fold_set hs1)
  rw [hv] at core
  refine core.weak fun D σ H ⟨ρ, h, τ, rh, fr, p⟩ => ?_
  unfold evS at p
  refine imp_lc2 hn hn1 ⟨ρ, h, τ, rh, fr, (PostS.go (rel := VR N X.K) fr p).imp ?_⟩
  rintro v H1 ⟨ρ1, h1, x, e1, rh1, rv, p1⟩
  have p2 : PostS N X.K ρ1 H1 W D (.nx (τ.set i (some x)) h1) := by
    unfold asg at p1
    exact p1
  exact p2.nx ((fr.mono e1).set i rv) rh1
end
end Mini
set_option Elab.async false
set_option linter.all false
set_option maxRecDepth 100000
set_option maxHeartbeats 2000000
/-! Mini against the model: the check of a text against its core, and what it needs around it. -/
namespace Mini
open PySem PySem.Spec PyProof.Rows L2
open L2H (RoomH Hot1 PinOk HotC)
/-! ### tables -/
structure Row where
  at_ : Nat
  name : Str
  ps : List Str
  ns : List Str
  hot : Bool
  core : C
  lam : Bool := false
  flt : Option Nat := none
structure Cl where
  at_ : Nat
  name : Str
  fs : List Str
structure Tab where
  rows : List Row
  cls : List Cl
  free : List Str
  nums : List (Str × Int)
/-- where a text is checked -/
structure Dc where
  T : Tab
  sc : Scope
  ns : List Str
  calm : Bool
  blk : Bool
  fn : Str → Bool
  lm : Bool
def plainNm (x : Str) : Bool := !(x == ("__debug__" : Str)) && !(x == ("__classdict__" : Str))
/-- a name that is read -/
def Dc.var (D : Dc) (i : Nat) (x : Str) : Bool := decide (D.ns[i]? = some x) && ((match D.sc.names.lookup x with
  | some .local => true
  | some .cell => true
  | some .free => true
  | _ => false) && plainNm x)
/-- a name that is stored -/
def Dc.tgt (D : Dc) (i : Nat) (x : Str) : Bool := decide (D.ns[i]? = some x) && ((match D.sc.names.lookup x with
  | some .local => true
  | some .cell => D.fn x
  | _ => false) && plainNm x)
/-- a plain local name -/
def Dc.lcl (D : Dc) (i : Nat) (x : Str) : Bool := decide (D.ns[i]? = some x) && (decide (D.sc.names.lookup x = some .local) && plainNm x)
def Dc.glo (D : Dc) (x : Str) : Bool := decide (D.sc.names.lookup x = some .globalImplicit) && !(x == ("__debug__" : Str))
def Dc.fre (D : Dc) (x : Str) : Bool := D.glo x && decide (x ∈ D.T.free)
def Dc.fun_ (D : Dc) (i : Nat) (x : Str) : Bool := D.glo x && (match D.T.rows[i]? with
  | some r => decide (r.name = x) && (D.calm || r.hot)
  | none => false)
def Dc.cls_ (D : Dc) (i : Nat) (x : Str) : Bool := D.glo x && (match D.T.cls[i]? with
  | some r => decide (r.name = x)
  | none => false)
def gvTys : List String := ["ValueError", "int", "bool", "str", "tuple", "list", "dict"]
def Dc.flt_ (D : Dc) (i : Nat) (x : Str) : Bool := D.glo x && (match D.T.rows[i]? with
  | some r => decide (r.name = x) && r.flt.isSome
  | none => false)
def Dc.gv (D : Dc) (w : Val) (x : Str) : Bool := match w with
  | .cls c => D.cls_ c x
  | .int i => D.glo x && decide ((x, i) ∈ D.T.nums)
  | .fn i => D.glo x && (match D.T.rows[i]? with
    | some r => decide (r.name = x)
    | none => false)
  | .ty n => D.fre x && (gvTys.contains n && decide (x = Str.ofString n))
  | _ => false
def biOk (b : Bi) (x : Str) : Bool := match b with
  | .len => decide (x = ("len" : Str))
  | .int => decide (x = ("int" : Str))
  | .list => decide (x = ("list" : Str))
  | .tuple => decide (x = ("tuple" : Str))
  | .isinstance => decide (x = ("isinstance" : Str))
  | .repr => decide (x = ("repr" : Str))
  | .all => decide (x = ("all" : Str))
  | .any => decide (x = ("any" : Str))
  | _ => false
def biCalm (b : Bi) : Bool := match b with
  | .all => true
  | .any => true
  | _ => false
def mtOk (m : Mt) (x : Str) : Bool := match m with
  | .append => decide (x = ("append" : Str))
  | .extend => decide (x = ("extend" : Str))
  | .count => decide (x = ("count" : Str))
  | _ => false
def hotOff (D : Dc) : Dc := { D with calm := false, lm := false }
/-- targets that are stored one after another -/
def swapFree (t e : Expr) : Bool := match t with
  | .Tuple ts _ _ => (match e with
    | .Tuple vs _ _ => !(ts.length == 2 || ts.length == 3) || !(vs.length == ts.length)
    | _ => true)
  | .List _ _ => false
  | _ => true
/-- a comprehension's own names, by their places -/
def ownOf (D : Dc) (vs : List Nat) : List (Str × Nat) := vs.map fun i => ((D.ns[i]?).getD ("" : Str), i)
def blkD (D : Dc) (scope : Scope) : Dc := { D with sc := relS scope D.sc, blk := true, fn := fun x => scope.names.lookup x == some .cell, lm := false }
def lamD (D : Dc) (scope : Scope) : Dc := { D with sc := scope, blk := true, fn := fun _ => false, lm := false }
def noArgs : Arguments → Bool
  | ⟨[], [], none, [], [], none, []⟩ => true
  | _ => false
/-- pairs are stored in two names at once -/
def tgOk (c : C) (tg : Expr) : Bool := match c with
  | .enum _ => (match tg with
    | .Tuple _ _ _ => true
    | _ => false)
  | .zip _ _ => (match tg with
    | .Tuple _ _ _ => true
    | _ => false)
  | _ => true
mutual
def chkN (D : Dc) : C → Expr → Bool
  | .tv i, e => match e with
    | .Name x _ => D.tgt i x
    | _ => false
  | .tt ts, e => match e with
    | .Tuple l _ _ => D.calm && (decide (l.length = lenC ts) && chkNs D ts l)
    | _ => false
  | _, _ => false
def chkNs (D : Dc) : C → List Expr → Bool
  | .nil, l => match l with
    | [] => true
    | _ => false
  | .cons a b, l => match l with
    | e :: es => notStar e && (chkN D a e && chkNs D b es)
    | _ => false
  | _, _ => false
end
mutual
def chkE : Dc → C → Expr → Bool
  | D, .v i, e => match e with
    | .Name x _ => D.var i x
    | _ => false
  | D, .ki i, e => match e with
    | .Constant (.int j) _ _ => decide (i = j)
    | _ => false
  | D, .ks s, e => match e with
    | .Constant (.str t) _ _ => decide (s = t)
    | _ => false
  | D, .kb b, e => match e with
    | .Constant (.bool c) _ _ => decide (b = c)
    | _ => false
  | D, .kn, e => match e with
    | .Constant .none _ _ => true
    | _ => false
  | D, .gv w, e => match e with
    | .Name x _ => D.gv w x
    | _ => false
  | D, .op o a b, e => match e with
    | .BinOp ea op eb _ => decide (op = bopOf o) && (chkE D a ea && chkE D b eb)
    | _ => false
  | D, .neg a, e => match e with
    | .UnaryOp .USub ea _ => chkE D a ea
    | _ => false
  | D, .cm o a b, e => match e with
    | .Compare ea [op] [eb] _ => decide (op = copOf o) && (markOk op eb && (chkE D a ea && chkE D b eb))
    | _ => false
  | D, .ch o o' a b c, e => match e with
    | .Compare ea [op, op'] [eb, ec] _ => decide (op = copOf o) && (decide (op' = copOf o') && (markOk op' ec && (chkE D a ea && (chkE D b eb && chkE D c ec))))
    | _ => false
  | D, .and a b, e => match e with
    | .BoolOp .And [ea, eb] _ => chkE D a ea && chkE D b eb
    | .BoolOp .And (ea :: eb :: ec :: er) p => chkE D a ea && chkE D b (.BoolOp .And (eb :: ec :: er) p)
    | _ => false
  | D, .or a b, e => match e with
    | .BoolOp .Or [ea, eb] _ => chkE D a ea && chkE D b eb
    | .BoolOp .Or (ea :: eb :: ec :: er) p => chkE D a ea && chkE D b (.BoolOp .Or (eb :: ec :: er) p)
    | _ => false
  | D, .not a, e => match e with
    | .UnaryOp .Not ea _ => chkE D a ea
    | _ => false
  | D, .ifx c a b, e => match e with
    | .IfExp ec ea eb _ => chkT D c ec && (chkE D a ea && chkE D b eb)
    | _ => false
  | D, .tup es, e => match e with
    | .Tuple l _ _ => chkEs D es l
    | _ => false
  | D, .lst es, e => match e with
    | .List l _ => chkEs D es l
    | _ => false
  | D, .dct es, e => match e with
    | .Dict ks vs _ => evenC es && (decide (ks.length ≤ 15) && chkKv D es ks vs)
    | _ => false
  | D, .ix a i, e => match e with
    | .Subscript ea ei _ => !isSlice ei && (chkE D a ea && chkE D i ei)
    | _ => false
  | D, .call f es, e => match e with
    | .Call (.Name x _) l [] _ => D.fun_ f x && chkEs D es l
    | _ => false
  | D, .blt b es, e => match e with
    | .Call (.Name x _) l [] _ => (!biCalm b || D.calm) && (biOk b x && (D.fre x && (!l.isEmpty && chkEs D es l)))
    | _ => false
  | D, .callv i es, e => match e with
    | .Call (.Name x _) l [] _ => D.calm && (D.var i x && (!l.isEmpty && chkEs D es l))
    | _ => false
  | D, .flt f b, e => match e with
    | .Call (.Name x _) [.Lambda params body scope _] [] _ => D.lm && (D.calm && (D.flt_ f x && (LamX.lamSB D.sc scope && (noArgs params && chkE (lamD D scope) b body))))
    | _ => false
  | D, .tupr a, e => match e with
    | .Call (.Name x _) [.Call (.Name y _) [ea] [] _] [] _ => D.calm && (D.fre x && (decide (x = ("tuple" : Str)) && (D.fre y && (decide (y = ("range" : Str)) && (notStar ea && chkE D a ea)))))
    | _ => false
  | D, .unt a, e => chkE D a e
  | D, .btup a, e => match e with
    | .Call (.Name x _) [ea] [] _ => D.fre x && (decide (x = ("tuple" : Str)) && (notStar ea && chkE D a ea))
    | _ => false
  | D, .rvs a, e => match e with
    | .Subscript ea (.Slice none none (some (.UnaryOp .USub (.Constant (.int j) _ _) _)) _) _ => decide (j = 1) && chkE D a ea
    | _ => false
  | D, .sset a, e => match e with
    | .Call (.Name x _) [.Call (.Name y _) [ea] [] _] [] _ => D.calm && (D.fre x && (decide (x = ("sorted" : Str)) && (D.fre y && (decide (y = ("set" : Str)) && (notStar ea && chkE D a ea)))))
    | _ => false
  | D, .lc2 vs ce ct cit cc vs1 ct1 cit1 cc1, e => match e with
    | .ListComp elt [⟨tg, iter, ifs, a⟩, ⟨tg1, iter1, ifs1, b⟩] scope _ => decide (a = 0) && (decide (b = 0) && (D.calm && (blkC D.ns D.sc scope (ownOf D vs) && (vs1.all (fun i => decide (i ∈ vs)) && (nmT vs ct && (nmT vs1 ct1 && (chkN (blkD D scope) ct tg && (chkN (blkD D scope) ct1 tg1 && (tgOk cit tg && (tgOk cit1 tg1 &&
      (chkI D cit iter && (chkI (blkD D scope) cit1 iter1 && (chkE (blkD D scope) ce elt && ((match ifs with
      | [] => isNil cc
      | [c] => !isNil cc && chkT (blkD D scope) cc c
      | _ => false) && (match ifs1 with
      | [] => isNil cc1
      | [c] => !isNil cc1 && chkT (blkD D scope) cc1 c
      | _ => false)))))))))))))))
    | _ => false
  | D, .sl a lo hi, e => match e with
    | .Subscript ea (.Slice none none none _) _ => isNil lo && (isNil hi && chkE D a ea)
    | .Subscript ea (.Slice (some el) none none _) _ => isNil hi && (!isNil lo && (chkE D a ea && chkE D lo el))
    | .Subscript ea (.Slice none (some eh) none _) _ => isNil lo && (!isNil hi && (chkE D a ea && chkE D hi eh))
    | .Subscript ea (.Slice (some el) (some eh) none _) _ => !isNil lo && (!isNil hi && (chkE D a ea && (chkE D lo el && chkE D hi eh)))
    | _ => false
  | D, .mth m o es, e => match e with
    | .Call (.Attribute eo f ap) [ea] [] p => mtOk m f && (attrOk eo && ((ap.endLine == p.line) && (chkE D o eo && chkEs D es [ea])))
    | _ => false
  | D, .fld o f, e => match e with
    | .Attribute eo g _ => decide (f = g) && (attrOk eo && chkE D o eo)
    | _ => false
  | D, .lc vs ce ct cit cc, e => match e with
    | .ListComp elt [⟨tg, iter, ifs, a⟩] scope _ => decide (a = 0) && (D.calm && (blkC D.ns D.sc scope (ownOf D vs) && (nmT vs ct && (chkN (blkD D scope) ct tg && (tgOk cit tg && (chkI D cit iter && (chkE (blkD D scope) ce elt && (match ifs with
      | [] => isNil cc
      | [c] => !isNil cc && chkT (blkD D scope) cc c
      | _ => false))))))))
    | _ => false
  | _, _, _ => false
def chkI : Dc → C → Expr → Bool
  | D, .each a, e => !isSetI e && chkE D a e
  | D, .enum a, e => match e with
    | .Call (.Name x _) [ea] [] _ => D.fre x && (decide (x = ("enumerate" : Str)) && (notStar ea && chkE D a ea))
    | _ => false
  | D, .zip a b, e => match e with
    | .Call (.Name x _) [ea, eb] [] _ => D.fre x && (decide (x = ("zip" : Str)) && (notStar ea && (notStar eb && (chkE D a ea && chkE D b eb))))
    | _ => false
  | D, .rng1 a, e => match e with
    | .Call (.Name x _) [ea] [] _ => D.fre x && (decide (x = ("range" : Str)) && (notStar ea && chkE D a ea))
    | _ => false
  | _, _, _ => false
def chkT : Dc → C → Expr → Bool
  | D, .cm o a b, e => match e with
    | .Compare ea [op] [eb] _ => decide (op = copOf o) && (markOk op eb && (chkE D a ea && chkE D b eb))
    | _ => false
  | D, .and a b, e => match e with
    | .BoolOp .And [ea, eb] _ => chkT D a ea && chkT D b eb
    | .BoolOp .And (ea :: eb :: ec :: er) p => chkT D a ea && chkT D b (.BoolOp .And (eb :: ec :: er) p)
    | _ => false
  | D, .or a b, e => match e with
    | .BoolOp .Or [ea, eb] _ => chkT D a ea && chkT D b eb
    | .BoolOp .Or (ea :: eb :: ec :: er) p => chkT D a ea && chkT D b (.BoolOp .Or (eb :: ec :: er) p)
    | _ => false
  | D, .not a, e => match e with
    | .UnaryOp .Not ea _ => chkT D a ea
    | _ => false
  | D, .v i, e => match e with
    | .Name x _ => D.var i x
    | _ => false
  | D, .kb b, e => match e with
    | .Constant (.bool c) _ _ => decide (b = c)
    | _ => false
  | D, .ix a i, e => match e with
    | .Subscript ea ei _ => !isSlice ei && (chkE D a ea && chkE D i ei)
    | _ => false
  | D, .call f es, e => match e with
    | .Call (.Name x _) l [] _ => D.fun_ f x && chkEs D es l
    | _ => false
  | D, .blt b es, e => match e with
    | .Call (.Name x _) l [] _ => (!biCalm b || D.calm) && (biOk b x && (D.fre x && (!l.isEmpty && chkEs D es l)))
    | _ => false
  | D, .ch o o' a b c, e => match e with
    | .Compare ea [op, op'] [eb, ec] _ => decide (op = copOf o) && (decide (op' = copOf o') && (markOk op' ec && (chkE D a ea && (chkE D b eb && chkE D c ec))))
    | _ => false
  | _, _, _ => false
def chkEs : Dc → C → List Expr → Bool
  | D, .nil, l => match l with
    | [] => true
    | _ => false
  | D, .cons a b, l => match l with
    | e :: es => notStar e && (chkE D a e && chkEs D b es)
    | _ => false
  | _, _, _ => false
def chkKv : Dc → C → List (Option Expr) → List Expr → Bool
  | D, .nil, ks, vs => match ks, vs with
    | [], [] => true
    | _, _ => false
  | D, .cons k r, ks, vs => match ks with
    | some ek :: ks => chkE D k ek && chkVk D r ks vs
    | _ => false
  | _, _, _, _ => false
def chkVk : Dc → C → List (Option Expr) → List Expr → Bool
  | D, .cons v r, ks, vs => match vs with
    | ev :: vs => chkE D v ev && chkKv D r ks vs
    | _ => false
  | _, _, _, _ => false
end
mutual
def chkG (D : Dc) : C → Expr → Bool
  | .tv i, e => match e with
    | .Name x _ => D.tgt i x
    | _ => false
  | .tt ts, e => match e with
    | .Tuple l _ _ => D.calm && (decide (l.length = lenC ts) && chkGs D ts l)
    | _ => false
  | .tix o i, e => match e with
    | .Subscript eo ei _ => !isSlice ei && (chkE D o eo && chkE D i ei)
    | _ => false
  | _, _ => false
def chkGs (D : Dc) : C → List Expr → Bool
  | .nil, l => match l with
    | [] => true
    | _ => false
  | .cons a b, l => match l with
    | e :: es => notStar e && (chkG D a e && chkGs D b es)
    | _ => false
  | _, _ => false
end
/-- a, b = x, y of plain names -/
def par2 (D : Dc) (t c : C) (et e : Expr) : Bool := match t, c, et, e with
  | .tt (.cons (.tv i) (.cons (.tv j) .nil)), .tup es, .Tuple [.Name x px, .Name y py] _ _, .Tuple [a, b] _ _ =>
    D.calm && (!D.blk && (D.lcl i x && (D.lcl j y && (decide (i ≠ j) && (decide (x ≠ y) && ((py.line == px.line) && ([a, b].all notStar && (!([a, b].all (foldedForSure 8)) && (!([a, b].all (constantsAlone 8)) && chkEs D es [a, b])))))))))
  | _, _, _, _ => false
def par3 (D : Dc) (t c : C) (et e : Expr) : Bool := match t, c, et, e with
  | .tt (.cons (.tv i) (.cons (.tv j) (.cons (.tv l) .nil))), .tup es, .Tuple [.Name x px, .Name y py, .Name z pz] _ _, .Tuple [a, b, c] _ _ =>
    D.calm && (!D.blk && (D.lcl i x && (D.lcl j y && (D.lcl l z && (decide (i ≠ j) && (decide (i ≠ l) && (decide (j ≠ l) && (decide (x ≠ y) && (decide (x ≠ z) && (decide (y ≠ z) && ((py.line == px.line) && ((pz.line == px.line) &&
      ([a, b, c].all notStar && (!([a, b, c].all (foldedForSure 8)) && (!([a, b, c].all (constantsAlone 8)) && chkEs D es [a, b, c])))))))))))))))
  | _, _, _, _ => false
def plain1 (D : Dc) (t c : C) (et e : Expr) : Bool := plainTg et && (!isLC e && (swapFree et e && (chkG D t et && chkE D c e)))
def isLcC : C → Bool
  | .lc .. => true
  | .lc2 .. => true
  | _ => false
/-- x = [..] on one line -/
def setLc (D : Dc) (t c : C) (et e : Expr) : Bool := match t, et, e with
  | .tv i, .Name y py, .ListComp _ _ scope pos => isLcC c && (!D.blk && (decide (D.sc.kind = .function) && (D.lcl i y && ((py.line == pos.line) && (!(scope.names.any fun (n, k) => n == y && (k == .local || k == .cell)) && chkE D c e)))))
  | _, _, _ => false
/-- x += e and the like, of a plain name -/
def augB (D : Dc) (t c : C) (et : Expr) (op : Operator) (e : Expr) : Bool := match t, c, et with
  | .tv i, .op o (.v j) ce, .Name x _ => decide (i = j) && (decide (iopOf o = some op) && (D.lcl i x && chkE D ce e))
  | _, _, _ => false
mutual
def chkS : C → Dc → Stmt → Bool
  | .set t c, D, s => match s with
    | .Assign [et] e _ => plain1 D t c et e || (par2 D t c et e || (par3 D t c et e || setLc D t c et e))
    | .AugAssign et op e _ => augB D t c et op e
    | _ => false
  | .ex c, D, s => match s with
    | .Expr e _ => !isLC e && chkE D c e
    | _ => false
  | .ret c, D, s => match s with
    | .Return (some e) _ => chkE D c e
    | _ => false
  | .retn, D, s => match s with
    | .Return none _ => true
    | _ => false
  | .pass, D, s => match s with
    | .Pass _ => true
    | _ => false
  | .brk, D, s => match s with
    | .Break _ => true
    | _ => false
  | .cnt, D, s => match s with
    | .Continue _ => true
    | _ => false
  | .ite c a b, D, s => match s with
    | .If e p q _ => chkT D c e && (chkSs a D p && chkSs b D q)
    | _ => false
  | .whl c b, D, s => match s with
    | .While e p [] _ => chkT D c e && chkSs b D p
    | _ => false
  | .for_ t it b, D, s => match s with
    | .For et ei p [] _ => D.calm && (chkG D t et && (chkSs b D p && (tgOk it et && chkI D it ei)))
    | _ => false
  | .rais k es, D, s => match s with
    | .Raise (some (.Call (.Name x _) l [] _)) none _ => D.calm && (D.cls_ k x && (chkEs D es l && (match D.T.cls[k]? with
      | some q => (l.isEmpty == q.fs.isEmpty)
      | none => false)))
    | _ => false
  | .try_ b k i c, D, s => match s with
    | .Try body [.ExceptHandler (some (.Name x _)) (some n) (b0 :: suite) _] [] [] _ => D.calm && (!D.blk && (D.cls_ k x && (D.lcl i n && (chkSs b D body && chkSs c (hotOff D) (b0 :: suite)))))
    | _ => false
  | _, _, _ => false
def chkSs : C → Dc → List Stmt → Bool
  | .nil, D, l => match l with
    | [] => true
    | _ => false
  | .cons a b, D, l => match l with
    | s :: r => chkS a D s && chkSs b D r
    | _ => false
  | _, _, _ => false
end
end Mini
set_option Elab.async false
set_option linter.all false
set_option maxRecDepth 100000
set_option maxHeartbeats 4000000
/-! Mini against the model: what is checked runs as its core says: expressions. -/
namespace Mini
open PySem PySem.Spec PyProof.Rows L2
open L2H (RoomH Hot1 PinOk HotC)
/-! ### what stands around a text -/
def Nm.wex (N : Nm) (e : Option (Nat × Addr × Option Addr)) : Nm := { N with ex := e }
structure Md (T : Tab) (N : Nm) (K : PySem.W.Frag) (mg : Str → Option Value) (Γ : Sys) : Prop where
  fnN : ∀ i r, T.rows[i]? = some r → N.fn i = r.name ∧ mg r.name = some (.ref (He.ga K r.name)) ∧ PySem.W.keepIn K (.ref (He.ga K r.name)) = true
  clN : ∀ c q, T.cls[c]? = some q → N.cls c = q.name ∧ N.flds c = q.fs ∧ mg q.name = some (.ref (He.ga K q.name)) ∧ Γ.isx c = true
  free : ∀ x ∈ T.free, mg x = none
  xf : XF N K Γ
  exm : ∀ c d, Γ.isx c = true → Γ.isx d = true → PySem.W.exmOne K (.ref (He.ga K (N.cls c))) (.ref (He.ga K (N.cls d))) = some (Γ.sub c d)
  nums : ∀ p ∈ T.nums, ∃ t, mg p.1 = some (.int p.2 t)
  isf : ∀ f, Γ.isf f = true → ∃ r, T.rows[f]? = some r
theorem XF.wex {N : Nm} {K : PySem.W.Frag} {Γ : Sys} (x : XF N K Γ) (e : Option (Nat × Addr × Option Addr)) : XF (N.wex e) K Γ := ⟨x.hcl, x.hga, x.hgt, x.hsub, x.hdi, x.ha, x.hm, x.hn, x.htk, x.kit, x.kitT, x.fld, x.flds, x.ndf⟩
theorem Md.wex {T : Tab} {N : Nm} {K : PySem.W.Frag} {mg : Str → Option Value} {Γ : Sys} (x : Md T N K mg Γ) (e : Option (Nat × Addr × Option Addr)) : Md T (N.wex e) K mg Γ := ⟨x.fnN, x.clN, x.free, x.xf.wex e, x.exm, x.nums, x.isf⟩
/-- how a call of a def ends, by its Mini meaning -/
def SpM (N : Nm) (K : PySem.W.Frag) (m : List Val → MH → Res Val) : Sp := fun vs H Q E => ∃ ρ h ws, RelH N K ρ h H ∧ VRs N K ρ H ws vs ∧ Post N K ρ H E (VR N K) (m ws h) Q
/-- no error is handled, or the one that N knows -/
def ModeAt (N : Nm) (K : PySem.W.Frag) (isx : Nat → Bool) (A : Around) (outer : List Env) (s : Shared) (H : L2.Hp) : Prop :=
  (N.ex = none ∧ A.handled = none) ∨ ∃ c a d oe, N.ex = some (c, a, d) ∧ isx c = true ∧ Hot1 A (a, oe) ∧ PinOk outer H s (a, oe) ∧ Zc (.ref (He.ga K (N.cls c))) d oe ∧ ∃ vs, oe.data = .fields vs
/-- a def keeps the meaning m, k calls deep -/
def Prom (P : Program) (w : World) (K : PySem.W.Frag) (mg : Str → Option Value) (base : Heap) (N : Nm) (isx : Nat → Bool) (k : Nat) (f : Addr) (m : List Val → MH → Res Val) : Prop :=
  ∃ (fd : FuncData) (ps : List Str), Binds K fd ps [] ∧ (∀ ws h, ws.length ≠ ps.length → m ws h = .bad) ∧
    ∀ (A : Around) (outer : List Env) (s : Shared) (H : L2.Hp) (args : Args) (us : List Value) (vs : List V) (Q : VK) (E : XK), RoomH (k + 4) A → A.guards = some [] → ModeAt N K isx A outer s H → Env0 P w K mg base A outer s H →
      BindsTo s fd args (ps.zip us) → Vals vs us → SpM N K m vs H Q E → codeAny (model P w) A (.call (.ref f) args) (CR (L2N.CX P w) outer P w H s Q E) s
/-- a class whose objects may be raised -/
def RaiseF (P : Program) (w : World) (K : PySem.W.Frag) (mg : Str → Option Value) (base : Heap) (q : Cl) : Prop :=
  (q.fs = [] ∧ PySem.W.excIn K (He.ga K q.name) He.veBase "ValueError.__new__" = true ∧ PySem.W.keepIn K (.ref (He.ga K q.name)) = true ∧ PySem.W.subIn K (.ref (He.ga K q.name)) (.type "BaseException") = some true ∧ PySem.W.typeIn K (.ref (He.ga K q.name)) = some (.type "type")) ∨
  (q.fs ≠ [] ∧ q.fs.Nodup ∧ q.fs.length ≤ 900 ∧ OexC K (He.ga K q.name) ∧ ∃ (fI : Addr) (fd : FuncData) (ps : List Str), PySem.W.findIn K (.ref (He.ga K q.name)) "__init__" = some (some (.ref fI)) ∧ PySem.W.typeIn K (.ref fI) = some (.type "function") ∧
    FnOk P w K mg base (L2N.CX P w) 1 fI fd ps (spInit (He.ga K q.name) q.fs) ∧ Binds K fd ps [])
structure Ok (D : Dc) (N : Nm) (X : Cx) (W : WX) (Γ : Sys) (k : Nat) : Prop where
  B : Base X
  sc : X.env.scope = D.sc
  ns : X.N = D.ns
  nd : D.ns.Nodup
  fn : ∀ x, D.fn x = true → X.fn x = true
  top : D.blk = false → X.env.blockKind = .function ∧ X.stack = X.env :: X.outer ∧ X.env.frame = some X.env.locals
  md : Md D.T N X.K X.mg Γ
  room : RoomH (k + 4) X.A
  po : PassesOwn (model X.prog X.w) X.A X.env X.xe
  tk : L2N.Takes X W
  hot : HotE N X Γ
  mode : (D.calm = true ∧ X.calm = true ∧ N.ex = none ∧ X.A.handled = none) ∨ (D.calm = false ∧ ∃ e, N.ex = some e)
  pr : ∀ i r, D.T.rows[i]? = some r → Prom X.prog X.w X.K X.mg X.base (N.wex none) Γ.isx k (He.ga X.K r.name) (Γ.call i) ∧ (r.hot = true → ∀ e, Prom X.prog X.w X.K X.mg X.base (N.wex (some e)) Γ.isx k (He.ga X.K r.name) (Γ.call i))
  rs : ∀ q ∈ D.T.cls, RaiseF X.prog X.w X.K X.mg X.base q
  pf : ∀ i r, D.T.rows[i]? = some r → r.flt.isSome = true → PromF X.prog X.w X.K X.mg X.base (N.wex none) k (He.ga X.K r.name) (Γ.thunk i)
  lm : D.lm = true → LamM N X
  rm : D.lm = true → ∀ e1 e2 : Env, RoomH (k + 4) ((X.A.deeper e1).deeper e2)
section
variable {N : Nm} {X : Cx} {W : WX} {Γ : Sys} {D : Dc} {k : Nat}
theorem Nm.wex_self {N : Nm} {e : Option (Nat × Addr × Option Addr)} (h : N.ex = e) : N.wex e = N := by
  subst h
  rfl
theorem plainNm_ok {x : Str} (h : plainNm x = true) : (x == ("__debug__" : Str)) = false ∧ (x == ("__classdict__" : Str)) = false := by
  unfold plainNm at h
  simpa only [Bool.and_eq_true, Bool.not_eq_true'] using h
theorem Ok.vis (O : Ok D N X W Γ k) {i : Nat} {x : Str} (h : D.var i x = true) : X.N[i]? = some x ∧ Vis X.env.scope x ∧ (x == ("__debug__" : Str)) = false ∧ (x == ("__classdict__" : Str)) = false := by
  unfold Dc.var at h
  rw [Bool.and_eq_true, Bool.and_eq_true] at h
  rw [O.ns, O.sc]
  refine ⟨of_decide_eq_true h.1, ?_, plainNm_ok h.2.2⟩
  have h2 := h.2.1
  split at h2
  · exact .inl (by assumption)
  · exact .inr (.inl (by assumption))
  · exact .inr (.inr (by assumption))
  · cases h2
theorem Ok.loc (O : Ok D N X W Γ k) {i : Nat} {x : Str} (h : D.tgt i x = true) : X.N[i]? = some x ∧ Loc X.env.scope x ∧ (X.fn x = true ∨ X.env.scope.names.lookup x = some .local) := by
  unfold Dc.tgt at h
  rw [Bool.and_eq_true, Bool.and_eq_true] at h
  have fn := O.fn x
  rw [O.ns, O.sc]
  refine ⟨of_decide_eq_true h.1, ?_⟩
  have h2 := h.2.1
  split at h2
  · exact ⟨.inl (by assumption), .inr (by assumption)⟩
  · exact ⟨.inr (by assumption), .inl (fn h2)⟩
  · cases h2
theorem Ok.lcl (O : Ok D N X W Γ k) {i : Nat} {x : Str} (h : D.lcl i x = true) : X.N[i]? = some x ∧ X.env.scope.names.lookup x = some .local ∧ (x == ("__debug__" : Str)) = false ∧ (x == ("__classdict__" : Str)) = false := by
  unfold Dc.lcl at h
  rw [Bool.and_eq_true, Bool.and_eq_true] at h
  rw [O.ns, O.sc]
  exact ⟨of_decide_eq_true h.1, of_decide_eq_true h.2.1, plainNm_ok h.2.2⟩
theorem Ok.gl (O : Ok D N X W Γ k) {x : Str} (h : D.glo x = true) : Gl X x ∧ (x == ("__debug__" : Str)) = false := by
  unfold Dc.glo at h
  simp only [Bool.and_eq_true, decide_eq_true_eq, Bool.not_eq_true'] at h
  refine ⟨?_, h.2⟩
  show X.env.scope.names.lookup x = some .globalImplicit
  rw [O.sc]
  exact h.1
theorem Ok.fre (O : Ok D N X W Γ k) {x : Str} (h : D.fre x = true) : Gl X x ∧ (x == ("__debug__" : Str)) = false ∧ X.mg x = none := by
  unfold Dc.fre at h
  rw [Bool.and_eq_true] at h
  exact ⟨(O.gl h.1).1, (O.gl h.1).2, O.md.free x (of_decide_eq_true h.2)⟩
theorem Ok.call_ok (O : Ok D N X W Γ k) {f : Addr} {m : List Val → MH → Res Val} (pr : Prom X.prog X.w X.K X.mg X.base N Γ.isx k f m) : CallOk N X W f m := by
  intro pins s σ H us vs Q I r q
  obtain ⟨fd, ps, hb, ar, run⟩ := pr
  obtain ⟨ρ, h, ws, rh, rw_, p⟩ := id q
  have hl : us.length = ps.length := by
    rw [← r.length, rw_.length]
    by_cases z : ws.length = ps.length
    · exact z
    · rw [ar ws h z] at p
      exact p.elim
  have b := hb s us I.kIn (by rw [List.append_nil]; exact hl)
  rw [List.append_nil] at b
  have mode : ModeAt N X.K Γ.isx X.A X.stack s H := by
    rcases O.mode with ⟨_, _, z1, z2⟩ | ⟨_, ⟨c, a, d⟩, z⟩
    · exact .inl ⟨z1, z2⟩
    · obtain ⟨ix, oe, hp, hz, hv, hh⟩ := O.hot c a d z
      have P1 := I.pin (a, oe) (List.mem_append_left _ hp)
      exact .inr ⟨c, a, d, oe, z, ix, hh, ⟨P1.1, P1.2.1, fun hm => (List.mem_cons.mp (I.stkSub a hm)).elim P1.2.2.1 P1.2.2.2.1, P1.2.2.2.2⟩, hz, hv⟩
  refine wpAny_call (codeAny_mono (run X.A X.stack s H ⟨us, []⟩ us vs Q (WE W σ) O.room O.B.guards mode I.env0 b r q) fun res s' hq => ?_)
  cases res with
  | error e => exact L2N.passAt O.tk σ pins H s e s' I hq
  | ok fl =>
    cases fl with
    | ret u => exact I.after hq
    | next => exact False.elim hq
    | brk => exact False.elim hq
    | cont => exact False.elim hq
theorem Ok.fun_ (O : Ok D N X W Γ k) {i : Nat} {x : Str} (h : D.fun_ i x = true) : ∃ r, D.T.rows[i]? = some r ∧ r.name = x ∧ Gl X x ∧ (x == ("__debug__" : Str)) = false ∧ X.mg x = some (.ref (He.ga X.K x)) ∧ PySem.W.keepIn X.K (.ref (He.ga X.K x)) = true ∧ CallOk N X W (He.ga X.K x) (Γ.call i) := by
  unfold Dc.fun_ at h
  rw [Bool.and_eq_true] at h
  obtain ⟨h1, h2⟩ := h
  cases hr : D.T.rows[i]? with
  | none =>
    rw [hr] at h2
    cases h2
  | some r =>
    rw [hr] at h2
    dsimp only at h2
    rw [Bool.and_eq_true] at h2
    have e := of_decide_eq_true h2.1
    subst e
    obtain ⟨_, f2, f3⟩ := O.md.fnN i r hr
    obtain ⟨p1, p2⟩ := O.pr i r hr
    refine ⟨r, rfl, rfl, (O.gl h1).1, (O.gl h1).2, f2, f3, O.call_ok ?_⟩
    rcases O.mode with ⟨z0, _, z1, z2⟩ | ⟨z0, e, z⟩
    · rw [Nm.wex_self z1] at p1
      exact p1
    · have hh : r.hot = true := by
        have := h2.2
        rw [z0] at this
        simpa using this
      have p3 := p2 hh e
      rw [Nm.wex_self z] at p3
      exact p3
theorem Ok.cls_ (O : Ok D N X W Γ k) {c : Nat} {x : Str} (h : D.cls_ c x = true) : ∃ q, D.T.cls[c]? = some q ∧ q.name = x ∧ Gl X x ∧ (x == ("__debug__" : Str)) = false ∧ X.mg x = some (.ref (He.ga X.K x)) ∧ N.cls c = x ∧ N.flds c = q.fs ∧ Γ.isx c = true ∧ q ∈ D.T.cls := by
  unfold Dc.cls_ at h
  rw [Bool.and_eq_true] at h
  obtain ⟨h1, h2⟩ := h
  cases hr : D.T.cls[c]? with
  | none =>
    rw [hr] at h2
    cases h2
  | some q =>
    rw [hr] at h2
    have e := of_decide_eq_true h2
    subst e
    obtain ⟨f1, f2, f3, f4⟩ := O.md.clN c q hr
    exact ⟨q, rfl, rfl, (O.gl h1).1, (O.gl h1).2, f3, f1, f2, f4, List.mem_of_getElem? hr⟩
theorem Ok.calm_ (O : Ok D N X W Γ k) (h : D.calm = true) : X.calm = true ∧ N.ex = none ∧ X.A.handled = none := by
  rcases O.mode with ⟨_, z⟩ | ⟨z, _⟩
  · exact z
  · rw [z] at h
    cases h
theorem x_biS (O : Ok D N X W Γ k) {b : Bi} {x : Str} {e : Expr} {es : List Expr} {ces : C} {p pos : Pos} (hcm : (!biCalm b || D.calm) = true) (hb : biOk b x = true) (hf : D.fre x = true) (ha : PA X (e :: es) (sA N X.K W (evEs Γ ces))) (hs : notStar e = true) (hss : es.all notStar = true) :
    PE X (.Call (.Name x p) (e :: es) [] pos) (sE N X.K W (evE Γ (.blt b ces))) := by
  obtain ⟨g, d, m⟩ := O.fre hf
  cases b with
  | len =>
    have ex := of_decide_eq_true hb
    subst ex
    exact x_bB (bi := .len) (b_len (N := N)) g m (by decide +kernel) ha (by decide) d hs hss
  | int =>
    have ex := of_decide_eq_true hb
    subst ex
    exact x_bT (bi := .int) (b_int (N := N)) g m (by decide +kernel) ha (by decide) d hs hss
  | list =>
    have ex := of_decide_eq_true hb
    subst ex
    exact x_bT (bi := .list) (b_list (N := N)) g m (by decide +kernel) ha (by decide) d hs hss
  | tuple =>
    have ex := of_decide_eq_true hb
    subst ex
    exact x_bT (bi := .tuple) (b_tup (N := N)) g m (by decide +kernel) ha (by decide) d hs hss
  | isinstance =>
    have ex := of_decide_eq_true hb
    subst ex
    exact x_bB (bi := .isinstance) (b_isi O.md.xf O.hot) g m (by decide +kernel) ha (by decide) d hs hss
  | repr =>
    have ex := of_decide_eq_true hb
    subst ex
    exact x_bB (bi := .repr) (b_repr (N := N) O.B) g m (by decide +kernel) ha (by decide) d hs hss
  | all =>
    have ex := of_decide_eq_true hb
    subst ex
    exact x_bB (bi := .all) (b_all (N := N) (O.calm_ hcm).1) g m (by decide +kernel) ha (by decide) d hs hss
  | any =>
    have ex := of_decide_eq_true hb
    subst ex
    exact x_bB (bi := .any) (b_any (N := N) (O.calm_ hcm).1) g m (by decide +kernel) ha (by decide) d hs hss
  | _ => cases hb
theorem boot_gv : ∀ n ∈ gvTys, bootBuiltins (Str.ofString n) = some (.type n) ∧ Str.ofString n ≠ "__name__" := by
  have h : (gvTys.all fun n => decide (bootBuiltins (Str.ofString n) = some (.type n)) && decide (Str.ofString n ≠ ("__name__" : Str))) = true := by decide +kernel
  intro n hn
  have z := List.all_eq_true.mp h n hn
  rw [Bool.and_eq_true] at z
  exact ⟨of_decide_eq_true z.1, of_decide_eq_true z.2⟩
theorem okGv (O : Ok D N X W Γ k) {w : Val} {x : Str} {p : Pos} (h : D.gv w x = true) : PE X (.Name x p) (sE N X.K W (evE Γ (.gv w))) := by
  cases w with
  | cls c =>
    obtain ⟨q, _, hq, g, d, m, hn, _⟩ := O.cls_ (show D.cls_ c x = true from h)
    exact x_glob (v := .ref (He.ga X.K x)) g m rfl (fun ρ H => by simp only [VR]; rw [hn]) d
  | int i =>
    have h' : (D.glo x && decide ((x, i) ∈ D.T.nums)) = true := h
    rw [Bool.and_eq_true] at h'
    obtain ⟨g, d⟩ := O.gl h'.1
    obtain ⟨t, m⟩ := O.md.nums _ (of_decide_eq_true h'.2)
    exact x_glob (v := .int i) g m ⟨t, rfl⟩ (fun ρ H => by simp only [VR]) d
  | fn i =>
    have h' : (D.glo x && (match D.T.rows[i]? with
      | some r => decide (r.name = x)
      | none => false)) = true := h
    rw [Bool.and_eq_true] at h'
    obtain ⟨g, d⟩ := O.gl h'.1
    obtain ⟨_, h2⟩ := h'
    cases hr : D.T.rows[i]? with
    | none =>
      rw [hr] at h2
      cases h2
    | some r =>
      rw [hr] at h2
      have e := of_decide_eq_true h2
      subst e
      obtain ⟨f1, f2, _⟩ := O.md.fnN i r hr
      exact x_glob (v := .ref (He.ga X.K r.name)) g f2 rfl (fun ρ H => by simp only [VR]; rw [f1]) d
  | ty n =>
    have h' : (D.fre x && (gvTys.contains n && decide (x = Str.ofString n))) = true := h
    rw [Bool.and_eq_true, Bool.and_eq_true] at h'
    obtain ⟨h1, h2, h3⟩ := h'
    obtain ⟨g, d, m⟩ := O.fre h1
    have e2 := of_decide_eq_true h3
    subst e2
    obtain ⟨b1, b2⟩ := boot_gv n (List.contains_iff_mem.mp h2)
    exact x_bltn (v := .ty n) g m b1 rfl (fun ρ H => by simp only [VR]) b2 d
  | _ => cases h
theorem okMt (O : Ok D N X W Γ k) {m : Mt} {o e : Expr} {f : Str} {ca ces : C} {pos apos : Pos} (hm : mtOk m f = true) (ho : PE X o (sE N X.K W (evE Γ ca))) (ha : PA X [e] (sA N X.K W (evEs Γ ces))) (hb : attrOk o = true) (hl : (apos.endLine == pos.line) = true) (hs : notStar e = true) :
    PE X (.Call (.Attribute o f apos) [e] [] pos) (sE N X.K W (evE Γ (.mth m ca ces))) := by
  cases m with
  | append =>
    have e1 := of_decide_eq_true hm
    subst e1
    exact x_mth1 (m := .append) PySem.F.plainAttrs_list PySem.F.slot_list_append PySem.F.type_list_append (m_append (N := N)) tyV_list ho ha hb hl hs
  | extend =>
    have e1 := of_decide_eq_true hm
    subst e1
    exact x_mth1 (m := .extend) PySem.F.plainAttrs_list PySem.F.slot_list_extend PySem.F.type_list_extend (m_extend (N := N)) (fun rh r t => tyV_list rh r t) ho ha hb hl hs
  | count =>
    have e1 := of_decide_eq_true hm
    subst e1
    exact x_count ho ha hb hl hs
  | _ => cases hm
/-- a def that a name holds may be called -/
theorem Ok.fnAt (O : Ok D N X W Γ k) (hc : D.calm = true) : FnAt N X W Γ := fun f hf => by
  obtain ⟨r, hr⟩ := O.md.isf f hf
  obtain ⟨f1, f2, f3⟩ := O.md.fnN f r hr
  obtain ⟨p1, _⟩ := O.pr f r hr
  rw [Nm.wex_self (O.calm_ hc).2.1] at p1
  rw [f1]
  exact ⟨f3, O.call_ok p1⟩
/-- the context of a lambda's body -/
theorem Ok.lam (O : Ok D N X W Γ k) (hl : D.lm = true) (hc : D.calm = true) (scope : Scope) (e1 : Env) (outer : List Env) (s1 : Shared) (H : L2.Hp) (E : XK) (f c' : Addr) : Ok (lamD D scope) N (lamC X (X.A.deeper e1) outer s1 H E scope f c') (fun c d _ H' => E c d H') Γ k := by
  have room := O.rm hl e1 (LamX.lamEnv X scope s1.heap.objs.size f c')
  obtain ⟨_, z1, z2⟩ := O.calm_ hc
  refine ⟨⟨O.B.guards, by have := room.un; exact Nat.lt_of_le_of_lt (by show ((X.A.deeper e1).deeper _).units + 200 ≤ ((X.A.deeper e1).deeper _).units + 16 * (k + 4) + 200; omega) this, O.B.sysm⟩, rfl, O.ns, O.nd, (fun x h => by cases h), (fun z => by cases z), O.md, room, passes_of rfl, L2N.takes_of rfl rfl rfl rfl, (fun c a d h => by rw [z1] at h; cases h), .inl ⟨hc, rfl, z1, z2⟩, O.pr, O.rs, O.pf, (fun z => by cases z), fun z => by cases z⟩
theorem noArgs_ok {params : Arguments} (h : noArgs params = true) : params = ⟨[], [], none, [], [], none, []⟩ := by
  unfold noArgs at h
  split at h
  · rfl
  · cases h
theorem pe_one {e : Expr} {t : TE} {o : BoolOp} {p : Pos} (h : PE X e t) : PE X (.BoolOp o [e] p) t := ⟨fun pins s σ H Q I q => h.run pins s σ H Q I q⟩
/-- the context of a comprehension's block -/
theorem Ok.blk (O : Ok D N X W Γ k) (hc : D.calm = true) (scope : Scope) (s : Shared) (H : L2.Hp) (A : Addr) (cl : List (Str × Addr)) (fp : List Addr) : Ok (blkD D scope) N (X.blk s H scope (compEnvC scope cl A X.env) fp) NW Γ k := by
  have m := O.mode
  refine ⟨⟨O.B.guards, O.B.un, O.B.sysm⟩, ?_, O.ns, O.nd, (fun x h => h), (fun z => by cases z), O.md, O.room, PassesOwn.never, ?_, ?_, ?_, O.pr, O.rs, O.pf, (fun z => by cases z), fun z => by cases z⟩
  · show relS scope X.env.scope = relS scope D.sc
    rw [O.sc]
  · rintro u s' ⟨_, _, _, _, _, _, _, _, _, _, _, _, _, _, _, _, z⟩
    exact z.elim
  · intro c a d h
    rcases m with ⟨_, _, z, _⟩ | ⟨z, _⟩
    · rw [z] at h
      cases h
    · rw [z] at hc
      cases hc
  · rcases m with z | ⟨z, _⟩
    · exact .inl z
    · rw [z] at hc
      cases hc
mutual
theorem okN (O : Ok D N X W Γ k) {vs : List Nat} : ∀ (c : C) (e : Expr), nmT vs c = true → chkN D c e = true → PG X e (sGv N X.K vs (asg Γ c)) := by
  intro c e hn h
  cases c with
  | tv i =>
    unfold chkN at h
    split at h
    · obtain ⟨h1, h2, h3⟩ := O.loc h
      unfold nmT at hn
      exact v_tv (List.contains_iff_mem.mp hn) (by rw [O.ns]; exact O.nd) h1 h2 h3
    · cases h
  | tt ts =>
    unfold chkN at h
    split at h
    · rw [Bool.and_eq_true, Bool.and_eq_true] at h
      obtain ⟨h1, h2, h3⟩ := h
      unfold nmT at hn
      obtain ⟨g1, g2⟩ := okNs O ts _ hn h3
      refine v_tt ?_ g1 (of_decide_eq_true h2) g2
      rcases O.mode with ⟨_, z, _⟩ | ⟨z, _⟩
      · exact z
      · rw [z] at h1
        cases h1
    · cases h
  | _ => (unfold chkN at h; cases h)
theorem okNs (O : Ok D N X W Γ k) {vs : List Nat} : ∀ (c : C) (l : List Expr), nmTs vs c = true → chkNs D c l = true → PGs X l (sGvs N X.K vs (asgs Γ c)) ∧ l.all notStar = true := by
  intro c l hn h
  cases c with
  | nil =>
    unfold chkNs at h
    split at h
    · exact ⟨v_nil, rfl⟩
    · cases h
  | cons a b =>
    unfold chkNs at h
    split at h
    · rw [Bool.and_eq_true, Bool.and_eq_true] at h
      obtain ⟨h1, h2, h3⟩ := h
      unfold nmTs at hn
      rw [Bool.and_eq_true] at hn
      obtain ⟨g1, g2⟩ := okNs O b _ hn.2 h3
      exact ⟨v_cons (okN O a _ hn.1 h2) g1 h1 hn.1, by rw [List.all_cons, h1, g2]; rfl⟩
    · cases h
  | _ => (unfold chkNs at h; cases h)
end
theorem chkI_set {D : Dc} {c : C} {e : Expr} (h : chkI D c e = true) : isSetI e = false := by
  cases c with
  | each a =>
    unfold chkI at h
    rw [Bool.and_eq_true, Bool.not_eq_true'] at h
    exact h.1
  | rng1 a =>
    unfold chkI at h
    split at h
    · rfl
    · cases h
  | enum a =>
    unfold chkI at h
    split at h
    · rfl
    · cases h
  | zip a b =>
    unfold chkI at h
    split at h
    · rfl
    · cases h
  | _ => (unfold chkI at h; cases h)
theorem tup_of {tg : Expr} (h : (match tg with
    | .Tuple _ _ _ => true
    | _ => false) = true) : ∃ a b c, tg = .Tuple a b c := by
  cases tg <;> first | exact ⟨_, _, _, rfl⟩ | cases h
mutual
theorem okE : ∀ {D : Dc} {N : Nm} {X : Cx} {W : WX} (O : Ok D N X W Γ k) (c : C) (e : Expr), chkE D c e = true → PE X e (sE N X.K W (evE Γ c)) := by
  intro D N X W O c e h
  cases c with
  | v i =>
    unfold chkE at h
    split at h
    · obtain ⟨h1, h2, h3, h4⟩ := O.vis h
      exact x_var h1 h2 h3 h4
    · cases h
  | ki i =>
    unfold chkE at h
    split at h
    · have z := of_decide_eq_true h
      subst z
      exact x_int
    · cases h
  | ks s =>
    unfold chkE at h
    split at h
    · have z := of_decide_eq_true h
      subst z
      exact x_str
    · cases h
  | kb b =>
    unfold chkE at h
    split at h
    · have z := of_decide_eq_true h
      subst z
      exact x_bl
    · cases h
  | kn =>
    unfold chkE at h
    split at h
    · exact x_non
    · cases h
  | gv w =>
    unfold chkE at h
    split at h
    · exact okGv O h
    · cases h
  | op o a b =>
    unfold chkE at h
    split at h
    · rw [Bool.and_eq_true, Bool.and_eq_true] at h
      obtain ⟨h1, h2, h3⟩ := h
      have z := of_decide_eq_true h1
      subst z
      exact x_bop o (okE O a _ h2) (okE O b _ h3)
    · cases h
  | neg a =>
    unfold chkE at h
    split at h
    · exact x_neg (okE O a _ h)
    · cases h
  | cm o a b =>
    unfold chkE at h
    split at h
    · rw [Bool.and_eq_true, Bool.and_eq_true, Bool.and_eq_true] at h
      obtain ⟨h1, h2, h3, h4⟩ := h
      have z := of_decide_eq_true h1
      subst z
      exact x_cm O.B o (okE O a _ h3) (okE O b _ h4) (behind h2)
    · cases h
  | ch o o' a b c =>
    unfold chkE at h
    split at h
    · simp only [Bool.and_eq_true] at h
      obtain ⟨h1, h2, h3, h4, h5, h6⟩ := h
      have z := of_decide_eq_true h1
      have z2 := of_decide_eq_true h2
      subst z z2
      exact x_ch O.B o o' (okE O a _ h4) (okE O b _ h5) (okE O c _ h6) (behind h3)
    · cases h
  | and a b =>
    unfold chkE at h
    split at h
    · rw [Bool.and_eq_true] at h
      exact x_andV (okE O a _ h.1) (pe_one (okE O b _ h.2))
    · rw [Bool.and_eq_true] at h
      exact x_andV (okE O a _ h.1) (okE O b _ h.2)
    · cases h
  | or a b =>
    unfold chkE at h
    split at h
    · rw [Bool.and_eq_true] at h
      exact x_orV (okE O a _ h.1) (pe_one (okE O b _ h.2))
    · rw [Bool.and_eq_true] at h
      exact x_orV (okE O a _ h.1) (okE O b _ h.2)
    · cases h
  | not a =>
    unfold chkE at h
    split at h
    · exact x_notV (okE O a _ h)
    · cases h
  | ifx c a b =>
    unfold chkE at h
    split at h
    · rw [Bool.and_eq_true, Bool.and_eq_true] at h
      exact x_ifx (okT O c _ h.1) (okE O a _ h.2.1) (okE O b _ h.2.2)
    · cases h
  | tup es =>
    unfold chkE at h
    split at h
    · exact x_tup (okEs O es _ h).1
    · cases h
  | lst es =>
    unfold chkE at h
    split at h
    · exact x_lst (okEs O es _ h).1
    · cases h
  | dct es =>
    unfold chkE at h
    split at h
    · rename_i ks vs p
      rw [Bool.and_eq_true, Bool.and_eq_true] at h
      obtain ⟨h1, h2, h3⟩ := h
      obtain ⟨g1, g2, g3⟩ := okKv (pos := p) O es ks vs h3
      cases ks with
      | nil =>
        cases vs with
        | cons _ _ => cases g3
        | nil =>
          cases es with
          | nil => exact x_dct0
          | _ =>
            first
              | (unfold chkKv at h3; cases h3)
              | cases h1
      | cons q ks => exact x_dct g1 h1 g2 g3 (by simp) (of_decide_eq_true h2)
    · cases h
  | ix a i =>
    unfold chkE at h
    split at h
    · rw [Bool.and_eq_true, Bool.and_eq_true, Bool.not_eq_true'] at h
      exact x_ix O.B (okE O a _ h.2.1) (okE O i _ h.2.2) (plainix h.1)
    · cases h
  | call f es =>
    unfold chkE at h
    split at h
    · rename_i x p l p2
      rw [Bool.and_eq_true] at h
      obtain ⟨h1, h2⟩ := h
      obtain ⟨r, _, _, g, d, m, kp, ok⟩ := O.fun_ h1
      obtain ⟨g1, g2⟩ := okEs O es l h2
      cases l with
      | nil =>
        cases es with
        | nil => exact x_call0 g m kp ok d
        | _ => (unfold chkEs at h2; cases h2)
      | cons e l =>
        rw [List.all_cons, Bool.and_eq_true] at g2
        exact x_call g m kp ok g1 d g2.1 g2.2
    · cases h
  | blt b es =>
    unfold chkE at h
    split at h
    · rename_i x p l p2
      rw [Bool.and_eq_true, Bool.and_eq_true, Bool.and_eq_true, Bool.and_eq_true] at h
      obtain ⟨h0, h1, h2, h3, h4⟩ := h
      obtain ⟨g1, g2⟩ := okEs O es l h4
      cases l with
      | nil => cases h3
      | cons e l =>
        rw [List.all_cons, Bool.and_eq_true] at g2
        exact x_biS O h0 h1 h2 g1 g2.1 g2.2
    · cases h
  | callv i es =>
    unfold chkE at h
    split at h
    · rename_i x p l p2
      simp only [Bool.and_eq_true] at h
      obtain ⟨h0, h1, h2, h3⟩ := h
      obtain ⟨v1, v2, v3, v4⟩ := O.vis h1
      obtain ⟨g1, g2⟩ := okEs O es l h3
      cases l with
      | nil => cases h2
      | cons e l =>
        rw [List.all_cons, Bool.and_eq_true] at g2
        exact x_callv (O.fnAt h0) v1 v2 v3 v4 g1 g2.1 g2.2
    · cases h
  | flt f b =>
    unfold chkE at h
    split at h
    · rename_i x p params body scope lpos p2
      simp only [Bool.and_eq_true] at h
      obtain ⟨h1, h2, h3, h4, h5, h6⟩ := h
      have ea := noArgs_ok h5
      subst ea
      unfold Dc.flt_ at h3
      rw [Bool.and_eq_true] at h3
      obtain ⟨g, d⟩ := O.gl h3.1
      obtain ⟨_, h3⟩ := h3
      cases hr : D.T.rows[f]? with
      | none =>
        rw [hr] at h3
        cases h3
      | some r =>
        rw [hr] at h3
        dsimp only at h3
        rw [Bool.and_eq_true] at h3
        have e := of_decide_eq_true h3.1
        subst e
        obtain ⟨_, f2, f3⟩ := O.md.fnN f r hr
        obtain ⟨_, z1, z2⟩ := O.calm_ h2
        have pf := O.pf f r hr h3.2
        rw [Nm.wex_self z1] at pf
        refine x_flt (O.lm h1) pf g f2 f3 d (LamX.lamS_by (by rw [O.sc]; exact h4)) rfl (fun _ _ _ _ _ => rfl) O.tk z2 z1 O.B.guards O.room (fun e1 => ?_) fun e1 outer s1 H E f c' => okE (O.lam h1 h2 scope e1 outer s1 H E f c') b body h6
        have := (O.rm h1 e1 e1).dp
        have e2 : ((X.A.deeper e1).deeper e1).depth = (X.A.deeper e1).depth + 1 := rfl
        omega
    · cases h
  | tupr a =>
    unfold chkE at h
    split at h
    · simp only [Bool.and_eq_true] at h
      obtain ⟨h0, h1, h2, h3, h4, h5, h6⟩ := h
      have e1 := of_decide_eq_true h2
      have e2 := of_decide_eq_true h4
      subst e1 e2
      obtain ⟨f1, _, f3⟩ := O.fre h1
      obtain ⟨g1, _, g3⟩ := O.fre h3
      exact x_tupr (O.calm_ h0).1 f1 f3 g1 g3 (okE O a _ h6) h5
    · cases h
  | unt a =>
    unfold chkE at h
    exact x_unt (okE O a e h)
  | btup a =>
    unfold chkE at h
    split at h
    · simp only [Bool.and_eq_true] at h
      obtain ⟨h1, h2, h3, h4⟩ := h
      have e1 := of_decide_eq_true h2
      subst e1
      obtain ⟨f1, _, f3⟩ := O.fre h1
      exact x_btup f1 f3 (okE O a _ h4) h3
    · cases h
  | rvs a =>
    unfold chkE at h
    split at h
    · simp only [Bool.and_eq_true] at h
      obtain ⟨h1, h2⟩ := h
      have e1 := of_decide_eq_true h1
      subst e1
      exact x_rvs (okE O a _ h2)
    · cases h
  | sset a =>
    unfold chkE at h
    split at h
    · simp only [Bool.and_eq_true] at h
      obtain ⟨h0, h1, h2, h3, h4, h5, h6⟩ := h
      have e1 := of_decide_eq_true h2
      have e2 := of_decide_eq_true h4
      subst e1 e2
      obtain ⟨f1, _, f3⟩ := O.fre h1
      obtain ⟨g1, _, g3⟩ := O.fre h3
      exact x_sset (O.calm_ h0).1 f1 f3 g1 g3 (okE O a _ h6) h5
    · cases h
  | lc2 vs ce ct cit cc vs1 ct1 cit1 cc1 =>
    unfold chkE at h
    split at h
    · rename_i elt tg iter ifs a tg1 iter1 ifs1 b scope p
      simp only [Bool.and_eq_true] at h
      obtain ⟨h0, h00, h1, h2, hv1, h3, h31, h4, h41, h45, h46, h5, h51, h6, h7, h8⟩ := h
      have e0 := of_decide_eq_true h0
      have e1 := of_decide_eq_true h00
      subst e0 e1
      have g1 := okI O cit iter h5 (tg := tg) h45
      have g2 := chkI_set h5
      have hc := O.calm_ h1
      have bok : BlkOk X.N X.env.scope scope (ownOf D vs) := blkOk_by (by rw [O.ns, O.sc]; exact h2)
      have hv : (ownOf D vs).map (·.2) = vs := by
        unfold ownOf
        rw [List.map_map]
        exact List.map_id vs
      have hv2 : ∀ i ∈ vs1, i ∈ vs := fun i hi => of_decide_eq_true (List.all_eq_true.mp hv1 i hi)
      have OB := fun s H A cl fp => O.blk h1 scope s H A cl fp
      refine x_lc2 hc.1 (by rw [O.ns]; exact O.nd) g1 bok hv hv2 h3 h31 (fun s H A cl fp => okN (OB s H A cl fp) ct tg h3 h4) (fun s H A cl fp => ?_) (fun s H A cl fp => okI (OB s H A cl fp) cit1 iter1 h51 (tg := tg1) h46) (fun s H A cl fp => okN (OB s H A cl fp) ct1 tg1 h31 h41) (fun s H A cl fp => ?_) (fun s H A cl fp => okE (OB s H A cl fp) ce elt h6) g2 (chkI_set h51)
      · split at h7
        · unfold tTest
          rw [if_pos h7]
          exact pts_nil
        · rw [Bool.and_eq_true, Bool.not_eq_true'] at h7
          unfold tTest
          rw [if_neg (by rw [h7.1]; decide)]
          exact pts_one (okT (OB s H A cl fp) cc _ h7.2)
        · cases h7
      · split at h8
        · unfold tTest
          rw [if_pos h8]
          exact pts_nil
        · rw [Bool.and_eq_true, Bool.not_eq_true'] at h8
          unfold tTest
          rw [if_neg (by rw [h8.1]; decide)]
          exact pts_one (okT (OB s H A cl fp) cc1 _ h8.2)
        · cases h8
    · cases h
  | sl a lo hi =>
    unfold chkE at h
    split at h
    · simp only [Bool.and_eq_true] at h
      obtain ⟨h1, h2, h3⟩ := h
      cases lo <;> first | (cases h1; done) | (cases hi <;> first | (cases h2; done) | exact x_sl (okE O a _ h3) x_po0 x_po0)
    · simp only [Bool.and_eq_true, Bool.not_eq_true'] at h
      obtain ⟨h1, h2, h3, h4⟩ := h
      cases hi <;> first | (cases h1; done) | exact x_sl (okE O a _ h3) (x_po1 (okE O lo _ h4) h2) x_po0
    · simp only [Bool.and_eq_true, Bool.not_eq_true'] at h
      obtain ⟨h1, h2, h3, h4⟩ := h
      cases lo <;> first | (cases h1; done) | exact x_sl (okE O a _ h3) x_po0 (x_po1 (okE O hi _ h4) h2)
    · simp only [Bool.and_eq_true, Bool.not_eq_true'] at h
      obtain ⟨h1, h2, h3, h4, h5⟩ := h
      exact x_sl (okE O a _ h3) (x_po1 (okE O lo _ h4) h1) (x_po1 (okE O hi _ h5) h2)
    · cases h
  | mth m o es =>
    unfold chkE at h
    split at h
    · rw [Bool.and_eq_true, Bool.and_eq_true, Bool.and_eq_true, Bool.and_eq_true] at h
      obtain ⟨h1, h2, h3, h4, h5⟩ := h
      obtain ⟨g1, g2⟩ := okEs O es _ h5
      rw [List.all_cons, Bool.and_eq_true] at g2
      exact okMt O h1 (okE O o _ h4) g1 h2 h3 g2.1
    · cases h
  | fld o f =>
    unfold chkE at h
    split at h
    · rw [Bool.and_eq_true, Bool.and_eq_true] at h
      obtain ⟨h1, h2, h3⟩ := h
      have z := of_decide_eq_true h1
      subst z
      exact x_fld O.md.xf O.hot (okE O o _ h3) (attrb h2)
    · cases h
  | lc vs ce ct cit cc =>
    unfold chkE at h
    split at h
    · rename_i elt tg iter ifs a scope p
      simp only [Bool.and_eq_true] at h
      obtain ⟨h0, h1, h2, h3, h4, h45, h5, h6, h7⟩ := h
      have e0 := of_decide_eq_true h0
      subst e0
      have g1 := okI O cit iter h5 (tg := tg) h45
      have g2 := chkI_set h5
      have hc : X.calm = true ∧ N.ex = none := by
        rcases O.mode with ⟨_, z, y, _⟩ | ⟨z, _⟩
        · exact ⟨z, y⟩
        · rw [z] at h1
          cases h1
      have bok : BlkOk X.N X.env.scope scope (ownOf D vs) := blkOk_by (by rw [O.ns, O.sc]; exact h2)
      have hv : (ownOf D vs).map (·.2) = vs := by
        unfold ownOf
        rw [List.map_map]
        exact List.map_id vs
      have OB := fun s H A cl fp => O.blk h1 scope s H A cl fp
      refine x_lc hc.1 (by rw [O.ns]; exact O.nd) g1 bok hv h3 (fun s H A cl fp => okN (OB s H A cl fp) ct tg h3 h4) (fun s H A cl fp => ?_) (fun s H A cl fp => okE (OB s H A cl fp) ce elt h6) g2
      split at h7
      · unfold tTest
        rw [if_pos h7]
        exact pts_nil
      · rw [Bool.and_eq_true, Bool.not_eq_true'] at h7
        unfold tTest
        rw [if_neg (by rw [h7.1]; decide)]
        exact pts_one (okT (OB s H A cl fp) cc _ h7.2)
      · cases h7
    · cases h
  | _ => (unfold chkE at h; cases h)
theorem okI : ∀ {D : Dc} {N : Nm} {X : Cx} {W : WX} (O : Ok D N X W Γ k) (c : C) (e : Expr), chkI D c e = true → ∀ {tg : Expr}, tgOk c tg = true → PI X tg e (sI N X.K W (evI Γ c)) := by
  intro D N X W O c e h tg ht
  cases c with
  | each a =>
    unfold chkI at h
    rw [Bool.and_eq_true, Bool.not_eq_true'] at h
    exact i_each (okE O a e h.2)
  | rng1 a =>
    unfold chkI at h
    split at h
    · simp only [Bool.and_eq_true] at h
      obtain ⟨g1, g2, g3, g4⟩ := h
      have e1 := of_decide_eq_true g2
      subst e1
      obtain ⟨f1, f2, f3⟩ := O.fre g1
      exact i_rng f1 f3 (okE O a _ g4) g3
    · cases h
  | enum a =>
    unfold chkI at h
    split at h
    · simp only [Bool.and_eq_true] at h
      obtain ⟨g1, g2, g3, g4⟩ := h
      have e1 := of_decide_eq_true g2
      subst e1
      obtain ⟨f1, f2, f3⟩ := O.fre g1
      obtain ⟨_, _, _, rfl⟩ := tup_of ht
      exact i_enum f1 f3 (okE O a _ g4) g3
    · cases h
  | zip a b =>
    unfold chkI at h
    split at h
    · simp only [Bool.and_eq_true] at h
      obtain ⟨g1, g2, g3, g4, g5, g6⟩ := h
      have e1 := of_decide_eq_true g2
      subst e1
      obtain ⟨f1, f2, f3⟩ := O.fre g1
      obtain ⟨_, _, _, rfl⟩ := tup_of ht
      exact i_zip f1 f3 (okE O a _ g5) (okE O b _ g6) g3 g4
    · cases h
  | _ => (unfold chkI at h; cases h)
theorem okT : ∀ {D : Dc} {N : Nm} {X : Cx} {W : WX} (O : Ok D N X W Γ k) (c : C) (e : Expr), chkT D c e = true → PT X e (sT N X.K W (evT Γ c)) := by
  intro D N X W O c e h
  cases c with
  | cm o a b =>
    unfold chkT at h
    split at h
    · rw [Bool.and_eq_true, Bool.and_eq_true, Bool.and_eq_true] at h
      obtain ⟨h1, h2, h3, h4⟩ := h
      have z := of_decide_eq_true h1
      subst z
      exact x_cmT O.B o (okE O a _ h3) (okE O b _ h4) (behind h2)
    · cases h
  | and a b =>
    unfold chkT at h
    split at h
    · rw [Bool.and_eq_true] at h
      exact (x_andT (okT O a _ h.1) (pw_and1 (okT O b _ h.2))).pt
    · rw [Bool.and_eq_true] at h
      exact (x_andT (okT O a _ h.1) (okW O b _ _ _ h.2)).pt
    · cases h
  | or a b =>
    unfold chkT at h
    split at h
    · rw [Bool.and_eq_true] at h
      exact (x_orT (okT O a _ h.1) (pw_or1 (okT O b _ h.2))).pt
    · rw [Bool.and_eq_true] at h
      exact (x_orT (okT O a _ h.1) (okW O b _ _ _ h.2)).pt
    · cases h
  | not a =>
    unfold chkT at h
    split at h
    · exact x_notT (okT O a _ h)
    · cases h
  | v i =>
    unfold chkT at h
    split at h
    · obtain ⟨h1, h2, h3, h4⟩ := O.vis h
      exact x_tru (x_var h1 h2 h3 h4) (ist rfl)
    · cases h
  | kb b =>
    unfold chkT at h
    split at h
    · have z := of_decide_eq_true h
      subst z
      exact x_tru x_bl (ist rfl)
    · cases h
  | ix a i =>
    unfold chkT at h
    split at h
    · rw [Bool.and_eq_true, Bool.and_eq_true, Bool.not_eq_true'] at h
      exact x_tru (x_ix O.B (okE O a _ h.2.1) (okE O i _ h.2.2) (plainix h.1)) (ist rfl)
    · cases h
  | call f es =>
    unfold chkT at h
    split at h
    · rename_i x p l p2
      rw [Bool.and_eq_true] at h
      obtain ⟨h1, h2⟩ := h
      obtain ⟨r, _, _, g, d, m, kp, ok⟩ := O.fun_ h1
      obtain ⟨g1, g2⟩ := okEs O es l h2
      cases l with
      | nil =>
        cases es with
        | nil => exact x_tru (x_call0 g m kp ok d) (ist rfl)
        | _ => (unfold chkEs at h2; cases h2)
      | cons e l =>
        rw [List.all_cons, Bool.and_eq_true] at g2
        exact x_tru (x_call g m kp ok g1 d g2.1 g2.2) (ist rfl)
    · cases h
  | blt b es =>
    unfold chkT at h
    split at h
    · rename_i x p l p2
      rw [Bool.and_eq_true, Bool.and_eq_true, Bool.and_eq_true, Bool.and_eq_true] at h
      obtain ⟨h0, h1, h2, h3, h4⟩ := h
      obtain ⟨g1, g2⟩ := okEs O es l h4
      cases l with
      | nil => cases h3
      | cons e l =>
        rw [List.all_cons, Bool.and_eq_true] at g2
        exact x_tru (x_biS O h0 h1 h2 g1 g2.1 g2.2) (ist rfl)
    · cases h
  | ch o o' a b c =>
    unfold chkT at h
    split at h
    · simp only [Bool.and_eq_true] at h
      obtain ⟨h1, h2, h3, h4, h5, h6⟩ := h
      have z := of_decide_eq_true h1
      have z2 := of_decide_eq_true h2
      subst z z2
      exact x_chT O.B o o' (okE O a _ h4) (okE O b _ h5) (okE O c _ h6) (behind h3)
    · cases h
  | _ => (unfold chkT at h; cases h)
theorem okW : ∀ {D : Dc} {N : Nm} {X : Cx} {W : WX} (O : Ok D N X W Γ k) (c : C) (o : BoolOp) (l : List Expr) (p : Pos), chkT D c (.BoolOp o l p) = true → PW X (.BoolOp o l p) (sT N X.K W (evT Γ c)) := by
  intro D N X W O c o l p h
  cases c with
  | and a b =>
    unfold chkT at h
    split at h
    · rename_i e1
      cases e1
      rw [Bool.and_eq_true] at h
      exact x_andT (okT O a _ h.1) (pw_and1 (okT O b _ h.2))
    · rename_i e1
      cases e1
      rw [Bool.and_eq_true] at h
      exact x_andT (okT O a _ h.1) (okW O b _ _ _ h.2)
    · cases h
  | or a b =>
    unfold chkT at h
    split at h
    · rename_i e1
      cases e1
      rw [Bool.and_eq_true] at h
      exact x_orT (okT O a _ h.1) (pw_or1 (okT O b _ h.2))
    · rename_i e1
      cases e1
      rw [Bool.and_eq_true] at h
      exact x_orT (okT O a _ h.1) (okW O b _ _ _ h.2)
    · cases h
  | _ => (unfold chkT at h; cases h)
theorem okEs : ∀ {D : Dc} {N : Nm} {X : Cx} {W : WX} (O : Ok D N X W Γ k) (c : C) (l : List Expr), chkEs D c l = true → PA X l (sA N X.K W (evEs Γ c)) ∧ l.all notStar = true := by
  intro D N X W O c l h
  cases c with
  | nil =>
    unfold chkEs at h
    split at h
    · exact ⟨x_nil, rfl⟩
    · cases h
  | cons a b =>
    unfold chkEs at h
    split at h
    · rw [Bool.and_eq_true, Bool.and_eq_true] at h
      obtain ⟨h1, h2, h3⟩ := h
      obtain ⟨g1, g2⟩ := okEs O b _ h3
      exact ⟨x_cons (okE O a _ h2) g1 h1, by rw [List.all_cons, h1, g2]; rfl⟩
    · cases h
  | _ => (unfold chkEs at h; cases h)
theorem okKv : ∀ {D : Dc} {N : Nm} {X : Cx} {W : WX} (O : Ok D N X W Γ k) {pos : Pos} (c : C) (ks : List (Option Expr)) (vs : List Expr), chkKv D c ks vs = true → PPs X pos ks vs (trsOf N X.K W Γ c) ∧ ks.all (·.isSome) = true ∧ ks.length = vs.length := by
  intro D N X W O pos c ks vs h
  cases c with
  | nil =>
    unfold chkKv at h
    split at h
    · exact ⟨pps_nil, rfl, rfl⟩
    · cases h
  | cons k r =>
    unfold chkKv at h
    split at h
    · rw [Bool.and_eq_true] at h
      obtain ⟨v, r2, ev, vs', rfl, rfl, g1, g2, g3, g4⟩ := okVk (pos := pos) O r _ _ h.2
      exact ⟨pps_cons (okE O k _ h.1) g1 g2, by rw [List.all_cons, g3]; rfl, by rw [List.length_cons, List.length_cons, g4]⟩
    · cases h
  | _ => (unfold chkKv at h; cases h)
theorem okVk : ∀ {D : Dc} {N : Nm} {X : Cx} {W : WX} (O : Ok D N X W Γ k) {pos : Pos} (c : C) (ks : List (Option Expr)) (vs : List Expr), chkVk D c ks vs = true → ∃ v r ev vs', c = .cons v r ∧ vs = ev :: vs' ∧ PE X ev (sE N X.K W (evE Γ v)) ∧ PPs X pos ks vs' (trsOf N X.K W Γ r) ∧ ks.all (·.isSome) = true ∧ ks.length = vs'.length := by
  intro D N X W O pos c ks vs h
  cases c with
  | cons v r =>
    unfold chkVk at h
    split at h
    · rw [Bool.and_eq_true] at h
      obtain ⟨g1, g2, g3⟩ := okKv (pos := pos) O r _ _ h.2
      exact ⟨v, r, _, _, rfl, rfl, okE O v _ h.1, g1, g2, g3⟩
    · cases h
  | _ => (unfold chkVk at h; cases h)
end
end
end Mini
set_option Elab.async false
set_option linter.all false
set_option maxRecDepth 100000
set_option maxHeartbeats 4000000
/-! Mini against the model: what is checked runs as its core says: statements. -/
namespace Mini
open PySem PySem.Spec PyProof.Rows L2
open L2H (RoomH Hot1 PinOk HotC)
section
variable {N : Nm} {X : Cx} {W : WX} {Γ : Sys} {D : Dc} {k : Nat}
/-! ### another handled error -/
section
variable {K : PySem.W.Frag} {ρ : List Addr} {H : L2.Hp} {e : Option (Nat × Addr × Option Addr)}
mutual
theorem VR.sw : ∀ (x : Val) (v : V), dat x = true → VR N K ρ H x v → VR (N.wex e) K ρ H x v
  | .non, v, _, h => h
  | .bl b, v, _, h => h
  | .int i, v, _, h => h
  | .str s, v, _, h => h
  | .tup xs, v, _, h => by
    simp only [VR] at h ⊢
    obtain ⟨a, vs, e1, t, r, dd⟩ := h
    exact ⟨a, vs, e1, t, VRs.sw xs vs dd r, dd⟩
  | .fl xs, v, _, h => by
    simp only [VR] at h ⊢
    obtain ⟨a, vs, e1, t, r, dd⟩ := h
    exact ⟨a, vs, e1, t, VRs.sw xs vs dd r, dd⟩
  | .tp xs, v, _, h => by
    simp only [VR] at h ⊢
    obtain ⟨a, vs, e1, t, r, dd⟩ := h
    exact ⟨a, vs, e1, t, VRs.sw xs vs dd r, dd⟩
  | .ref i, v, _, h => h
  | .ty n, v, _, h => h
  | .fn i, v, _, h => h
  | .cls i, v, _, h => h
  | .exn c fs, v, d, h => by cases d
  | .clo _ _, v, _, h => by
    simp only [VR] at h
  | .own _, v, _, h => by
    simp only [VR] at h
theorem VRs.sw : ∀ (x : List Val) (v : List V), x.all dat = true → VRs N K ρ H x v → VRs (N.wex e) K ρ H x v
  | [], v, _, h => h
  | x :: xs, v, d, h => by
    rw [List.all_cons, Bool.and_eq_true] at d
    simp only [VRs] at h ⊢
    obtain ⟨u, r, e1, h1, h2⟩ := h
    exact ⟨u, r, e1, VR.sw x u d.1 h1, VRs.sw xs r d.2 h2⟩
end
theorem VR.calm (hn : N.ex = none) {x : Val} {v : V} (h : VR N K ρ H x v) : VR (N.wex e) K ρ H x v := by
  cases x with
  | exn c fs =>
    simp only [VR] at h
    obtain ⟨a, d, vs, e1, _⟩ := h
    rw [hn] at e1
    cases e1
  | _ => exact VR.sw _ v rfl h
theorem VRs.calm (hn : N.ex = none) : ∀ {x : List Val} {v : List V}, VRs N K ρ H x v → VRs (N.wex e) K ρ H x v
  | [], v, h => h
  | x :: xs, v, h => by
    simp only [VRs] at h ⊢
    obtain ⟨u, r, e1, h1, h2⟩ := h
    exact ⟨u, r, e1, h1.calm hn, VRs.calm hn h2⟩
theorem DR.sw : ∀ (ps : List (Val × Val)) (kv : List (Key × V)), DR N K ρ H ps kv → DR (N.wex e) K ρ H ps kv
  | [], kv, h => h
  | p :: ps, kv, h => by
    simp only [DR] at h ⊢
    obtain ⟨c, v, r, e1, h1, h2, dd, h3⟩ := h
    exact ⟨c, v, r, e1, h1, VR.sw _ _ dd h2, dd, DR.sw ps r h3⟩
theorem OR.sw {a : Addr} : ∀ {o : Obj}, OR N K ρ H a o → OR (N.wex e) K ρ H a o
  | .lst xs, h => by
    simp only [OR] at h ⊢
    obtain ⟨vs, h1, h2, dd⟩ := h
    exact ⟨vs, h1, VRs.sw xs vs dd h2, dd⟩
  | .dic kvs, h => by
    simp only [OR] at h ⊢
    obtain ⟨vs, h1, h2⟩ := h
    exact ⟨vs, h1, DR.sw _ _ h2⟩
  | .set _, h => by
    simp only [OR] at h
  | .ins _ _, h => by
    simp only [OR] at h
theorem RelH.sw {h : MH} (r : RelH N K ρ h H) : RelH (N.wex e) K ρ h H := ⟨r.len, r.nd, fun i a o e1 e2 => (r.obj i a o e1 e2).sw, r.tb⟩
theorem FR.calm (hn : N.ex = none) {τ : MF} {σ : L2.St} (f : FR N K ρ H τ σ) : FR (N.wex e) K ρ H τ σ := ⟨f.len, fun i x h => let ⟨v, h1, h2⟩ := f.at_ i x h; ⟨v, h1, h2.calm hn⟩⟩
theorem FR.sw {τ : MF} {σ : L2.St} (d : τ.all datO = true) (f : FR N K ρ H τ σ) : FR (N.wex e) K ρ H τ σ :=
  ⟨f.len, fun i x h => let ⟨v, h1, h2⟩ := f.at_ i x h; ⟨v, h1, VR.sw x v (List.all_eq_true.mp d _ (List.mem_of_getElem? h)) h2⟩⟩
theorem FR.unset {τ : MF} {σ : L2.St} (f : FR N K ρ H τ σ) (i : Nat) : FR N K ρ H (τ.set i none) (σ.set i none) := by
  refine ⟨by simp [f.len], fun j y h => ?_⟩
  by_cases hj : i = j
  · subst hj
    rw [List.getElem?_set] at h
    by_cases hl : i < τ.length
    · rw [if_pos rfl, if_pos hl] at h
      cases h
    · rw [if_pos rfl, if_neg hl] at h
      cases h
  · rw [List.getElem?_set_ne hj] at h
    rw [List.getElem?_set_ne hj]
    exact f.at_ j y h
end
theorem wex_wex {e f : Option (Nat × Addr × Option Addr)} : (N.wex e).wex f = N.wex f := rfl

/-! ### targets -/
mutual
theorem okG (O : Ok D N X W Γ k) : ∀ (c : C) (e : Expr), chkG D c e = true → PG X e (sG N X.K W (asg Γ c)) := by
  intro c e h
  cases c with
  | tv i =>
    unfold chkG at h
    split at h
    · obtain ⟨h1, h2, h3⟩ := O.loc h
      exact g_tv (by rw [O.ns]; exact O.nd) h1 h2 h3
    · cases h
  | tt ts =>
    unfold chkG at h
    split at h
    · rw [Bool.and_eq_true, Bool.and_eq_true] at h
      obtain ⟨h1, h2, h3⟩ := h
      obtain ⟨g1, g2⟩ := okGs O ts _ h3
      refine g_tt ?_ g1 (of_decide_eq_true h2) g2
      rcases O.mode with ⟨_, z, _⟩ | ⟨z, _⟩
      · exact z
      · rw [z] at h1
        cases h1
    · cases h
  | tix o i =>
    unfold chkG at h
    split at h
    · rw [Bool.and_eq_true, Bool.and_eq_true, Bool.not_eq_true'] at h
      exact g_tix O.B (okE O o _ h.2.1) (okE O i _ h.2.2) h.1
    · cases h
  | _ => (unfold chkG at h; cases h)
theorem okGs (O : Ok D N X W Γ k) : ∀ (c : C) (l : List Expr), chkGs D c l = true → PGs X l (sGs N X.K W (asgs Γ c)) ∧ l.all notStar = true := by
  intro c l h
  cases c with
  | nil =>
    unfold chkGs at h
    split at h
    · exact ⟨gs_nil, rfl⟩
    · cases h
  | cons a b =>
    unfold chkGs at h
    split at h
    · rw [Bool.and_eq_true, Bool.and_eq_true] at h
      obtain ⟨h1, h2, h3⟩ := h
      obtain ⟨g1, g2⟩ := okGs O b _ h3
      exact ⟨gs_cons (okG O a _ h2) g1 h1, by rw [List.all_cons, h1, g2]; rfl⟩
    · cases h
  | _ => (unfold chkGs at h; cases h)
end
theorem swapFree_ok {t e : Expr} {env : PySem.Env} (h : swapFree t e = true) : swappedStores [t] e env = pure none := by
  cases t with
  | Tuple ts a b =>
    cases e with
    | Tuple vs c d =>
      have h' : (!(ts.length == 2 || ts.length == 3) || !(vs.length == ts.length)) = true := h
      unfold swappedStores
      dsimp only
      refine if_pos ?_
      have : (vs.length != ts.length) = !(vs.length == ts.length) := rfl
      rw [this, h']
      rfl
    | _ => rfl
  | List _ _ => cases h
  | _ => rfl
theorem plainTg_star {t : Expr} (h : plainTg t = true) : notStar t = true := by
  cases t <;> first | rfl | cases h
theorem okSet (O : Ok D N X W Γ k) {t c : C} {et e : Expr} {pos : Pos} (h : (plain1 D t c et e || (par2 D t c et e || (par3 D t c et e || setLc D t c et e))) = true) : PS X (.Assign [et] e pos) (sS N X.K W (evS Γ (.set t c))) := by
  rw [Bool.or_eq_true, Bool.or_eq_true, Bool.or_eq_true] at h
  have nd : X.N.Nodup := by rw [O.ns]; exact O.nd
  rcases h with h | h | h | h
  · unfold plain1 at h
    simp only [Bool.and_eq_true, Bool.not_eq_true'] at h
    obtain ⟨h1, h2, h3, h4, h5⟩ := h
    exact x_set (okE O c e h5) (okG O t et h4) h2 (plainTg_star h1) (swapFree_ok h3)
  · unfold par2 at h
    split at h
    · simp only [Bool.and_eq_true, Bool.not_eq_true', decide_eq_true_eq] at h
      obtain ⟨h0, hb, h1, h2, h3, h4, h5, h6, h7, h8, h9⟩ := h
      obtain ⟨a1, a2, _⟩ := O.lcl h1
      obtain ⟨b1, b2, _⟩ := O.lcl h2
      exact x_par2 (O.calm_ h0).1 nd a1 b1 h3 (O.top hb).1 a2 b2 (okEs O _ _ h9).1 h5 h4 h6 h7 h8
    · cases h
  · unfold par3 at h
    split at h
    · simp only [Bool.and_eq_true, Bool.not_eq_true', decide_eq_true_eq] at h
      obtain ⟨h0, hb, h1, h2, h3, h4, h5, h6, h7, h8, h9, h10, h11, h12, h13, h14, h15⟩ := h
      obtain ⟨a1, a2, _⟩ := O.lcl h1
      obtain ⟨b1, b2, _⟩ := O.lcl h2
      obtain ⟨c1, c2, _⟩ := O.lcl h3
      exact x_par3 (O.calm_ h0).1 nd a1 b1 c1 h4 h5 h6 (O.top hb).1 a2 b2 c2 (okEs O _ _ h15).1 h10 h11 h7 h8 h9 h12 h13 h14
    · cases h
  · unfold setLc at h
    split at h
    · rename_i i y py elt gs scope lpos
      simp only [Bool.and_eq_true, Bool.not_eq_true', decide_eq_true_eq] at h
      obtain ⟨hlc, hb, hk, hy, hl, hno, h⟩ := h
      obtain ⟨y1, y2, _⟩ := O.lcl hy
      cases c with
      | lc vs ce ct cit cc =>
        unfold chkE at h
        split at h
        · rename_i e0
          cases e0
          simp only [Bool.and_eq_true] at h
          obtain ⟨h0, h1, h2, h3, h4, h45, h5, h6, h7⟩ := h
          have e0 := of_decide_eq_true h0
          subst e0
          have bok : BlkOk X.N X.env.scope scope (ownOf D vs) := blkOk_by (by rw [O.ns, O.sc]; exact h2)
          have hv : (ownOf D vs).map (·.2) = vs := by
            unfold ownOf
            rw [List.map_map]
            exact List.map_id vs
          have OB := fun s H A cl fp => O.blk h1 scope s H A cl fp
          refine x_setLc (O.calm_ h1).1 nd y1 y2 (by rw [O.sc]; exact hk) hl hno (okI O cit _ h5 h45) bok hv h3 (fun s H A cl fp => okN (OB s H A cl fp) ct _ h3 h4) (fun s H A cl fp => ?_) (fun s H A cl fp => okE (OB s H A cl fp) ce _ h6) (chkI_set h5)
          split at h7
          · unfold tTest
            rw [if_pos h7]
            exact pts_nil
          · rw [Bool.and_eq_true, Bool.not_eq_true'] at h7
            unfold tTest
            rw [if_neg (by rw [h7.1]; decide)]
            exact pts_one (okT (OB s H A cl fp) cc _ h7.2)
          · cases h7
        · cases h
      | lc2 vs ce ct cit cc vs1 ct1 cit1 cc1 =>
        unfold chkE at h
        split at h
        · rename_i e0
          cases e0
          simp only [Bool.and_eq_true] at h
          obtain ⟨h0, h00, h1, h2, hv1, h3, h31, h4, h41, h45, h46, h5, h51, h6, h7, h8⟩ := h
          have e0 := of_decide_eq_true h0
          have e1 := of_decide_eq_true h00
          subst e0 e1
          have bok : BlkOk X.N X.env.scope scope (ownOf D vs) := blkOk_by (by rw [O.ns, O.sc]; exact h2)
          have hv : (ownOf D vs).map (·.2) = vs := by
            unfold ownOf
            rw [List.map_map]
            exact List.map_id vs
          have hv2 : ∀ i ∈ vs1, i ∈ vs := fun i hi => of_decide_eq_true (List.all_eq_true.mp hv1 i hi)
          have OB := fun s H A cl fp => O.blk h1 scope s H A cl fp
          refine x_setLc2 (O.calm_ h1).1 nd y1 y2 (by rw [O.sc]; exact hk) hl hno (okI O cit _ h5 h45) bok hv hv2 h3 h31 (fun s H A cl fp => okN (OB s H A cl fp) ct _ h3 h4) (fun s H A cl fp => ?_) (fun s H A cl fp => okI (OB s H A cl fp) cit1 _ h51 h46) (fun s H A cl fp => okN (OB s H A cl fp) ct1 _ h31 h41) (fun s H A cl fp => ?_) (fun s H A cl fp => okE (OB s H A cl fp) ce _ h6) (chkI_set h5) (chkI_set h51)
          · split at h7
            · unfold tTest
              rw [if_pos h7]
              exact pts_nil
            · rw [Bool.and_eq_true, Bool.not_eq_true'] at h7
              unfold tTest
              rw [if_neg (by rw [h7.1]; decide)]
              exact pts_one (okT (OB s H A cl fp) cc _ h7.2)
            · cases h7
          · split at h8
            · unfold tTest
              rw [if_pos h8]
              exact pts_nil
            · rw [Bool.and_eq_true, Bool.not_eq_true'] at h8
              unfold tTest
              rw [if_neg (by rw [h8.1]; decide)]
              exact pts_one (okT (OB s H A cl fp) cc1 _ h8.2)
            · cases h8
        · cases h
      | _ => cases hlc
    · cases h

/-! ### x += e -/
theorem okAug (O : Ok D N X W Γ k) {t c : C} {et e : Expr} {op : Operator} {pos : Pos} (h : augB D t c et op e = true) : PS X (.AugAssign et op e pos) (sS N X.K W (evS Γ (.set t c))) := by
  unfold augB at h
  split at h
  · simp only [Bool.and_eq_true] at h
    obtain ⟨h1, h2, h3, h4⟩ := h
    have e1 := of_decide_eq_true h1
    subst e1
    obtain ⟨a1, a2, _⟩ := O.lcl h3
    exact x_aug (of_decide_eq_true h2) (by rw [O.ns]; exact O.nd) a1 (.inl a2) (.inr a2) (okE O _ _ h4)
  · cases h
/-! ### raise -/
theorem x_rais (O : Ok D N X W Γ k) {c : Nat} {ces : C} {x : Str} {l : List Expr} {p1 p2 pos : Pos} (h : (D.calm && (D.cls_ c x && (chkEs D ces l && (match D.T.cls[c]? with
      | some q => (l.isEmpty == q.fs.isEmpty)
      | none => false)))) = true) : PS X (.Raise (some (.Call (.Name x p1) l [] p2)) none pos) (sS N X.K W (evS Γ (.rais c ces))) := by
  simp only [Bool.and_eq_true] at h
  obtain ⟨h1, h2, h3, h4⟩ := h
  obtain ⟨hc, hex, hh⟩ := O.calm_ h1
  obtain ⟨q, hq, hqn, g, d, m, hn, hfs, ix, hmem⟩ := O.cls_ h2
  rw [hq] at h4
  dsimp only at h4
  obtain ⟨g1, g2⟩ := okEs O ces l h3
  have room : Room 2 X.A := ⟨hh, by have := O.room.dp; omega, by have := O.room.un; omega⟩
  have flds : Γ.flds c = q.fs := by rw [O.md.xf.flds, hfs]
  have go : ∀ {D' : Ends} {σ : L2.St} {H : L2.Hp} {ρ : List Addr} {h : MH} {τ : MF}, RelH N X.K ρ h H → FR N X.K ρ H τ σ → PostS N X.K ρ H W D' (evS Γ (.rais c ces) τ h) → Post N X.K ρ H (fun c d H' => W c d σ H') (VRs N X.K) (evEs Γ ces τ h) fun vs H1 =>
      ∃ ρ1 h1 xs, RelH N X.K ρ1 h1 H1 ∧ FR N X.K ρ1 H1 τ σ ∧ VRs N X.K ρ1 H1 xs vs ∧ xs.length = q.fs.length ∧ xs.all dat = true ∧ PostS N X.K ρ1 H1 W D' (.ex c xs τ h1) := by
    intro D' σ H ρ h τ rh fr p
    unfold evS at p
    refine (PostS.go (rel := VRs N X.K) fr p).imp ?_
    rintro vs H1 ⟨ρ1, h1, xs, e1, rh1, r1, p1⟩
    split at p1
    · rename_i z
      rw [Bool.and_eq_true, Bool.and_eq_true] at z
      exact ⟨ρ1, h1, xs, rh1, fr.mono e1, r1, by rw [of_decide_eq_true z.1, flds], z.2.1, p1⟩
    · exact p1.elim
  rcases O.rs q hmem with ⟨r0, r1, r2, r3, r4⟩ | ⟨r0, r1, r2, r3, fI, fd, ps, r4, r5, r6, r7⟩
  · rw [hqn] at r1 r2 r3 r4
    cases l with
    | cons _ _ =>
      rw [r0] at h4
      cases h4
    | nil =>
      refine (L2N.ps_raise hc O.tk (pmk_own0 PySem.F.excBase_ValueError r1 m r2 (raises_own r3 r4) g d)).weak fun D' σ H ⟨ρ, h, τ, rh, fr, p⟩ => ?_
      cases ces with
      | nil =>
        have p2 := go rh fr p
        unfold evEs at p2
        obtain ⟨ρ1, h1, xs, rh1, fr1, rv, hl, hd, p3⟩ := p2.ok rh (by simp only [VRs] : VRs N X.K ρ H [] [])
        have := p3 ρ1 H σ [] none Ext.refl rh1 fr1 rv hd (.inl ⟨by rw [hfs]; exact r0, rfl⟩)
        rw [hn] at this
        exact this
      | _ => (unfold chkEs at h3; cases h3)
  · rw [hqn] at r3 r4 r6
    cases l with
    | nil =>
      exfalso
      cases hf : q.fs with
      | nil => exact r0 hf
      | cons _ _ =>
        rw [hf] at h4
        cases h4
    | cons e l =>
      rw [List.all_cons, Bool.and_eq_true] at g2
      refine (L2N.ps_raise hc O.tk (pmk_init r3 r4 r5 r6 r1 room r7 (fun pins σ H s e s' I cx => ?_) g m g1 d (star_of g2.1) (noStars g2.2))).weak fun D' σ H ⟨ρ, h, τ, rh, fr, p⟩ => ⟨ρ, h, τ, rh, fr, (go rh fr p).imp ?_⟩
      · obtain ⟨_, _, _, _, _, _, _, _, _, _, _, _, z⟩ := cx
        exact z.elim
      · rintro vs H1 ⟨ρ1, h1, xs, rh1, fr1, rv, hl, hd, p1⟩
        have lv : vs.length = q.fs.length := by rw [rv.length, hl]
        refine ⟨lv, by omega, fun dd hdd => ?_⟩
        have := p1 ρ1 (upd H1 dd (.xd (q.fs.zip vs))) σ vs (some dd) (Ext.newT hdd) (rh1.newT hdd) (fr1.mono (Ext.newT hdd)) (rv.mono (Ext.newT hdd)) hd (.inr ⟨by rw [hfs]; exact r0, dd, rfl, by rw [hfs]; exact upd_same, rh1.notin hdd⟩)
        rw [hn] at this
        exact this
end
end Mini
set_option Elab.async false
set_option linter.all false
set_option maxRecDepth 100000
set_option maxHeartbeats 4000000
/-! Mini against the model: statements, try, defs. -/
namespace Mini
open PySem PySem.Spec PyProof.Rows L2
open L2H (RoomH Hot1 PinOk HotC)
variable {Γ : Sys} {k : Nat}
/-- the context of a try's body -/
theorem Ok.tr {D : Dc} {N : Nm} {X : Cx} {W W' : WX} (O : Ok D N X W Γ k) (hc : D.calm = true) (pn : List (Addr × PySem.Obj)) (xe : Value → Shared → Prop) (tk : L2N.Takes (X.tr pn xe) W') (po : PassesOwn (model X.prog X.w) X.A X.env xe) : Ok D N (X.tr pn xe) W' Γ k :=
  ⟨⟨O.B.guards, O.B.un, O.B.sysm⟩, O.sc, O.ns, O.nd, O.fn, O.top, O.md, O.room, po, tk, (fun c a d h => by
    rw [(O.calm_ hc).2.1] at h
    cases h), O.mode, O.pr, O.rs, O.pf, (fun z => ⟨(O.lm z).ex⟩), O.rm⟩
/-- the context of an except suite -/
theorem Ok.suite {D : Dc} {N : Nm} {X : Cx} {W : WX} (O : Ok D N X W Γ k) {c : Nat} {a : Addr} {d : Option Addr} {oe : PySem.Obj} (pn : List (Addr × PySem.Obj)) (ix : Γ.isx c = true) (hz : L2N.Zn (.ref (He.ga X.K (N.cls c))) d oe) (hv : ∃ vs, oe.data = .fields vs) :
    Ok (hotOff D) (N.wex (some (c, a, d))) (X.suite a ((a, oe) :: pn)) (fun _ _ _ _ => False) Γ k := by
  refine ⟨⟨O.B.guards, O.B.un, O.B.sysm⟩, O.sc, O.ns, O.nd, O.fn, O.top, O.md.wex _, ⟨O.room.dp, O.room.un⟩, ?_, ?_, ?_, .inr ⟨rfl, _, rfl⟩, O.pr, O.rs, O.pf, (fun z => by cases z), fun z => by cases z⟩
  · exact PassesOwn.never
  · rintro u s' ⟨_, _, _, _, _, _, _, _, _, _, _, _, _, _, _, _, z⟩
    exact z.elim
  · intro c' a' d' h
    obtain ⟨vs, hv⟩ := hv
    have h' : some (c, a, d) = some (c', a', d') := h
    cases h'
    exact ⟨ix, oe, List.mem_cons_self, hz.zc, ⟨vs, hv⟩, rfl, vs, hv, hz.2.2 vs hv⟩
/-- what an except suite is to do -/
def tSu (N : Nm) (K : PySem.W.Frag) (Γ : Sys) (c : C) (a : Addr) (cls : Value) (d : Option Addr) : TS := fun D σ H => ∃ j, cls = .ref (He.ga K (N.cls j)) ∧ Γ.isx j = true ∧ (sS (N.wex (some (j, a, d))) K (fun _ _ _ _ => False) (evSs Γ c)) D σ H
theorem try_post {D : Dc} {N : Nm} {X : Cx} {W : WX} (O : Ok D N X W Γ k) (hc : D.calm = true) {cb cs : C} {c i : Nat} {De : Ends} {σ : L2.St} {H : L2.Hp} (ix : Γ.isx c = true) (q : (sS N X.K W (evS Γ (.try_ cb c i cs))) De σ H) :
    (sS N X.K (wAs X.K (.ref (He.ga X.K (N.cls c))) i (tSu N X.K Γ cs) W De) (evSs Γ cb)) De σ H := by
  obtain ⟨ρ, h, τ, rh, fr, p⟩ := q
  obtain ⟨_, hn, _⟩ := O.calm_ hc
  unfold evS at p
  refine ⟨ρ, h, τ, rh, fr, ?_⟩
  cases hb : evSs Γ cb τ h with
  | ex j fs τ1 h1 =>
    rw [hb] at p
    intro ρ1 H1 σ1 vs d e1 rh1 fr1 rv hd xd
    dsimp only at p
    split at p
    · rename_i z
      rw [Bool.and_eq_true] at z
      refine ⟨Γ.sub j c, O.md.exm j c z.1 z.2, fun hs a na => ?_, fun hs => ?_⟩
      · rw [if_pos hs] at p
        refine ⟨j, rfl, z.1, ρ1, h1, τ1.set i (some (.exn j fs)), rh1.sw, (fr1.calm hn).set i ?_, ?_⟩
        · simp only [VR]
          exact ⟨a, d, vs, rfl, rfl, rv.calm hn, hd, xd⟩
        · cases hs2 : evSs Γ cs (τ1.set i (some (.exn j fs))) h1 with
          | nx τ2 h2 =>
            rw [hs2] at p
            dsimp only at p
            split at p
            · rename_i zd
              intro ρ2 H2 σ2 e2 rh2 fr2
              have f3 : FR N X.K ρ2 H2 (τ2.set i none) (σ2.set i none) := by
                have f4 := FR.sw (e := none) zd (fr2.unset i)
                rw [wex_wex, Nm.wex_self hn] at f4
                exact f4
              have r3 : RelH N X.K ρ2 h2 H2 := by
                have r4 := rh2.sw (e := none)
                rw [wex_wex, Nm.wex_self hn] at r4
                exact r4
              exact p ρ2 H2 (σ2.set i none) (e1.trans e2) r3 f3
            · exact p.elim
          | rt v h2 =>
            rw [hs2] at p
            dsimp only at p
            split at p
            · rename_i zd
              intro ρ2 H2 u e2 rh2 r2
              have r3 : RelH N X.K ρ2 h2 H2 := by
                have r4 := rh2.sw (e := none)
                rw [wex_wex, Nm.wex_self hn] at r4
                exact r4
              have v3 : VR N X.K ρ2 H2 v u := by
                have v4 := VR.sw (e := none) v u zd r2
                rw [wex_wex, Nm.wex_self hn] at v4
                exact v4
              exact p ρ2 H2 u (e1.trans e2) r3 v3
            · exact p.elim
          | bk τ2 h2 =>
            rw [hs2] at p
            exact p.elim
          | ct τ2 h2 =>
            rw [hs2] at p
            exact p.elim
          | ex _ _ _ _ =>
            rw [hs2] at p
            exact p.elim
          | bad =>
            rw [hs2] at p
            exact p.elim
      · rw [if_neg (by rw [hs]; decide)] at p
        exact p ρ1 H1 σ1 vs d e1 rh1 fr1 rv hd xd
    · exact p.elim
  | nx τ1 h1 =>
    rw [hb] at p
    exact p
  | rt v h1 =>
    rw [hb] at p
    exact p
  | bk τ1 h1 =>
    rw [hb] at p
    exact p
  | ct τ1 h1 =>
    rw [hb] at p
    exact p
  | bad =>
    rw [hb] at p
    exact p
mutual
theorem okS : ∀ (c : C) {D : Dc} {N : Nm} {X : Cx} {W : WX}, Ok D N X W Γ k → ∀ (s : Stmt), chkS c D s = true → PS X s (sS N X.K W (evS Γ c)) := by
  intro c D N X W O s h
  cases c with
  | set t c =>
    unfold chkS at h
    split at h
    · exact okSet O h
    · exact okAug O h
    · cases h
  | ex c =>
    unfold chkS at h
    split at h
    · rw [Bool.and_eq_true, Bool.not_eq_true'] at h
      exact x_ex (okE O c _ h.2) h.1
    · cases h
  | ret c =>
    unfold chkS at h
    split at h
    · exact x_ret (okE O c _ h)
    · cases h
  | retn =>
    unfold chkS at h
    split at h
    · exact x_retn
    · cases h
  | pass =>
    unfold chkS at h
    split at h
    · exact x_pass
    · cases h
  | brk =>
    unfold chkS at h
    split at h
    · exact x_brk
    · cases h
  | cnt =>
    unfold chkS at h
    split at h
    · exact x_cnt
    · cases h
  | ite c a b =>
    unfold chkS at h
    split at h
    · rw [Bool.and_eq_true, Bool.and_eq_true] at h
      exact x_ite (okT O c _ h.1) (okSs a O _ h.2.1) (okSs b O _ h.2.2)
    · cases h
  | whl c b =>
    unfold chkS at h
    split at h
    · rw [Bool.and_eq_true] at h
      exact x_whl O.po (okT O c _ h.1) (okSs b O _ h.2)
    · cases h
  | for_ t it b =>
    unfold chkS at h
    split at h
    · simp only [Bool.and_eq_true] at h
      obtain ⟨h1, h2, h3, h4⟩ := h
      obtain ⟨h4, h5⟩ := h4
      exact x_forW O.po (O.calm_ h1).1 (okI O it _ h5 h4) (okG O t _ h2) (okSs b O _ h3) (chkI_set h5)
    · cases h
  | rais c es =>
    unfold chkS at h
    split at h
    · exact x_rais O h
    · cases h
  | try_ b c i s =>
    unfold chkS at h
    split at h
    · simp only [Bool.and_eq_true] at h
      obtain ⟨h1, hb, h2, h3, h4, h5⟩ := h
      obtain ⟨_, hstk, hfr⟩ := O.top (by simpa using hb)
      obtain ⟨q, hq, hqn, g, d, m, hn, hfs, ix, hmem⟩ := O.cls_ h2
      obtain ⟨v1, v2, v3, v4⟩ := O.lcl h3
      refine (L2N.ps_try_as (tb := fun W' => sS N X.K W' (evSs Γ b)) (ts := tSu N X.K Γ s) (Wout := W) (c := .ref (He.ga X.K (N.cls c))) hstk hfr (by rw [O.ns]; exact O.nd) v1 v2 ⟨g, d, .inl (by rw [hn]; exact m)⟩ O.tk (fun W' pn xe tk po => okSs b (O.tr h1 pn xe tk po) _ h4) (fun a oe cls d pn hz hv => ?_)).weak fun De σ H qq => try_post O h1 ix qq
      refine ⟨fun pins s1 σ H De I qq => ?_⟩
      obtain ⟨j, rfl, jx, qq⟩ := qq
      exact (okSs s (O.suite pn jx hz hv) _ h5).run pins s1 σ H De I qq
    · cases h
  | _ => (unfold chkS at h; cases h)
theorem okSs : ∀ (c : C) {D : Dc} {N : Nm} {X : Cx} {W : WX}, Ok D N X W Γ k → ∀ (s : List Stmt), chkSs c D s = true → PSs X s (sS N X.K W (evSs Γ c)) := by
  intro c D N X W O s h
  cases c with
  | nil =>
    unfold chkSs at h
    split at h
    · exact x_snil
    · cases h
  | cons a b =>
    unfold chkSs at h
    split at h
    · rw [Bool.and_eq_true] at h
      exact x_scons (okS a O _ h.1) (okSs b O _ h.2)
    · cases h
  | _ => (unfold chkSs at h; cases h)
end
end Mini
set_option Elab.async false
set_option linter.all false
set_option maxRecDepth 100000
set_option maxHeartbeats 4000000
/-! Mini against the model: defs keep their meaning. -/
namespace Mini
open PySem PySem.Spec PyProof.Rows L2
open L2H (RoomH Hot1 PinOk HotC)
section
variable {P : Program} {w : World} {K : PySem.W.Frag} {mg : Str → Option Value} {base : Heap} {N : Nm} {T : Tab} {Γ : Sys} {k : Nat}
theorem start_rel {ρ : List Addr} {H : L2.Hp} {ws : List Val} {vs : List V} {ns : List Str} (r : VRs N K ρ H ws vs) : FR N K ρ H (ws.map some ++ List.replicate (ns.length - ws.length) none) (L2.start ns vs) := by
  have hl := r.length
  unfold L2.start
  refine ⟨by simp [hl], fun i x h => ?_⟩
  by_cases hi : i < ws.length
  · rw [List.getElem?_append_left (by simpa using hi), List.getElem?_map] at h
    cases hx : ws[i]? with
    | none =>
      rw [hx] at h
      cases h
    | some y =>
      rw [hx] at h
      cases h
      obtain ⟨v, hv, rv⟩ := r.get hx
      refine ⟨v, ?_, rv⟩
      rw [List.getElem?_append_left (by simp; omega), List.getElem?_map, hv]
      rfl
  · rw [List.getElem?_append_right (by simp; omega), List.getElem?_replicate] at h
    split at h <;> cases h
/-- what a def's text needs around it -/
structure Ar (P : Program) (w : World) (K : PySem.W.Frag) (mg : Str → Option Value) (base : Heap) (N : Nm) (T : Tab) (Γ : Sys) (k : Nat) : Prop where
  md : Md T N K mg Γ
  pr : ∀ i r, T.rows[i]? = some r → Prom P w K mg base (N.wex none) Γ.isx k (He.ga K r.name) (Γ.call i) ∧ (r.hot = true → ∀ e, Prom P w K mg base (N.wex (some e)) Γ.isx k (He.ga K r.name) (Γ.call i))
  rs : ∀ q ∈ T.cls, RaiseF P w K mg base q
  sysm : ∃ o es ep, base.get? sysModules = some o ∧ o.data = .dict es ep
  pf : ∀ i r, T.rows[i]? = some r → r.flt.isSome = true → PromF P w K mg base (N.wex none) k (He.ga K r.name) (Γ.thunk i)
/-- what the making of lambdas asks of the def at f -/
def LamF (K : PySem.W.Frag) (mg : Str → Option Value) (base : Heap) (N : Nm) (f : Addr) (qual : Str) : Prop :=
  ∀ oc od fd osl, K.lookup f = some ⟨oc, od, .func fd, osl⟩ → ∃ c P : Addr, fd.code = .ref c ∧ LamX.TabB base mg c P ∧ (P, qual ++ ".<locals>." ++ "<lambda>") ∈ N.tabs ∧ ∀ p ∈ N.tabs, p.1 = P → p.2 = qual ++ ".<locals>." ++ "<lambda>"
def fnR (r : Row) : Fn := ⟨r.ps.length, r.ns.length, r.core⟩
theorem run_post {ρ : List Addr} {H : L2.Hp} {h : MH} {ws : List Val} {Q : VK} {E : XK} {r : Row} (hl : ws.length = r.ps.length) (p : Post N K ρ H E (VR N K) (runFn Γ (fnR r) ws h) Q) :
    PostS N K ρ H (fun c d _ H' => E c d H') { nx := fun _ H' => Q .non H', rt := Q } (evSs Γ r.core (ws.map some ++ List.replicate (r.ns.length - ws.length) none) h) := by
  unfold runFn at p
  rw [if_pos (show ws.length = (fnR r).np from hl)] at p
  have e : (fnR r).ns - (fnR r).np = r.ns.length - ws.length := by
    show r.ns.length - r.ps.length = _
    rw [hl]
  rw [e] at p
  have p' : Post N K ρ H E (VR N K) (match evSs Γ r.core (ws.map some ++ List.replicate (r.ns.length - ws.length) none) h with
    | .nx _ h1 => .ok .non h1
    | .rt v h1 => .ok v h1
    | .ex c fs _ h1 => .exc c fs h1
    | _ => .bad) Q := p
  cases hr : evSs Γ r.core (ws.map some ++ List.replicate (r.ns.length - ws.length) none) h with
  | nx τ h1 =>
    rw [hr] at p'
    exact fun ρ1 H1 σ1 e1 rh1 fr1 => p' ρ1 H1 .non e1 rh1 (by simp only [VR])
  | rt v h1 =>
    rw [hr] at p'
    exact p'
  | bk τ h1 =>
    rw [hr] at p'
    exact p'.elim
  | ct τ h1 =>
    rw [hr] at p'
    exact p'.elim
  | ex c fs τ h1 =>
    rw [hr] at p'
    exact fun ρ1 H1 σ1 vs d e1 rh1 fr1 rv hd xd => p' ρ1 H1 vs d e1 rh1 rv hd xd
  | bad =>
    rw [hr] at p'
    exact p'.elim
theorem prom_body {x qual : Str} {params : Arguments} {body : List Stmt} {scope : Scope} {f : Addr} {fd : FuncData} {r : Row} (F : FunD K x qual params body scope [] [] f fd)
    (hB : ∀ (kV doc pm : Value) (an : Option Addr) (cdv ct : Value) (us : List Value), us.length = r.ps.length → bindArgs (PySem.W.fnOf x qual params body scope .none kV doc pm an cdv ct) ⟨us, []⟩ = pure (r.ps.zip us))
    (hS : fnScopeB r.ns r.ps scope = true) (Ar1 : Ar P w K mg base N T Γ k) {calm lm : Bool} (hlm : lm = true → LamF K mg base N f qual) (hc : chkSs r.core ⟨T, scope, r.ns, calm, false, fun _ => true, lm⟩ body = true) {e : Option (Nat × Addr × Option Addr)} (he : (calm = true ∧ e = none) ∨ (calm = false ∧ ∃ q, e = some q)) :
    Prom P w K mg base (N.wex e) Γ.isx (k + 1) f (runFn Γ (fnR r)) := by
  have hb := FunD.bindsN (ps := r.ps) F hB
  obtain ⟨oc, od, dV, kV, doc, pm, an, cdv, ct, osl, rfl, lk, hcd, _, _⟩ := F.ex
  have S := fnScope_of hS
  refine ⟨_, r.ps, hb, fun ws h hw => ?_, ?_⟩
  · unfold runFn
    exact if_neg hw
  intro A outer s H args us vs Q E room guards mode e0 hbind rv q
  obtain ⟨ρ, h, ws, rh, rw_, p⟩ := q
  have hwl : ws.length = r.ps.length := by
    by_cases z : ws.length = r.ps.length
    · exact z
    · unfold runFn at p
      rw [if_neg (show ¬ ws.length = (fnR r).np from z)] at p
      exact p.elim
  have hvl : vs.length = r.ps.length := by rw [rw_.length, hwl]
  have ps := run_post hwl p
  have fr0 : FR (N.wex e) K ρ H (ws.map some ++ List.replicate (r.ns.length - ws.length) none) (L2.start r.ns vs) := start_rel rw_
  have kin : K.In s.heap := e0.mod.kin.keeps fun b o z => (e0.bs b o z).1
  have room' : RoomH (k + 4) (A.deeper (envOfC qual scope s.heap.objs.size f cdv)) := L2H.RoomH.deeper (k := k + 4) (by have := room; rwa [show k + 4 + 1 = k + 1 + 4 by omega]) _
  have locs : ∀ y ∈ r.ps.zip us, scope.names.lookup y.1 = some .local ∨ (scope.names.lookup y.1 = some .cell ∧ ((cellsFrom (s.heap.objs.size + 1) scope.names []).lookup y.1).isSome = true) := fun ⟨n, v⟩ hy =>
    (S.par n (List.of_mem_zip hy).1).elim Or.inl fun z => .inr ⟨z, PySem.W.cellsFrom_some _ _ _ (.inl z)⟩
  have rm2 : ∀ e1 e2 : Env, RoomH (k + 4) (((A.deeper (envOfC qual scope s.heap.objs.size f cdv)).deeper e1).deeper e2) := fun e1 e2 => by
    have a1 := room.dp
    have a2 := room.un
    constructor
    · show A.depth + 1 + 1 + 1 + 3 * (k + 4) + 5 < recursionLimit
      omega
    · show A.units + 3 + 3 + 3 + 16 * (k + 4) + 200 < cLine
      omega
  have bkind : ∀ en : PySem.Env, en.scope = scope → en.blockKind = .function := fun en z => by
    unfold Env.blockKind
    rw [z, S.kind]
    rfl
  refine codeAny_call_function (L2H.RoomH.depth room) (kin _ _ lk) rfl S.co S.gen rfl (PySem.W.codeRec_of kin hcd) (hbind _ _ _ _ ?_)
  refine wpAny_newFunctionEnv_cells S.kind locs fun env hen s1 x1 => ?_
  subst hen
  refine ⟨(e0.mod.nolimit.keeps fun b o z => (e0.bs b o z).1).keeps x1.toInCall.keep, codeAny_func ?_⟩
  have fin : ∀ {X : Cx} (_ : X.prog = P) (_ : X.w = w) (_ : X.s_0 = s) (_ : X.H_0 = H) (_ : X.outer = outer) (_ : X.ex = []) {fl : Flow} {s' : Shared}, SP X [] { nx := fun _ H' => Q .non H', rt := Q } fl s' → ∃ u, (match fl with | .ret v => v | _ => .none) = u ∧ CE outer P w H s Q u s' := by
    intro X e1 e2 e3 e4 e5 e6 fl s' hs
    cases fl with
    | ret u =>
      obtain ⟨v, σ', H', J, r1, q1⟩ := hs
      refine ⟨u, rfl, v, H', by rw [← e3]; exact J.os, J.bare, ?_, by rw [← e1, ← e2]; exact J.hok, r1, q1⟩
      have := J.base
      rw [e3, e4, e6] at this
      rw [show X.fs = frs outer from by rw [← e5]] at this
      exact this
    | next =>
      obtain ⟨σ', H', J, q1⟩ := hs
      refine ⟨.none, rfl, .non, H', by rw [← e3]; exact J.os, J.bare, ?_, by rw [← e1, ← e2]; exact J.hok, rfl, q1⟩
      have := J.base
      rw [e3, e4, e6] at this
      rw [show X.fs = frs outer from by rw [← e5]] at this
      exact this
    | brk =>
      obtain ⟨_, _, _, z⟩ := hs
      exact False.elim z
    | cont =>
      obtain ⟨_, _, _, z⟩ := hs
      exact False.elim z
  rcases he with ⟨rfl, rfl⟩ | ⟨rfl, ⟨c, a, d⟩, rfl⟩
  · rcases mode with ⟨_, hh⟩ | ⟨_, _, _, _, z, _⟩
    · have O : Ok ⟨T, scope, r.ns, true, false, fun _ => true, lm⟩ (N.wex none) (cxOf (L2N.CX P w) P w K mg base r.ns qual scope f cdv A outer s H E) (fun c d _ H' => E c d H') Γ k :=
        ⟨⟨guards, by have := room'.un; exact Nat.lt_of_le_of_lt (by show (A.deeper _).units + 200 ≤ (A.deeper _).units + 16 * (k + 4) + 200; omega) this, Ar1.sysm⟩, rfl, rfl, S.nd, (fun _ _ => rfl), (fun _ => ⟨bkind _ rfl, rfl, rfl⟩), Ar1.md.wex none, room', passes_of rfl, L2N.takes_of rfl rfl rfl rfl, (fun _ _ _ z => by cases z), .inl ⟨rfl, rfl, rfl, hh⟩, Ar1.pr, Ar1.rs, Ar1.pf, (fun z => by
          obtain ⟨c, P, e1, e2, e3, e4⟩ := hlm z _ _ _ _ lk
          exact ⟨c, P, e2, e1, e3, e4⟩), fun _ => rm2⟩
      have I := inv_start (CX := L2N.CX P w) (E := E) S hh e0 hvl rv x1
      refine wpAny_mono ((okSs r.core O body hc).run [] s1 _ H _ I ⟨ρ, h, _, rh, fr0, ps⟩) (fun fl s' hs => ?_) fun er s' hs => hs
      obtain ⟨u, e1, hce⟩ := fin rfl rfl rfl rfl rfl rfl hs
      subst e1
      exact hce
    · cases z
  · rcases mode with ⟨z, _⟩ | ⟨c', a', d', oe, z, ix, hot, pin, hz, hv⟩
    · cases z
    · cases z
      have O : Ok ⟨T, scope, r.ns, false, false, fun _ => true, lm⟩ (N.wex (some (c, a, d))) (L2H.cxH (L2N.CX P w) P w K mg base r.ns qual scope f cdv A outer s H E (a, oe)) (fun c d _ H' => E c d H') Γ k :=
        ⟨⟨guards, by have := room'.un; exact Nat.lt_of_le_of_lt (by show (A.deeper _).units + 200 ≤ (A.deeper _).units + 16 * (k + 4) + 200; omega) this, Ar1.sysm⟩, rfl, rfl, S.nd, (fun _ _ => rfl), (fun _ => ⟨bkind _ rfl, rfl, rfl⟩), Ar1.md.wex _, room', passes_of rfl, L2N.takes_of rfl rfl rfl rfl,
          (fun c2 a2 d2 z2 => by
            cases z2
            exact ⟨ix, oe, List.mem_cons_self, hz, hv, hot⟩), .inr ⟨rfl, _, rfl⟩, Ar1.pr, Ar1.rs, Ar1.pf, (fun z => by
            obtain ⟨c, P, e1, e2, e3, e4⟩ := hlm z _ _ _ _ lk
            exact ⟨c, P, e2, e1, e3, e4⟩), fun _ => rm2⟩
      have I := L2H.inv_startH (CX := L2N.CX P w) (E := E) S pin e0 hvl rv x1
      refine wpAny_mono ((okSs r.core O body hc).run [] s1 _ H _ I ⟨ρ, h, _, rh, fr0, ps⟩) (fun fl s' hs => ?_) fun er s' hs => hs
      obtain ⟨u, e1, hce⟩ := fin rfl rfl rfl rfl rfl rfl hs
      subst e1
      exact hce
/-- found = None; try: call() except C as n: ..; return found -/
def fltB (D : Dc) (k : Nat) (cs : C) (body : List Stmt) : Bool := match D.ns, body with
  | [a, b, n], [.Assign [.Name b1 _] (.Constant .none _ _) _, .Try [.Expr (.Call (.Name a1 _) [] [] _) _] [.ExceptHandler (some (.Name x _)) (some n1) (b0 :: suite) _] [] [] _, .Return (some (.Name b2 _)) _] =>
    D.var 0 a1 && (D.lcl 1 b1 && (D.cls_ k x && (D.lcl 2 n1 && (D.var 1 b2 && chkSs cs (hotOff D) (b0 :: suite)))))
  | _, _ => false
theorem flt_out {D : Dc} {X : Cx} {W : WX} {c j : Nat} {cs : C} {fs : List Val} {f : Addr} {ρ : List Addr} {H : L2.Hp} {h1 : MH} {Q : VK} {De : Ends} (O : Ok D N X W Γ k) (hc : D.calm = true) (hQ : ∀ σ' H' v, σ'[1]? = some (some v) → Q v H' → De.nx σ' H') (rh : RelH N X.K ρ h1 H) {vs : List V} {d : Option Addr} {σ1 : L2.St} (eσ : σ1 = [some (.ref f), some .non, none]) (rv : VRs N X.K ρ H fs vs) (hd : fs.all dat = true) (xd : XD N ρ H j vs d)
    (p : Post N X.K ρ H (fun _ _ _ => True) (VR N X.K) (thunkF Γ c cs (.exc j fs h1)) Q) : wAs X.K (.ref (He.ga X.K (N.cls c))) 2 (tSu N X.K Γ cs) W De (.ref (He.ga X.K (N.cls j))) d σ1 H := by
  obtain ⟨_, hn, _⟩ := O.calm_ hc
  unfold thunkF at p
  dsimp only at p
  split at p
  · rename_i z
    rw [Bool.and_eq_true, Bool.and_eq_true] at z
    obtain ⟨z1, z2, z3⟩ := z
    refine ⟨Γ.sub j c, O.md.exm j c z1 z2, fun _ a na => ?_, fun hs => by rw [z3] at hs; cases hs⟩
    subst eσ
    have fr1 : FR N X.K ρ H [none, some .non, none] [some (.ref f), some .non, none] := by
      refine ⟨rfl, fun i x hx => ?_⟩
      match i, hx with
      | 0, hx => cases hx
      | 1, hx =>
        cases hx
        exact ⟨.non, rfl, by simp only [VR]⟩
      | 2, hx => cases hx
      | i + 3, hx => simp at hx
    refine ⟨j, rfl, z1, ρ, h1, [none, some .non, none].set 2 (some (.exn j fs)), rh.sw, (fr1.calm hn).set 2 ?_, ?_⟩
    · simp only [VR]
      exact ⟨a, d, vs, rfl, rfl, rv.calm hn, hd, xd⟩
    · show PostS _ _ _ _ _ _ (evSs Γ cs [none, some .non, some (.exn j fs)] h1)
      cases hs2 : evSs Γ cs [none, some .non, some (.exn j fs)] h1 with
      | nx τ2 h2 =>
        rw [hs2] at p
        dsimp only at p
        intro ρ2 H2 σ2 e2 rh2 fr2
        cases hv : τ2[1]? with
        | none =>
          rw [hv] at p
          exact p.elim
        | some o =>
          rw [hv] at p
          cases o with
          | none => exact p.elim
          | some v =>
            dsimp only at p
            split at p
            · rename_i zd
              obtain ⟨u, hu, ru⟩ := fr2.at_ 1 v hv
              have r3 : RelH N X.K ρ2 h2 H2 := by
                have r4 := rh2.sw (e := none)
                rw [wex_wex, Nm.wex_self hn] at r4
                exact r4
              have v3 : VR N X.K ρ2 H2 v u := by
                have v4 := VR.sw (e := none) v u zd ru
                rw [wex_wex, Nm.wex_self hn] at v4
                exact v4
              exact hQ _ _ u (by rw [List.getElem?_set_ne (by decide)]; exact hu) (p ρ2 H2 u e2 r3 v3)
            · exact p.elim
      | _ =>
        rw [hs2] at p
        exact p.elim
  · exact p.elim
theorem prom_flt {x qual : Str} {params : Arguments} {body : List Stmt} {scope : Scope} {g : Addr} {fd : FuncData} {r : Row} {c : Nat} (F : FunD K x qual params body scope [] [] g fd)
    (hB : ∀ (kV doc pm : Value) (an : Option Addr) (cdv ct : Value) (us : List Value), us.length = r.ps.length → bindArgs (PySem.W.fnOf x qual params body scope .none kV doc pm an cdv ct) ⟨us, []⟩ = pure (r.ps.zip us))
    (hS : fnScopeB r.ns r.ps scope = true) (Ar1 : Ar P w K mg base N T Γ k) (h1p : r.ps.length = 1) (hc : fltB ⟨T, scope, r.ns, true, false, fun _ => true, false⟩ c r.core body = true) : PromF P w K mg base (N.wex none) (k + 1) g (thunkF Γ c r.core) := by
  have hb := FunD.bindsN (ps := r.ps) F hB
  obtain ⟨oc, od, dV, kV, doc, pm, an, cdv, ct, osl, rfl, lk, hcd, _, _⟩ := F.ex
  have S := fnScope_of hS
  unfold fltB at hc
  dsimp only at hc
  split at hc
  rotate_left
  · cases hc
  rename_i a b n b1 pb1 j1 pn1 pa1 a1 pa2 pc1 pe1 xk pk1 n1 b0 suite ph pt1 b2 pr1 pr2 ens
  obtain ⟨a0, ea0⟩ : ∃ a0, r.ps = [a0] := by
    match hps : r.ps, h1p with
    | [a0], _ => exact ⟨a0, rfl⟩
  refine ⟨_, a0, by rw [← ea0]; exact hb, ?_⟩
  intro A outer s H args f Q E tl room guards nex hh e0 hbind act q
  obtain ⟨ρ, h, rr, rh, tlI, p⟩ := q
  rw [show [(a0, Value.ref f)] = r.ps.zip [.ref f] by rw [ea0]; rfl] at hbind
  have kin : K.In s.heap := e0.mod.kin.keeps fun b o z => (e0.bs b o z).1
  have room' : RoomH (k + 4) (A.deeper (envOfC qual scope s.heap.objs.size g cdv)) := L2H.RoomH.deeper (k := k + 4) (by have := room; rwa [show k + 4 + 1 = k + 1 + 4 by omega]) _
  have locs : ∀ y ∈ r.ps.zip [Value.ref f], scope.names.lookup y.1 = some .local ∨ (scope.names.lookup y.1 = some .cell ∧ ((cellsFrom (s.heap.objs.size + 1) scope.names []).lookup y.1).isSome = true) := fun ⟨n, v⟩ hy =>
    (S.par n (List.of_mem_zip hy).1).elim Or.inl fun z => .inr ⟨z, PySem.W.cellsFrom_some _ _ _ (.inl z)⟩
  have bkind : ∀ en : PySem.Env, en.scope = scope → en.blockKind = .function := fun en z => by
    unfold Env.blockKind
    rw [z, S.kind]
    rfl
  refine codeAny_call_function (L2H.RoomH.depth room) (kin _ _ lk) rfl S.co S.gen rfl (PySem.W.codeRec_of kin hcd) (hbind _ _ _ _ ?_)
  refine wpAny_newFunctionEnv_cells S.kind locs fun env hen s1 x1 => ?_
  subst hen
  refine ⟨(e0.mod.nolimit.keeps fun b o z => (e0.bs b o z).1).keeps x1.toInCall.keep, codeAny_func ?_⟩
  have O : Ok ⟨T, scope, r.ns, true, false, fun _ => true, false⟩ (N.wex none) (cxOf (L2N.CX P w) P w K mg base r.ns qual scope g cdv A outer s H E) (fun c d _ H' => E c d H') Γ k :=
    ⟨⟨guards, by have := room'.un; exact Nat.lt_of_le_of_lt (by show (A.deeper _).units + 200 ≤ (A.deeper _).units + 16 * (k + 4) + 200; omega) this, Ar1.sysm⟩, rfl, rfl, S.nd, (fun _ _ => rfl), (fun _ => ⟨bkind _ rfl, rfl, rfl⟩), Ar1.md.wex none, room', passes_of rfl, L2N.takes_of rfl rfl rfl rfl, (fun _ _ _ z => by cases z), .inl ⟨rfl, rfl, rfl, hh⟩, Ar1.pr, Ar1.rs, Ar1.pf, (fun z => by cases z), fun z => by cases z⟩
  have I := inv_start (CX := L2N.CX P w) (E := E) (vs := [V.ref f]) (us := [Value.ref f]) S hh e0 (by rw [ea0]; rfl) (.cons rfl .nil) x1
  obtain ⟨X, eX⟩ : ∃ X, X = cxOf (L2N.CX P w) P w K mg base r.ns qual scope g cdv A outer s H E := ⟨_, rfl⟩
  simp only [Bool.and_eq_true] at hc
  obtain ⟨c1, c2, c3, c4, c5, c6⟩ := hc
  obtain ⟨v1, v2, v3, v4⟩ := O.vis c1
  obtain ⟨l1, l2, l3, l4⟩ := O.lcl c2
  obtain ⟨m1, m2, m3, m4⟩ := O.lcl c4
  obtain ⟨u1, u2, u3, u4⟩ := O.vis c5
  obtain ⟨q', hq, hqn, gg, dd, mm, hn, hfs, ix, hmem⟩ := O.cls_ c3
  obtain ⟨_, hstk, hfr⟩ := O.top rfl
  have nd : (cxOf (L2N.CX P w) P w K mg base r.ns qual scope g cdv A outer s H E).N.Nodup := S.nd
  have T1 := ps_set (pos := pn1) (pos' := pb1) (i := 1) nd l1 (.inl l2) (pe_non (X := cxOf (L2N.CX P w) P w K mg base r.ns qual scope g cdv A outer s H E) (pos := pa1) (j := j1)) rfl (.inr l2)
  have T3 := pss_one (ps_ret (pos := pr2) (pe_var (X := cxOf (L2N.CX P w) P w K mg base r.ns qual scope g cdv A outer s H E) (i := 1) (pos := pr1) u1 u2 u3 u4))
  have T2 := L2N.ps_try_as (pos := pt1) (pos' := ph) (np := pk1) (tb := fun W' => tDrop fun σ HZ Q => σ[0]? = some (some (.ref f)) ∧ HZ = H ∧ tl (fun c d H' => W' c d σ H') HZ Q) (ts := tSu (N.wex none) K Γ r.core) (Wout := fun c d _ H' => E c d H') (c := .ref (He.ga K ((N.wex none).cls c))) hstk hfr nd m1 m2 ⟨gg, dd, .inl (by rw [hn]; exact mm)⟩ O.tk
    (fun W' pn xe tk po => pss_one (ps_expr (pos := pe1) (act r.ns qual scope g cdv E pn xe W' 0 a1 pa2 pc1 tk v1 v2 v3 v4) rfl)) (fun a oe cls d pn hz hv => by
      refine ⟨fun pins s1 σ H De I qq => ?_⟩
      obtain ⟨j, rfl, jx, qq⟩ := qq
      exact (okSs r.core (O.suite pn jx hz hv) _ c6).run pins s1 σ H De I qq)
  refine wpAny_mono ((pss_cons T1 (pss_cons T2 T3)).run [] s1 _ H { nx := fun _ H' => Q .non H', rt := Q } I ?_) (fun fl s' hs => ?_) fun er s' hs => hs
  · -- what the three statements do
    have est : L2.start r.ns [V.ref f] = [some (.ref f), none, none] := by
      rw [ens]
      rfl
    show (tSeq _ _) _ _ _
    rw [est]
    refine ⟨rfl, rfl, ?_⟩
    refine tlI _ _ ?_
    cases rr with
    | bad => exact p.elim
    | ok y h1 =>
      intro ρ' H' v e' rh' _
      exact ⟨.non, rfl, p ρ' H' .non e' rh' (by simp only [VR])⟩
    | exc j fs h1 =>
      intro ρ' H' vs d e' rh' rv hd xd
      refine flt_out (Q := Q) O rfl ?_ rh' rfl rv hd xd ?_
      · exact fun σ' H2 v h1 h2 => ⟨v, h1, h2⟩
      have p' := Post.later e' p
      revert p'
      generalize thunkF Γ c r.core (.exc j fs h1) = res
      intro p'
      cases res with
      | ok x h => exact p'
      | exc c fs h => exact fun _ _ _ _ _ _ _ _ _ => trivial
      | bad => exact p'
  · cases fl with
    | ret u =>
      obtain ⟨v, σ', H', J, r1, q1⟩ := hs
      exact ⟨v, H', J.os, J.bare, J.base, J.hok, r1, q1⟩
    | next =>
      obtain ⟨σ', H', J, q1⟩ := hs
      exact ⟨.non, H', J.os, J.bare, J.base, J.hok, rfl, q1⟩
    | brk =>
      obtain ⟨_, _, _, z⟩ := hs
      exact False.elim z
    | cont =>
      obtain ⟨_, _, _, z⟩ := hs
      exact False.elim z
end
end Mini
set_option Elab.async false
set_option linter.all false
set_option maxRecDepth 100000
set_option maxHeartbeats 4000000
/-! Mini against the model: the end of a law. -/
namespace Mini
open PySem PySem.Spec PyProof.Rows L2
open L2H (RoomH Hot1 PinOk HotC)
/-! ### tables and names -/
structure Fam where
  ups : Nat → List Nat
def nmOf (T : Tab) : Nm := ⟨fun i => ((T.rows[i]?).map (·.name)).getD "", fun c => ((T.cls[c]?).map (·.name)).getD "", fun c => ((T.cls[c]?).map (·.fs)).getD [], none, []⟩
/-- the defs that make lambdas: their code's table, the lambdas' name -/
def lamName (r : Row) : Str := r.name ++ ".<locals>." ++ "<lambda>"
def lamsOf (T : Tab) : List He.Defn := (T.rows.filter fun r => r.lam).map fun r => (r.name, none)
def tabsOf (T : Tab) (K : PySem.W.Frag) : List (Addr × Str) := (T.rows.filter fun r => r.lam).map fun r => ((He.cT K (r.name, none)).2, lamName r)
def nmK (T : Tab) (K : PySem.W.Frag) : Nm := { nmOf T with tabs := tabsOf T K }
def prgOf (T : Tab) (F : Fam) : Prog := ⟨fun i => match T.rows[i]? with
  | some r => if r.flt.isSome then none else some (fnR r)
  | none => none, fun i => match T.rows[i]? with
  | some r => r.flt.map fun c => (c, r.core)
  | none => none, fun c d => (F.ups c).contains d, fun c => ((T.cls[c]?).map (·.fs)).getD [], fun c => decide (c < T.cls.length), fun f => decide (f < T.rows.length)⟩
/-- a plain error class with a dict -/
def oexB (K : PySem.W.Frag) (C : Addr) : Bool := (match K.lookup C with
  | some ⟨.type t, _, .cls cd, sl⟩ => (match cd.mro, sl.toList with
    | .ref D :: tl, [_, _, _, _, some (.builtin m), _] => decide (t = "type") && (decide (D = C) && (decide (m = "ValueError.__new__") && (!cd.hasDel && (cd.hasDict && PySem.HandSPX.refsVE tl))))
    | _, _ => false)
  | _ => false) && (He.eqO (PySem.W.findIn K (.ref C) "__setattr__") (some (some (.builtin "object.__setattr__"))) && (decide (PySem.W.subIn K (.ref C) (.type "BaseException") = some true) && (decide (PySem.W.typeIn K (.ref C) = some (.type "type")) && PySem.W.keepIn K (.ref C))))
theorem oex_of {K : PySem.W.Frag} {C : Addr} (h : oexB K C = true) : OexC K C := by
  unfold oexB at h
  rw [Bool.and_eq_true, Bool.and_eq_true, Bool.and_eq_true, Bool.and_eq_true] at h
  obtain ⟨h1, h2, h3, h4, h5⟩ := h
  refine ⟨?_, He.eqO_ok h2, of_decide_eq_true h3, of_decide_eq_true h4, h5⟩
  split at h1
  · rename_i t od cd sl hlk
    split at h1
    · rename_i D tl k0 k1 k2 k3 m k5 hm hs
      simp only [Bool.and_eq_true, decide_eq_true_eq, Bool.not_eq_true'] at h1
      obtain ⟨e1, e2, e3, e4, e5, e6⟩ := h1
      obtain ⟨nm, bs, mro, ns, qn, hd, sn, sb, ab, col, del⟩ := cd
      dsimp only at hm e4 e5
      subst e1 e2 e3 hm e4 e5
      have hsl : sl = #[k0, k1, k2, k3, some (.builtin "ValueError.__new__"), k5] := by
        obtain ⟨l⟩ := sl
        exact congrArg Array.mk hs
      subst hsl
      exact ⟨nm, qn, ns, bs, tl, sn, sb, ab, col, od, k0, k1, k2, k3, k5, hlk, e6⟩
    · cases h1
  · cases h1
/-- what is asked of an error class -/
def clB (K : PySem.W.Frag) (q : Cl) : Bool :=
  (PySem.W.clsIn K (He.ga K q.name)).isSome && (He.eqO (PySem.W.findIn K (.ref (He.ga K q.name)) "__getattribute__") (some (some (.builtin "BaseException.__getattribute__"))) && (He.eqO (PySem.W.findIn K (.ref (He.ga K q.name)) "__getattr__") (some none) &&
  (decide (PySem.W.subIn K (.ref (He.ga K q.name)) (.type "BaseException") = some true) && (PySem.W.hasDictIn K (He.ga K q.name) && (He.eqO (PySem.W.findIn K (.ref (He.ga K q.name)) "__class__") (some (some (.builtin "object.__class__"))) &&
  (decide (PySem.W.mroIn K (He.ga K q.name) (.type "object") = some true) && ((excTypes.all fun n => decide (PySem.W.kitOne K (.ref (He.ga K q.name)) (.type n) = some true)) && ((q.fs.all fun f => He.eqO (PySem.W.findIn K (.ref (He.ga K q.name)) f) (some none)) &&
  (decide q.fs.Nodup && (decide (q.fs.length ≤ 900) && (He.eqO (PySem.W.nsIn K mainGlobals q.name) (some (some (.ref (He.ga K q.name)))) && (if q.fs.isEmpty then (He.Fa.exc q.name).ok K
    else oexB K (He.ga K q.name) && (He.eqO (PySem.W.findIn K (.ref (He.ga K q.name)) "__init__") (some (some (.ref (He.ma K (He.ga K q.name) "__init__")))) && decide (PySem.W.typeIn K (.ref (He.ma K (He.ga K q.name) "__init__")) = some (.type "function")))))))))))))))
def allCl (T : Tab) (F : Fam) (K : PySem.W.Frag) : Bool :=
  T.cls.all (clB K) && ((List.range T.cls.length).all fun c => (List.range T.cls.length).all fun d => decide (PySem.W.kitOne K (.ref (He.ga K ((nmOf T).cls c))) (.ref (He.ga K ((nmOf T).cls d))) = some ((F.ups c).contains d)) && decide (PySem.W.exmOne K (.ref (He.ga K ((nmOf T).cls c))) (.ref (He.ga K ((nmOf T).cls d))) = some ((F.ups c).contains d)))
/-- what is asked of the written part -/
def exB (T : Tab) (F : Fam) (K : PySem.W.Frag) : Bool :=
  allCl T F K && ((T.rows.all fun r => He.eqO (PySem.W.nsIn K mainGlobals r.name) (some (some (.ref (He.ga K r.name)))) && PySem.W.keepIn K (.ref (He.ga K r.name))) && ((T.free.all fun x => He.eqO (PySem.W.nsIn K mainGlobals x) (some none)) &&
  (decide (PySem.W.specialIn K (.builtin "object.__class__") "__get__" = some (some (.builtin "getset_descriptor.__get__"))) && (decide (PySem.W.takesIn K (.builtin "object.__class__") = some true) && ((T.nums.all fun p => (He.Fa.int p.1 p.2).ok K) && ((tabsOf T K).all fun p => (tabsOf T K).all fun q => !decide (p.1 = q.1) || decide (p.2 = q.2)))))))
section
variable {T : Tab} {F : Fam} {K : PySem.W.Frag} {h : Heap} {mg : Str → Option Value}
theorem cls_lt {c : Nat} (hc : c < T.cls.length) : ∃ q, T.cls[c]? = some q ∧ q ∈ T.cls ∧ (nmOf T).cls c = q.name ∧ (nmOf T).flds c = q.fs := by
  refine ⟨T.cls[c], List.getElem?_eq_getElem hc, List.getElem_mem hc, ?_, ?_⟩
  · show ((T.cls[c]?).map (·.name)).getD ("" : Str) = _
    rw [List.getElem?_eq_getElem hc]
    rfl
  · show ((T.cls[c]?).map (·.fs)).getD [] = _
    rw [List.getElem?_eq_getElem hc]
    rfl
theorem md_of (X : K.In h) (G : h.Ns mainGlobals mg) (c : exB T F K = true) (k : Nat) : Md T (nmK T K) K mg (sys (prgOf T F) k) := by
  suffices z : Md T (nmOf T) K mg (sys (prgOf T F) k) from ⟨z.fnN, z.clN, z.free, ⟨z.xf.hcl, z.xf.hga, z.xf.hgt, z.xf.hsub, z.xf.hdi, z.xf.ha, z.xf.hm, z.xf.hn, z.xf.htk, z.xf.kit, z.xf.kitT, z.xf.fld, z.xf.flds, z.xf.ndf⟩, z.exm, z.nums, z.isf⟩
  have hisf : ∀ k, (sys (prgOf T F) k).isf = (prgOf T F).isf := fun k => by cases k <;> rfl
  have hsub : ∀ k, (sys (prgOf T F) k).sub = (prgOf T F).sub := fun k => by cases k <;> rfl
  have hisx : ∀ k, (sys (prgOf T F) k).isx = (prgOf T F).isx := fun k => by cases k <;> rfl
  have hfl : ∀ k, (sys (prgOf T F) k).flds = (prgOf T F).flds := fun k => by cases k <;> rfl
  unfold exB at c
  rw [Bool.and_eq_true, Bool.and_eq_true, Bool.and_eq_true] at c
  obtain ⟨c1, c2, c3, c4⟩ := c
  unfold allCl at c1
  rw [Bool.and_eq_true] at c1
  obtain ⟨c5, c6⟩ := c1
  have cl : ∀ q ∈ T.cls, clB K q = true := fun q hq => List.all_eq_true.mp c5 q hq
  have two : ∀ c d, c < T.cls.length → d < T.cls.length → PySem.W.kitOne K (.ref (He.ga K ((nmOf T).cls c))) (.ref (He.ga K ((nmOf T).cls d))) = some ((F.ups c).contains d) ∧ PySem.W.exmOne K (.ref (He.ga K ((nmOf T).cls c))) (.ref (He.ga K ((nmOf T).cls d))) = some ((F.ups c).contains d) := fun c d hc hd => by
    have := List.all_eq_true.mp (List.all_eq_true.mp c6 c (List.mem_range.mpr hc)) d (List.mem_range.mpr hd)
    rw [Bool.and_eq_true] at this
    exact ⟨of_decide_eq_true this.1, of_decide_eq_true this.2⟩
  have one : ∀ c, (sys (prgOf T F) k).isx c = true → c < T.cls.length := fun c hc => by
    rw [hisx] at hc
    exact of_decide_eq_true hc
  rw [Bool.and_eq_true, Bool.and_eq_true, Bool.and_eq_true] at c4
  have ga : ∀ (x : Str) (v : Value), He.eqO (PySem.W.nsIn K mainGlobals x) (some (some v)) = true → mg x = some v := fun x v z => PySem.W.mg_of X G (He.eqO_ok z)
  have pack : ∀ c, (sys (prgOf T F) k).isx c = true → ∃ q, T.cls[c]? = some q ∧ (nmOf T).cls c = q.name ∧ (nmOf T).flds c = q.fs ∧ clB K q = true := fun c hc => by
    obtain ⟨q, q1, q2, q3, q4⟩ := cls_lt (one c hc)
    exact ⟨q, q1, q3, q4, cl q q2⟩
  refine ⟨fun i r hr => ?_, fun i q hq => ?_, fun x hx => ?_, ?_, fun c d hc hd => ?_, fun p hp => He.int_ok X G (List.all_eq_true.mp c4.2.2.1 p hp), fun f hf => ?_⟩
  rotate_right
  · rw [hisf] at hf
    exact ⟨_, List.getElem?_eq_getElem (of_decide_eq_true hf)⟩
  · have z := List.all_eq_true.mp c2 r (List.mem_of_getElem? hr)
    rw [Bool.and_eq_true] at z
    refine ⟨?_, ga _ _ z.1, z.2⟩
    show ((T.rows[i]?).map (·.name)).getD ("" : Str) = _
    rw [hr]
    rfl
  · have lt := (List.getElem?_eq_some_iff.mp hq).1
    obtain ⟨q', q1, q2, q3, q4⟩ := cls_lt lt
    rw [hq] at q1
    cases q1
    have z := cl q q2
    unfold clB at z
    simp only [Bool.and_eq_true] at z
    refine ⟨q3, q4, ga _ _ z.2.2.2.2.2.2.2.2.2.2.2.1, ?_⟩
    rw [hisx]
    exact decide_eq_true lt
  · exact PySem.W.mg_none_of X G (He.eqO_ok (List.all_eq_true.mp c3 x hx))
  · refine ⟨fun c hc => ?_, fun c hc => ?_, fun c hc => ?_, fun c hc => ?_, fun c hc => ?_, fun c hc => ?_, fun c hc => ?_, of_decide_eq_true c4.1, of_decide_eq_true c4.2.1, fun c d hc hd => ?_, fun c n hc hn => ?_, fun c f hc hf => ?_, ?_, fun c => ?_⟩
    · obtain ⟨q, q1, q2, q3, z⟩ := pack c hc
      unfold clB at z
      simp only [Bool.and_eq_true] at z
      rw [q2]
      exact z.1
    · obtain ⟨q, q1, q2, q3, z⟩ := pack c hc
      unfold clB at z
      simp only [Bool.and_eq_true] at z
      rw [q2]
      exact He.eqO_ok z.2.1
    · obtain ⟨q, q1, q2, q3, z⟩ := pack c hc
      unfold clB at z
      simp only [Bool.and_eq_true] at z
      rw [q2]
      exact He.eqO_ok z.2.2.1
    · obtain ⟨q, q1, q2, q3, z⟩ := pack c hc
      unfold clB at z
      simp only [Bool.and_eq_true] at z
      rw [q2]
      exact of_decide_eq_true z.2.2.2.1
    · obtain ⟨q, q1, q2, q3, z⟩ := pack c hc
      unfold clB at z
      simp only [Bool.and_eq_true] at z
      rw [q2]
      exact z.2.2.2.2.1
    · obtain ⟨q, q1, q2, q3, z⟩ := pack c hc
      unfold clB at z
      simp only [Bool.and_eq_true] at z
      rw [q2]
      exact He.eqO_ok z.2.2.2.2.2.1
    · obtain ⟨q, q1, q2, q3, z⟩ := pack c hc
      unfold clB at z
      simp only [Bool.and_eq_true] at z
      rw [q2]
      exact of_decide_eq_true z.2.2.2.2.2.2.1
    · rw [hsub]
      exact (two c d (one c hc) (one d hd)).1
    · obtain ⟨q, q1, q2, q3, z⟩ := pack c hc
      unfold clB at z
      simp only [Bool.and_eq_true] at z
      rw [q2]
      have w := z.2.2.2.2.2.2.2.1
      exact of_decide_eq_true (List.all_eq_true.mp w n (List.contains_iff_mem.mp hn))
    · obtain ⟨q, q1, q2, q3, z⟩ := pack c hc
      unfold clB at z
      simp only [Bool.and_eq_true] at z
      rw [q2]
      rw [q3] at hf
      exact He.eqO_ok (List.all_eq_true.mp z.2.2.2.2.2.2.2.2.1 f hf)
    · rw [hfl]
      rfl
    · by_cases hc : c < T.cls.length
      · obtain ⟨q, q1, q2, q3, q4⟩ := cls_lt hc
        have z := cl q q2
        unfold clB at z
        simp only [Bool.and_eq_true] at z
        rw [q4]
        exact of_decide_eq_true z.2.2.2.2.2.2.2.2.2.1
      · show (((T.cls[c]?).map (·.fs)).getD ([] : List Str)).Nodup
        rw [List.getElem?_eq_none (Nat.le_of_not_lt hc)]
        exact List.nodup_nil
  · rw [hsub]
    exact (two c d (one c hc) (one d hd)).2
end
/-! ### parameters -/
def plainArgs (ps : List Str) (p : Arguments) : Bool := p.posonlyargs.isEmpty && (decide (p.args.map (·.arg) = ps) && (p.vararg.isNone && (p.kwonlyargs.isEmpty && (p.kwarg.isNone && decide ps.Nodup))))
theorem zip_some {n : Str} : ∀ {ps : List Str} {us : List Value}, us.length = ps.length → n ∈ ps → ((ps.zip us).lookup n).isNone = false
  | [], us, _, h => by cases h
  | p :: ps, [], hl, _ => by cases hl
  | p :: ps, u :: us, hl, h => by
    rw [List.zip_cons_cons, List.lookup_cons]
    cases hq : (n == p) with
    | true => rfl
    | false =>
      refine zip_some (ps := ps) (us := us) (by simpa using hl) ?_
      rcases List.mem_cons.mp h with z | z
      · rw [z, beq_self_eq_true] at hq
        cases hq
      · exact z
theorem fm_congr {α β : Type} {f g : α → Option β} : ∀ {l : List α}, (∀ x ∈ l, f x = g x) → l.filterMap f = l.filterMap g
  | [], _ => rfl
  | x :: l, h => by rw [List.filterMap_cons, List.filterMap_cons, h x List.mem_cons_self, fm_congr fun y hy => h y (List.mem_cons_of_mem _ hy)]
theorem zip_slots : ∀ {ps : List Str} {us : List Value}, ps.Nodup → us.length = ps.length → (ps.filterMap fun n => ((ps.zip us).lookup n).map fun x => (n, x)) = ps.zip us
  | [], us, _, _ => rfl
  | p :: ps, [], _, hl => by cases hl
  | p :: ps, u :: us, nd, hl => by
    have ih := zip_slots (ps := ps) (us := us) (List.nodup_cons.mp nd).2 (by simpa using hl)
    have np := (List.nodup_cons.mp nd).1
    have e : (ps.filterMap fun n => (((p :: ps).zip (u :: us)).lookup n).map fun x => (n, x)) = ps.filterMap fun n => ((ps.zip us).lookup n).map fun x => (n, x) := by
      refine fm_congr fun n hn => ?_
      have ne : (n == p) = false := beq_eq_false_iff_ne.mpr fun z => np (z ▸ hn)
      rw [List.zip_cons_cons, List.lookup_cons, ne]
    rw [List.filterMap_cons, e, ih, List.zip_cons_cons, List.lookup_cons, beq_self_eq_true]
    rfl
theorem bind_plain {fd : FuncData} {ps : List Str} {us : List Value} (hp : plainArgs ps fd.params = true) (hd : fd.defaults = .none) (hl : us.length = ps.length) : bindArgs fd ⟨us, []⟩ = pure (ps.zip us) := by
  unfold plainArgs at hp
  simp only [Bool.and_eq_true, decide_eq_true_eq, List.isEmpty_iff, Option.isNone_iff_eq_none] at hp
  obtain ⟨h1, h2, h3, h4, h5, h6⟩ := hp
  unfold bindArgs
  simp only [h1, h2, h3, h4, h5, hd]
  have e1 : (seqItems? Value.none : Sem (Option (Array Value))) = pure none := rfl
  simp [e1, hl]
  have e2 : List.filter (fun n => (List.lookup n (ps.zip us)).isNone) ps = [] := by
    rw [List.filter_eq_nil_iff]
    intro n hn z
    rw [zip_some hl hn] at z
    cases z
  have e3 : (List.filter (fun n => (List.lookup n (ps.zip us)).isNone) (List.take ((List.map (fun x : PySem.Arg => x.arg) [] ++ ps).length - (List.drop ((#[] : Array Value).size - (List.map (fun x : PySem.Arg => x.arg) [] ++ ps).length) ([] : List Value)).length) (List.map (fun x : PySem.Arg => x.arg) [] ++ ps))).isEmpty = true := by
    rw [List.isEmpty_iff, List.filter_eq_nil_iff]
    intro n hn z
    have hn2 : n ∈ ps := by
      have := List.mem_of_mem_take hn
      simpa using this
    rw [zip_some hl hn2] at z
    cases z
  refine (if_neg ?_).trans ?_
  · rw [e3]
    decide
  · rw [zip_slots h6 hl]

/-! ### the defs of a table -/
def stOf (P : Program) (i : Nat) : Stmt := P.main.body.getD i (.Pass ⟨0, 0, 0, 0⟩)
def iniSt (s : Stmt) : Stmt := match s with
  | .ClassDef _ _ _ b _ _ _ _ _ _ _ => b.headD (.Pass ⟨0, 0, 0, 0⟩)
  | _ => .Pass ⟨0, 0, 0, 0⟩
def rowD (P : Program) (r : Row) : He.DefD := ⟨(r.name, none), r.name, r.name, defArgs (stOf P r.at_), defBody (stOf P r.at_), defScope (stOf P r.at_), [], []⟩
def clD (P : Program) (q : Cl) : He.DefD := ⟨(q.name, some "__init__"), "__init__", q.name ++ ".__init__", defArgs (iniSt (stOf P q.at_)), defBody (iniSt (stOf P q.at_)), defScope (iniSt (stOf P q.at_)), [], []⟩
def fnOfT (P : Program) (T : Tab) : List He.DefD := T.rows.map (rowD P) ++ (T.cls.filter fun q => !q.fs.isEmpty).map (clD P)
def rowOk (P : Program) (T : Tab) (r : Row) : Bool := fnScopeB r.ns r.ps (defScope (stOf P r.at_)) && (plainArgs r.ps (defArgs (stOf P r.at_)) && (match r.flt with
  | none => chkSs r.core ⟨T, defScope (stOf P r.at_), r.ns, true, false, fun _ => true, r.lam⟩ (defBody (stOf P r.at_)) && (!r.hot || chkSs r.core ⟨T, defScope (stOf P r.at_), r.ns, false, false, fun _ => true, false⟩ (defBody (stOf P r.at_)))
  | some c => decide (r.ps.length = 1) && fltB ⟨T, defScope (stOf P r.at_), r.ns, true, false, fun _ => true, false⟩ c r.core (defBody (stOf P r.at_))))
def iniOk (sc : Scope) (args : Arguments) (body : List Stmt) (fs : List Str) : Bool := match args.args.map (·.arg) with
  | self :: ps => plainArgs (self :: ps) args && (fnScopeB (self :: ps) (self :: ps) sc && (allLocal sc (self :: ps) && (chkInit self fs ps body && decide (ps.length = fs.length))))
  | [] => false
def clOk (P : Program) (q : Cl) : Bool := q.fs.isEmpty || iniOk (defScope (iniSt (stOf P q.at_))) (defArgs (iniSt (stOf P q.at_))) (defBody (iniSt (stOf P q.at_))) q.fs
def tabOk (P : Program) (T : Tab) : Bool := T.rows.all (rowOk P T) && T.cls.all (clOk P)
section
variable {T : Tab} {F : Fam} {K : PySem.W.Frag} {h : Heap} {mg : Str → Option Value} {P : Program} {w : World} {base : Heap} {fa : List He.Fa}
theorem row_fun (c : He.SaysD fa (fnOfT P T) K) {r : Row} (hr : r ∈ T.rows) : ∃ fd, FunD K r.name r.name (defArgs (stOf P r.at_)) (defBody (stOf P r.at_)) (defScope (stOf P r.at_)) [] [] (He.ga K r.name) fd :=
  c.defs (d := rowD P r) (List.mem_append_left _ (List.mem_map.mpr ⟨r, hr, rfl⟩))
theorem cl_fun (c : He.SaysD fa (fnOfT P T) K) {q : Cl} (hq : q ∈ T.cls) (hf : q.fs.isEmpty = false) : ∃ fd, FunD K "__init__" (q.name ++ ".__init__") (defArgs (iniSt (stOf P q.at_))) (defBody (iniSt (stOf P q.at_))) (defScope (iniSt (stOf P q.at_))) [] [] (He.ma K (He.ga K q.name) "__init__") fd :=
  c.defs (d := clD P q) (List.mem_append_right _ (List.mem_map.mpr ⟨q, List.mem_filter.mpr ⟨hq, by rw [hf]; rfl⟩, rfl⟩))
theorem raise_of (c : He.SaysD fa (fnOfT P T) K) (t : tabOk P T = true) (e : exB T F K = true) : ∀ q ∈ T.cls, RaiseF P w K mg base q := fun q hq => by
  unfold tabOk at t
  rw [Bool.and_eq_true] at t
  have t2 := List.all_eq_true.mp t.2 q hq
  unfold exB allCl at e
  rw [Bool.and_eq_true, Bool.and_eq_true] at e
  have z := List.all_eq_true.mp e.1.1 q hq
  unfold clB at z
  simp only [Bool.and_eq_true] at z
  have zf := z.2.2.2.2.2.2.2.2.1
  have znd := of_decide_eq_true z.2.2.2.2.2.2.2.2.2.1
  have z9 := of_decide_eq_true z.2.2.2.2.2.2.2.2.2.2.1
  have zl := z.2.2.2.2.2.2.2.2.2.2.2.2
  cases hf : q.fs.isEmpty with
  | true =>
    rw [hf] at zl
    obtain ⟨a1, a2, a3, a4⟩ := He.exc_ok (show (He.Fa.exc q.name).ok K = true from zl)
    exact .inl ⟨List.isEmpty_iff.mp hf, a1, a2, a3, a4⟩
  | false =>
    rw [hf] at zl
    have zl' : (oexB K (He.ga K q.name) && (He.eqO (PySem.W.findIn K (.ref (He.ga K q.name)) "__init__") (some (some (.ref (He.ma K (He.ga K q.name) "__init__")))) && decide (PySem.W.typeIn K (.ref (He.ma K (He.ga K q.name) "__init__")) = some (.type "function")))) = true := zl
    simp only [Bool.and_eq_true] at zl'
    obtain ⟨y1, y2, y3⟩ := zl'
    unfold clOk at t2
    rw [hf, Bool.false_or] at t2
    unfold iniOk at t2
    split at t2
    · rename_i self ps hargs
      simp only [Bool.and_eq_true, decide_eq_true_eq] at t2
      obtain ⟨w1, w2, w3, w4, w5⟩ := t2
      obtain ⟨fd, FD⟩ := cl_fun c hq hf
      have ox := oex_of y1
      cases hfs : q.fs with
      | nil =>
        rw [hfs] at hf
        cases hf
      | cons f0 fs =>
        rw [hfs] at w4 w5 z9 zf znd
        refine .inr ⟨(by simp [hfs]), by rw [hfs]; exact znd, by rw [hfs]; exact z9, ox, _, fd, self :: ps, He.eqO_ok y2, of_decide_eq_true y3, ?_, ?_⟩
        · rw [hfs]
          exact init_ok FD ox w2 w3 w4 w5 z9 fun g hg => He.eqO_ok (List.all_eq_true.mp zf g hg)
        · exact FunD.bindsN (ps := self :: ps) FD fun kV doc pm an cdv ct us hl => bind_plain w1 rfl hl
    · cases t2
theorem lamF_of (e : exB T F K = true) {r : Row} (hr : r ∈ T.rows) (hl : r.lam = true) (tb : LamX.TabB base mg (He.cT K (r.name, none)).1 (He.cT K (r.name, none)).2) {fd : FuncData} (FD : FunD K r.name r.name (defArgs (stOf P r.at_)) (defBody (stOf P r.at_)) (defScope (stOf P r.at_)) [] [] (He.ga K r.name) fd) : LamF K mg base (nmK T K) (He.ga K r.name) r.name := by
  intro oc od fd' osl lk
  have hf : fd' = fd := by
    obtain ⟨_, _, _, _, _, _, _, _, _, _, e1, lk2, _⟩ := FD.ex
    rw [lk] at lk2
    injection lk2 with lk2
    injection lk2 with _ _ lk2
    injection lk2
  have hcode : ∃ c, fd'.code = .ref c := by
    obtain ⟨_, _, _, _, _, _, _, cdv, _, _, e1, _, hcd, _⟩ := FD.ex
    obtain ⟨c, hc⟩ := He.codeIn_ref hcd
    exact ⟨c, by rw [hf, e1, hc]⟩
  obtain ⟨c, hc⟩ := hcode
  have ec : He.codeOf K (r.name, none) = c := He.codeOf_eq lk hc
  have mem : ((He.cT K (r.name, none)).2, lamName r) ∈ tabsOf T K := List.mem_map.mpr ⟨r, List.mem_filter.mpr ⟨hr, hl⟩, rfl⟩
  refine ⟨c, (He.cT K (r.name, none)).2, hc, ?_, mem, fun p hp h1 => ?_⟩
  · rw [← ec]
    exact tb
  · unfold exB at e
    simp only [Bool.and_eq_true] at e
    have z := List.all_eq_true.mp (List.all_eq_true.mp e.2.2.2.2.2.2 p hp) _ mem
    rw [Bool.or_eq_true, Bool.not_eq_true', decide_eq_false_iff_not, decide_eq_true_eq] at z
    rcases z with z | z
    · exact absurd h1 z
    · exact z
/-- every def of the table keeps its meaning, k calls deep -/
theorem ar_all (X : K.In h) (G : h.Ns mainGlobals mg) (c : He.SaysD fa (fnOfT P T) K) (t : tabOk P T = true) (e : exB T F K = true) (sysm : ∃ o es ep, base.get? sysModules = some o ∧ o.data = .dict es ep) (tb : ∀ r ∈ T.rows, r.lam = true → LamX.TabB base mg (He.cT K (r.name, none)).1 (He.cT K (r.name, none)).2) :
    ∀ k, Ar P w K mg base (nmK T K) T (sys (prgOf T F) k) k := by
  have rows : ∀ r ∈ T.rows, rowOk P T r = true := by
    unfold tabOk at t
    rw [Bool.and_eq_true] at t
    exact fun r hr => List.all_eq_true.mp t.1 r hr
  have bnd : ∀ r ∈ T.rows, ∀ (kV doc pm : Value) (an : Option Addr) (cdv ct : Value) (us : List Value), us.length = r.ps.length → bindArgs (PySem.W.fnOf r.name r.name (defArgs (stOf P r.at_)) (defBody (stOf P r.at_)) (defScope (stOf P r.at_)) .none kV doc pm an cdv ct) ⟨us, []⟩ = pure (r.ps.zip us) := fun r hr kV doc pm an cdv ct us hl => by
    have z := rows r hr
    unfold rowOk at z
    simp only [Bool.and_eq_true] at z
    exact bind_plain z.2.1 rfl hl
  have never : ∀ (N' : Nm) (isx : Nat → Bool) (k i : Nat) (r : Row) (m : List Val → MH → Res Val), T.rows[i]? = some r → (∀ xs h, m xs h = .bad) → Prom P w K mg base N' isx k (He.ga K r.name) m := fun N' isx k i r m hr hm => by
    obtain ⟨fd, FD⟩ := row_fun c (List.mem_of_getElem? hr)
    refine ⟨fd, r.ps, FunD.bindsN (ps := r.ps) FD (bnd r (List.mem_of_getElem? hr)), fun _ _ _ => hm _ _, ?_⟩
    rintro A outer s H args us vs Q E _ _ _ _ _ _ ⟨ρ, h, ws, _, _, p⟩
    rw [hm] at p
    exact p.elim
  intro k
  induction k with
  | zero =>
    refine ⟨md_of X G e 0, fun i r hr => ⟨never _ _ _ i r _ hr (fun _ _ => rfl), fun _ _ => never _ _ _ i r _ hr (fun _ _ => rfl)⟩, raise_of c t e, sysm, fun i r hr hf => ?_⟩
    have z := rows r (List.mem_of_getElem? hr)
    unfold rowOk at z
    simp only [Bool.and_eq_true] at z
    obtain ⟨_, _, z3⟩ := z
    cases hfl : r.flt with
    | none =>
      rw [hfl] at hf
      cases hf
    | some c0 =>
      rw [hfl] at z3
      have z3' : (decide (r.ps.length = 1) && fltB ⟨T, defScope (stOf P r.at_), r.ns, true, false, fun _ => true, false⟩ c0 r.core (defBody (stOf P r.at_))) = true := z3
      rw [Bool.and_eq_true] at z3'
      obtain ⟨a0, ea0⟩ : ∃ a0, r.ps = [a0] := by
        match hps : r.ps, of_decide_eq_true z3'.1 with
        | [a0], _ => exact ⟨a0, rfl⟩
      obtain ⟨fd, FD⟩ := row_fun c (List.mem_of_getElem? hr)
      refine ⟨fd, a0, by rw [← ea0]; exact FunD.bindsN (ps := r.ps) FD (bnd r (List.mem_of_getElem? hr)), ?_⟩
      rintro A outer s H args f Q E tl _ _ _ _ _ _ _ ⟨ρ, h, rr, _, _, p⟩
      exact p.elim
  | succ k ih =>
    have ei : (sys (prgOf T F) (k + 1)).isx = (sys (prgOf T F) k).isx := by cases k <;> rfl
    refine ⟨md_of X G e (k + 1), fun i r hr => ?_, raise_of c t e, sysm, fun i r hr hf => ?_⟩
    · have mem := List.mem_of_getElem? hr
      obtain ⟨fd, FD⟩ := row_fun c mem
      have z := rows r mem
      unfold rowOk at z
      simp only [Bool.and_eq_true] at z
      obtain ⟨z1, z2, z3⟩ := z
      cases hfl : r.flt with
      | some c0 =>
        have ec : ∀ xs h, (sys (prgOf T F) (k + 1)).call i xs h = .bad := fun xs h => by
          show (match (prgOf T F).fns i with
            | some f => runFn (sys (prgOf T F) k) f xs h
            | none => .bad) = _
          have : (prgOf T F).fns i = none := by
            show (match T.rows[i]? with
              | some r => if r.flt.isSome then none else some (fnR r)
              | none => none) = _
            rw [hr]
            dsimp only
            rw [hfl]
            rfl
          rw [this]
        exact ⟨never _ _ _ i r _ hr ec, fun _ _ => never _ _ _ i r _ hr ec⟩
      | none =>
        rw [hfl] at z3
        have z3' : (chkSs r.core ⟨T, defScope (stOf P r.at_), r.ns, true, false, fun _ => true, r.lam⟩ (defBody (stOf P r.at_)) && (!r.hot || chkSs r.core ⟨T, defScope (stOf P r.at_), r.ns, false, false, fun _ => true, false⟩ (defBody (stOf P r.at_)))) = true := z3
        simp only [Bool.and_eq_true, Bool.or_eq_true, Bool.not_eq_true'] at z3'
        obtain ⟨z4, z5⟩ := z3'
        have ec : (sys (prgOf T F) (k + 1)).call i = runFn (sys (prgOf T F) k) (fnR r) := by
          funext xs h
          show (match (prgOf T F).fns i with
            | some f => runFn (sys (prgOf T F) k) f xs h
            | none => .bad) = _
          have : (prgOf T F).fns i = some (fnR r) := by
            show (match T.rows[i]? with
              | some r => if r.flt.isSome then none else some (fnR r)
              | none => none) = _
            rw [hr]
            dsimp only
            rw [hfl]
            rfl
          rw [this]
        rw [ec, ei]
        refine ⟨prom_body FD (bnd r mem) z1 ih (fun hl => lamF_of e mem hl (tb r mem hl) FD) z4 (.inl ⟨rfl, rfl⟩), fun hh q => ?_⟩
        rcases z5 with y | y
        · rw [y] at hh
          cases hh
        · exact prom_body FD (bnd r mem) z1 ih (fun z => by cases z) y (.inr ⟨rfl, q, rfl⟩)
    · have mem := List.mem_of_getElem? hr
      obtain ⟨fd, FD⟩ := row_fun c mem
      have z := rows r mem
      unfold rowOk at z
      simp only [Bool.and_eq_true] at z
      obtain ⟨z1, z2, z3⟩ := z
      cases hfl : r.flt with
      | none =>
        rw [hfl] at hf
        cases hf
      | some c0 =>
        rw [hfl] at z3
        have z3' : (decide (r.ps.length = 1) && fltB ⟨T, defScope (stOf P r.at_), r.ns, true, false, fun _ => true, false⟩ c0 r.core (defBody (stOf P r.at_))) = true := z3
        rw [Bool.and_eq_true] at z3'
        have ec : (sys (prgOf T F) (k + 1)).thunk i = thunkF (sys (prgOf T F) k) c0 r.core := by
          funext rr
          show (match (prgOf T F).flt i with
            | some q => thunkF (sys (prgOf T F) k) q.1 q.2 rr
            | none => .bad) = _
          have : (prgOf T F).flt i = some (c0, r.core) := by
            show (match T.rows[i]? with
              | some r => r.flt.map fun c => (c, r.core)
              | none => none) = _
            rw [hr]
            dsimp only
            rw [hfl]
            rfl
          rw [this]
        rw [ec]
        exact prom_flt FD (bnd r mem) z1 ih (of_decide_eq_true z3'.1) z3'.2
end
end Mini
set_option Elab.async false
set_option linter.all false
set_option maxRecDepth 100000
set_option maxHeartbeats 4000000
/-! Mini against the model: a law's last step. -/
namespace Mini
open PySem PySem.Spec PyProof.Rows L2
open L2H (RoomH Hot1 PinOk HotC)
def sysB (g : Addr → Option PySem.Obj) : Bool := match g sysModules with
  | some o => (match o.data with
    | .dict _ _ => true
    | _ => false)
  | none => false
abbrev AlM : Type := He.AlD × Bool
def fragM (n : Nat) (g : Addr → Option PySem.Obj) : PySem.W.Frag := He.frT g (He.asD g n)
def obsM (n : Nat) (fa : List He.Fa) (fn : List He.DefD) (ex : PySem.W.Frag → Bool) (tf : List He.Defn) (g : Addr → Option PySem.Obj) : AlM := (He.obsD fa fn (fragM n g), ex (fragM n g) && (sysB g && He.tabsB g tf (fragM n g)))
structure SaysM (fa : List He.Fa) (fn : List He.DefD) (ex : PySem.W.Frag → Bool) (tf : List He.Defn) (h : Heap) (K : PySem.W.Frag) : Prop where
  kin : K.In h
  says : He.SaysD fa fn K
  more : ex K = true
  sysm : ∃ o es ep, h.get? sysModules = some o ∧ o.data = .dict es ep
  hd : ∀ p ∈ tf, PySem.W.codeHdIn K (He.cT K p).1 (He.cT K p).2 = true
  out : ∀ p ∈ tf, K.lookup (He.cT K p).2 = none
  empty : ∀ p ∈ tf, h.get? (He.cT K p).2 = some { cls := .none, data := .fields #[] }
theorem sysB_ok {g : Addr → Option PySem.Obj} (h : sysB g = true) : ∃ o es ep, g sysModules = some o ∧ o.data = .dict es ep := by
  unfold sysB at h
  split at h
  · rename_i o ho
    split at h
    · rename_i es ep hd
      exact ⟨o, es, ep, ho, hd⟩
    · cases h
  · cases h
theorem saysM_of {n : Nat} {fa : List He.Fa} {fn : List He.DefD} {ex : PySem.W.Frag → Bool} {tf : List He.Defn} {h : Heap} (e : obsM n fa fn ex tf h.get? = (He.valD fn, true)) : SaysM fa fn ex tf h (fragM n h.get?) := by
  have e1 : He.obsD fa fn (fragM n h.get?) = He.valD fn := congrArg Prod.fst e
  have e2 : (ex (fragM n h.get?) && (sysB h.get? && He.tabsB h.get? tf (fragM n h.get?))) = true := congrArg Prod.snd e
  rw [Bool.and_eq_true, Bool.and_eq_true] at e2
  obtain ⟨x1, x2, x3⟩ := e2
  have each : ∀ p ∈ tf, PySem.W.codeHdIn (fragM n h.get?) (He.cT (fragM n h.get?) p).1 (He.cT (fragM n h.get?) p).2 = true ∧ ∃ o, h.get? (He.cT (fragM n h.get?) p).2 = some o ∧ He.emptyTab o = true := fun p hp => by
    have z := List.all_eq_true.mp x3 p hp
    rw [Bool.and_eq_true] at z
    refine ⟨z.1, ?_⟩
    have z2 := z.2
    split at z2
    · exact ⟨_, by assumption, z2⟩
    · cases z2
  refine ⟨He.frT_in, e1, x1, sysB_ok x2, fun p hp => (each p hp).1, fun p hp => ?_, fun p hp => ?_⟩
  · obtain ⟨_, o, y1, y2⟩ := each p hp
    exact He.frT_none y1 y2
  · obtain ⟨_, o, y1, y2⟩ := each p hp
    rw [y1, He.emptyTab_eq y2]
def hookM (n : Nat) (fa : List He.Fa) (fn : List He.DefD) (ex : PySem.W.Frag → Bool) (tf : List He.Defn) : PySem.W.Hook where
  α := AlM
  obs := fun s => obsM n fa fn ex tf s.heap.get?
  val := fun _ => (He.valD fn, true)
  says := fun _ h => ∃ K, SaysM fa fn ex tf h K
  of := fun _ s e => ⟨_, saysM_of e⟩
  keeps := fun _ _ _ ⟨K, z⟩ k => ⟨K, PySem.W.Frag.In.keeps z.kin k, z.says, z.more, (let ⟨o, es, ep, h1, h2⟩ := z.sysm; ⟨o, es, ep, k _ _ h1, h2⟩), z.hd, z.out, fun p hp => k _ _ (z.empty p hp)⟩
theorem obsM_eq {n : Nat} {fa : List He.Fa} {fn : List He.DefD} {ex : PySem.W.Frag → Bool} {tf : List He.Defn} {g : Addr → Option PySem.Obj} {s : Shared} (h : ∀ a, g a = s.heap.get? a) : obsM n fa fn ex tf g = (hookM n fa fn ex tf).obs s := by
  have e : g = s.heap.get? := funext h
  rw [e]
  rfl
/-- the law's script, nothing else in Mini's heap -/
theorem script_rel {N : Nm} {K : PySem.W.Frag} {H : L2.Hp} {a : Addr} {ns : List Int} (hO : ∀ xs, H a ≠ some (.lst xs)) (hS : SqL K H a (ns.map V.int)) : VR N K [] H (.fl (ns.map Val.int)) (.ref a) := by
  have allInts : ∀ l : List Int, VRs N K [] H (l.map Val.int) (l.map V.int) := fun l => by
    induction l with
    | nil => simp only [List.map_nil, VRs]
    | cons i l ih =>
      simp only [List.map_cons, VRs]
      exact ⟨_, _, rfl, by simp only [VR], ih⟩
  have dd : (ns.map Val.int).all dat = true := by
    rw [List.all_eq_true]
    intro x hx
    obtain ⟨i, _, rfl⟩ := List.mem_map.mp hx
    rfl
  simp only [VR]
  refine ⟨a, _, rfl, ?_, allInts ns, dd⟩
  rcases hS with (z | ⟨o, z⟩) | z
  · exact absurd z (hO _)
  · exact .inl ⟨⟨o, z⟩, by simp⟩
  · exact .inr z
section
variable {P : Program} {w : World} {K : PySem.W.Frag} {mg mb : Str → Option Value} {k : Nat} {fa a : Addr} {s₁ : Shared} {vs : List Value} {ns : List Int} {N : Nm} {isx : Nat → Bool} {m : List Val → MH → Res Val}
abbrev noTabO : PySem.Obj := { cls := .none, data := .fields #[] }
theorem law_end {cs : List (Addr × Addr)} (KX : K.In s₁.heap) (hns : s₁.heap.Ns mainGlobals mg) (hb : s₁.heap.Ns builtinsNs mb) (hbb : ∀ x : Str, x ≠ "__name__" → mb x = bootBuiltins x) (hlim : s₁.heap.NoLimit) (hg : s₁.gens = #[])
    (hT : ∀ p ∈ cs, s₁.heap.get? p.2 = some noTabO) (nT : ∀ p ∈ cs, K.lookup p.2 = none) (hC : ∀ p ∈ cs, PySem.W.CodeHd s₁.heap p.1 p.2) (tN : ∀ p ∈ N.tabs, ∃ c, (c, p.1) ∈ cs)
    (hbm : ∃ (bm : Addr) (ob : PySem.Obj), mg "__builtins__" = some (.ref bm) ∧ bm ≠ builtinsNs ∧ s₁.heap.get? bm = some ob ∧ ob.cls = .type "module" ∧ ob.dict = some builtinsNs ∧ ob.data = .plain)
    (ha : s₁.heap.get? a = some { cls := .type "list", data := .seq vs.toArray }) (hi : IntsAre vs ns) (hl : ns.length ≤ sizeLine) (hr : RoomH (k + 4) callerA) (hN : N.ex = none) (hsys : ∃ o es ep, s₁.heap.get? sysModules = some o ∧ o.data = .dict es ep)
    (F : ∀ base : Heap, K.In base → base.Ns mainGlobals mg → (∃ o es ep, base.get? sysModules = some o ∧ o.data = .dict es ep) → (∀ p ∈ cs, LamX.TabB base mg p.1 p.2) → Prom P w K mg base N isx k fa m) (hm : ∃ h', m [.fl (ns.map Val.int)] [] = .ok (.bl true) h') :
    codeAny (model P w) callerA (.call (.ref fa) ⟨[.ref a], []⟩) (fun r s' => r = .ok (.ret (.bool true)) ∧ OldK s₁.heap s'.heap ∧ s'.os = s₁.os ∧ AllBare s'.gens) s₁ := by
  have rv := vals_ints hi
  have lenV := hi.length
  obtain ⟨ts, ets⟩ : ∃ ts, ts = cs.map (·.2) := ⟨_, rfl⟩
  have tabT : ∀ b, b ∈ ts → s₁.heap.get? b = some noTabO ∧ K.lookup b = none := fun b hb => by
    rw [ets] at hb
    obtain ⟨p, hp, e⟩ := List.mem_map.mp hb
    rw [← e]
    exact ⟨hT p hp, nT p hp⟩
  have memT : ∀ p ∈ cs, p.2 ∈ ts := fun p hp => by
    rw [ets]
    exact List.mem_map.mpr ⟨p, hp, rfl⟩
  have aT : a ∉ ts := fun z => by
    have q := (tabT a z).1
    rw [ha] at q
    cases q
  have main : ∀ H : L2.Hp, (∀ b ∈ ts, H b = some (.tbl #[])) → (∀ b, H b = none ∨ b ∈ ts ∨ ∃ o xs, H b = some (.frz o (.lst xs))) → SqL K H a (ns.map V.int) → HOk P w H s₁.heap → (∀ b, H b ≠ none → b = a ∨ b ∈ ts) → (H a ≠ none → K.lookup a = none) →
      codeAny (model P w) callerA (.call (.ref fa) ⟨[.ref a], []⟩) (fun r s' => r = .ok (.ret (.bool true)) ∧ OldK s₁.heap s'.heap ∧ s'.os = s₁.os ∧ AllBare s'.gens) s₁ := by
    intro H hH hO hS hok hA hK
    -- what is no list of items and no empty table is not tracked
    have untr : ∀ {b : Addr} {o : PySem.Obj}, s₁.heap.get? b = some o → (∀ l n, o.data ≠ .seq l n) → o.data ≠ .fields #[] → H b = none := fun {b o} e d1 d2 => by
      cases q : H b with
      | none => rfl
      | some u =>
        rcases hA b (by rw [q]; simp) with y | y
        · rw [y, ha] at e
          cases e
          exact absurd rfl (d1 _ _)
        · rw [(tabT b y).1] at e
          cases e
          exact absurd rfl d2
    have dict_free : ∀ {b : Addr} {o : PySem.Obj} {es : Array DictEntry} {ep : Nat}, s₁.heap.get? b = some o → o.data = .dict es ep → H b = none := fun {b o es ep} e d => untr e (fun l n z => by rw [d] at z; cases z) fun z => by rw [d] at z; cases z
    have ns_base : ∀ {b : Addr} {f : Str → Option Value}, s₁.heap.Ns b f → (hidT s₁.heap H).Ns b f := fun {b f} ⟨o, es, ep, e, d, r⟩ => ⟨o, es, ep, hidT_get e (dict_free e d), d, r⟩
    have K_base : K.In (hidT s₁.heap H) := fun b o e => hidT_get (KX b o e) (by
      cases q : H b with
      | none => rfl
      | some u =>
        rcases hA b (by rw [q]; simp) with y | y
        · rw [y] at q e
          rw [hK (by rw [q]; simp)] at e
          cases e
        · rw [(tabT b y).2] at e
          cases e)
    have sys_base : ∃ o es ep, (hidT s₁.heap H).get? sysModules = some o ∧ o.data = .dict es ep := by
      obtain ⟨o, es, ep, e, d⟩ := hsys
      exact ⟨o, es, ep, hidT_get e (dict_free e d), d⟩
    have md : Mod K mg (hidT s₁.heap H) := ⟨K_base, ns_base hns, ⟨mb, ns_base hb, hbb⟩, by
      obtain ⟨mc, h1, h2⟩ := hlim
      exact ⟨mc, ns_base h1, h2⟩⟩
    have tb : ∀ p ∈ cs, LamX.TabB (hidT s₁.heap H) mg p.1 p.2 := fun p hp => by
      have tp := hT p hp
      constructor
      · obtain ⟨o, us, r⟩ := hC p hp
        obtain ⟨file, tf, flags, tg, inF, text, tt, g1, g2, g3, r⟩ := r
        refine ⟨o, us, file, tf, flags, tg, inF, text, tt, hidT_get g1 (untr g1 (fun l n z => by rw [g3] at z; cases z) fun z => ?_), g2, g3, r⟩
        rw [g3] at z
        cases z
        have z := r.1
        simp at z
      · obtain ⟨bm, ob, b1, b2, b3, b4, b5, b6⟩ := hbm
        refine ⟨bm, ob, b1, b2, fun q => ?_, fun q => ?_, hidT_get b3 (untr b3 (fun l n z => by rw [b6] at z; cases z) fun z => by rw [b6] at z; cases z), b4, b5, b6⟩
        · obtain ⟨o, es, ep, e, hd, _⟩ := hns
          rw [q, e] at b3
          cases b3
          rw [hd] at b6
          cases b6
        · rw [q, tp] at b3
          cases b3
          cases b6
      · intro z
        obtain ⟨o, es, ep, e, hd, _⟩ := hns
        rw [z, tp] at e
        cases e
        cases hd
    have e0 : Env0 P w K mg (hidT s₁.heap H) callerA [] s₁ H := ⟨rfl, md, fun b o e => of_hidT e, Nat.le_of_eq (hidT_size _ _), trivial, (fun b hb => by cases hb), hok, .of_eq hg⟩
    obtain ⟨fd, ps, hbind, ar, run⟩ := F _ K_base (ns_base hns) sys_base tb
    obtain ⟨h', hm⟩ := hm
    have l1 : ps.length = 1 := by
      by_cases z : ([.fl (ns.map Val.int)] : List Val).length = ps.length
      · exact z.symm
      · rw [ar _ [] z] at hm
        cases hm
    have bd := hbind s₁ [.ref a] KX (by rw [l1]; rfl)
    rw [List.append_nil] at bd
    have noL : ∀ xs, H a ≠ some (.lst xs) := fun xs z => by
      rcases hO a with y | y | ⟨o, l, y⟩
      · rw [y] at z
        cases z
      · exact aT y
      · rw [y] at z
        cases z
    have sp : SpM N K m [.ref a] H (fun v _ => v = .bl true) (fun _ _ _ => False) := by
      refine ⟨[], [], [.fl (ns.map Val.int)], ⟨rfl, List.nodup_nil, (fun i b o e => by simp at e), fun p hp => ?_⟩, ?_, ?_⟩
      · obtain ⟨c, hc⟩ := tN p hp
        exact LamX.TabS.nil (hH _ (memT _ hc))
      · simp only [VRs]
        exact ⟨_, _, rfl, script_rel noL hS, rfl⟩
      · rw [hm]
        intro ρ' H' v _ _ r
        simpa only [VR] using r
    refine codeAny_mono (run callerA [] s₁ H ⟨[.ref a], []⟩ [.ref a] [.ref a] _ _ hr rfl (.inl ⟨hN, rfl⟩) e0 bd (.cons rfl .nil) sp) fun r s' z => ?_
    cases r with
    | error e =>
      obtain ⟨_, _, _, _, _, _, _, _, _, _, _, _, y⟩ := z
      exact y.elim
    | ok fl =>
      cases fl with
      | next => exact False.elim z
      | brk => exact False.elim z
      | cont => exact False.elim z
      | ret u =>
        obtain ⟨v, H', os, bare, un, hok', r1, q⟩ := z
        have q1 : v = .bl true := q
        rw [q1] at r1
        have r2 : u = Value.bool true := r1
        rw [r2]
        have kept : ∀ b o, b ∉ ts → s₁.heap.get? b = some o → s'.heap.get? b = some o := fun b o nb e => by
          rcases hO b with t | t | ⟨ob, xs, t⟩
          · exact un.keep b o e t (fun t => by cases t) (by simp)
          · exact absurd t nb
          · obtain ⟨e1, _⟩ := hok b _ t
            obtain ⟨e2, _⟩ := hok' b _ (un.frzs b ob _ t)
            rw [e] at e1
            cases e1
            exact e2
        have grew : ∀ b ∈ ts, ∃ more : Array Value, s'.heap.get? b = some { cls := .none, data := .fields more } := fun b hb => by
          obtain ⟨more, z⟩ := un.tbls b #[] (hH b hb)
          exact ⟨_, hok' b _ z⟩
        refine ⟨rfl, ⟨fun b o e => ?_, fun b o e => ?_⟩, os, bare⟩
        · by_cases hb : b ∈ ts
          · obtain ⟨more, z⟩ := grew b hb
            have hb' := hb
            rw [ets] at hb'
            obtain ⟨p, hp, ep⟩ := List.mem_map.mp hb'
            rw [(tabT b hb).1] at e
            cases e
            subst ep
            exact .inr (.inl ⟨((hC p hp).tab (hT p hp)).isCodeTable, rfl, #[], more, rfl, by rw [Array.empty_append]; exact z⟩)
          · exact .inl (kept b o hb e)
        · by_cases hb : b ∈ ts
          · obtain ⟨more, z⟩ := grew b hb
            exact ⟨_, z⟩
          · exact ⟨o, kept b o hb e⟩
  have tok : ∀ b, b ∈ ts → HO.tbl #[] = HO.tbl #[] ∧ s₁.heap.get? b = some noTabO := fun b hb => ⟨rfl, (tabT b hb).1⟩
  cases hk : K.lookup a with
  | some o =>
    have e := KX a o hk
    rw [ha] at e
    cases e
    obtain ⟨H, eH⟩ : ∃ H : L2.Hp, H = fun b => if b ∈ ts then some (.tbl #[]) else none := ⟨_, rfl⟩
    have inn : ∀ b ∈ ts, H b = some (.tbl #[]) := fun b hb => by
      rw [eH]
      exact if_pos hb
    have out : ∀ b, b ∉ ts → H b = none := fun b hb => by
      rw [eH]
      exact if_neg hb
    refine main H inn (fun b => ?_) (.inr ⟨_, vs.toArray, _, hk, rfl, rfl, rfl, by rw [List.size_toArray, lenV]; exact hl, by simpa using rv⟩) (fun b u z => ?_) (fun b z => ?_) fun z => absurd (out a aT) z
    · by_cases hb : b ∈ ts
      · exact .inr (.inl hb)
      · exact .inl (out b hb)
    · by_cases hb : b ∈ ts
      · rw [inn b hb] at z
        cases z
        exact (tabT b hb).1
      · rw [out b hb] at z
        cases z
    · by_cases hb : b ∈ ts
      · exact .inr hb
      · exact absurd (out b hb) z
  | none =>
    obtain ⟨H, eH⟩ : ∃ H : L2.Hp, H = fun b => if b = a then some (.frz { cls := .type "list", data := .seq vs.toArray } (.lst (ns.map V.int))) else if b ∈ ts then some (.tbl #[]) else none := ⟨_, rfl⟩
    have ata : H a = some (.frz { cls := .type "list", data := .seq vs.toArray } (.lst (ns.map V.int))) := by
      rw [eH]
      exact if_pos rfl
    have inn : ∀ b ∈ ts, H b = some (.tbl #[]) := fun b hb => by
      rw [eH]
      have nb : b ≠ a := fun z => aT (by rw [← z]; exact hb)
      exact (if_neg nb).trans (if_pos hb)
    have out : ∀ b, b ≠ a → b ∉ ts → H b = none := fun b h1 h2 => by
      rw [eH]
      exact (if_neg h1).trans (if_neg h2)
    refine main H inn (fun b => ?_) (.inl (.inr ⟨{ cls := .type "list", data := .seq vs.toArray }, ata⟩)) (fun b u z => ?_) (fun b z => ?_) fun _ => hk
    · by_cases hba : b = a
      · exact .inr (.inr ⟨_, _, by rw [hba]; exact ata⟩)
      · by_cases hb : b ∈ ts
        · exact .inr (.inl hb)
        · exact .inl (out b hba hb)
    · by_cases hba : b = a
      · rw [hba, ata] at z
        cases z
        rw [hba]
        exact ⟨ha, by rw [List.length_map]; exact hl, vs, _, rv, ha⟩
      · by_cases hb : b ∈ ts
        · rw [inn b hb] at z
          cases z
          exact (tabT b hb).1
        · rw [out b hba hb] at z
          cases z
    · by_cases hba : b = a
      · exact .inl hba
      · by_cases hb : b ∈ ts
        · exact .inr hb
        · exact absurd (out b hba hb) z
end
/-- a law whose meaning in Mini is True at every script -/
theorem walk_mini {l : PySem.W.OpenLaw} {n k i : Nat} {q : Program} {loose : List Str} {XP : (Str → Option Value) → Heap → Prop} {d : DefRec} {T : Tab} {F : Fam} {fa : List He.Fa} {r : Row} {wd : World → Heap → Prop}
    (hwd : wd = fun _ h => ∃ K, SaysM fa (fnOfT l.prog T) (exB T F) (lamsOf T) h K) (hn : l.most = some n) (hn2 : n ≤ sizeLine) (hdf : d.params.defaults = []) (hr : RoomH (k + 4) callerA) (hT : tabOk l.prog T = true) (hi : T.rows[i]? = some r) (hd : d.name = r.name)
    (hm : ∀ ns : List Int, ns.length ≤ n → ∃ h', (sys (prgOf T F) k).call i [.fl (ns.map Val.int)] [] = .ok (.bl true) h') : PySem.W.WalkO q loose XP wd l.row.toRowW d [] (fun f vs => PySem.call f vs) := by
  subst hwd
  refine Att.attach_call hn hdf fun w s₀ s₁ mg mb f o pm cd doc a vs ns G Y ho hd2 hcd hmg hobj hints hlen hg => ?_
  obtain ⟨K, Y⟩ := Y
  have AR := fun (base : Heap) (sb : ∃ o es ep, base.get? sysModules = some o ∧ o.data = .dict es ep) (tb : ∀ p ∈ (lamsOf T).map (He.cT K), LamX.TabB base mg p.1 p.2) => ar_all (w := w) (base := base) Y.kin G.T.g Y.says hT Y.more sb (fun r hr hl => tb _ (List.mem_map.mpr ⟨(r.name, none), List.mem_map.mpr ⟨r, List.mem_filter.mpr ⟨hr, hl⟩, rfl⟩, rfl⟩)) k
  have ef : f = He.ga K r.name := by
    obtain ⟨_, z, _⟩ := (md_of Y.kin G.T.g Y.more k).fnN i r hi
    rw [hd, z] at hmg
    cases hmg
    rfl
  rw [ef]
  have each : ∀ {Pr : Addr × Addr → Prop}, (∀ p ∈ lamsOf T, Pr (He.cT K p)) → ∀ q ∈ (lamsOf T).map (He.cT K), Pr q := fun {Pr} h q hq => by
    obtain ⟨p, hp, e⟩ := List.mem_map.mp hq
    rw [← e]
    exact h p hp
  refine law_end (N := (nmK T K).wex none) (cs := (lamsOf T).map (He.cT K)) Y.kin G.T.g G.T.b G.T.builtins G.T.nolimit hg (each Y.empty) (each Y.out) (each fun p hp => PySem.W.codeHd_of_K Y.kin (Y.hd p hp)) (fun p hp => ?_) G.T.bmain hobj hints (Nat.le_trans hlen hn2) hr rfl Y.sysm (fun base _ _ sb tb => ((AR base sb tb).pr i r hi).1) (hm ns hlen)
  obtain ⟨r', hr', e⟩ := List.mem_map.mp (show p ∈ tabsOf T K from hp)
  refine ⟨(He.cT K (r'.name, none)).1, List.mem_map.mpr ⟨(r'.name, none), List.mem_map.mpr ⟨r', hr', rfl⟩, ?_⟩⟩
  rw [← e]
end Mini
set_option Elab.async false
set_option linter.all false
set_option maxRecDepth 100000
set_option maxHeartbeats 4000000
/-! Mini alone: how long a repr is. -/
namespace Mini
open PySem
def goodS (s : Str) : Prop := ∀ c ∈ s.cps.toList, c < 1114112
theorem good_app {a b : Str} (x : goodS a) (y : goodS b) : goodS (a ++ b) := by
  intro c hc
  have h : c ∈ (a.cps ++ b.cps).toList := hc
  rw [Array.toList_append] at h
  rcases List.mem_append.mp h with z | z
  · exact x c z
  · exact y c z
theorem char_lt (c : Char) : c.toNat < 1114112 := by
  have h := c.valid
  show c.val.toNat < _
  rcases h with h | ⟨_, h⟩
  · have : c.val.toNat < 55296 := h
    omega
  · exact h
theorem good_of (s : String) : goodS (Str.ofString s) := by
  intro c hc
  rw [Str.ofString_eq_toList] at hc
  simp only [List.mem_map] at hc
  obtain ⟨d, _, rfl⟩ := hc
  exact char_lt d
theorem good_hex {c w : Nat} : ∀ d ∈ List.replicate (w - ((Nat.toDigits 16 c).map Char.toNat).length) 48 ++ (Nat.toDigits 16 c).map Char.toNat, d < 1114112 := by
  intro d hd
  rcases List.mem_append.mp hd with z | z
  · rw [(List.mem_replicate.mp z).2]
    decide
  · obtain ⟨e, _, rfl⟩ := List.mem_map.mp z
    exact char_lt e
theorem good_char {q c : Nat} (hc : c < 1114112) : ∀ d ∈ Builtin.Str.reprChar q c, d < 1114112 := by
  intro d hd
  unfold Builtin.Str.reprChar at hd
  dsimp only at hd
  repeat' split at hd
  all_goals simp only [List.mem_cons, List.mem_append, List.not_mem_nil, or_false] at hd
  all_goals first
    | (rcases hd with rfl | rfl <;> first | exact hc | decide)
    | (rw [hd]; exact hc)
    | (rcases hd with (rfl | rfl) | z; decide; decide; exact good_hex d (List.mem_append.mpr z))
theorem good_fold {q : Nat} : ∀ (l : List Nat) (acc : Array Nat), (∀ c ∈ l, c < 1114112) → (∀ c ∈ acc.toList, c < 1114112) → ∀ c ∈ (l.foldl (fun out c => out ++ (Builtin.Str.reprChar q c).toArray) acc).toList, c < 1114112
  | [], acc, _, h => h
  | x :: l, acc, h1, h2 => by
    refine good_fold l _ (fun c hc => h1 c (List.mem_cons_of_mem _ hc)) fun c hc => ?_
    rw [Array.toList_append] at hc
    rcases List.mem_append.mp hc with z | z
    · exact h2 c z
    · exact good_char (h1 x List.mem_cons_self) c z
theorem quote_lt (x : Str) : reprQuote x < 1114112 := by
  unfold reprQuote
  split <;> decide
theorem good_repr {x : Str} (h : goodS x) : goodS (reprText x) := by
  intro c hc
  unfold reprText at hc
  simp only [Array.toList_push] at hc
  rcases List.mem_append.mp hc with z | z
  · rw [← Array.foldl_toList] at z
    refine good_fold x.cps.toList #[reprQuote x] h (fun d hd => ?_) c z
    simp only [List.mem_singleton] at hd
    rw [hd]
    exact quote_lt x
  · rw [List.mem_singleton.mp z]
    exact quote_lt x
def sumL (ts : List Str) : Nat := ts.foldr (fun t n => t.length + 2 + n) 0
theorem text_le : ∀ (ts : List Str) (k : Nat) (acc : Str), (textFrom k acc ts).length ≤ acc.length + sumL ts
  | [], k, acc => Nat.le_refl _
  | t :: ts, k, acc => by
    have ih := text_le ts (k + 1) (acc ++ (if k > 0 then ", " else "" : String) ++ t)
    have e : (acc ++ (if k > 0 then ", " else "" : String) ++ t).length ≤ acc.length + 2 + t.length := by
      rw [strLen_append, strLen_append]
      split
      · have : ((", " : String) : Str).length = 2 := rfl
        omega
      · have : (("" : String) : Str).length = 0 := rfl
        omega
    have e2 : sumL (t :: ts) = t.length + 2 + sumL ts := rfl
    rw [e2]
    exact Nat.le_trans ih (by omega)
theorem text_good : ∀ (ts : List Str) (k : Nat) (acc : Str), (∀ t ∈ ts, goodS t) → goodS acc → goodS (textFrom k acc ts)
  | [], k, acc, _, h => h
  | t :: ts, k, acc, h1, h2 => text_good ts (k + 1) _ (fun x hx => h1 x (List.mem_cons_of_mem _ hx)) (good_app (good_app h2 (good_of _)) (h1 t List.mem_cons_self))
theorem join_le : ∀ ts : List Str, (Str.join ", " ts).length ≤ sumL ts
  | [] => Nat.zero_le _
  | [x] => by
    show x.length ≤ x.length + 2 + 0
    omega
  | x :: y :: r => by
    have ih := join_le (y :: r)
    show (x ++ ((", " : String) : Str) ++ Str.join ", " (y :: r)).length ≤ x.length + 2 + sumL (y :: r)
    rw [strLen_append, strLen_append]
    have : ((", " : String) : Str).length = 2 := rfl
    omega
theorem join_good : ∀ ts : List Str, (∀ t ∈ ts, goodS t) → goodS (Str.join ", " ts)
  | [], _ => fun c hc => by cases hc
  | [x], h => h x List.mem_cons_self
  | x :: y :: r, h => good_app (good_app (h x List.mem_cons_self) (good_of _)) (join_good (y :: r) fun t ht => h t (List.mem_cons_of_mem _ ht))
/-! sizes -/
mutual
def sz : PyData → Nat
  | .none => 4
  | .bool _ => 5
  | .int i => i.natAbs.log2 + 3
  | .str x => 10 * x.length + 2
  | .list xs => szs xs + 2
  | .tuple xs => szs xs + 3
  | .dict kvs => szk kvs + 2
def szs : List PyData → Nat
  | [] => 0
  | x :: xs => sz x + 2 + szs xs
def szk : List (PyData × PyData) → Nat
  | [] => 0
  | (k, v) :: r => sz k + sz v + 4 + szk r
end
mutual
/-- every text in it is a text -/
def txt : PyData → Prop
  | .str x => goodS x
  | .list xs => txts xs
  | .tuple xs => txts xs
  | .dict kvs => txtk kvs
  | _ => True
def txts : List PyData → Prop
  | [] => True
  | x :: xs => txt x ∧ txts xs
def txtk : List (PyData × PyData) → Prop
  | [] => True
  | (k, v) :: r => txt k ∧ txt v ∧ txtk r
end
mutual
theorem shown_le : ∀ d : PyData, txt d → d.shown.length ≤ sz d ∧ goodS d.shown
  | .none, _ => ⟨by simp only [PyData.shown, sz]; decide, by simp only [PyData.shown]; exact good_of _⟩
  | .bool b, _ => by
    cases b
    · exact ⟨by simp only [PyData.shown, sz]; decide, by simp only [PyData.shown]; exact good_of _⟩
    · exact ⟨by simp only [PyData.shown, sz]; decide, by simp only [PyData.shown]; exact good_of _⟩
  | .int i, _ => by
    simp only [PyData.shown, sz]
    refine ⟨?_, good_of _⟩
    have := int_text_length_le (a := i) (k := i.natAbs.log2 + 1) (by omega) (by omega)
    rw [Str.ofString_eq_toList]
    show ((toString i).toList.map Char.toNat).toArray.size ≤ _
    rw [List.size_toArray, List.length_map]
    have e : (toString i).toList.length = (toString i).length := rfl
    omega
  | .str x, h => by
    simp only [txt] at h
    simp only [PyData.shown, sz]
    exact ⟨PySem.StrLaws.reprText_len x (fun c hc => Nat.lt_trans (h c hc) (by decide)), good_repr h⟩
  | .list xs, h => by
    simp only [txt] at h
    obtain ⟨a, b⟩ := showns_le xs h
    simp only [PyData.shown, sz]
    unfold listText
    refine ⟨?_, good_app (text_good _ _ _ b (good_of _)) (good_of _)⟩
    rw [strLen_append]
    have := text_le (PyData.shownAll xs) 0 "["
    have e1 : (("[" : String) : Str).length = 1 := rfl
    have e2 : (("]" : String) : Str).length = 1 := rfl
    omega
  | .tuple xs, h => by
    simp only [txt] at h
    obtain ⟨a, b⟩ := showns_le xs h
    simp only [PyData.shown, sz]
    unfold tupleText
    refine ⟨?_, good_app (good_app (good_of _) (join_good _ b)) (good_of _)⟩
    rw [strLen_append, strLen_append]
    have := join_le (PyData.shownAll xs)
    have e1 : (("(" : String) : Str).length = 1 := rfl
    have e2 : ((if (PyData.shownAll xs).length == 1 then ",)" else ")" : String) : Str).length ≤ 2 := by
      split <;> decide
    omega
  | .dict kvs, h => by
    simp only [txt] at h
    obtain ⟨a, b⟩ := showk_le kvs h
    simp only [PyData.shown, sz]
    unfold dictText
    refine ⟨?_, good_app (good_app (good_of _) (join_good _ b)) (good_of _)⟩
    rw [strLen_append, strLen_append]
    have := join_le (PyData.shownKv kvs)
    have e1 : (("{" : String) : Str).length = 1 := rfl
    have e2 : (("}" : String) : Str).length = 1 := rfl
    omega
theorem showns_le : ∀ ds : List PyData, txts ds → sumL (PyData.shownAll ds) ≤ szs ds ∧ ∀ t ∈ PyData.shownAll ds, goodS t
  | [], _ => ⟨by simp only [PyData.shownAll, szs]; exact Nat.le_refl _, fun t ht => by simp only [PyData.shownAll] at ht; cases ht⟩
  | x :: xs, h => by
    simp only [txts] at h
    obtain ⟨a1, b1⟩ := shown_le x h.1
    obtain ⟨a2, b2⟩ := showns_le xs h.2
    simp only [PyData.shownAll, szs]
    refine ⟨?_, fun t ht => ?_⟩
    · show (PyData.shown x).length + 2 + sumL (PyData.shownAll xs) ≤ _
      omega
    · rcases List.mem_cons.mp ht with z | z
      · rw [z]
        exact b1
      · exact b2 t z
theorem showk_le : ∀ ds : List (PyData × PyData), txtk ds → sumL (PyData.shownKv ds) ≤ szk ds ∧ ∀ t ∈ PyData.shownKv ds, goodS t
  | [], _ => ⟨by simp only [PyData.shownKv, szk]; exact Nat.le_refl _, fun t ht => by simp only [PyData.shownKv] at ht; cases ht⟩
  | (k, v) :: r, h => by
    simp only [txtk] at h
    obtain ⟨a1, b1⟩ := shown_le k h.1
    obtain ⟨a2, b2⟩ := shown_le v h.2.1
    obtain ⟨a3, b3⟩ := showk_le r h.2.2
    simp only [PyData.shownKv, szk]
    refine ⟨?_, fun t ht => ?_⟩
    · show (PyData.shown k ++ ((": " : String) : Str) ++ PyData.shown v).length + 2 + sumL (PyData.shownKv r) ≤ _
      rw [strLen_append, strLen_append]
      have e1 : ((": " : String) : Str).length = 2 := rfl
      omega
    · rcases List.mem_cons.mp ht with z | z
      · rw [z]
        exact good_app (good_app b1 (good_of _)) b2
      · exact b3 t z
end
theorem good_ok {x : Str} (h : goodS x) : PyData.strOk x = true := by
  unfold PyData.strOk
  rw [Array.all_eq_true']
  intro c hc
  exact decide_eq_true (h c (Array.mem_def.mp hc))
end Mini
set_option Elab.async false
set_option linter.all false
set_option maxRecDepth 100000
set_option maxHeartbeats 4000000
/-! Mini alone: running a text by rewriting. -/
namespace Mini
open PySem
def bd {α β : Type} (m : MH → Res α) (f : α → MH → Res β) (h : MH) : Res β := (m h).bind f
def gd {α : Type} (m : MH → Res α) (f : α → MH → Out) (σ : MF) (h : MH) : Out := (m h).go σ f
def sq (r : MF → MH → Out) (f : MF → MH → Out) (σ : MF) (h : MH) : Out := (r σ h).seq f
def iteF (t : Bool) (f g : MH → Out) (h : MH) : Out := if t then f h else g h
def iteR (t : Option Bool) (f g : MH → Res Val) (h : MH) : Res Val := match t with
  | some true => f h
  | some false => g h
  | none => .bad
def andF (m : MH → Res Val) (x : Val) (h : MH) : Res Val := match x with
  | .bl true => m h
  | .bl false => .ok (.bl false) h
  | _ => .bad
def orF (m : MH → Res Val) (x : Val) (h : MH) : Res Val := match x with
  | .bl true => .ok (.bl true) h
  | .bl false => m h
  | _ => .bad
def gR {α : Type} (c : Bool) (m : MH → Res α) (h : MH) : Res α := if c then m h else .bad
def tryF (Γ : Sys) (c i : Nat) (s : MF → MH → Out) (r : Out) : Out := match r with
  | .ex d fs σ1 h1 => if Γ.isx d && Γ.isx c then (if Γ.sub d c then (match s (σ1.set i (some (.exn d fs))) h1 with
      | .nx σ2 h2 => if (σ2.set i none).all datO then .nx (σ2.set i none) h2 else .bad
      | .rt v h2 => if dat v then .rt v h2 else .bad
      | _ => .bad) else .ex d fs σ1 h1) else .bad
  | r => r
variable {Γ : Sys} {σ : MF} {h h1 h2 : MH}
@[simp] theorem bd_ {α β : Type} {m : MH → Res α} {f : α → MH → Res β} : bd m f h = (m h).bind f := rfl
@[simp] theorem gd_ {α : Type} {m : MH → Res α} {f : α → MH → Out} : gd m f σ h = (m h).go σ f := rfl
@[simp] theorem sq_ {r f : MF → MH → Out} : sq r f σ h = (r σ h).seq f := rfl
@[simp] theorem iteF_t {f g : MH → Out} : iteF true f g h = f h := rfl
@[simp] theorem iteF_f {f g : MH → Out} : iteF false f g h = g h := rfl
@[simp] theorem iteR_t {f g : MH → Res Val} : iteR (some true) f g h = f h := rfl
@[simp] theorem iteR_f {f g : MH → Res Val} : iteR (some false) f g h = g h := rfl
@[simp] theorem andF_t {f : MH → Res Val} : andF f (.bl true) h = f h := rfl
@[simp] theorem andF_f {f : MH → Res Val} : andF f (.bl false) h = .ok (.bl false) h := rfl
@[simp] theorem orF_t {f : MH → Res Val} : orF f (.bl true) h = .ok (.bl true) h := rfl
@[simp] theorem orF_f {f : MH → Res Val} : orF f (.bl false) h = f h := rfl
@[simp] theorem gR_t {α : Type} {m : MH → Res α} : gR true m h = m h := rfl
@[simp] theorem b_ok {α β : Type} {x : α} {f : α → MH → Res β} : (Res.ok x h).bind f = f x h := rfl
@[simp] theorem b_ex {α β : Type} {c : Nat} {fs : List Val} {f : α → MH → Res β} : (Res.exc c fs h : Res α).bind f = .exc c fs h := rfl
@[simp] theorem g_ok {α : Type} {x : α} {f : α → MH → Out} : (Res.ok x h).go σ f = f x h := rfl
@[simp] theorem g_ex {α : Type} {c : Nat} {fs : List Val} {f : α → MH → Out} : (Res.exc c fs h : Res α).go σ f = .ex c fs σ h := rfl
@[simp] theorem q_nx {f : MF → MH → Out} : (Out.nx σ h).seq f = f σ h := rfl
@[simp] theorem q_rt {v : Val} {f : MF → MH → Out} : (Out.rt v h).seq f = .rt v h := rfl
@[simp] theorem q_bk {f : MF → MH → Out} : (Out.bk σ h).seq f = .bk σ h := rfl
@[simp] theorem q_ct {f : MF → MH → Out} : (Out.ct σ h).seq f = .ct σ h := rfl
@[simp] theorem q_ex {c : Nat} {fs : List Val} {f : MF → MH → Out} : (Out.ex c fs σ h).seq f = .ex c fs σ h := rfl
@[simp] theorem o_s {x : Val} : ofOpt (some (x, h)) = .ok x h := rfl
@[simp] theorem v_s {α : Type} {x : α} : ofVal (some x) h = .ok x h := rfl
variable {a b c e es o it t s : C} {i k : Nat}
def vF (x : Option (Option Val)) (h : MH) : Res Val := match x with
  | some (some x) => .ok x h
  | _ => .bad
@[simp] theorem vF_ {x : Val} : vF (some (some x)) h = .ok x h := rfl
@[simp] theorem E_v : evE Γ (.v i) σ h = vF σ[i]? h := by
  unfold evE vF
  rfl
@[simp] theorem E_ki {z : Int} : evE Γ (.ki z) σ h = .ok (.int z) h := by unfold evE; rfl
@[simp] theorem E_ks {z : Str} : evE Γ (.ks z) σ h = .ok (.str z) h := by unfold evE; rfl
@[simp] theorem E_kb {z : Bool} : evE Γ (.kb z) σ h = .ok (.bl z) h := by unfold evE; rfl
@[simp] theorem E_kn : evE Γ .kn σ h = .ok .non h := by unfold evE; rfl
@[simp] theorem E_gv {w : Val} : evE Γ (.gv w) σ h = .ok w h := by unfold evE; rfl
def opF (o : BOp) (x y : Val) (h : MH) : Res Val := ofOpt (bop o h x y)
@[simp] theorem opF_ {o : BOp} {x y : Val} : opF o x y h = ofOpt (bop o h x y) := rfl
@[simp] theorem E_op {o : BOp} : evE Γ (.op o a b) σ h = bd (evE Γ a σ) (fun x => bd (evE Γ b σ) (opF o x)) h := by unfold evE; rfl
def negF (x : Val) (h : MH) : Res Val := match x with
  | .int i => .ok (.int (-i)) h
  | _ => .bad
@[simp] theorem negF_ {z : Int} : negF (.int z) h = .ok (.int (-z)) h := rfl
@[simp] theorem E_neg : evE Γ (.neg a) σ h = bd (evE Γ a σ) negF h := by unfold evE; rfl
@[simp] def cmF (o : COp) (x y : Val) (h : MH) : Res Val := ofVal ((cop o h x y).map .bl) h
theorem cmF_ {o : COp} {x y : Val} {z : Bool} (hz : cop o h x y = some z) : cmF o x y h = .ok (.bl z) h := by
  unfold cmF
  rw [hz]
  rfl
@[simp] theorem E_cm {o : COp} : evE Γ (.cm o a b) σ h = bd (evE Γ a σ) (fun x => bd (evE Γ b σ) (cmF o x)) h := by unfold evE; rfl
def chF (p : COp) (m : MH → Res Val) (t : Option Bool) (y : Val) (h : MH) : Res Val := match t with
  | some true => (m h).bind (cmF p y)
  | some false => .ok (.bl false) h
  | none => .bad
@[simp] theorem chF_t {p : COp} {m : MH → Res Val} {y : Val} : chF p m (some true) y h = (m h).bind (cmF p y) := by
  unfold chF
  rfl
@[simp] theorem chF_f {p : COp} {m : MH → Res Val} {y : Val} : chF p m (some false) y h = .ok (.bl false) h := by
  unfold chF
  rfl
def chG (o p : COp) (m : MH → Res Val) (x y : Val) (h : MH) : Res Val := chF p m (cop o h x y) y h
@[simp] theorem chG_ {o p : COp} {m : MH → Res Val} {x y : Val} : chG o p m x y h = chF p m (cop o h x y) y h := by
  unfold chG
  rfl
@[simp] theorem E_ch {o p : COp} : evE Γ (.ch o p a b c) σ h = bd (evE Γ a σ) (fun x => bd (evE Γ b σ) (chG o p (evE Γ c σ) x)) h := by
  unfold evE
  rfl
@[simp] theorem E_and : evE Γ (.and a b) σ h = bd (evE Γ a σ) (andF (evE Γ b σ)) h := by
  unfold evE bd
  cases evE Γ a σ h with
  | ok x h =>
    cases x with
    | bl c => cases c <;> rfl
    | _ => rfl
  | exc c fs h => rfl
  | bad => rfl
@[simp] theorem E_or : evE Γ (.or a b) σ h = bd (evE Γ a σ) (orF (evE Γ b σ)) h := by
  unfold evE bd
  cases evE Γ a σ h with
  | ok x h =>
    cases x with
    | bl c => cases c <;> rfl
    | _ => rfl
  | exc c fs h => rfl
  | bad => rfl
def notF (x : Val) (h : MH) : Res Val := match x with
  | .bl b => .ok (.bl (!b)) h
  | _ => .bad
@[simp] theorem notF_ {z : Bool} : notF (.bl z) h = .ok (.bl (!z)) h := rfl
@[simp] theorem E_not : evE Γ (.not a) σ h = bd (evE Γ a σ) notF h := by unfold evE; rfl
def ifF (f g : MH → Res Val) (x : Val) (h : MH) : Res Val := iteR (tru h x) f g h
@[simp] theorem ifF_ {f g : MH → Res Val} {x : Val} : ifF f g x h = iteR (tru h x) f g h := rfl
@[simp] theorem E_ifx : evE Γ (.ifx c a b) σ h = bd (evE Γ c σ) (ifF (evE Γ a σ) (evE Γ b σ)) h := by
  unfold evE bd
  cases evE Γ c σ h with
  | ok x h1 =>
    show (match tru h1 x with
      | some true => evE Γ a σ h1
      | some false => evE Γ b σ h1
      | none => .bad) = iteR (tru h1 x) _ _ h1
    cases tru h1 x with
    | none => rfl
    | some b => cases b <;> rfl
  | exc c fs h => rfl
  | bad => rfl
@[simp] def tupF (xs : List Val) (h : MH) : Res Val := if fits xs.length && xs.all dat then .ok (.tup xs) h else .bad
theorem tupF_ {xs : List Val} (g : (fits xs.length && xs.all dat) = true) : tupF xs h = .ok (.tup xs) h := if_pos g
@[simp] theorem E_tup : evE Γ (.tup es) σ h = bd (evEs Γ es σ) tupF h := by unfold evE; rfl
@[simp] def lstF (xs : List Val) (h : MH) : Res Val := if fits xs.length && xs.all dat then ofOpt (alloc h (.lst xs)) else .bad
theorem lstF_ {xs : List Val} (g : (fits xs.length && xs.all dat) = true) : lstF xs h = .ok (.ref h.length) (h ++ [.lst xs]) := if_pos g
@[simp] theorem E_lst : evE Γ (.lst es) σ h = bd (evEs Γ es σ) lstF h := by unfold evE; rfl
@[simp] def dctF (xs : List Val) (h : MH) : Res Val := ofOpt (newDic h xs)
@[simp] theorem E_dct : evE Γ (.dct es) σ h = bd (evEs Γ es σ) dctF h := by unfold evE; rfl
@[simp] def ixF (x y : Val) (h : MH) : Res Val := ofVal (getIx h x y) h
theorem ixF_ {x y z : Val} (g : getIx h x y = some z) : ixF x y h = .ok z h := by
  unfold ixF
  rw [g]
  rfl
@[simp] theorem E_ix : evE Γ (.ix a b) σ h = bd (evE Γ a σ) (fun x => bd (evE Γ b σ) (ixF x)) h := by unfold evE; rfl
@[simp] theorem E_call {f : Nat} : evE Γ (.call f es) σ h = bd (evEs Γ es σ) (Γ.call f) h := by unfold evE; rfl
@[simp] def biF (Γ : Sys) (z : Bi) (xs : List Val) (h : MH) : Res Val := ofOpt (biV Γ z h xs)
theorem biF_ {z : Bi} {xs : List Val} {w : Val} (g : biV Γ z h xs = some (w, h1)) : biF Γ z xs h = .ok w h1 := by
  unfold biF
  rw [g]
  rfl
@[simp] theorem E_blt {z : Bi} : evE Γ (.blt z es) σ h = bd (evEs Γ es σ) (biF Γ z) h := by unfold evE; rfl
@[simp] def mtF (m : Mt) (x : Val) (es : MH → Res (List Val)) (h : MH) : Res Val := if mtTy m h x then bd es (fun xs h2 => ofOpt (mtV m h2 x xs)) h else .bad
theorem mtF_ {m : Mt} {x : Val} {es : MH → Res (List Val)} (g : mtTy m h x = true) : mtF m x es h = bd es (fun xs h2 => ofOpt (mtV m h2 x xs)) h := if_pos g
@[simp] theorem E_mth {m : Mt} : evE Γ (.mth m o es) σ h = bd (evE Γ o σ) (fun x => mtF m x (evEs Γ es σ)) h := by
  unfold evE
  rfl
@[simp] def fldF (Γ : Sys) (f : Str) (x : Val) (h : MH) : Res Val := ofVal (getFld Γ.flds h x f) h
theorem fldF_ {f : Str} {x z : Val} (g : getFld Γ.flds h x f = some z) : fldF Γ f x h = .ok z h := by
  unfold fldF
  rw [g]
  rfl
@[simp] theorem E_fld {f : Str} : evE Γ (.fld o f) σ h = bd (evE Γ o σ) (fldF Γ f) h := by unfold evE; rfl
@[simp] theorem Es_nil : evEs Γ .nil σ h = .ok [] h := by unfold evEs; rfl
@[simp] def cons2 (x : Val) (xs : List Val) (h : MH) : Res (List Val) := .ok (x :: xs) h
@[simp] def consF (m : MH → Res (List Val)) (x : Val) (h : MH) : Res (List Val) := (m h).bind (cons2 x)
@[simp] theorem Es_cons : evEs Γ (.cons a b) σ h = bd (evE Γ a σ) (consF (evEs Γ b σ)) h := by
  show evEs Γ (.cons a b) σ h = (evE Γ a σ h).bind _
  rw [evEs]
  rfl
@[simp] def truF (x : Val) (h : MH) : Res Bool := ofVal (tru h x) h
theorem truF_ {x : Val} {z : Bool} (g : tru h x = some z) : truF x h = .ok z h := by
  unfold truF
  rw [g]
  rfl
@[simp] theorem T_ : evT Γ c σ h = bd (evE Γ c σ) truF h := rfl
/-! statements -/
@[simp] theorem G_tv {x : Val} : asg Γ (.tv i) x σ h = .nx (σ.set i (some x)) h := by unfold asg; rfl
@[simp] theorem G_tt {x : List Val} (g : x.length = lenC c) : asg Γ (.tt c) (.tup x) σ h = asgs Γ c x σ h := by
  unfold asg
  exact if_pos g
@[simp] theorem Gs_nil : asgs Γ .nil [] σ h = .nx σ h := by unfold asgs; rfl
@[simp] theorem Gs_cons {x : Val} {xs : List Val} : asgs Γ (.cons a b) (x :: xs) σ h = (asg Γ a x σ h).seq (asgs Γ b xs) := by
  rw [asgs]
@[simp] def putF (x y z : Val) (σ : MF) (h : MH) : Out := match putIx h y z x with
  | some h3 => .nx σ h3
  | none => .bad
theorem putF_ {x y z : Val} (g : putIx h y z x = some h1) : putF x y z σ h = .nx σ h1 := by
  unfold putF
  rw [g]
@[simp] theorem G_tix {x : Val} : asg Γ (.tix a b) x σ h = gd (evE Γ a σ) (fun y => gd (evE Γ b σ) (fun z => putF x y z σ) σ) σ h := by
  rw [asg]
  rfl
@[simp] theorem S_set : evS Γ (.set t e) σ h = gd (evE Γ e σ) (fun x => asg Γ t x σ) σ h := by unfold evS; rfl
def exF (σ : MF) (_ : Val) (h : MH) : Out := .nx σ h
@[simp] theorem exF_ {x : Val} : exF σ x h = .nx σ h := rfl
@[simp] theorem S_ex : evS Γ (.ex e) σ h = gd (evE Γ e σ) (exF σ) σ h := by unfold evS; rfl
@[simp] theorem S_ret : evS Γ (.ret e) σ h = gd (evE Γ e σ) .rt σ h := by unfold evS; rfl
@[simp] theorem S_retn : evS Γ .retn σ h = .rt .non h := by unfold evS; rfl
@[simp] theorem S_pass : evS Γ .pass σ h = .nx σ h := by unfold evS; rfl
@[simp] theorem S_brk : evS Γ .brk σ h = .bk σ h := by unfold evS; rfl
@[simp] theorem S_cnt : evS Γ .cnt σ h = .ct σ h := by unfold evS; rfl
@[simp] theorem S_ite : evS Γ (.ite c a b) σ h = gd (evT Γ c σ) (fun t => iteF t (evSs Γ a σ) (evSs Γ b σ)) σ h := by unfold evS; rfl
theorem S_whl : evS Γ (.whl c b) σ h = whileF (evT Γ c) (evSs Γ b) FUEL σ h := by unfold evS; rfl
def turnF (Γ : Sys) (t b : C) (x : Val) (σ : MF) (h : MH) : Out := (asg Γ t x σ h).seq (evSs Γ b)
theorem turnF_ {x : Val} : turnF Γ t b x σ h = (asg Γ t x σ h).seq (evSs Γ b) := rfl
def forF (Γ : Sys) (t b : C) (σ : MF) (w : Walk) (h : MH) : Out := walkFor (turnF Γ t b) w σ h
@[simp] theorem forF_i {xs : List Val} : forF Γ t b σ (.items xs) h = forL (turnF Γ t b) xs σ h := rfl
@[simp] theorem forF_r {r : Nat} : forF Γ t b σ (.live r) h = forR (turnF Γ t b) r FUEL 0 σ h := rfl
@[simp] theorem S_for : evS Γ (.for_ t it b) σ h = gd (evI Γ it σ) (forF Γ t b σ) σ h := by unfold evS; rfl
@[simp] def raF (Γ : Sys) (c : Nat) (σ : MF) (xs : List Val) (h : MH) : Out := if xs.length = (Γ.flds c).length && (xs.all dat && Γ.isx c) then .ex c xs σ h else .bad
theorem raF_ {z : Nat} {xs : List Val} (g : (decide (xs.length = (Γ.flds z).length) && (xs.all dat && Γ.isx z)) = true) : raF Γ z σ xs h = .ex z xs σ h := if_pos g
@[simp] theorem S_rais {z : Nat} : evS Γ (.rais z es) σ h = gd (evEs Γ es σ) (raF Γ z σ) σ h := by unfold evS; rfl
@[simp] theorem S_try {z : Nat} : evS Γ (.try_ b z i s) σ h = tryF Γ z i (evSs Γ s) (evSs Γ b σ h) := by
  rw [evS]
  unfold tryF
  cases evSs Γ b σ h <;> rfl
@[simp] theorem Ss_nil : evSs Γ .nil σ h = .nx σ h := by unfold evSs; rfl
@[simp] theorem Ss_cons : evSs Γ (.cons a b) σ h = sq (evS Γ a) (evSs Γ b) σ h := by rw [evSs]; rfl
def outF (r : Out) : Res Val := match r with
  | .nx _ h1 => .ok .non h1
  | .rt v h1 => .ok v h1
  | .ex c fs _ h1 => .exc c fs h1
  | _ => .bad
@[simp] theorem outF_nx : outF (.nx σ h) = .ok .non h := rfl
@[simp] theorem outF_rt {v : Val} : outF (.rt v h) = .ok v h := rfl
@[simp] theorem outF_ex {c : Nat} {fs : List Val} : outF (.ex c fs σ h) = .exc c fs h := rfl
theorem run_fn {f : Fn} {xs : List Val} (hl : xs.length = f.np) : runFn Γ f xs h = outF (evSs Γ f.body (xs.map some ++ List.replicate (f.ns - f.np) none) h) := by
  unfold runFn
  rw [if_pos hl]
  unfold outF
  cases evSs Γ f.body (xs.map some ++ List.replicate (f.ns - f.np) none) h <;> rfl
theorem I_rng {n : Int} (g : evE Γ a σ h = .ok (.int n) h1) (hn : -(2 ^ 62) ≤ n ∧ n < 2 ^ 62) : evI Γ (.rng1 a) σ h = .ok (.items ((List.range n.toNat).map fun (k : Nat) => .int k)) h1 := by
  show (evE Γ a σ h).bind _ = _
  rw [g]
  exact if_pos hn
theorem I_e {x : Val} {w : Walk} (g : evE Γ c σ h = .ok x h1) (hw : walkOf h1 x = some w) : evI Γ (.each c) σ h = .ok w h1 := by
  dsimp only [evI]
  rw [g]
  show ofVal (walkOf h1 x) h1 = _
  rw [hw]
  rfl
/-! calls of what a name holds, lambdas, slices, comprehensions -/
def cvF (Γ : Sys) (o : Option (Option Val)) (m : MH → Res (List Val)) (h : MH) : Res Val := match o with
  | some (some (.fn f)) => if Γ.isf f then (m h).bind (Γ.call f) else .bad
  | _ => .bad
@[simp] theorem cvF_ {f : Nat} {m : MH → Res (List Val)} (g : Γ.isf f = true) : cvF Γ (some (some (.fn f))) m h = bd m (Γ.call f) h := if_pos g
@[simp] theorem E_callv : evE Γ (.callv i es) σ h = cvF Γ σ[i]? (evEs Γ es σ) h := by
  unfold evE cvF
  rfl
@[simp] theorem E_flt {f : Nat} : evE Γ (.flt f b) σ h = Γ.thunk f (evE Γ b σ h) := by rw [evE]
def rgF (x : Val) (h : MH) : Res Val := match x with
  | .int n => if decide (-(2 ^ 62) ≤ n) && decide (n ≤ 16777216) then .ok (.tup (rgM n)) h else .bad
  | _ => .bad
theorem rgF_ {n : Int} (g : (decide (-(2 ^ 62) ≤ n) && decide (n ≤ 16777216)) = true) : rgF (.int n) h = .ok (.tup (rgM n)) h := if_pos g
@[simp] theorem E_tupr : evE Γ (.tupr a) σ h = bd (evE Γ a σ) rgF h := by
  unfold evE
  rfl
@[simp] def partF (x : Val) (h : MH) : Res (Option Int) := ofVal (partV x) h
@[simp] theorem P_nil : evP Γ .nil σ h = .ok none h := rfl
@[simp] theorem P_some (g : isNil c = false) : evP Γ c σ h = bd (evE Γ c σ) partF h := by
  unfold evP
  rw [if_neg (by rw [g]; decide)]
  rfl
@[simp] def slF (x : Val) (l u : Option Int) (h : MH) : Res Val := ofOpt (slV h x l u)
@[simp] theorem E_sl : evE Γ (.sl a b c) σ h = bd (evE Γ a σ) (fun x => bd (evP Γ b σ) (fun l => bd (evP Γ c σ) (slF x l))) h := by
  unfold evE
  rfl
def untF (x : Val) (h : MH) : Res Val := .ok (untV x) h
@[simp] theorem untF_ {x : Val} : untF x h = .ok (untV x) h := rfl
@[simp] theorem unt_tp {xs : List Val} : untV (.tp xs) = .tup xs := rfl
@[simp] theorem unt_tup {xs : List Val} : untV (.tup xs) = .tup xs := rfl
@[simp] theorem unt_ref {i : Nat} : untV (.ref i) = .ref i := rfl
@[simp] theorem unt_int {i : Int} : untV (.int i) = .int i := rfl
@[simp] theorem E_unt : evE Γ (.unt a) σ h = bd (evE Γ a σ) untF h := by
  unfold evE
  rfl
@[simp] def btupF (x : Val) (h : MH) : Res Val := ofOpt (btupV h x)
@[simp] theorem E_btup : evE Γ (.btup a) σ h = bd (evE Γ a σ) btupF h := by
  unfold evE
  rfl
@[simp] def rvsF (x : Val) (h : MH) : Res Val := ofOpt (revV h x)
@[simp] theorem E_rvs : evE Γ (.rvs a) σ h = bd (evE Γ a σ) rvsF h := by
  unfold evE
  rfl
@[simp] def ssetF (x : Val) (h : MH) : Res Val := ofOpt (ssetV h x)
@[simp] theorem E_sset : evE Γ (.sset a) σ h = bd (evE Γ a σ) ssetF h := by
  unfold evE
  rfl
def lc2TF (Γ : Sys) (vs : List Nat) (e t c : C) (vs1 : List Nat) (t1 it1 c1 : C) (σ : MF) (x : Val) (acc : List Val) (h : MH) : Res (List Val) := turn2 (isNil c) (asg Γ t x (wipeM σ vs) h) (evE Γ c) (evI Γ it1) (fun σ2 w1 acc2 h4 => walkAcc (fun y h5 => lcTurn (isNil c1) (asg Γ t1 y (wipeM σ2 vs1) h5) (evE Γ c1) (evE Γ e)) w1 acc2 h4) acc
def lcTF (Γ : Sys) (vs : List Nat) (e t c : C) (σ : MF) (x : Val) (h : MH) : Res (Option Val) := lcTurn (isNil c) (asg Γ t x (wipeM σ vs) h) (evE Γ c) (evE Γ e)
def lcE (ys : List Val) (h : MH) : Res Val := if ys.all dat then .ok (.ref h.length) (h ++ [.lst ys]) else .bad
@[simp] theorem lcE_ {ys : List Val} (g : ys.all dat = true) : lcE ys h = .ok (.ref h.length) (h ++ [.lst ys]) := if_pos g
def lcF (Γ : Sys) (vs : List Nat) (e t c : C) (σ : MF) (w : Walk) (h : MH) : Res Val := (walkLc (lcTF Γ vs e t c σ) w h).bind lcE
theorem E_lc {vs : List Nat} {e : C} : evE Γ (.lc vs e t it c) σ h = bd (evI Γ it σ) (lcF Γ vs e t c σ) h := by
  unfold evE
  rfl
def lc2F (Γ : Sys) (vs : List Nat) (e t c : C) (vs1 : List Nat) (t1 it1 c1 : C) (σ : MF) (w : Walk) (h : MH) : Res Val := (walk2 (lc2TF Γ vs e t c vs1 t1 it1 c1 σ) w h).bind lcE
theorem E_lc2 {vs vs1 : List Nat} {e t1 it1 c1 : C} : evE Γ (.lc2 vs e t it c vs1 t1 it1 c1) σ h = bd (evI Γ it σ) (lc2F Γ vs e t c vs1 t1 it1 c1 σ) h := by
  unfold evE
  rfl
/-- the items, by what each turn leaves -/
theorem lc_pure {turn : Val → MH → Res (Option Val)} {g : Val → Option Val} : ∀ (xs acc : List Val) (h : MH), (∀ x ∈ xs, turn x h = .ok (g x) h) → acc.length + xs.length ≤ sizeLine → lcL turn xs acc h = .ok (acc ++ xs.filterMap g) h
  | [], acc, h, _, _ => by
    unfold lcL
    simp
  | x :: xs, acc, h, hx, hl => by
    rw [lcL_cons, hx x List.mem_cons_self]
    have hx' := fun y hy => hx y (List.mem_cons_of_mem x hy)
    have hl' : acc.length + (xs.length + 1) ≤ sizeLine := hl
    cases hg : g x with
    | none =>
      rw [List.filterMap_cons, hg]
      exact lc_pure xs acc h hx' (by omega)
    | some y =>
      rw [List.filterMap_cons, hg]
      show (if acc.length < sizeLine then lcL turn xs (acc ++ [y]) h else .bad) = _
      rw [if_pos (by omega), lc_pure xs (acc ++ [y]) h hx' (by rw [List.length_append, List.length_singleton]; omega), List.append_assoc]
      rfl
/-- a live list that the turns leave as it is -/
theorem lcR_pure {turn : Val → MH → Res (Option Val)} {g : Val → Option Val} {r : Nat} {h : MH} {xs : List Val} (hr : h[r]? = some (.lst xs)) (hx : ∀ x ∈ xs, turn x h = .ok (g x) h) (hl : xs.length ≤ sizeLine) : ∀ (m i : Nat) (acc : List Val), xs.length - i < m → i ≤ xs.length → acc.length ≤ i → lcR turn r m i acc h = .ok (acc ++ (xs.drop i).filterMap g) h := by
  intro m
  induction m with
  | zero => intro i acc h1; omega
  | succ m ih =>
    intro i acc h1 h2 h3
    by_cases hi : i < xs.length
    · have e : xs[i]? = some xs[i] := List.getElem?_eq_getElem hi
      rw [lcR_some hr e, hx _ (List.getElem_mem hi), List.drop_eq_getElem_cons hi]
      cases hg : g xs[i] with
      | none =>
        rw [List.filterMap_cons, hg]
        exact ih (i + 1) acc (by omega) (by omega) (by omega)
      | some y =>
        rw [List.filterMap_cons, hg]
        show (if acc.length < sizeLine then lcR turn r m (i + 1) (acc ++ [y]) h else .bad) = _
        rw [if_pos (by omega), ih (i + 1) (acc ++ [y]) (by omega) (by omega) (by rw [List.length_append, List.length_singleton]; omega), List.append_assoc]
        rfl
    · rw [lcR]
      have e : xs[i]? = none := List.getElem?_eq_none (Nat.le_of_not_lt hi)
      simp only [hr, e]
      rw [List.drop_eq_nil_of_le (Nat.le_of_not_lt hi)]
      simp
theorem I_enum {xs : List Val} (g : evE Γ c σ h = .ok (.tup xs) h1) : evI Γ (.enum c) σ h = .ok (.items (enumV xs)) h1 := by
  dsimp only [evI]
  rw [g]
  rfl
theorem I_zip {xs ys : List Val} (g : evE Γ a σ h = .ok (.tup xs) h1) (g2 : evE Γ b σ h1 = .ok (.tup ys) h2) : evI Γ (.zip a b) σ h = .ok (.items (zipV xs ys)) h2 := by
  dsimp only [evI]
  rw [g]
  show (evE Γ b σ h1).bind _ = _
  rw [g2]
  rfl
@[simp] theorem th_ok {k : Nat} {x : Val} : thunkF Γ k s (.ok x h) = .ok .non h := rfl
def thS (r : Out) : Res Val := match r with
  | .nx σ2 h2 => (match σ2[1]? with
    | some (some v) => if dat v then .ok v h2 else .bad
    | _ => .bad)
  | _ => .bad
theorem th_exc {k d : Nat} {fs : List Val} (g : (Γ.isx d && (Γ.isx k && Γ.sub d k)) = true) : thunkF Γ k s (.exc d fs h) = thS (evSs Γ s [none, some .non, some (.exn d fs)] h) := by
  unfold thunkF
  dsimp only
  rw [if_pos g]
  unfold thS
  rfl
end Mini
set_option Elab.async false
set_option linter.all false
set_option maxRecDepth 100000
set_option maxHeartbeats 4000000
/-! Mini alone: the law's own pen, as every law has it. -/
namespace Mini
open PySem
theorem eqV_int {h : MH} {a b : Int} : eqV h (.int a) (.int b) = some (decide (a = b)) := by
  simp -implicitDefEqProofs [eqV, toD, SeqAt.shaped, guardO, PyData.eqv, PyData.canLay0, PyData.depth]
  by_cases z : a = b <;> simp -implicitDefEqProofs [z]
theorem ge_len {h : MH} {c : Nat} {xs : List Val} (hc : h[c]? = some (.lst xs)) {Γ : Sys} : biV Γ .len h [.ref c] = some (.int xs.length, h) := by
  simp -implicitDefEqProofs [biV, biLen, isSeq, isList, hc]
theorem bi_int {h : MH} {i : Int} {Γ : Sys} : biV Γ .int h [.int i] = some (.int i, h) := rfl
theorem get_lst {h : MH} {c : Nat} {xs : List Val} (hc : h[c]? = some (.lst xs)) {i : Int} (h0 : 0 ≤ i) (h1 : i < xs.length) : getIx h (.ref c) (.int i) = xs[i.toNat]? := by
  simp -implicitDefEqProofs [getIx, hc, place, h0, h1]
/-- the pen -/
def penL (c : Nat) (a d n f : Int) : List (Val × Val) := [(.str "cells", .ref c), (.str "at", .int a), (.str "digits", .int d), (.str "count", .int n), (.str "fold", .int f)]
section
variable {c p : Nat} {a d n f x : Int} {h : MH}
theorem pen1 (hp : h[p]? = some (.dic (penL c a d n f))) : getIx h (.ref p) (.str "cells") = some (.ref c) := by
  simp only [getIx, hp]
  rfl
theorem pen2 (hp : h[p]? = some (.dic (penL c a d n f))) : getIx h (.ref p) (.str "at") = some (.int a) := by
  simp only [getIx, hp]
  rfl
theorem pen3 (hp : h[p]? = some (.dic (penL c a d n f))) : getIx h (.ref p) (.str "digits") = some (.int d) := by
  simp only [getIx, hp]
  rfl
theorem pen4 (hp : h[p]? = some (.dic (penL c a d n f))) : getIx h (.ref p) (.str "count") = some (.int n) := by
  simp only [getIx, hp]
  rfl
theorem pen5 (hp : h[p]? = some (.dic (penL c a d n f))) : getIx h (.ref p) (.str "fold") = some (.int f) := by
  simp only [getIx, hp]
  rfl
theorem put2 (hp : h[p]? = some (.dic (penL c a d n f))) : putIx h (.ref p) (.str "at") (.int x) = some (h.set p (.dic (penL c x d n f))) := by
  simp only [putIx, hp]
  rfl
theorem put3 (hp : h[p]? = some (.dic (penL c a d n f))) : putIx h (.ref p) (.str "digits") (.int x) = some (h.set p (.dic (penL c a x n f))) := by
  simp only [putIx, hp]
  rfl
theorem put4 (hp : h[p]? = some (.dic (penL c a d n f))) : putIx h (.ref p) (.str "count") (.int x) = some (h.set p (.dic (penL c a d x f))) := by
  simp only [putIx, hp]
  rfl
theorem put5 (hp : h[p]? = some (.dic (penL c a d n f))) : putIx h (.ref p) (.str "fold") (.int x) = some (h.set p (.dic (penL c a d n x))) := by
  simp only [putIx, hp]
  rfl
end
/-- _law_draw's core -/
def cDraw2 : C := (.cons (.ite (.cm .gt (.ix (.v 0) (.ks ("digits" : Str))) (.ki 0)) (.cons (.set (.tv 3) (.op .mod (.blt .int (.cons (.ix (.v 0) (.ks ("digits" : Str))) .nil)) (.v 1))) (.cons (.set (.tix (.v 0) (.ks ("digits" : Str))) (.op .fdiv (.ix (.v 0) (.ks ("digits" : Str))) (.v 1))) (.cons (.ret (.v 3)) .nil))) .nil) (.cons (.set (.tv 4) (.op .mod (.blt .int (.cons (.op .add (.op .add (.op .mul (.ix (.v 0) (.ks ("fold" : Str))) (.ki 48271)) (.op .mul (.ix (.v 0) (.ks ("count" : Str))) (.ki 7919))) (.ki 13)) .nil)) (.ki 2147483647))) (.cons (.set (.tv 4) (.op .mod (.blt .int (.cons (.op .add (.op .add (.op .mul (.v 4) (.v 4)) (.op .mul (.ki 31) (.v 4))) (.ix (.v 0) (.ks ("count" : Str)))) .nil)) (.ki 2147483629))) (.cons (.set (.tix (.v 0) (.ks ("fold" : Str))) (.op .mod (.blt .int (.cons (.op .add (.op .mul (.v 4) (.ki 16807)) (.ki 7)) .nil)) (.ki 2147483647))) (.cons (.ret (.op .mod (.blt .int (.cons (.op .fdiv (.v 4) (.ki 64)) .nil)) (.v 1))) .nil)))))
def cDraw : C := (.cons (.set (.tix (.v 0) (.ks ("count" : Str))) (.op .add (.ix (.v 0) (.ks ("count" : Str))) (.ki 1))) (.cons (.ite (.and (.cm .eq (.ix (.v 0) (.ks ("digits" : Str))) (.ki 0)) (.cm .lt (.ix (.v 0) (.ks ("at" : Str))) (.blt .len (.cons (.ix (.v 0) (.ks ("cells" : Str))) .nil)))) (.cons (.set (.tv 2) (.ix (.ix (.v 0) (.ks ("cells" : Str))) (.ix (.v 0) (.ks ("at" : Str))))) (.cons (.set (.tix (.v 0) (.ks ("at" : Str))) (.op .add (.ix (.v 0) (.ks ("at" : Str))) (.ki 1))) (.cons (.ite (.cm .ge (.v 2) (.op .pow (.ki 10) (.ki 18))) (.cons (.set (.tix (.v 0) (.ks ("digits" : Str))) (.op .sub (.v 2) (.op .pow (.ki 10) (.ki 18)))) .nil) (.cons (.set (.tix (.v 0) (.ks ("fold" : Str))) (.op .mod (.blt .int (.cons (.op .add (.op .mul (.ix (.v 0) (.ks ("fold" : Str))) (.ki 69069)) (.v 2)) .nil)) (.ki 2147483587))) .nil)) .nil))) .nil) cDraw2))
section
variable {Γ : Sys} {c p : Nat} {a d n f m : Int} {h : MH} {x2 x3 x4 : Option Val}
theorem lim_small {i : Int} (h0 : 0 ≤ i) (h1 : i < 18446744073709551616) : lim64 i = true := by
  unfold lim64
  simp
  omega
theorem mod_b {i : Int} {k : Int} (hk : 0 < k) : 0 ≤ i % k ∧ i % k < k := ⟨Int.emod_nonneg _ (by omega), Int.emod_lt_of_pos _ hk⟩
theorem draw_tail (hp : h[p]? = some (.dic (penL c a d n f))) (hd : 0 ≤ d) (hm : 0 < m) (hm2 : m < 1073741824) :
    ∃ r d' f', evSs Γ cDraw2 [some (.ref p), some (.int m), x2, x3, x4] h = .rt (.int r) (h.set p (.dic (penL c a d' n f'))) ∧ 0 ≤ r ∧ r < m ∧ 0 ≤ d' := by
  have lt : p < h.length := (List.getElem?_eq_some_iff.mp hp).1
  have gp : ∀ o, (h.set p o)[p]? = some o := fun o => List.getElem?_set_self lt
  have hl : lim64 48271 = true := by decide
  have hl2 : lim64 7919 = true := by decide
  have hl3 : lim64 31 = true := by decide
  have hl4 : lim64 16807 = true := by decide
  have e0 := pen3 hp
  by_cases h0 : 0 < d
  · refine ⟨d % m, d / m, f, ?_, (mod_b hm).1, (mod_b hm).2, Int.ediv_nonneg hd (by omega)⟩
    simp -implicitDefEqProofs [cDraw2, bop, cop, e0, ltV, h0, biV, biInt, opMod, opFdiv, guardO, hm, hm2, put3 hp, tru]
  · obtain ⟨b1, hb1⟩ : ∃ b1, b1 = (f * 48271 + n * 7919 + 13) % 2147483647 := ⟨_, rfl⟩
    have bb := mod_b (i := f * 48271 + n * 7919 + 13) (k := 2147483647) (by decide)
    rw [← hb1] at bb
    have hb : lim64 b1 = true := lim_small bb.1 (by omega)
    refine ⟨((b1 * b1 + 31 * b1 + n) % 2147483629 / 64) % m, d, ((b1 * b1 + 31 * b1 + n) % 2147483629 * 16807 + 7) % 2147483647, ?_, (mod_b hm).1, (mod_b hm).2, hd⟩
    simp -implicitDefEqProofs [cDraw2, bop, cop, e0, ltV, h0, biV, biInt, opMod, opFdiv, opAdd, opMul, guardO, hm, hm2, put5 hp, pen5 hp, pen4 hp, hl, hl2, hl3, hl4, hb, ← hb1, tru]
/-- the pen stands at p, its cells at c -/
structure PenAt (h : MH) (p c : Nat) (cells : List Int) : Prop where
  cell : h[c]? = some (.lst (cells.map Val.int))
  pen : ∃ a d n f, h[p]? = some (.dic (penL c a d n f)) ∧ 0 ≤ a ∧ 0 ≤ d
theorem draw_body {cells : List Int} (P : PenAt h p c cells) (hm : 0 < m) (hm2 : m < 1073741824) :
    ∃ r o, outF (evSs Γ cDraw [some (.ref p), some (.int m), none, none, none] h) = .ok (.int r) (h.set p o) ∧ PenAt (h.set p o) p c cells ∧ 0 ≤ r ∧ r < m := by
  obtain ⟨a, d, n, f, hp, ha, hd⟩ := P.pen
  have lt : p < h.length := (List.getElem?_eq_some_iff.mp hp).1
  have gp : ∀ o, (h.set p o)[p]? = some o := fun o => List.getElem?_set_self lt
  have ne : p ≠ c := fun z => by
    have := P.cell
    rw [← z, hp] at this
    cases this
  have gc : ∀ o, (h.set p o)[c]? = some (.lst (cells.map Val.int)) := fun o => by
    rw [List.getElem?_set_ne ne]
    exact P.cell
  have fin : ∀ {a d n f : Int} {x2 : Option Val}, 0 ≤ a → 0 ≤ d → ∃ r o, outF (evSs Γ cDraw2 [some (.ref p), some (.int m), x2, none, none] (h.set p (.dic (penL c a d n f)))) = .ok (.int r) (h.set p o) ∧ PenAt (h.set p o) p c cells ∧ 0 ≤ r ∧ r < m := by
    intro a d n f x2 h1 h2
    obtain ⟨r, d', f', e, r1, r2, r3⟩ := draw_tail (Γ := Γ) (x2 := x2) (x3 := none) (x4 := none) (gp (.dic (penL c a d n f))) h2 hm hm2
    refine ⟨r, _, ?_, ⟨gc _, a, d', n, f', gp _, h1, r3⟩, r1, r2⟩
    rw [e, List.set_set]
    rfl
  have p3 := fun (a d n f : Int) => pen3 (gp (.dic (penL c a d n f)))
  have p2 := fun (a d n f : Int) => pen2 (gp (.dic (penL c a d n f)))
  have p1 := fun (a d n f : Int) => pen1 (gp (.dic (penL c a d n f)))
  have p5 := fun (a d n f : Int) => pen5 (gp (.dic (penL c a d n f)))
  have q2 := fun (a d n f x : Int) => put2 (x := x) (gp (.dic (penL c a d n f)))
  have q3 := fun (a d n f x : Int) => put3 (x := x) (gp (.dic (penL c a d n f)))
  have q5 := fun (a d n f x : Int) => put5 (x := x) (gp (.dic (penL c a d n f)))
  have len := fun (o : Mini.Obj) => ge_len (Γ := Γ) (gc o)
  have hl : lim64 69069 = true := by decide
  by_cases h0 : d = 0
  · by_cases h1 : a < cells.length
    · have gx : ∀ o, getIx (h.set p o) (.ref c) (.int a) = some (.int (cells[a.toNat]'(by omega))) := fun o => by
        rw [get_lst (gc o) ha (by simpa using h1), List.getElem?_map, List.getElem?_eq_getElem (by omega)]
        rfl
      obtain ⟨cell, hcell⟩ : ∃ cell, cell = cells[a.toNat]'(by omega) := ⟨_, rfl⟩
      rw [← hcell] at gx
      by_cases h2 : (1000000000000000000 : Int) ≤ cell
      · have := fin (a := a + 1) (d := cell - 1000000000000000000) (n := n + 1) (f := f) (x2 := some (.int cell)) (by omega) (by omega)
        simpa -implicitDefEqProofs [cDraw, bop, cop, pen4 hp, opAdd, opSub, opPow, guardO, put4 hp, p1, p2, p3, q2, q3, eqV_int, h0, ltV, leV, len, h1, h2, gx, tru] using this
      · have := fin (a := a + 1) (d := 0) (n := n + 1) (f := (f * 69069 + cell) % 2147483587) (x2 := some (.int cell)) (by omega) (by omega)
        simpa -implicitDefEqProofs [cDraw, bop, cop, pen4 hp, opAdd, opSub, opPow, opMul, opMod, guardO, put4 hp, p1, p2, p3, p5, q2, q3, q5, eqV_int, h0, ltV, leV, len, h1, h2, gx, tru, bi_int, hl] using this
    · have := fin (a := a) (d := d) (n := n + 1) (f := f) (x2 := none) ha hd
      simpa -implicitDefEqProofs [cDraw, bop, cop, pen4 hp, opAdd, guardO, put4 hp, p1, p2, p3, eqV_int, h0, ltV, len, h1, tru] using this
  · have := fin (a := a) (d := d) (n := n + 1) (f := f) (x2 := none) ha hd
    simpa -implicitDefEqProofs [cDraw, bop, cop, pen4 hp, opAdd, guardO, put4 hp, p1, p2, p3, eqV_int, h0, tru] using this
end
end Mini
set_option Elab.async false
set_option linter.all false
set_option maxRecDepth 100000
set_option maxHeartbeats 4000000
/-! Mini alone: values as plain data; comprehensions over sequences. -/
namespace Mini
open PySem
theorem mapM_get {α β : Type} {f : α → Option β} : ∀ {xs : List α} {ds : List β}, xs.mapM f = some ds → ∀ {i : Nat} {x : α}, xs[i]? = some x → ∃ d, ds[i]? = some d ∧ f x = some d
  | [], ds, e, i, x, hx => by simp at hx
  | y :: xs, ds, e, i, x, hx => by
    rw [List.mapM_cons] at e
    cases hy : f y with
    | none =>
      rw [hy] at e
      cases e
    | some d =>
      rw [hy] at e
      cases hxs : xs.mapM f with
      | none =>
        rw [hxs] at e
        cases e
      | some ds' =>
        rw [hxs] at e
        cases e
        cases i with
        | zero =>
          simp at hx
          subst hx
          exact ⟨d, rfl, hy⟩
        | succ i => exact mapM_get hxs (i := i) (by simpa using hx)
theorem mapM_imp {α β : Type} {f g : α → Option β} (h : ∀ x d, f x = some d → g x = some d) : ∀ {xs : List α} {ds : List β}, xs.mapM f = some ds → xs.mapM g = some ds
  | [], ds, e => by simpa using e
  | y :: xs, ds, e => by
    rw [List.mapM_cons] at e ⊢
    cases hy : f y with
    | none =>
      rw [hy] at e
      cases e
    | some d =>
      rw [hy] at e
      cases hxs : xs.mapM f with
      | none =>
        rw [hxs] at e
        cases e
      | some ds' =>
        rw [hxs] at e
        cases e
        rw [h _ _ hy, mapM_imp h hxs]
        rfl
theorem mapM_all {α β : Type} {f : α → Option β} {p : α → Bool} {q : β → Bool} (h : ∀ x d, f x = some d → p x = q d) : ∀ {xs : List α} {ds : List β}, xs.mapM f = some ds → xs.all p = ds.all q
  | [], ds, e => by
    simp at e
    subst e
    rfl
  | y :: xs, ds, e => by
    rw [List.mapM_cons] at e
    cases hy : f y with
    | none =>
      rw [hy] at e
      cases e
    | some d =>
      rw [hy] at e
      cases hxs : xs.mapM f with
      | none =>
        rw [hxs] at e
        cases e
      | some ds' =>
        rw [hxs] at e
        cases e
        rw [List.all_cons, List.all_cons, h _ _ hy, mapM_all h hxs]
/-! plain data: what it is -/
def tagD : PyData → String
  | .none => "NoneType"
  | .bool _ => "bool"
  | .int _ => "int"
  | .str _ => "str"
  | .tuple _ => "tuple"
  | .list _ => "list"
  | .dict _ => "dict"
def isSeqD : PyData → Bool
  | .list _ => true
  | .tuple _ => true
  | _ => false
def isTupD : PyData → Bool
  | .tuple _ => true
  | _ => false
def isIntD : PyData → Bool
  | .int _ => true
  | _ => false
def itemsD : PyData → List PyData
  | .list ds => ds
  | .tuple ds => ds
  | _ => []
/-- an integer from 0 to m - 1 -/
def ixD (m : Int) : PyData → Bool
  | .int i => decide (0 ≤ i) && decide (i < m)
  | _ => false
def ixsD (m : Int) (d : PyData) : Bool := isSeqD d && (itemsD d).all (ixD m)
def ltD : PyData → PyData → Bool
  | .int a, .int b => decide (a < b)
  | _, _ => false
def ascD (ds : List PyData) : Bool := (List.range (ds.length - 1)).all fun i => ltD (ds.getD i .none) (ds.getD (i + 1) .none)
def lotD (m : Int) (d : PyData) : Bool := ixsD m d && ascD (itemsD d)
def wordD (m : Int) (d : PyData) : Bool := ixsD m d && decide ((itemsD d).length ≤ 400)
theorem toD_tag {h : MH} {n : Nat} {v : Val} {d : PyData} (e : toD h n v = some d) : tagOf h v = some (tagD d) := by
  cases n with
  | zero => cases e
  | succ n =>
    cases v with
    | tup xs =>
      obtain ⟨ds, _, rfl⟩ := map_some (show (xs.mapM (toD h n)).map PyData.tuple = some d from e)
      rfl
    | fl xs =>
      obtain ⟨ds, _, rfl⟩ := map_some (show (xs.mapM (toD h n)).map PyData.list = some d from e)
      rfl
    | ref i =>
      cases ho : h[i]? with
      | none =>
        simp only [toD, ho] at e
        cases e
      | some o =>
        simp only [toD, ho] at e
        cases o with
        | lst xs =>
          obtain ⟨ds, _, rfl⟩ := map_some e
          simp only [tagOf, ho]
          rfl
        | dic kvs =>
          obtain ⟨ks, _, e2⟩ := bind_some e
          obtain ⟨ds, _, rfl⟩ := map_some e2
          simp only [tagOf, ho]
          rfl
        | _ => cases e
    | _ => first | (cases e; rfl) | cases e
theorem toD_seq {h : MH} {n : Nat} {v : Val} {d : PyData} (e : toD h (n + 1) v = some d) (hs : isSeqD d = true) : ∃ xs, isSeq h v = some xs ∧ xs.mapM (toD h n) = some (itemsD d) := by
  cases v with
  | tup xs =>
    obtain ⟨ds, e1, rfl⟩ := map_some (show (xs.mapM (toD h n)).map PyData.tuple = some d from e)
    exact ⟨xs, rfl, e1⟩
  | fl xs =>
    obtain ⟨ds, e1, rfl⟩ := map_some (show (xs.mapM (toD h n)).map PyData.list = some d from e)
    exact ⟨xs, rfl, e1⟩
  | ref i =>
    cases ho : h[i]? with
    | none =>
      simp only [toD, ho] at e
      cases e
    | some o =>
      simp only [toD, ho] at e
      cases o with
      | lst xs =>
        obtain ⟨ds, e1, rfl⟩ := map_some e
        exact ⟨xs, by simp only [isSeq, isList, ho], e1⟩
      | dic kvs =>
        obtain ⟨ks, _, e2⟩ := bind_some e
        obtain ⟨ds, _, rfl⟩ := map_some e2
        cases hs
      | _ => cases e
  | _ => first | (cases e; cases hs) | cases e
theorem toD_tup {h : MH} {n : Nat} {v : Val} {ds : List PyData} (e : toD h (n + 1) v = some (.tuple ds)) : ∃ xs, v = .tup xs ∧ xs.mapM (toD h n) = some ds := by
  cases v with
  | tup xs =>
    obtain ⟨ds', e1, e2⟩ := map_some (show (xs.mapM (toD h n)).map PyData.tuple = some _ from e)
    cases e2
    exact ⟨xs, rfl, e1⟩
  | fl xs =>
    obtain ⟨ds', e1, e2⟩ := map_some (show (xs.mapM (toD h n)).map PyData.list = some _ from e)
    cases e2
  | ref i =>
    cases ho : h[i]? with
    | none =>
      simp only [toD, ho] at e
      cases e
    | some o =>
      simp only [toD, ho] at e
      cases o with
      | lst xs =>
        obtain ⟨ds', e1, e2⟩ := map_some e
        cases e2
      | dic kvs =>
        obtain ⟨ks, _, e2⟩ := bind_some e
        obtain ⟨ds, _, e3⟩ := map_some e2
        cases e3
      | _ => cases e
  | _ => cases e
theorem toD_int {h : MH} {n : Nat} {v : Val} {i : Int} (e : toD h n v = some (.int i)) : v = .int i := by
  cases n with
  | zero => cases e
  | succ n =>
    cases v with
    | int j =>
      cases e
      rfl
    | tup xs =>
      obtain ⟨_, _, e2⟩ := map_some (show (xs.mapM (toD h n)).map PyData.tuple = some _ from e)
      cases e2
    | fl xs =>
      obtain ⟨_, _, e2⟩ := map_some (show (xs.mapM (toD h n)).map PyData.list = some _ from e)
      cases e2
    | ref r =>
      cases ho : h[r]? with
      | none =>
        simp only [toD, ho] at e
        cases e
      | some o =>
        simp only [toD, ho] at e
        cases o with
        | lst xs =>
          obtain ⟨_, _, e2⟩ := map_some e
          cases e2
        | dic kvs =>
          obtain ⟨_, _, e2⟩ := bind_some e
          obtain ⟨_, _, e3⟩ := map_some e2
          cases e3
        | _ => cases e
    | _ => cases e
theorem seq_is {h : MH} {n : Nat} {v : Val} {d : PyData} (e : toD h n v = some d) : (isSeq h v).isSome = isSeqD d := by
  cases n with
  | zero => cases e
  | succ n =>
    cases hs : isSeqD d with
    | true =>
      obtain ⟨xs, e1, _⟩ := toD_seq e hs
      rw [e1]
      rfl
    | false =>
      have t := toD_tag e
      cases v with
      | tup xs =>
        obtain ⟨ds, _, rfl⟩ := map_some (show (xs.mapM (toD h n)).map PyData.tuple = some d from e)
        cases hs
      | fl xs =>
        obtain ⟨ds, _, rfl⟩ := map_some (show (xs.mapM (toD h n)).map PyData.list = some d from e)
        cases hs
      | ref i =>
        cases ho : h[i]? with
        | none =>
          simp only [toD, ho] at e
          cases e
        | some o =>
          simp only [toD, ho] at e
          cases o with
          | lst xs =>
            obtain ⟨ds, e1, rfl⟩ := map_some e
            cases hs
          | dic kvs => simp only [isSeq, isList, ho]; rfl
          | _ => cases e
      | _ => rfl
/-! later heaps that have the heap ahead -/
abbrev Pre (h h' : MH) : Prop := ∃ t, h' = h ++ t
theorem Pre.refl {h : MH} : Pre h h := ⟨[], by simp⟩
theorem Pre.app {h t : MH} : Pre h (h ++ t) := ⟨t, rfl⟩
theorem Pre.trans {a b c : MH} (x : Pre a b) (y : Pre b c) : Pre a c := by
  obtain ⟨t, rfl⟩ := x
  obtain ⟨u, rfl⟩ := y
  exact ⟨t ++ u, by rw [List.append_assoc]⟩
theorem Pre.get {h h' : MH} (x : Pre h h') {i : Nat} {o : Obj} (e : h[i]? = some o) : h'[i]? = some o := by
  obtain ⟨t, rfl⟩ := x
  rw [List.getElem?_append_left (List.getElem?_eq_some_iff.mp e).1]
  exact e
theorem toD_pre {h h' : MH} (x : Pre h h') : ∀ (n : Nat) (v : Val) (d : PyData), toD h n v = some d → toD h' n v = some d
  | 0, v, d, e => by cases e
  | n + 1, v, d, e => by
    have ih := toD_pre x n
    cases v with
    | tup xs =>
      obtain ⟨ds, e1, rfl⟩ := map_some (show (xs.mapM (toD h n)).map PyData.tuple = some d from e)
      show (xs.mapM (toD h' n)).map PyData.tuple = _
      rw [mapM_imp ih e1]
      rfl
    | fl xs =>
      obtain ⟨ds, e1, rfl⟩ := map_some (show (xs.mapM (toD h n)).map PyData.list = some d from e)
      show (xs.mapM (toD h' n)).map PyData.list = _
      rw [mapM_imp ih e1]
      rfl
    | ref i =>
      cases ho : h[i]? with
      | none =>
        simp only [toD, ho] at e
        cases e
      | some o =>
        simp only [toD, ho] at e
        simp only [toD, x.get ho]
        cases o with
        | lst xs =>
          obtain ⟨ds, e1, rfl⟩ := map_some e
          dsimp only
          rw [mapM_imp ih e1]
          rfl
        | dic kvs =>
          obtain ⟨ks, e1, e2⟩ := bind_some e
          obtain ⟨ds, e3, rfl⟩ := map_some e2
          dsimp only
          rw [mapM_imp ih e1]
          dsimp only [Option.bind]
          rw [mapM_imp ih e3]
          rfl
        | _ => cases e
    | _ => exact e
theorem isSeq_pre {h h' : MH} (x : Pre h h') {v : Val} {xs : List Val} (e : isSeq h v = some xs) : isSeq h' v = some xs := by
  cases v with
  | ref i =>
    cases ho : h[i]? with
    | none =>
      simp only [isSeq, isList, ho] at e
      cases e
    | some o =>
      simp only [isSeq, isList, ho] at e
      simp only [isSeq, isList, x.get ho]
      exact e
  | tup _ => exact e
  | fl _ => exact e
  | _ => cases e
/-! items -/
theorem get_seq {h : MH} {v : Val} {xs : List Val} (e : isSeq h v = some xs) {i : Int} (h0 : 0 ≤ i) (h1 : i < xs.length) : getIx h v (.int i) = xs[i.toNat]? := by
  have pl : place xs.length i = some i.toNat := by
    unfold place
    rw [if_pos h0, if_pos h1]
  cases v with
  | tup ys =>
    cases e
    simp only [getIx, pl]
    rfl
  | fl ys =>
    cases e
    simp only [getIx, pl]
    rfl
  | ref r =>
    cases ho : h[r]? with
    | none =>
      simp only [isSeq, isList, ho] at e
      cases e
    | some o =>
      simp only [isSeq, isList, ho] at e
      cases o with
      | lst ys =>
        cases e
        simp only [getIx, ho, pl]
        rfl
      | _ => cases e
  | _ => cases e
theorem len_seq {Γ : Sys} {h : MH} {v : Val} {xs : List Val} (e : isSeq h v = some xs) : biV Γ .len h [v] = some (.int xs.length, h) := by
  simp only [biV, biLen, e]
theorem tup_seq {Γ : Sys} {h : MH} {v : Val} {xs : List Val} (e : isSeq h v = some xs) : biV Γ .tuple h [v] = some (.tup xs, h) := by
  simp only [biV, biTup, e]
  rfl
theorem list_seq {Γ : Sys} {h : MH} {v : Val} {xs : List Val} (e : isSeq h v = some xs) : biV Γ .list h [v] = some (.ref h.length, h ++ [.lst xs]) := by
  simp only [biV, biList, e]
  rfl
theorem in_seq {h : MH} {v a : Val} {xs : List Val} (e : isSeq h v = some xs) (fa : flatM a = true) (fx : xs.all flatM = true) : inV h a v = some (xs.any fun y => eqM y a) := by
  unfold inV
  rw [e]
  simp only [Option.bind, fa, fx, guardO]
  rfl
theorem all_list {Γ : Sys} {h : MH} {r : Nat} {bs : List Bool} (e : h[r]? = some (.lst (bs.map .bl))) : biV Γ .all h [.ref r] = some (.bl (bs.all id), h) := by
  have hb : ∀ bs : List Bool, bls (bs.map .bl) = some bs := fun bs => by
    induction bs with
    | nil => rfl
    | cons b bs ih =>
      show (bls (bs.map .bl)).map _ = _
      rw [ih]
      rfl
  simp only [biV, biAll, isList, e]
  show (bls (bs.map .bl)).map _ = _
  rw [hb]
  rfl
/-! isinstance -/
theorem isi_ty {Γ : Sys} {h : MH} {v : Val} {t n : String} (e : tagOf h v = some t) (hn : tyTags.contains n = true) : biV Γ .isinstance h [v, .ty n] = some (.bl (tySub t n), h) := by
  have e1 : isInst Γ h v (.ty n) = some (tySub t n) := by
    cases v <;> first | (cases e; done) | (simp only [isInst, e]; unfold guardO; simp only [Option.bind]; rw [if_pos hn])
  simp only [biV, biIsi, e1]
  rfl
theorem isi_lt {Γ : Sys} {h : MH} {v : Val} {t : String} (e : tagOf h v = some t) : biV Γ .isinstance h [v, .tup [.ty "list", .ty "tuple"]] = some (.bl (tySub t "list" || tySub t "tuple"), h) := by
  have e1 : isInst Γ h v (.tup [.ty "list", .ty "tuple"]) = some (tySub t "list" || tySub t "tuple") := by
    have e2 : tyAny t [.ty "list", .ty "tuple"] = some (tySub t "list" || tySub t "tuple") := by
      unfold tyAny tyAny tyAny guardO
      rw [if_pos (by decide), if_pos (by decide)]
      simp
    cases v <;> first | (cases e; done) | (simp only [isInst, e]; exact e2)
  simp only [biV, biIsi, e1]
  rfl
/-! comprehensions over what stands -/
theorem lcL_grow {turn : Val → MH → Res (Option Val)} {g : Val → Option Val} : ∀ (xs acc : List Val) (h : MH), (∀ x ∈ xs, ∀ h1, Pre h h1 → ∃ h2, Pre h1 h2 ∧ turn x h1 = .ok (g x) h2) → acc.length + xs.length ≤ sizeLine → ∃ h', Pre h h' ∧ lcL turn xs acc h = .ok (acc ++ xs.filterMap g) h'
  | [], acc, h, _, _ => ⟨h, .refl, by unfold lcL; simp⟩
  | x :: xs, acc, h, hx, hl => by
    obtain ⟨h2, p2, e2⟩ := hx x List.mem_cons_self h .refl
    have hx' : ∀ y ∈ xs, ∀ h1, Pre h2 h1 → ∃ h3, Pre h1 h3 ∧ turn y h1 = .ok (g y) h3 := fun y hy h1 p => hx y (List.mem_cons_of_mem x hy) h1 (p2.trans p)
    have hl' : acc.length + (xs.length + 1) ≤ sizeLine := hl
    rw [lcL_cons, e2]
    cases hg : g x with
    | none =>
      rw [List.filterMap_cons, hg]
      obtain ⟨h3, p3, e3⟩ := lcL_grow xs acc h2 hx' (by omega)
      exact ⟨h3, p2.trans p3, e3⟩
    | some y =>
      rw [List.filterMap_cons, hg]
      obtain ⟨h3, p3, e3⟩ := lcL_grow xs (acc ++ [y]) h2 hx' (by rw [List.length_append, List.length_singleton]; omega)
      refine ⟨h3, p2.trans p3, ?_⟩
      show (if acc.length < sizeLine then lcL turn xs (acc ++ [y]) h2 else .bad) = _
      rw [if_pos (by omega), e3, List.append_assoc]
      rfl
theorem lcR_grow {turn : Val → MH → Res (Option Val)} {g : Val → Option Val} {r : Nat} {xs : List Val} : ∀ (m i : Nat) (acc : List Val) (h : MH), h[r]? = some (.lst xs) → (∀ x ∈ xs, ∀ h1, Pre h h1 → ∃ h2, Pre h1 h2 ∧ turn x h1 = .ok (g x) h2) → xs.length ≤ sizeLine → xs.length - i < m → i ≤ xs.length → acc.length ≤ i → ∃ h', Pre h h' ∧ lcR turn r m i acc h = .ok (acc ++ (xs.drop i).filterMap g) h' := by
  intro m
  induction m with
  | zero => intro i acc h _ _ _ h1; omega
  | succ m ih =>
    intro i acc h hr hx hl h1 h2 h3
    by_cases hi : i < xs.length
    · have e : xs[i]? = some xs[i] := List.getElem?_eq_getElem hi
      obtain ⟨k2, p2, e2⟩ := hx _ (List.getElem_mem hi) h .refl
      have hx' : ∀ y ∈ xs, ∀ h1, Pre k2 h1 → ∃ h3, Pre h1 h3 ∧ turn y h1 = .ok (g y) h3 := fun y hy h1 p => hx y hy h1 (p2.trans p)
      rw [lcR_some hr e, e2, List.drop_eq_getElem_cons hi]
      cases hg : g xs[i] with
      | none =>
        rw [List.filterMap_cons, hg]
        obtain ⟨k3, p3, e3⟩ := ih (i + 1) acc k2 (p2.get hr) hx' hl (by omega) (by omega) (by omega)
        exact ⟨k3, p2.trans p3, e3⟩
      | some y =>
        rw [List.filterMap_cons, hg]
        obtain ⟨k3, p3, e3⟩ := ih (i + 1) (acc ++ [y]) k2 (p2.get hr) hx' hl (by omega) (by omega) (by rw [List.length_append, List.length_singleton]; omega)
        refine ⟨k3, p2.trans p3, ?_⟩
        show (if acc.length < sizeLine then lcR turn r m (i + 1) (acc ++ [y]) k2 else .bad) = _
        rw [if_pos (by omega), e3, List.append_assoc]
        rfl
    · refine ⟨h, .refl, ?_⟩
      rw [lcR]
      have e : xs[i]? = none := List.getElem?_eq_none (Nat.le_of_not_lt hi)
      simp only [hr, e]
      rw [List.drop_eq_nil_of_le (Nat.le_of_not_lt hi)]
      simp
theorem walk_grow {turn : Val → MH → Res (Option Val)} {g : Val → Option Val} {h : MH} {v : Val} {xs : List Val} (e : isSeq h v = some xs) (hx : ∀ x ∈ xs, ∀ h1, Pre h h1 → ∃ h2, Pre h1 h2 ∧ turn x h1 = .ok (g x) h2) (hl : xs.length ≤ 1000000) :
    ∃ w, walkOf h v = some w ∧ ∃ h', Pre h h' ∧ walkLc turn w h = .ok (xs.filterMap g) h' := by
  have hz : xs.length ≤ sizeLine := Nat.le_trans hl (by decide)
  have it : ∃ h', Pre h h' ∧ lcL turn xs [] h = .ok (xs.filterMap g) h' := by
    obtain ⟨h', p, e⟩ := lcL_grow xs [] h hx (by simpa using hz)
    exact ⟨h', p, by simpa using e⟩
  cases v with
  | tup ys =>
    cases e
    exact ⟨_, rfl, it⟩
  | fl ys =>
    cases e
    exact ⟨_, rfl, it⟩
  | ref r =>
    cases ho : h[r]? with
    | none =>
      simp only [isSeq, isList, ho] at e
      cases e
    | some o =>
      simp only [isSeq, isList, ho] at e
      cases o with
      | lst ys =>
        cases e
        refine ⟨.live r, by simp only [walkOf, ho], ?_⟩
        obtain ⟨h', p, e⟩ := lcR_grow (g := g) FUEL 0 [] h ho hx hz (Nat.lt_of_le_of_lt (by omega : xs.length - 0 ≤ 1000000) (by decide)) (Nat.zero_le _) (Nat.le_refl _)
        refine ⟨h', p, ?_⟩
        show lcR turn r FUEL 0 [] h = _
        rw [e]
        simp
      | _ => cases e
  | _ => cases e
theorem dat_fm {g : Val → Option Val} {xs : List Val} (hd : ∀ x ∈ xs, ∀ y, g x = some y → dat y = true) : (xs.filterMap g).all dat = true := by
  rw [List.all_eq_true]
  intro y hy
  obtain ⟨x, hx, e⟩ := List.mem_filterMap.mp hy
  exact hd x hx y e
/-- [e for t in v if c] -/
theorem lc_each {Γ : Sys} {vs : List Nat} {e t a c : C} {σ : MF} {g : Val → Option Val} {h : MH} {v : Val} {xs : List Val} (ea : evE Γ a σ h = .ok v h) (es : isSeq h v = some xs) (hl : xs.length ≤ 1000000)
    (hx : ∀ x ∈ xs, ∀ h1, Pre h h1 → ∃ h2, Pre h1 h2 ∧ lcTF Γ vs e t c σ x h1 = .ok (g x) h2) (hd : ∀ x ∈ xs, ∀ y, g x = some y → dat y = true) :
    ∃ h', Pre h h' ∧ evE Γ (.lc vs e t (.each a) c) σ h = .ok (.ref h'.length) (h' ++ [.lst (xs.filterMap g)]) := by
  obtain ⟨w, hw, h', p, e1⟩ := walk_grow es hx hl
  refine ⟨h', p, ?_⟩
  rw [E_lc]
  show (evI Γ (.each a) σ h).bind _ = _
  rw [I_e ea hw]
  show (walkLc _ w h).bind _ = _
  rw [e1]
  exact lcE_ (dat_fm hd)
/-- [e for t in items if c] -/
theorem lc_items {Γ : Sys} {vs : List Nat} {e t it c : C} {σ : MF} {g : Val → Option Val} {h h0 : MH} {xs : List Val} (ei : evI Γ it σ h0 = .ok (.items xs) h) (hl : xs.length ≤ 1000000)
    (hx : ∀ x ∈ xs, ∀ h1, Pre h h1 → ∃ h2, Pre h1 h2 ∧ lcTF Γ vs e t c σ x h1 = .ok (g x) h2) (hd : ∀ x ∈ xs, ∀ y, g x = some y → dat y = true) :
    ∃ h', Pre h h' ∧ evE Γ (.lc vs e t it c) σ h0 = .ok (.ref h'.length) (h' ++ [.lst (xs.filterMap g)]) := by
  obtain ⟨h', p, e1⟩ := lcL_grow (g := g) xs [] h hx (by simpa using Nat.le_trans hl (by decide : 1000000 ≤ sizeLine))
  refine ⟨h', p, ?_⟩
  rw [E_lc]
  show (evI Γ it σ h0).bind _ = _
  rw [ei]
  show (lcL _ xs [] h).bind _ = _
  rw [e1]
  exact lcE_ (dat_fm hd)
theorem lcT0 {Γ : Sys} {vs : List Nat} {e : C} {i : Nat} {σ : MF} {x y : Val} {h h' : MH} (he : evE Γ e ((wipeM σ vs).set i (some x)) h = .ok y h') : lcTF Γ vs e (.tv i) .nil σ x h = .ok (some y) h' := by
  unfold lcTF lcTurn
  rw [G_tv]
  show (noExc (evE Γ e ((wipeM σ vs).set i (some x)) h)).bind _ = _
  rw [he]
  rfl
theorem lcT1 {Γ : Sys} {vs : List Nat} {e c : C} {i : Nat} {σ : MF} {x y : Val} {h h1 h' : MH} (hn : isNil c = false) (hc : evE Γ c ((wipeM σ vs).set i (some x)) h = .ok (.bl true) h1) (he : evE Γ e ((wipeM σ vs).set i (some x)) h1 = .ok y h') : lcTF Γ vs e (.tv i) c σ x h = .ok (some y) h' := by
  unfold lcTF lcTurn
  rw [G_tv, hn]
  show ((noExc (evE Γ c ((wipeM σ vs).set i (some x)) h)).bind _).bind _ = _
  rw [hc]
  show (noExc (evE Γ e ((wipeM σ vs).set i (some x)) h1)).bind _ = _
  rw [he]
  rfl
theorem lcT1f {Γ : Sys} {vs : List Nat} {e c : C} {i : Nat} {σ : MF} {x : Val} {h h1 : MH} (hn : isNil c = false) (hc : evE Γ c ((wipeM σ vs).set i (some x)) h = .ok (.bl false) h1) : lcTF Γ vs e (.tv i) c σ x h = .ok none h1 := by
  unfold lcTF lcTurn
  rw [G_tv, hn]
  show ((noExc (evE Γ c ((wipeM σ vs).set i (some x)) h)).bind _).bind _ = _
  rw [hc]
  rfl
theorem fm_map {α β : Type} {f : α → β} {xs : List α} : xs.filterMap (fun x => some (f x)) = xs.map f := by
  induction xs with
  | nil => rfl
  | cons x xs ih => rw [List.filterMap_cons, ih, List.map_cons]
theorem get_new {h : MH} {o : Obj} : (h ++ [o])[h.length]? = some o := by simp
theorem mapM_map {α β γ : Type} {f : α → Option β} {g : α → γ} {q : β → γ} (h : ∀ x d, f x = some d → g x = q d) : ∀ {xs : List α} {ds : List β}, xs.mapM f = some ds → xs.map g = ds.map q
  | [], ds, e => by
    simp at e
    subst e
    rfl
  | y :: xs, ds, e => by
    rw [List.mapM_cons] at e
    cases hy : f y with
    | none =>
      rw [hy] at e
      cases e
    | some d =>
      rw [hy] at e
      cases hxs : xs.mapM f with
      | none =>
        rw [hxs] at e
        cases e
      | some ds' =>
        rw [hxs] at e
        cases e
        rw [List.map_cons, List.map_cons, h _ _ hy, mapM_map h hxs]
/-- [test for x in v] -/
theorem lc_bools {Γ : Sys} {vs : List Nat} {e a : C} {i n : Nat} {σ : MF} {h : MH} {v : Val} {xs : List Val} {ds : List PyData} (q : PyData → Bool) (ea : evE Γ a σ h = .ok v h) (es : isSeq h v = some xs) (ed : xs.mapM (toD h n) = some ds) (hl : ds.length ≤ 1000000)
    (hx : ∀ x d h1, Pre h h1 → toD h1 n x = some d → d ∈ ds → ∃ h2, Pre h1 h2 ∧ evE Γ e ((wipeM σ vs).set i (some x)) h1 = .ok (.bl (q d)) h2) :
    ∃ h', Pre h h' ∧ evE Γ (.lc vs e (.tv i) (.each a) .nil) σ h = .ok (.ref h'.length) (h' ++ [.lst (ds.map fun d => .bl (q d))]) := by
  have len := mapM_len ed
  obtain ⟨h', p, e3⟩ := lc_each (Γ := Γ) (vs := vs) (e := e) (t := .tv i) (a := a) (c := .nil) (σ := σ) (g := fun x => some (.bl (match toD h n x with | some d => q d | none => false))) ea es (by omega)
    (fun x hx' h1 p1 => by
      obtain ⟨j, hj, ej⟩ := List.mem_iff_getElem.mp hx'
      obtain ⟨dx, hdx, edx⟩ := mapM_get ed (i := j) (x := x) (by rw [List.getElem?_eq_getElem hj, ej])
      obtain ⟨h2, p2, e2⟩ := hx x dx h1 p1 (toD_pre p1 _ _ _ edx) (List.mem_of_getElem? hdx)
      refine ⟨h2, p2, ?_⟩
      rw [edx]
      exact lcT0 e2)
    (fun x _ y hy => by cases hy; rfl)
  refine ⟨h', p, ?_⟩
  rw [fm_map, mapM_map (q := fun d => Val.bl (q d)) (fun x d hd => by rw [hd]) ed] at e3
  exact e3
theorem all_bools {Γ : Sys} {h : MH} {α : Type} {ds : List α} {q : α → Bool} : biV Γ .all (h ++ [.lst (ds.map fun d => .bl (q d))]) [.ref h.length] = some (.bl (ds.all q), h ++ [.lst (ds.map fun d => .bl (q d))]) := by
  have e : (ds.map fun d => Val.bl (q d)) = (ds.map q).map .bl := by
    rw [List.map_map]
    rfl
  rw [e, all_list get_new, List.all_map]
  rfl
/-- [test for i in range(n)] -/
theorem lc_rng_bools {Γ : Sys} {vs : List Nat} {e a : C} {i : Nat} {σ : MF} {h : MH} {z : Int} (q : Nat → Bool) (ea : evE Γ a σ h = .ok (.int z) h) (h0 : -(2 ^ 62) ≤ z) (h1 : z ≤ 1000000)
    (hx : ∀ (j : Nat) h1, j < z.toNat → Pre h h1 → ∃ h2, Pre h1 h2 ∧ evE Γ e ((wipeM σ vs).set i (some (.int j))) h1 = .ok (.bl (q j)) h2) :
    ∃ h', Pre h h' ∧ evE Γ (.lc vs e (.tv i) (.rng1 a) .nil) σ h = .ok (.ref h'.length) (h' ++ [.lst ((List.range z.toNat).map fun j => .bl (q j))]) := by
  obtain ⟨h', p, e3⟩ := lc_items (Γ := Γ) (vs := vs) (e := e) (t := .tv i) (it := .rng1 a) (c := .nil) (σ := σ) (g := fun x => some (.bl (match x with | .int j => q j.toNat | _ => false))) (I_rng (n := z) ea ⟨h0, by omega⟩) (by simp; omega)
    (fun x hx' h1 p1 => by
      obtain ⟨j, hj, rfl⟩ := List.mem_map.mp hx'
      obtain ⟨h2, p2, e2⟩ := hx j h1 (List.mem_range.mp hj) p1
      exact ⟨h2, p2, lcT0 (by simpa using e2)⟩)
    (fun x _ y hy => by cases hy; rfl)
  refine ⟨h', p, ?_⟩
  rw [fm_map, List.map_map] at e3
  rw [e3]
  rfl
theorem ints_of {h : MH} {n : Nat} {m : Int} : ∀ {xs : List Val} {ds : List PyData}, xs.mapM (toD h n) = some ds → ds.all (ixD m) = true → ∃ is : List Int, xs = is.map Val.int ∧ ds = is.map PyData.int ∧ ∀ i ∈ is, 0 ≤ i ∧ i < m
  | [], ds, e, _ => by
    simp at e
    subst e
    exact ⟨[], rfl, rfl, by simp⟩
  | x :: xs, ds, e, hd => by
    rw [List.mapM_cons] at e
    cases hx : toD h n x with
    | none =>
      rw [hx] at e
      cases e
    | some d =>
      rw [hx] at e
      cases hxs : xs.mapM (toD h n) with
      | none =>
        rw [hxs] at e
        cases e
      | some ds' =>
        rw [hxs] at e
        cases e
        rw [List.all_cons, Bool.and_eq_true] at hd
        obtain ⟨is, rfl, rfl, h1⟩ := ints_of hxs hd.2
        have h2 := hd.1
        cases d with
        | int i =>
          have ev := toD_int hx
          subst ev
          refine ⟨i :: is, rfl, rfl, fun j hj => ?_⟩
          simp only [ixD, Bool.and_eq_true, decide_eq_true_eq] at h2
          rcases List.mem_cons.mp hj with rfl | z
          · exact h2
          · exact h1 j z
        | _ => cases h2
theorem int_toD {h : MH} {n : Nat} {is : List Int} : (is.map Val.int).mapM (toD h (n + 1)) = some (is.map PyData.int) := by
  induction is with
  | nil => rfl
  | cons i is ih =>
    rw [List.map_cons, List.mapM_cons, ih]
    rfl
theorem int_dat {is : List Int} : (is.map Val.int).all dat = true := by
  induction is with
  | nil => rfl
  | cons i is ih => rw [List.map_cons, List.all_cons, ih]; rfl
theorem int_flat {is : List Int} : (is.map Val.int).all flatM = true := by
  induction is with
  | nil => rfl
  | cons i is ih => rw [List.map_cons, List.all_cons, ih]; rfl
theorem int_in {is : List Int} {a : Int} : ((is.map Val.int).any fun y => eqM y (.int a)) = is.contains a := by
  induction is with
  | nil => rfl
  | cons i is ih =>
    rw [List.map_cons, List.any_cons, ih, List.contains_cons]
    have : eqM (.int i) (.int a) = (a == i) := by
      show (i == a) = (a == i)
      rw [Bool.eq_iff_iff, beq_iff_eq, beq_iff_eq]
      exact eq_comm
    rw [this]
theorem lcTtt {Γ : Sys} {vs : List Nat} {e : C} {i j : Nat} {σ : MF} {x y z : Val} {h h' : MH} (he : evE Γ e (((wipeM σ vs).set i (some x)).set j (some y)) h = .ok z h') : lcTF Γ vs e (.tt (.cons (.tv i) (.cons (.tv j) .nil))) .nil σ (.tup [x, y]) h = .ok (some z) h' := by
  have e1 : asg Γ (.tt (.cons (.tv i) (.cons (.tv j) .nil))) (.tup [x, y]) (wipeM σ vs) h = .nx (((wipeM σ vs).set i (some x)).set j (some y)) h := by
    rw [G_tt rfl]
    simp only [Gs_cons, G_tv, q_nx, Gs_nil]
  unfold lcTF lcTurn
  rw [e1]
  show (noExc (evE Γ e _ h)).bind _ = _
  rw [he]
  rfl
/-- a tuple of integers -/
def tupI (is : List Int) : Val := .tup (is.map .int)
def tupD (is : List Int) : PyData := .tuple (is.map .int)
theorem toD_tupI {h : MH} {n : Nat} {is : List Int} : toD h (n + 2) (tupI is) = some (tupD is) := by
  show ((is.map Val.int).mapM (toD h (n + 1))).map _ = _
  rw [int_toD]
  rfl
theorem tupIs_toD {h : MH} {n : Nat} : ∀ {L : List (List Int)}, (L.map tupI).mapM (toD h (n + 2)) = some (L.map tupD)
  | [] => rfl
  | l :: L => by
    rw [List.map_cons, List.mapM_cons, toD_tupI, tupIs_toD]
    rfl
theorem tupIs_dat : ∀ {L : List (List Int)}, (L.map tupI).all dat = true
  | [] => rfl
  | l :: L => by
    rw [List.map_cons, List.all_cons, tupIs_dat]
    rfl
theorem lots_of {h : MH} {n : Nat} {m : Int} : ∀ {xs : List Val} {ds : List PyData}, xs.mapM (toD h (n + 1)) = some ds → ds.all (fun l => isTupD l && ixsD m l) = true → ∃ L : List (List Int), xs = L.map tupI ∧ ds = L.map tupD
  | [], ds, e, _ => by
    simp at e
    subst e
    exact ⟨[], rfl, rfl⟩
  | x :: xs, ds, e, hd => by
    rw [List.mapM_cons] at e
    cases hx : toD h (n + 1) x with
    | none =>
      rw [hx] at e
      cases e
    | some d =>
      rw [hx] at e
      cases hxs : xs.mapM (toD h (n + 1)) with
      | none =>
        rw [hxs] at e
        cases e
      | some ds' =>
        rw [hxs] at e
        cases e
        rw [List.all_cons, Bool.and_eq_true, Bool.and_eq_true] at hd
        obtain ⟨L, rfl, rfl⟩ := lots_of hxs hd.2
        obtain ⟨h1, h2⟩ := hd.1
        cases d with
        | tuple es =>
          obtain ⟨ys, rfl, e2⟩ := toD_tup hx
          unfold ixsD at h2
          rw [Bool.and_eq_true] at h2
          obtain ⟨is, rfl, rfl, _⟩ := ints_of e2 h2.2
          exact ⟨is :: L, rfl, rfl⟩
        | _ => cases h1
theorem zipV_map {α : Type} {f : α → Val} : ∀ {L : List α} {M : List Int}, zipV (L.map f) (M.map .int) = (L.zip M).map fun p => .tup [f p.1, .int p.2]
  | [], M => by simp [zipV]
  | l :: L, [] => by simp [zipV]
  | l :: L, m :: M => by
    have ih := zipV_map (f := f) (L := L) (M := M)
    unfold zipV at ih ⊢
    rw [List.map_cons, List.map_cons, List.zip_cons_cons, List.map_cons, ih]
    rfl
theorem toD_dat {h : MH} {n : Nat} {v : Val} {d : PyData} (e : toD h n v = some d) : dat v = true := by
  cases n with
  | zero => cases e
  | succ n => cases v <;> first | rfl | cases e
def toTup (d : PyData) : PyData := .tuple (itemsD d)
/-- [tuple(x) for x in v] -/
theorem lc_tups {Γ : Sys} {vs : List Nat} {a : C} {i n : Nat} {σ : MF} {h : MH} {v : Val} {xs : List Val} {ds : List PyData} (hi : ((wipeM σ vs).set i (some .non))[i]? = some (some .non)) (ea : evE Γ a σ h = .ok v h) (es : isSeq h v = some xs) (ed : xs.mapM (toD h (n + 1)) = some ds) (hl : ds.length ≤ 1000000) (hs : ds.all isSeqD = true) :
    ∃ h' ys, Pre h h' ∧ evE Γ (.lc vs (.blt .tuple (.cons (.v i) .nil)) (.tv i) (.each a) .nil) σ h = .ok (.ref h'.length) (h' ++ [.lst ys]) ∧ ys.mapM (toD h (n + 1)) = some (ds.map toTup) := by
  have len := mapM_len ed
  have hlt : i < (wipeM σ vs).length := by
    rw [List.getElem?_set] at hi
    by_cases z : i < (wipeM σ vs).length
    · exact z
    · rw [if_pos rfl, if_neg z] at hi
      cases hi
  have each : ∀ x ∈ xs, ∃ ys d, isSeq h x = some ys ∧ toD h (n + 1) x = some d ∧ isSeqD d = true ∧ ys.mapM (toD h n) = some (itemsD d) := fun x hx => by
    obtain ⟨j, hj, ej⟩ := List.mem_iff_getElem.mp hx
    obtain ⟨d, hd, e⟩ := mapM_get ed (i := j) (x := x) (by rw [List.getElem?_eq_getElem hj, ej])
    have z := List.all_eq_true.mp hs d (List.mem_of_getElem? hd)
    obtain ⟨ys, e1, e2⟩ := toD_seq e z
    exact ⟨ys, d, e1, e, z, e2⟩
  obtain ⟨h', p, e3⟩ := lc_each (Γ := Γ) (vs := vs) (e := .blt .tuple (.cons (.v i) .nil)) (t := .tv i) (a := a) (c := .nil) (σ := σ) (g := fun x => some (.tup ((isSeq h x).getD []))) ea es (by omega)
    (fun x hx h1 p1 => by
      obtain ⟨ys, d, e1, _⟩ := each x hx
      refine ⟨h1, .refl, lcT0 ?_⟩
      have z := tup_seq (Γ := Γ) (isSeq_pre p1 e1)
      rw [e1]
      simp -implicitDefEqProofs [List.getElem?_set_self hlt, z])
    (fun x _ y hy => by cases hy; rfl)
  refine ⟨h', _, p, e3, ?_⟩
  rw [fm_map]
  clear e3 len hl es
  induction xs generalizing ds with
  | nil =>
    simp at ed
    subst ed
    rfl
  | cons x xs ih =>
    obtain ⟨ys, d, e1, e2, e4, e5⟩ := each x List.mem_cons_self
    rw [List.mapM_cons, e2] at ed
    cases hxs : xs.mapM (toD h (n + 1)) with
    | none =>
      rw [hxs] at ed
      cases ed
    | some ds' =>
      rw [hxs] at ed
      cases ed
      have e6 : toD h (n + 1) (.tup ((isSeq h x).getD [])) = some (toTup d) := by
        rw [e1]
        show (ys.mapM (toD h n)).map _ = _
        rw [e5]
        rfl
      rw [List.map_cons, List.mapM_cons, e6, ih hxs (by rw [List.all_cons, Bool.and_eq_true] at hs; exact hs.2) fun y hy => each y (List.mem_cons_of_mem _ hy)]
      rfl
/-! ### later heaps: all but the pen stays -/
def Later (p : Nat) (h h' : MH) : Prop := h.length ≤ h'.length ∧ ∀ i, i < h.length → i ≠ p → h'[i]? = h[i]?
theorem Later.refl {p : Nat} {h : MH} : Later p h h := ⟨Nat.le_refl _, fun _ _ _ => rfl⟩
theorem Later.trans {p : Nat} {h h' h'' : MH} (a : Later p h h') (b : Later p h' h'') : Later p h h'' := ⟨Nat.le_trans a.1 b.1, fun i hi ne => (b.2 i (Nat.lt_of_lt_of_le hi a.1) ne).trans (a.2 i hi ne)⟩
theorem Later.app {p : Nat} {h t : MH} : Later p h (h ++ t) := ⟨by simp, fun i hi _ => List.getElem?_append_left hi⟩
theorem Later.set {p : Nat} {h : MH} {o : Obj} : Later p h (h.set p o) := ⟨by simp, fun i _ ne => List.getElem?_set_ne (Ne.symm ne)⟩
theorem Pre.later {p : Nat} {h h' : MH} (x : Pre h h') : Later p h h' := by
  obtain ⟨t, rfl⟩ := x
  exact .app
theorem Later.get {p r : Nat} {h h' : MH} {o : Obj} (l : Later p h h') (hr : r ≠ p) (e : h[r]? = some o) : h'[r]? = some o := by
  rw [l.2 r (List.getElem?_eq_some_iff.mp e).1 hr]
  exact e
/-- a value that can be shown, now and later -/
def Nice (p : Nat) (h : MH) (v : Val) (d : PyData) : Prop := (∀ h', Later p h h' → ∀ n, 10 ≤ n → toD h' n v = some d) ∧ dat v = true ∧ d.showable = true ∧ txt d ∧ sz d ≤ 100000
theorem Nice.later {p : Nat} {h h' : MH} {v : Val} {d : PyData} (n : Nice p h v d) (l : Later p h h') : Nice p h' v d := ⟨fun h2 l2 => n.1 h2 (l.trans l2), n.2⟩
theorem PenAt.app {p c : Nat} {h t : MH} {cells : List Int} (P : PenAt h p c cells) : PenAt (h ++ t) p c cells := by
  obtain ⟨a, d, n, f, e, r⟩ := P.pen
  refine ⟨?_, a, d, n, f, ?_, r⟩
  · rw [List.getElem?_append_left (List.getElem?_eq_some_iff.mp P.cell).1]
    exact P.cell
  · rw [List.getElem?_append_left (List.getElem?_eq_some_iff.mp e).1]
    exact e
theorem PenAt.pre {p c : Nat} {h h' : MH} {cells : List Int} (P : PenAt h p c cells) (x : Pre h h') : PenAt h' p c cells := by
  obtain ⟨t, rfl⟩ := x
  exact P.app
theorem PenAt.lt {p c : Nat} {h : MH} {cells : List Int} (P : PenAt h p c cells) : p < h.length := by
  obtain ⟨a, d, n, f, e, r⟩ := P.pen
  exact (List.getElem?_eq_some_iff.mp e).1
theorem nice_of {p : Nat} {h : MH} {v : Val} {d : PyData} (h1 : ∀ h' n, toD h' (n + 10) v = some d) (h2 : dat v = true) (h3 : d.showable = true) (h4 : txt d) (h5 : sz d ≤ 100000) : Nice p h v d :=
  ⟨fun h' _ n hn => by
    obtain ⟨m, rfl⟩ := Nat.exists_eq_add_of_le' hn
    exact h1 h' m, h2, h3, h4, h5⟩
theorem rep {p : Nat} {h : MH} {v : Val} {d : PyData} (N : Nice p h v d) {Γ : Sys} : biV Γ .repr h [v] = some (.str d.shown, h) := by
  obtain ⟨a1, a2, a3, a4, a5⟩ := N
  have e := a1 h Later.refl 60 (by decide)
  have l : d.shown.length ≤ sizeLine := Nat.le_trans (shown_le d a4).1 (Nat.le_trans a5 (by decide))
  simp -implicitDefEqProofs [biV, biRepr, e, guardO, a3, l]
theorem rep_app {p : Nat} {h t : MH} {v : Val} {d : PyData} (N : Nice p h v d) {Γ : Sys} : biV Γ .repr (h ++ t) [v] = some (.str d.shown, h ++ t) := rep (N.later Later.app)
theorem str_nice {p : Nat} {h : MH} {s : String} (hs : s.length ≤ 1000) : Nice p h (.str s) (.str s) := by
  refine nice_of (fun _ _ => rfl) rfl rfl (by simp only [txt]; exact good_of _) ?_
  have q : (Str.ofString s).length = s.toList.length := by
    rw [Str.ofString_eq_toList]
    show (s.toList.map Char.toNat).toArray.size = _
    simp
  have q2 : s.toList.length = s.length := by first | rfl | exact String.length_toList
  simp only [sz]
  rw [q, q2]
  omega
/-- both sides hold the same -/
theorem eqV_same {h : MH} {a b : Val} {d : PyData} (ea : toD h 60 a = some d) (eb : toD h 60 b = some d) (hs : SeqAt.shaped d = true) : eqV h a b = some true := by
  unfold eqV
  rw [ea, eb]
  simp only [Option.bind, hs, guardO]
  have := SeqAt.eqv_refl d (SeqAt.canLay_of_shaped hs)
  simp [this]
/-! turns that draw -/
theorem lcL_inv {turn : Val → MH → Res (Option Val)} (I : MH → Prop) (P : Val → Prop) : ∀ (xs acc : List Val) (h : MH), (∀ x ∈ xs, ∀ h, I h → ∃ o h', turn x h = .ok o h' ∧ I h' ∧ ∀ y, o = some y → P y) → I h → acc.length + xs.length ≤ sizeLine → ∃ ys h', lcL turn xs acc h = .ok (acc ++ ys) h' ∧ I h' ∧ (∀ y ∈ ys, P y) ∧ ys.length ≤ xs.length
  | [], acc, h, _, hI, _ => ⟨[], h, by unfold lcL; simp, hI, by simp, by simp⟩
  | x :: xs, acc, h, hx, hI, hl => by
    obtain ⟨o, h2, e2, I2, P2⟩ := hx x List.mem_cons_self h hI
    have hx' := fun y hy => hx y (List.mem_cons_of_mem x hy)
    have hl' : acc.length + (xs.length + 1) ≤ sizeLine := hl
    rw [lcL_cons, e2]
    cases o with
    | none =>
      obtain ⟨ys, h3, e3, I3, P3, l3⟩ := lcL_inv I P xs acc h2 hx' I2 (by omega)
      exact ⟨ys, h3, e3, I3, P3, by rw [List.length_cons]; omega⟩
    | some y =>
      obtain ⟨ys, h3, e3, I3, P3, l3⟩ := lcL_inv I P xs (acc ++ [y]) h2 hx' I2 (by rw [List.length_append, List.length_singleton]; omega)
      refine ⟨y :: ys, h3, ?_, I3, fun z hz => ?_, by rw [List.length_cons, List.length_cons]; omega⟩
      · show (if acc.length < sizeLine then lcL turn xs (acc ++ [y]) h2 else .bad) = _
        rw [if_pos (by omega), e3, List.append_assoc]
        rfl
      · rcases List.mem_cons.mp hz with rfl | z
        · exact P2 _ rfl
        · exact P3 _ z
theorem lcL_sub {turn : Val → MH → Res (Option Val)} (I : MH → Prop) : ∀ (xs acc : List Val) (h : MH), (∀ x ∈ xs, ∀ h, I h → ∃ o h', turn x h = .ok o h' ∧ I h' ∧ (o = none ∨ o = some x)) → I h → acc.length + xs.length ≤ sizeLine → ∃ ys h', lcL turn xs acc h = .ok (acc ++ ys) h' ∧ I h' ∧ ys.Sublist xs
  | [], acc, h, _, hI, _ => ⟨[], h, by unfold lcL; simp, hI, .slnil⟩
  | x :: xs, acc, h, hx, hI, hl => by
    obtain ⟨o, h2, e2, I2, P2⟩ := hx x List.mem_cons_self h hI
    have hx' := fun y hy => hx y (List.mem_cons_of_mem x hy)
    have hl' : acc.length + (xs.length + 1) ≤ sizeLine := hl
    rw [lcL_cons, e2]
    rcases P2 with rfl | rfl
    · obtain ⟨ys, h3, e3, I3, s3⟩ := lcL_sub I xs acc h2 hx' I2 (by omega)
      exact ⟨ys, h3, e3, I3, s3.cons _⟩
    · obtain ⟨ys, h3, e3, I3, s3⟩ := lcL_sub I xs (acc ++ [x]) h2 hx' I2 (by rw [List.length_append, List.length_singleton]; omega)
      refine ⟨x :: ys, h3, ?_, I3, s3.cons₂ _⟩
      show (if acc.length < sizeLine then lcL turn xs (acc ++ [x]) h2 else .bad) = _
      rw [if_pos (by omega), e3, List.append_assoc]
      rfl
theorem lc_eval {Γ : Sys} {vs : List Nat} {e t it c : C} {σ : MF} {h h1 h' : MH} {xs ys : List Val} (ei : evI Γ it σ h = .ok (.items xs) h1) (el : lcL (lcTF Γ vs e t c σ) xs [] h1 = .ok ys h') (hd : ys.all dat = true) : evE Γ (.lc vs e t it c) σ h = .ok (.ref h'.length) (h' ++ [.lst ys]) := by
  rw [E_lc]
  show (evI Γ it σ h).bind _ = _
  rw [ei]
  show (lcL _ xs [] h1).bind _ = _
  rw [el]
  exact lcE_ hd
end Mini
set_option Elab.async false
set_option linter.all false
set_option maxRecDepth 100000
set_option maxHeartbeats 4000000
/-! Mini alone: parts of sequences, lists that grow, what is empty. -/
namespace Mini
open PySem
theorem cut_init {xs : List Val} : cutM xs none (some (-1)) = xs.dropLast := by
  have z : HT.sIx xs.length xs.length (some (-1)) = ((-1 : Int) + (xs.length : Int)).toNat := rfl
  have z2 : HT.sIx xs.length 0 none = 0 := rfl
  unfold cutM
  rw [z, z2, List.drop_zero, List.dropLast_eq_take]
  congr 1
  omega
theorem cut_from {xs : List Val} : cutM xs (some 1) none = xs.drop 1 := by
  have z : HT.sIx xs.length 0 (some 1) = min 1 xs.length := rfl
  have z2 : HT.sIx xs.length xs.length none = xs.length := rfl
  unfold cutM
  rw [z, z2]
  cases xs with
  | nil => rfl
  | cons x xs =>
    rw [show min 1 (x :: xs).length = 1 by simp]
    simp
theorem cut_at {xs : List Val} {k : Nat} : cutM xs (some (k : Int)) (some ((k : Int) + 1)) = (xs.drop k).take 1 := by
  have z : HT.sIx xs.length 0 (some (k : Int)) = min k xs.length := HT.sIx_nat _ _ _
  have z2 : HT.sIx xs.length xs.length (some ((k : Int) + 1)) = min (k + 1) xs.length := HT.sIx_nat _ _ (k + 1)
  unfold cutM
  rw [z, z2]
  by_cases hk : k < xs.length
  · rw [Nat.min_eq_left (by omega), Nat.min_eq_left (by omega)]
    congr 1
    omega
  · rw [Nat.min_eq_right (by omega), Nat.min_eq_right (by omega), List.drop_eq_nil_of_le (Nat.le_refl _), List.drop_eq_nil_of_le (by omega)]
    simp
theorem isLst_of {h : MH} {r : Nat} {ys : List Val} (e : h[r]? = some (.lst ys)) : isLst h (.ref r) = true := by
  unfold isLst
  simp [e]
theorem mt_app {h : MH} {r : Nat} {ys : List Val} {x : Val} (e : h[r]? = some (.lst ys)) (hl : ys.length ≤ 1000000) (hx : dat x = true) : mtTy .append h (.ref r) = true ∧ mtV .append h (.ref r) [x] = some (.non, h.set r (.lst (ys ++ [x]))) := by
  refine ⟨isLst_of e, ?_⟩
  show mtAppend h (.ref r) [x] = _
  unfold mtAppend
  dsimp only
  rw [e]
  dsimp only
  have g : (decide (ys.length < sizeLine) && dat x) = true := by
    rw [hx, Bool.and_true, decide_eq_true_eq]
    exact Nat.lt_of_le_of_lt hl (by decide)
  unfold guardO
  rw [if_pos g]
theorem mt_ext {h : MH} {r k : Nat} {ys zs : List Val} (e : h[r]? = some (.lst ys)) (e2 : h[k]? = some (.lst zs)) (hl : ys.length + zs.length ≤ 1000) : mtTy .extend h (.ref r) = true ∧ mtV .extend h (.ref r) [.ref k] = some (.non, h.set r (.lst (ys ++ zs))) := by
  refine ⟨isLst_of e, ?_⟩
  show mtExtend h (.ref r) [.ref k] = _
  unfold mtExtend
  dsimp only
  rw [e]
  dsimp only
  rw [e2]
  dsimp only
  have g : fits (ys.length + zs.length) = true := decide_eq_true (Nat.le_trans hl (by decide))
  unfold guardO
  rw [if_pos g]
theorem mtF_app {h : MH} {r : Nat} {ys : List Val} {x : Val} {es : MH → Res (List Val)} {h2 : MH} {zs : List Val} (e0 : h[r]? = some (.lst zs)) (e1 : es h = .ok [x] h2) (e : h2[r]? = some (.lst ys)) (hl : ys.length ≤ 1000000) (hx : dat x = true) : mtF .append (.ref r) es h = .ok .non (h2.set r (.lst (ys ++ [x]))) := by
  rw [mtF_ (m := .append) (h := h) (x := .ref r) (isLst_of e0)]
  show (es h).bind _ = _
  rw [e1]
  show ofOpt (mtV .append h2 (.ref r) [x]) = _
  rw [(mt_app e hl hx).2]
  rfl
theorem canInts : ∀ {is : List Int}, PyData.canLayAll0 (is.map PyData.int) = true
  | [] => rfl
  | i :: is => by
    rw [List.map_cons]
    simp only [PyData.canLayAll0, PyData.canLay0, canInts, Bool.and_true]
theorem depInts : ∀ {is : List Int}, PyData.depthAll (is.map PyData.int) = 0
  | [] => rfl
  | i :: is => by
    rw [List.map_cons]
    simp only [PyData.depthAll, PyData.depth, depInts]
    rfl
theorem shI {is : List Int} : SeqAt.shaped (.tuple (is.map .int)) = true := by
  simp [SeqAt.shaped, PyData.canLay0, PyData.depth, canInts, depInts]
theorem shL {is : List Int} : SeqAt.shaped (.list (is.map .int)) = true := by
  simp [SeqAt.shaped, PyData.canLay0, PyData.depth, canInts, depInts]
/-- is it the empty list? -/
theorem eqV_lnil {h : MH} {r s : Nat} {is : List Int} (e : h[r]? = some (.lst (is.map .int))) (e2 : h[s]? = some (.lst [])) : eqV h (.ref r) (.ref s) = some is.isEmpty := by
  have a : toD h 60 (.ref r) = some (.list (is.map .int)) := by
    show (match h[r]? with
      | some (.lst xs) => (xs.mapM (toD h 59)).map PyData.list
      | some (.dic kvs) => _
      | _ => none) = _
    rw [e]
    show ((is.map Val.int).mapM (toD h 59)).map PyData.list = _
    rw [int_toD]
    rfl
  have b : toD h 60 (.ref s) = some (.list []) := by
    show (match h[s]? with
      | some (.lst xs) => (xs.mapM (toD h 59)).map PyData.list
      | some (.dic kvs) => _
      | _ => none) = _
    rw [e2]
    rfl
  unfold eqV
  rw [a, b]
  simp only [Option.bind, shL, guardO, Bool.true_and]
  rw [if_pos (by decide)]
  cases is with
  | nil => rfl
  | cons i is => rfl
/-- is it the empty tuple? -/
theorem eqV_tnil {h : MH} {is : List Int} : eqV h (tupI is) (.tup []) = some is.isEmpty := by
  unfold eqV
  rw [toD_tupI (n := 58), show toD h 60 (.tup []) = some (.tuple []) from rfl]
  simp only [Option.bind, tupD, shI, guardO, Bool.true_and]
  rw [if_pos (by decide)]
  cases is with
  | nil => rfl
  | cons i is => rfl
section
variable {Γ : Sys} {σ : MF} {h : MH} {a b : C} {z : Int}
@[simp] theorem P_neg : evP Γ (.neg (.ki z)) σ h = .ok (some (-z)) h := rfl
@[simp] theorem P_ki : evP Γ (.ki z) σ h = .ok (some z) h := rfl
@[simp] theorem P_v {i : Nat} : evP Γ (.v i) σ h = (vF σ[i]? h).bind partF := rfl
@[simp] theorem P_op {o : BOp} : evP Γ (.op o a b) σ h = (evE Γ (.op o a b) σ h).bind partF := rfl
end
/-- the pen's place is not a list's -/
theorem PenAt.ne {p c : Nat} {h : MH} {cells : List Int} (P : PenAt h p c cells) {r : Nat} {xs : List Val} (e : h[r]? = some (.lst xs)) : r ≠ p := fun z => by
  obtain ⟨_, _, _, _, e2, _⟩ := P.pen
  rw [← z, e] at e2
  cases e2
theorem PenAt.set {p c r : Nat} {h : MH} {o : Obj} {cells : List Int} (P : PenAt h p c cells) (h1 : r ≠ p) (h2 : r ≠ c) : PenAt (h.set r o) p c cells := by
  obtain ⟨a, d, n, f, e, ha, hd⟩ := P.pen
  exact ⟨by rw [List.getElem?_set_ne h2]; exact P.cell, a, d, n, f, by rw [List.getElem?_set_ne h1]; exact e, ha, hd⟩
theorem PenAt.cl {p c : Nat} {h : MH} {cells : List Int} (P : PenAt h p c cells) : c < h.length := (List.getElem?_eq_some_iff.mp P.cell).1
/-- a newer place is put anew -/
theorem Later.put {p r : Nat} {h h' : MH} {o : Obj} (l : Later p h h') (hr : h.length ≤ r) : Later p h (h'.set r o) := ⟨by simpa using l.1, fun i hi ne => by
  rw [List.getElem?_set_ne (by omega)]
  exact l.2 i hi ne⟩
/-- some of 0, 1, 2 in order -/
def lots8 : List (List Int) := [[], [0], [1], [2], [0, 1], [0, 2], [1, 2], [0, 1, 2]]
theorem sub3 {ys : List Val} (s : ys.Sublist [.int 0, .int 1, .int 2]) : ∃ l ∈ lots8, ys = l.map .int := by
  have s1 : ∀ {zs : List Val}, zs.Sublist [.int 2] → zs = [] ∨ zs = [.int 2] := fun {zs} s => by
    cases s with
    | cons _ t => exact .inl (List.eq_nil_of_sublist_nil t)
    | cons_cons _ t => exact .inr (by rw [List.eq_nil_of_sublist_nil t])
  have s2 : ∀ {zs : List Val}, zs.Sublist [.int 1, .int 2] → zs = [] ∨ zs = [.int 2] ∨ zs = [.int 1] ∨ zs = [.int 1, .int 2] := fun {zs} s => by
    cases s with
    | cons _ t => rcases s1 t with rfl | rfl <;> simp
    | cons_cons _ t => rcases s1 t with rfl | rfl <;> simp
  cases s with
  | cons _ t =>
    rcases s2 t with rfl | rfl | rfl | rfl
    · exact ⟨[], by decide, rfl⟩
    · exact ⟨[2], by decide, rfl⟩
    · exact ⟨[1], by decide, rfl⟩
    · exact ⟨[1, 2], by decide, rfl⟩
  | cons_cons _ t =>
    rcases s2 t with rfl | rfl | rfl | rfl
    · exact ⟨[0], by decide, rfl⟩
    · exact ⟨[0, 2], by decide, rfl⟩
    · exact ⟨[0, 1], by decide, rfl⟩
    · exact ⟨[0, 1, 2], by decide, rfl⟩
/-! values of tuples alone -/
structure NV (j : Nat) (v : Val) (d : PyData) (B : Nat) : Prop where
  td : ∀ h n, toD h (n + j) v = some d
  dt : dat v = true
  sh : d.showable = true
  tx : txt d
  le : sz d ≤ B
structure NVs (j : Nat) (vs : List Val) (ds : List PyData) (B : Nat) : Prop where
  td : ∀ h n, vs.mapM (toD h (n + j)) = some ds
  dt : vs.all dat = true
  sh : PyData.showableAll ds = true
  tx : txts ds
  le : szs ds ≤ B
theorem NV.nice {j B p : Nat} {v : Val} {d : PyData} {h : MH} (N : NV j v d B) (hj : j ≤ 10) (hB : B ≤ 100000) : Nice p h v d := by
  obtain ⟨q, hq⟩ := Nat.exists_eq_add_of_le' hj
  refine nice_of (fun h' n => ?_) N.dt N.sh N.tx (Nat.le_trans N.le hB)
  rw [hq, ← Nat.add_assoc]
  exact N.td h' (n + q)
theorem NV.up {j B j' B' : Nat} {v : Val} {d : PyData} (N : NV j v d B) (hj : j ≤ j') (hB : B ≤ B') : NV j' v d B' := by
  obtain ⟨q, rfl⟩ := Nat.exists_eq_add_of_le' hj
  exact ⟨fun h n => by rw [← Nat.add_assoc]; exact N.td h (n + q), N.dt, N.sh, N.tx, Nat.le_trans N.le hB⟩
theorem NVs.up {j B j' B' : Nat} {v : List Val} {d : List PyData} (N : NVs j v d B) (hj : j ≤ j') (hB : B ≤ B') : NVs j' v d B' := by
  obtain ⟨q, rfl⟩ := Nat.exists_eq_add_of_le' hj
  exact ⟨fun h n => by rw [← Nat.add_assoc]; exact N.td h (n + q), N.dt, N.sh, N.tx, Nat.le_trans N.le hB⟩
theorem NVs.nil {j : Nat} : NVs j [] [] 0 := ⟨fun _ _ => rfl, rfl, rfl, by simp [txts], by simp [szs]⟩
theorem NVs.cons {j B C : Nat} {v : Val} {d : PyData} {vs : List Val} {ds : List PyData} (N : NV j v d B) (S : NVs j vs ds C) : NVs j (v :: vs) (d :: ds) (B + 2 + C) := by
  refine ⟨fun h n => ?_, by rw [List.all_cons, N.dt, S.dt]; rfl, ?_, ?_, ?_⟩
  · rw [List.mapM_cons, N.td, S.td]
    rfl
  · simp only [PyData.showableAll, N.sh, S.sh, Bool.and_self]
  · simp only [txts]
    exact ⟨N.tx, S.tx⟩
  · simp only [szs]
    have := N.le
    have := S.le
    omega
theorem NVs.app {j B C : Nat} {vs : List Val} {ds : List PyData} {ws : List Val} {es : List PyData} (S : NVs j vs ds B) (T : NVs j ws es C) : NVs j (vs ++ ws) (ds ++ es) (B + C) := by
  have sh : ∀ ds : List PyData, PyData.showableAll (ds ++ es) = (PyData.showableAll ds && PyData.showableAll es) := fun ds => by
    induction ds with
    | nil => simp [PyData.showableAll]
    | cons d ds ih => simp only [List.cons_append, PyData.showableAll, ih, Bool.and_assoc]
  have tx : ∀ ds : List PyData, txts ds → txts (ds ++ es) := fun ds => by
    induction ds with
    | nil => exact fun _ => T.tx
    | cons d ds ih =>
      simp only [List.cons_append, txts]
      exact fun z => ⟨z.1, ih z.2⟩
  have sl : ∀ ds : List PyData, szs (ds ++ es) = szs ds + szs es := fun ds => by
    induction ds with
    | nil => simp [szs]
    | cons d ds ih => simp only [List.cons_append, szs, ih, Nat.add_assoc]
  have mm : ∀ (f : Val → Option PyData) (vs : List Val) (ds : List PyData), vs.mapM f = some ds → ws.mapM f = some es → (vs ++ ws).mapM f = some (ds ++ es) := fun f vs => by
    induction vs with
    | nil => intro ds e1 e2; simp at e1; subst e1; exact e2
    | cons v vs ih =>
      intro ds e1 e2
      rw [List.mapM_cons] at e1
      obtain ⟨d, h1, e1⟩ := bind_some e1
      obtain ⟨ds', h2, e1⟩ := bind_some e1
      cases e1
      rw [List.cons_append, List.mapM_cons, h1, ih ds' h2 e2]
      rfl
  refine ⟨fun h n => mm _ _ _ (S.td h n) (T.td h n), by rw [List.all_append, S.dt, T.dt]; rfl, by rw [sh, S.sh, T.sh]; rfl, tx _ S.tx, ?_⟩
  rw [sl]
  have := S.le
  have := T.le
  omega
theorem NVs.tup {j B : Nat} {vs : List Val} {ds : List PyData} (S : NVs j vs ds B) : NV (j + 1) (.tup vs) (.tuple ds) (B + 3) := by
  refine ⟨fun h n => ?_, rfl, ?_, ?_, ?_⟩
  · show (vs.mapM (toD h (n + j))).map _ = _
    rw [S.td]
    rfl
  · simp only [PyData.showable]
    exact S.sh
  · simp only [txt]
    exact S.tx
  · simp only [sz]
    have := S.le
    omega
theorem NV.int {i : Int} (hi : i.natAbs < 2 ^ 60) : NV 1 (.int i) (.int i) 70 := by
  have z : i.natAbs.log2 ≤ 60 := by
    by_cases h0 : i.natAbs = 0
    · rw [h0]; decide
    · exact Nat.le_of_lt ((Nat.log2_lt h0).mpr hi)
  refine ⟨fun _ _ => rfl, rfl, ?_, by simp only [txt], ?_⟩
  · simp only [PyData.showable, decide_eq_true_eq]
    omega
  · simp only [sz]
    omega
theorem NV.non : NV 1 .non .none 4 := ⟨fun _ _ => rfl, rfl, rfl, by simp only [txt], by simp only [sz]; decide⟩
theorem NV.bl {b : Bool} : NV 1 (.bl b) (.bool b) 5 := ⟨fun _ _ => rfl, rfl, rfl, by simp only [txt], by simp only [sz]; decide⟩
theorem NV.str {s : String} (hs : s.length ≤ 1000) : NV 1 (.str s) (.str s) 10002 := by
  obtain ⟨a, b, c, d, e⟩ := str_nice (p := 0) (h := []) hs
  refine ⟨fun _ _ => rfl, rfl, c, d, ?_⟩
  simp only [sz]
  have : (s : Str).length = s.length := by
    rw [Str.ofString_eq_toList]
    show ((s.toList.map Char.toNat).toArray).size = _
    rw [List.size_toArray, List.length_map]
    rfl
  omega
theorem NVs.ints {is : List Int} (hi : ∀ a ∈ is, a.natAbs < 2 ^ 60) : NVs 1 (is.map .int) (is.map .int) (72 * is.length) := by
  induction is with
  | nil => exact NVs.nil
  | cons i is ih =>
    have := NVs.cons (NV.int (hi i List.mem_cons_self)) (ih fun a ha => hi a (List.mem_cons_of_mem _ ha))
    exact this.up (Nat.le_refl _) (by rw [List.length_cons]; omega)
theorem NVs.reps {v : Val} {d : PyData} {B n : Nat} {j : Nat} (N : NV j v d B) : NVs j (List.replicate n v) (List.replicate n d) ((B + 2) * n) := by
  induction n with
  | zero => exact NVs.nil
  | succ n ih => exact (NVs.cons N ih).up (Nat.le_refl _) (by rw [Nat.mul_succ]; omega)
theorem Pre.put {h h' : MH} {r : Nat} {o : Obj} (x : Pre h h') (hr : h.length ≤ r) : Pre h (h'.set r o) := by
  obtain ⟨t, rfl⟩ := x
  refine ⟨t.set (r - h.length) o, ?_⟩
  rw [List.set_append_right _ _ hr]
/-- nothing in it is long -/
def smallD (d : PyData) : Prop := (itemsD d).length ≤ 1000 ∧ ∀ o ∈ itemsD d, (itemsD o).length ≤ 1000 ∧ ∀ q ∈ itemsD o, (itemsD q).length ≤ 1000
/-- two lists one behind the other: each turn its own -/
theorem nx_for {turn : Val → MF → MH → Out} {x : Val} {xs : List Val} {σ σ' : MF} {h h' : MH} (e : turn x σ h = .nx σ' h') : forL turn (x :: xs) σ h = forL turn xs σ' h' := by
  rw [forL_cons, e]
  rfl
theorem rt_for {turn : Val → MF → MH → Out} {x v : Val} {xs : List Val} {σ : MF} {h h' : MH} (e : turn x σ h = .rt v h') : forL turn (x :: xs) σ h = .rt v h' := by
  rw [forL_cons, e]
  rfl
end Mini
set_option Elab.async false
set_option linter.all false
set_option maxRecDepth 100000
set_option maxHeartbeats 0
namespace Law
open PySem PyProof.Rows Mini
def c0_0 : C := (.ret (.blt .isinstance (.cons (.v 0) (.cons (.tup (.cons (.gv (.ty "list")) (.cons (.gv (.ty "tuple")) .nil))) .nil))))
@[simp] theorem c0_0_ {Γ : Sys} {σ : MF} {h : MH} : evS Γ c0_0 σ h = evS Γ (.ret (.blt .isinstance (.cons (.v 0) (.cons (.tup (.cons (.gv (.ty "list")) (.cons (.gv (.ty "tuple")) .nil))) .nil)))) σ h := rfl
def c0_1 : C := .cons c0_0 .nil
@[simp] theorem c0_1_ {Γ : Sys} {σ : MF} {h : MH} : evSs Γ c0_1 σ h = sq (evS Γ c0_0) (evSs Γ .nil) σ h := Ss_cons
/-- is_list -/
def c0 : C := c0_1
def r0 : Mini.Row := ⟨24, ("is_list" : Str), [("value" : Str)], [("value" : Str)], false, c0, false, none⟩
def c1_0 : C := (.ret (.and (.blt .isinstance (.cons (.v 0) (.cons (.gv (.ty "int")) .nil))) (.not (.blt .isinstance (.cons (.v 0) (.cons (.gv (.ty "bool")) .nil))))))
@[simp] theorem c1_0_ {Γ : Sys} {σ : MF} {h : MH} : evS Γ c1_0 σ h = evS Γ (.ret (.and (.blt .isinstance (.cons (.v 0) (.cons (.gv (.ty "int")) .nil))) (.not (.blt .isinstance (.cons (.v 0) (.cons (.gv (.ty "bool")) .nil)))))) σ h := rfl
def c1_1 : C := .cons c1_0 .nil
@[simp] theorem c1_1_ {Γ : Sys} {σ : MF} {h : MH} : evSs Γ c1_1 σ h = sq (evS Γ c1_0) (evSs Γ .nil) σ h := Ss_cons
/-- is_integer -/
def c1 : C := c1_1
def r1 : Mini.Row := ⟨25, ("is_integer" : Str), [("value" : Str)], [("value" : Str)], false, c1, false, none⟩
def c2_0 : C := (.ret (.and (.call 1 (.cons (.v 0) .nil)) (.ch .le .lt (.ki 0) (.v 0) (.v 1))))
@[simp] theorem c2_0_ {Γ : Sys} {σ : MF} {h : MH} : evS Γ c2_0 σ h = evS Γ (.ret (.and (.call 1 (.cons (.v 0) .nil)) (.ch .le .lt (.ki 0) (.v 0) (.v 1)))) σ h := rfl
def c2_1 : C := .cons c2_0 .nil
@[simp] theorem c2_1_ {Γ : Sys} {σ : MF} {h : MH} : evSs Γ c2_1 σ h = sq (evS Γ c2_0) (evSs Γ .nil) σ h := Ss_cons
/-- is_index -/
def c2 : C := c2_1
def r2 : Mini.Row := ⟨26, ("is_index" : Str), [("value" : Str), ("many" : Str)], [("value" : Str), ("many" : Str)], false, c2, false, none⟩
def c3_0 : C := (.ret (.and (.call 1 (.cons (.v 0) .nil)) (.ch .le .le (.v 1) (.v 0) (.v 2))))
@[simp] theorem c3_0_ {Γ : Sys} {σ : MF} {h : MH} : evS Γ c3_0 σ h = evS Γ (.ret (.and (.call 1 (.cons (.v 0) .nil)) (.ch .le .le (.v 1) (.v 0) (.v 2)))) σ h := rfl
def c3_1 : C := .cons c3_0 .nil
@[simp] theorem c3_1_ {Γ : Sys} {σ : MF} {h : MH} : evSs Γ c3_1 σ h = sq (evS Γ c3_0) (evSs Γ .nil) σ h := Ss_cons
/-- is_between -/
def c3 : C := c3_1
def r3 : Mini.Row := ⟨27, ("is_between" : Str), [("value" : Str), ("low" : Str), ("high" : Str)], [("value" : Str), ("low" : Str), ("high" : Str)], false, c3, false, none⟩
def c4_l0 : C := (.lc [2] (.call 2 (.cons (.v 2) (.cons (.v 1) .nil))) (.tv 2) (.each (.v 0)) .nil)
def c4_0 : C := (.ret (.and (.call 0 (.cons (.v 0) .nil)) (.blt .all (.cons c4_l0 .nil))))
@[simp] theorem c4_0_ {Γ : Sys} {σ : MF} {h : MH} : evS Γ c4_0 σ h = evS Γ (.ret (.and (.call 0 (.cons (.v 0) .nil)) (.blt .all (.cons c4_l0 .nil)))) σ h := rfl
def c4_1 : C := .cons c4_0 .nil
@[simp] theorem c4_1_ {Γ : Sys} {σ : MF} {h : MH} : evSs Γ c4_1 σ h = sq (evS Γ c4_0) (evSs Γ .nil) σ h := Ss_cons
/-- is_indexes -/
def c4 : C := c4_1
def r4 : Mini.Row := ⟨28, ("is_indexes" : Str), [("value" : Str), ("many" : Str)], [("value" : Str), ("many" : Str), ("one" : Str)], false, c4, false, none⟩
def c5_0 : C := (.ret (.and (.call 4 (.cons (.v 0) (.cons (.v 1) .nil))) (.cm .le (.blt .len (.cons (.v 0) .nil)) (.gv (.int 400)))))
@[simp] theorem c5_0_ {Γ : Sys} {σ : MF} {h : MH} : evS Γ c5_0 σ h = evS Γ (.ret (.and (.call 4 (.cons (.v 0) (.cons (.v 1) .nil))) (.cm .le (.blt .len (.cons (.v 0) .nil)) (.gv (.int 400))))) σ h := rfl
def c5_1 : C := .cons c5_0 .nil
@[simp] theorem c5_1_ {Γ : Sys} {σ : MF} {h : MH} : evSs Γ c5_1 σ h = sq (evS Γ c5_0) (evSs Γ .nil) σ h := Ss_cons
/-- is_word -/
def c5 : C := c5_1
def r5 : Mini.Row := ⟨29, ("is_word" : Str), [("value" : Str), ("letters" : Str)], [("value" : Str), ("letters" : Str)], false, c5, false, none⟩
def c6_0 : C := (.rais 1 (.cons (.ks ("letters" : Str)) (.cons (.v 0) .nil)))
@[simp] theorem c6_0_ {Γ : Sys} {σ : MF} {h : MH} : evS Γ c6_0 σ h = evS Γ (.rais 1 (.cons (.ks ("letters" : Str)) (.cons (.v 0) .nil))) σ h := rfl
def c6_1 : C := .cons c6_0 .nil
@[simp] theorem c6_1_ {Γ : Sys} {σ : MF} {h : MH} : evSs Γ c6_1 σ h = sq (evS Γ c6_0) (evSs Γ .nil) σ h := Ss_cons
def c6_2 : C := (.ite (.not (.call 3 (.cons (.v 0) (.cons (.ki 1) (.cons (.gv (.int 3)) .nil))))) c6_1 .nil)
@[simp] theorem c6_2_ {Γ : Sys} {σ : MF} {h : MH} : evS Γ c6_2 σ h = evS Γ (.ite (.not (.call 3 (.cons (.v 0) (.cons (.ki 1) (.cons (.gv (.int 3)) .nil))))) c6_1 .nil) σ h := rfl
def c6_3 : C := .cons c6_2 .nil
@[simp] theorem c6_3_ {Γ : Sys} {σ : MF} {h : MH} : evSs Γ c6_3 σ h = sq (evS Γ c6_2) (evSs Γ .nil) σ h := Ss_cons
/-- need_letters -/
def c6 : C := c6_3
def r6 : Mini.Row := ⟨30, ("need_letters" : Str), [("letters" : Str)], [("letters" : Str)], false, c6, false, none⟩
def c7_0 : C := (.ret (.btup (.v 0)))
@[simp] theorem c7_0_ {Γ : Sys} {σ : MF} {h : MH} : evS Γ c7_0 σ h = evS Γ (.ret (.btup (.v 0))) σ h := rfl
def c7_1 : C := .cons c7_0 .nil
@[simp] theorem c7_1_ {Γ : Sys} {σ : MF} {h : MH} : evSs Γ c7_1 σ h = sq (evS Γ c7_0) (evSs Γ .nil) σ h := Ss_cons
def c7_2 : C := (.rais 3 (.cons (.v 2) (.cons (.unt (.v 0)) .nil)))
@[simp] theorem c7_2_ {Γ : Sys} {σ : MF} {h : MH} : evS Γ c7_2 σ h = evS Γ (.rais 3 (.cons (.v 2) (.cons (.unt (.v 0)) .nil))) σ h := rfl
def c7_3 : C := .cons c7_2 .nil
@[simp] theorem c7_3_ {Γ : Sys} {σ : MF} {h : MH} : evSs Γ c7_3 σ h = sq (evS Γ c7_2) (evSs Γ .nil) σ h := Ss_cons
def c7_4 : C := (.ite (.not (.call 5 (.cons (.unt (.v 0)) (.cons (.v 1) .nil)))) c7_3 .nil)
@[simp] theorem c7_4_ {Γ : Sys} {σ : MF} {h : MH} : evS Γ c7_4 σ h = evS Γ (.ite (.not (.call 5 (.cons (.unt (.v 0)) (.cons (.v 1) .nil)))) c7_3 .nil) σ h := rfl
def c7_5 : C := .cons c7_4 c7_1
@[simp] theorem c7_5_ {Γ : Sys} {σ : MF} {h : MH} : evSs Γ c7_5 σ h = sq (evS Γ c7_4) (evSs Γ c7_1) σ h := Ss_cons
/-- need_word -/
def c7 : C := c7_5
def r7 : Mini.Row := ⟨31, ("need_word" : Str), [("word" : Str), ("letters" : Str), ("what" : Str)], [("word" : Str), ("letters" : Str), ("what" : Str)], false, c7, false, none⟩
def c8_0 : C := (.ret (.blt .tuple (.cons (.v 2) .nil)))
@[simp] theorem c8_0_ {Γ : Sys} {σ : MF} {h : MH} : evS Γ c8_0 σ h = evS Γ (.ret (.blt .tuple (.cons (.v 2) .nil))) σ h := rfl
def c8_1 : C := .cons c8_0 .nil
@[simp] theorem c8_1_ {Γ : Sys} {σ : MF} {h : MH} : evSs Γ c8_1 σ h = sq (evS Γ c8_0) (evSs Γ .nil) σ h := Ss_cons
def c8_l0 : C := (.lc2 [4, 5] (.op .add (.v 4) (.tup (.cons (.v 5) .nil))) (.tv 4) (.each (.v 2)) .nil [5] (.tv 5) (.rng1 (.v 0)) .nil)
def c8_2 : C := (.set (.tv 2) c8_l0)
@[simp] theorem c8_2_ {Γ : Sys} {σ : MF} {h : MH} : evS Γ c8_2 σ h = evS Γ (.set (.tv 2) c8_l0) σ h := rfl
def c8_3 : C := .cons c8_2 .nil
@[simp] theorem c8_3_ {Γ : Sys} {σ : MF} {h : MH} : evSs Γ c8_3 σ h = sq (evS Γ c8_2) (evSs Γ .nil) σ h := Ss_cons
def c8_4 : C := (.for_ (.tv 3) (.rng1 (.v 1)) c8_3)
@[simp] theorem c8_4_ {Γ : Sys} {σ : MF} {h : MH} : evS Γ c8_4 σ h = evS Γ (.for_ (.tv 3) (.rng1 (.v 1)) c8_3) σ h := rfl
def c8_5 : C := .cons c8_4 c8_1
@[simp] theorem c8_5_ {Γ : Sys} {σ : MF} {h : MH} : evSs Γ c8_5 σ h = sq (evS Γ c8_4) (evSs Γ c8_1) σ h := Ss_cons
def c8_6 : C := (.set (.tv 2) (.lst (.cons (.tup .nil) .nil)))
@[simp] theorem c8_6_ {Γ : Sys} {σ : MF} {h : MH} : evS Γ c8_6 σ h = evS Γ (.set (.tv 2) (.lst (.cons (.tup .nil) .nil))) σ h := rfl
def c8_7 : C := .cons c8_6 c8_5
@[simp] theorem c8_7_ {Γ : Sys} {σ : MF} {h : MH} : evSs Γ c8_7 σ h = sq (evS Γ c8_6) (evSs Γ c8_5) σ h := Ss_cons
/-- all_words -/
def c8 : C := c8_7
def r8 : Mini.Row := ⟨34, ("all_words" : Str), [("letters" : Str), ("length" : Str)], [("letters" : Str), ("length" : Str), ("found" : Str), ("lap" : Str), ("one" : Str), ("letter" : Str)], false, c8, false, none⟩
def c9_0 : C := (.rais 16 (.cons (.ks ("words" : Str)) (.cons (.v 0) (.cons (.gv (.int 4096)) .nil))))
@[simp] theorem c9_0_ {Γ : Sys} {σ : MF} {h : MH} : evS Γ c9_0 σ h = evS Γ (.rais 16 (.cons (.ks ("words" : Str)) (.cons (.v 0) (.cons (.gv (.int 4096)) .nil)))) σ h := rfl
def c9_1 : C := .cons c9_0 .nil
@[simp] theorem c9_1_ {Γ : Sys} {σ : MF} {h : MH} : evSs Γ c9_1 σ h = sq (evS Γ c9_0) (evSs Γ .nil) σ h := Ss_cons
def c9_2 : C := (.ite (.cm .gt (.v 0) (.gv (.int 4096))) c9_1 .nil)
@[simp] theorem c9_2_ {Γ : Sys} {σ : MF} {h : MH} : evS Γ c9_2 σ h = evS Γ (.ite (.cm .gt (.v 0) (.gv (.int 4096))) c9_1 .nil) σ h := rfl
def c9_3 : C := .cons c9_2 .nil
@[simp] theorem c9_3_ {Γ : Sys} {σ : MF} {h : MH} : evSs Γ c9_3 σ h = sq (evS Γ c9_2) (evSs Γ .nil) σ h := Ss_cons
/-- need_few_words -/
def c9 : C := c9_3
def r9 : Mini.Row := ⟨35, ("need_few_words" : Str), [("many" : Str)], [("many" : Str)], false, c9, false, none⟩
def c10_0 : C := (.ret (.v 2))
@[simp] theorem c10_0_ {Γ : Sys} {σ : MF} {h : MH} : evS Γ c10_0 σ h = evS Γ (.ret (.v 2)) σ h := rfl
def c10_1 : C := .cons c10_0 .nil
@[simp] theorem c10_1_ {Γ : Sys} {σ : MF} {h : MH} : evSs Γ c10_1 σ h = sq (evS Γ c10_0) (evSs Γ .nil) σ h := Ss_cons
def c10_2 : C := (.set (.tv 2) (.op .imul (.v 2) (.v 0)))
@[simp] theorem c10_2_ {Γ : Sys} {σ : MF} {h : MH} : evS Γ c10_2 σ h = evS Γ (.set (.tv 2) (.op .imul (.v 2) (.v 0))) σ h := rfl
def c10_3 : C := .cons c10_2 .nil
@[simp] theorem c10_3_ {Γ : Sys} {σ : MF} {h : MH} : evSs Γ c10_3 σ h = sq (evS Γ c10_2) (evSs Γ .nil) σ h := Ss_cons
def c10_4 : C := (.for_ (.tv 3) (.rng1 (.v 1)) c10_3)
@[simp] theorem c10_4_ {Γ : Sys} {σ : MF} {h : MH} : evS Γ c10_4 σ h = evS Γ (.for_ (.tv 3) (.rng1 (.v 1)) c10_3) σ h := rfl
def c10_5 : C := .cons c10_4 c10_1
@[simp] theorem c10_5_ {Γ : Sys} {σ : MF} {h : MH} : evSs Γ c10_5 σ h = sq (evS Γ c10_4) (evSs Γ c10_1) σ h := Ss_cons
def c10_6 : C := (.set (.tv 2) (.ki 1))
@[simp] theorem c10_6_ {Γ : Sys} {σ : MF} {h : MH} : evS Γ c10_6 σ h = evS Γ (.set (.tv 2) (.ki 1)) σ h := rfl
def c10_7 : C := .cons c10_6 c10_5
@[simp] theorem c10_7_ {Γ : Sys} {σ : MF} {h : MH} : evSs Γ c10_7 σ h = sq (evS Γ c10_6) (evSs Γ c10_5) σ h := Ss_cons
/-- how_many -/
def c10 : C := c10_7
def r10 : Mini.Row := ⟨36, ("how_many" : Str), [("letters" : Str), ("length" : Str)], [("letters" : Str), ("length" : Str), ("many" : Str), ("lap" : Str)], false, c10, false, none⟩
def c11_0 : C := (.ret (.call 8 (.cons (.v 0) (.cons (.v 1) .nil))))
@[simp] theorem c11_0_ {Γ : Sys} {σ : MF} {h : MH} : evS Γ c11_0 σ h = evS Γ (.ret (.call 8 (.cons (.v 0) (.cons (.v 1) .nil)))) σ h := rfl
def c11_1 : C := .cons c11_0 .nil
@[simp] theorem c11_1_ {Γ : Sys} {σ : MF} {h : MH} : evSs Γ c11_1 σ h = sq (evS Γ c11_0) (evSs Γ .nil) σ h := Ss_cons
def c11_2 : C := (.ex (.call 9 (.cons (.call 10 (.cons (.v 0) (.cons (.v 1) .nil))) .nil)))
@[simp] theorem c11_2_ {Γ : Sys} {σ : MF} {h : MH} : evS Γ c11_2 σ h = evS Γ (.ex (.call 9 (.cons (.call 10 (.cons (.v 0) (.cons (.v 1) .nil))) .nil))) σ h := rfl
def c11_3 : C := .cons c11_2 c11_1
@[simp] theorem c11_3_ {Γ : Sys} {σ : MF} {h : MH} : evSs Γ c11_3 σ h = sq (evS Γ c11_2) (evSs Γ c11_1) σ h := Ss_cons
def c11_4 : C := (.rais 1 (.cons (.ks ("length" : Str)) (.cons (.v 1) .nil)))
@[simp] theorem c11_4_ {Γ : Sys} {σ : MF} {h : MH} : evS Γ c11_4 σ h = evS Γ (.rais 1 (.cons (.ks ("length" : Str)) (.cons (.v 1) .nil))) σ h := rfl
def c11_5 : C := .cons c11_4 .nil
@[simp] theorem c11_5_ {Γ : Sys} {σ : MF} {h : MH} : evSs Γ c11_5 σ h = sq (evS Γ c11_4) (evSs Γ .nil) σ h := Ss_cons
def c11_6 : C := (.ite (.not (.call 3 (.cons (.v 1) (.cons (.ki 0) (.cons (.gv (.int 400)) .nil))))) c11_5 .nil)
@[simp] theorem c11_6_ {Γ : Sys} {σ : MF} {h : MH} : evS Γ c11_6 σ h = evS Γ (.ite (.not (.call 3 (.cons (.v 1) (.cons (.ki 0) (.cons (.gv (.int 400)) .nil))))) c11_5 .nil) σ h := rfl
def c11_7 : C := .cons c11_6 c11_3
@[simp] theorem c11_7_ {Γ : Sys} {σ : MF} {h : MH} : evSs Γ c11_7 σ h = sq (evS Γ c11_6) (evSs Γ c11_3) σ h := Ss_cons
def c11_8 : C := (.ex (.call 6 (.cons (.v 0) .nil)))
@[simp] theorem c11_8_ {Γ : Sys} {σ : MF} {h : MH} : evS Γ c11_8 σ h = evS Γ (.ex (.call 6 (.cons (.v 0) .nil))) σ h := rfl
def c11_9 : C := .cons c11_8 c11_7
@[simp] theorem c11_9_ {Γ : Sys} {σ : MF} {h : MH} : evSs Γ c11_9 σ h = sq (evS Γ c11_8) (evSs Γ c11_7) σ h := Ss_cons
/-- words_of -/
def c11 : C := c11_9
def r11 : Mini.Row := ⟨37, ("words_of" : Str), [("letters" : Str), ("length" : Str)], [("letters" : Str), ("length" : Str)], false, c11, false, none⟩
def c12_l0 : C := (.lc [2] (.mth .count (.v 1) (.cons (.v 2) .nil)) (.tv 2) (.rng1 (.v 0)) .nil)
def c12_0 : C := (.ret (.blt .tuple (.cons c12_l0 .nil)))
@[simp] theorem c12_0_ {Γ : Sys} {σ : MF} {h : MH} : evS Γ c12_0 σ h = evS Γ (.ret (.blt .tuple (.cons c12_l0 .nil))) σ h := rfl
def c12_1 : C := .cons c12_0 .nil
@[simp] theorem c12_1_ {Γ : Sys} {σ : MF} {h : MH} : evSs Γ c12_1 σ h = sq (evS Γ c12_0) (evSs Γ .nil) σ h := Ss_cons
/-- counts_in -/
def c12 : C := c12_1
def r12 : Mini.Row := ⟨38, ("counts_in" : Str), [("letters" : Str), ("word" : Str)], [("letters" : Str), ("word" : Str), ("letter" : Str)], false, c12, false, none⟩
def c13_0 : C := (.ret (.call 12 (.cons (.v 0) (.cons (.call 7 (.cons (.v 1) (.cons (.v 0) (.cons (.ks ("word" : Str)) .nil)))) .nil))))
@[simp] theorem c13_0_ {Γ : Sys} {σ : MF} {h : MH} : evS Γ c13_0 σ h = evS Γ (.ret (.call 12 (.cons (.v 0) (.cons (.call 7 (.cons (.v 1) (.cons (.v 0) (.cons (.ks ("word" : Str)) .nil)))) .nil)))) σ h := rfl
def c13_1 : C := .cons c13_0 .nil
@[simp] theorem c13_1_ {Γ : Sys} {σ : MF} {h : MH} : evSs Γ c13_1 σ h = sq (evS Γ c13_0) (evSs Γ .nil) σ h := Ss_cons
def c13_2 : C := (.ex (.call 6 (.cons (.v 0) .nil)))
@[simp] theorem c13_2_ {Γ : Sys} {σ : MF} {h : MH} : evS Γ c13_2 σ h = evS Γ (.ex (.call 6 (.cons (.v 0) .nil))) σ h := rfl
def c13_3 : C := .cons c13_2 c13_1
@[simp] theorem c13_3_ {Γ : Sys} {σ : MF} {h : MH} : evSs Γ c13_3 σ h = sq (evS Γ c13_2) (evSs Γ c13_1) σ h := Ss_cons
/-- counts_of -/
def c13 : C := c13_3
def r13 : Mini.Row := ⟨39, ("counts_of" : Str), [("letters" : Str), ("word" : Str)], [("letters" : Str), ("word" : Str)], false, c13, false, none⟩
def c14_0 : C := (.ret (.blt .tuple (.cons (.sset (.unt (.v 0))) .nil)))
@[simp] theorem c14_0_ {Γ : Sys} {σ : MF} {h : MH} : evS Γ c14_0 σ h = evS Γ (.ret (.blt .tuple (.cons (.sset (.unt (.v 0))) .nil))) σ h := rfl
def c14_1 : C := .cons c14_0 .nil
@[simp] theorem c14_1_ {Γ : Sys} {σ : MF} {h : MH} : evSs Γ c14_1 σ h = sq (evS Γ c14_0) (evSs Γ .nil) σ h := Ss_cons
/-- lot_in -/
def c14 : C := c14_1
def r14 : Mini.Row := ⟨40, ("lot_in" : Str), [("word" : Str)], [("word" : Str)], false, c14, false, none⟩
def c15_0 : C := (.ret (.call 14 (.cons (.call 7 (.cons (.v 1) (.cons (.v 0) (.cons (.ks ("word" : Str)) .nil)))) .nil)))
@[simp] theorem c15_0_ {Γ : Sys} {σ : MF} {h : MH} : evS Γ c15_0 σ h = evS Γ (.ret (.call 14 (.cons (.call 7 (.cons (.v 1) (.cons (.v 0) (.cons (.ks ("word" : Str)) .nil)))) .nil))) σ h := rfl
def c15_1 : C := .cons c15_0 .nil
@[simp] theorem c15_1_ {Γ : Sys} {σ : MF} {h : MH} : evSs Γ c15_1 σ h = sq (evS Γ c15_0) (evSs Γ .nil) σ h := Ss_cons
def c15_2 : C := (.ex (.call 6 (.cons (.v 0) .nil)))
@[simp] theorem c15_2_ {Γ : Sys} {σ : MF} {h : MH} : evS Γ c15_2 σ h = evS Γ (.ex (.call 6 (.cons (.v 0) .nil))) σ h := rfl
def c15_3 : C := .cons c15_2 c15_1
@[simp] theorem c15_3_ {Γ : Sys} {σ : MF} {h : MH} : evSs Γ c15_3 σ h = sq (evS Γ c15_2) (evSs Γ c15_1) σ h := Ss_cons
/-- lot_of -/
def c15 : C := c15_3
def r15 : Mini.Row := ⟨41, ("lot_of" : Str), [("letters" : Str), ("word" : Str)], [("letters" : Str), ("word" : Str)], false, c15, false, none⟩
def c16_0 : C := (.ret (.op .mul (.unt (.v 3)) (.v 2)))
@[simp] theorem c16_0_ {Γ : Sys} {σ : MF} {h : MH} : evS Γ c16_0 σ h = evS Γ (.ret (.op .mul (.unt (.v 3)) (.v 2))) σ h := rfl
def c16_1 : C := .cons c16_0 .nil
@[simp] theorem c16_1_ {Γ : Sys} {σ : MF} {h : MH} : evSs Γ c16_1 σ h = sq (evS Γ c16_0) (evSs Γ .nil) σ h := Ss_cons
def c16_2 : C := (.rais 16 (.cons (.ks ("letters" : Str)) (.cons (.op .mul (.blt .len (.cons (.unt (.v 3)) .nil)) (.v 2)) (.cons (.gv (.int 400)) .nil))))
@[simp] theorem c16_2_ {Γ : Sys} {σ : MF} {h : MH} : evS Γ c16_2 σ h = evS Γ (.rais 16 (.cons (.ks ("letters" : Str)) (.cons (.op .mul (.blt .len (.cons (.unt (.v 3)) .nil)) (.v 2)) (.cons (.gv (.int 400)) .nil)))) σ h := rfl
def c16_3 : C := .cons c16_2 .nil
@[simp] theorem c16_3_ {Γ : Sys} {σ : MF} {h : MH} : evSs Γ c16_3 σ h = sq (evS Γ c16_2) (evSs Γ .nil) σ h := Ss_cons
def c16_4 : C := (.ite (.cm .gt (.op .mul (.blt .len (.cons (.unt (.v 3)) .nil)) (.v 2)) (.gv (.int 400))) c16_3 .nil)
@[simp] theorem c16_4_ {Γ : Sys} {σ : MF} {h : MH} : evS Γ c16_4 σ h = evS Γ (.ite (.cm .gt (.op .mul (.blt .len (.cons (.unt (.v 3)) .nil)) (.v 2)) (.gv (.int 400))) c16_3 .nil) σ h := rfl
def c16_5 : C := .cons c16_4 c16_1
@[simp] theorem c16_5_ {Γ : Sys} {σ : MF} {h : MH} : evSs Γ c16_5 σ h = sq (evS Γ c16_4) (evSs Γ c16_1) σ h := Ss_cons
def c16_6 : C := (.rais 1 (.cons (.ks ("times" : Str)) (.cons (.v 2) .nil)))
@[simp] theorem c16_6_ {Γ : Sys} {σ : MF} {h : MH} : evS Γ c16_6 σ h = evS Γ (.rais 1 (.cons (.ks ("times" : Str)) (.cons (.v 2) .nil))) σ h := rfl
def c16_7 : C := .cons c16_6 .nil
@[simp] theorem c16_7_ {Γ : Sys} {σ : MF} {h : MH} : evSs Γ c16_7 σ h = sq (evS Γ c16_6) (evSs Γ .nil) σ h := Ss_cons
def c16_8 : C := (.ite (.not (.call 3 (.cons (.v 2) (.cons (.ki 0) (.cons (.gv (.int 400)) .nil))))) c16_7 .nil)
@[simp] theorem c16_8_ {Γ : Sys} {σ : MF} {h : MH} : evS Γ c16_8 σ h = evS Γ (.ite (.not (.call 3 (.cons (.v 2) (.cons (.ki 0) (.cons (.gv (.int 400)) .nil))))) c16_7 .nil) σ h := rfl
def c16_9 : C := .cons c16_8 c16_5
@[simp] theorem c16_9_ {Γ : Sys} {σ : MF} {h : MH} : evSs Γ c16_9 σ h = sq (evS Γ c16_8) (evSs Γ c16_5) σ h := Ss_cons
def c16_10 : C := (.set (.tv 3) (.call 7 (.cons (.v 1) (.cons (.v 0) (.cons (.ks ("word" : Str)) .nil)))))
@[simp] theorem c16_10_ {Γ : Sys} {σ : MF} {h : MH} : evS Γ c16_10 σ h = evS Γ (.set (.tv 3) (.call 7 (.cons (.v 1) (.cons (.v 0) (.cons (.ks ("word" : Str)) .nil))))) σ h := rfl
def c16_11 : C := .cons c16_10 c16_9
@[simp] theorem c16_11_ {Γ : Sys} {σ : MF} {h : MH} : evSs Γ c16_11 σ h = sq (evS Γ c16_10) (evSs Γ c16_9) σ h := Ss_cons
def c16_12 : C := (.ex (.call 6 (.cons (.v 0) .nil)))
@[simp] theorem c16_12_ {Γ : Sys} {σ : MF} {h : MH} : evS Γ c16_12 σ h = evS Γ (.ex (.call 6 (.cons (.v 0) .nil))) σ h := rfl
def c16_13 : C := .cons c16_12 c16_11
@[simp] theorem c16_13_ {Γ : Sys} {σ : MF} {h : MH} : evSs Γ c16_13 σ h = sq (evS Γ c16_12) (evSs Γ c16_11) σ h := Ss_cons
/-- power_of -/
def c16 : C := c16_13
def r16 : Mini.Row := ⟨42, ("power_of" : Str), [("letters" : Str), ("word" : Str), ("times" : Str)], [("letters" : Str), ("word" : Str), ("times" : Str), ("told" : Str)], false, c16, false, none⟩
def c17_0 : C := (.ret (.rvs (.unt (.call 7 (.cons (.v 1) (.cons (.v 0) (.cons (.ks ("word" : Str)) .nil)))))))
@[simp] theorem c17_0_ {Γ : Sys} {σ : MF} {h : MH} : evS Γ c17_0 σ h = evS Γ (.ret (.rvs (.unt (.call 7 (.cons (.v 1) (.cons (.v 0) (.cons (.ks ("word" : Str)) .nil))))))) σ h := rfl
def c17_1 : C := .cons c17_0 .nil
@[simp] theorem c17_1_ {Γ : Sys} {σ : MF} {h : MH} : evSs Γ c17_1 σ h = sq (evS Γ c17_0) (evSs Γ .nil) σ h := Ss_cons
def c17_2 : C := (.ex (.call 6 (.cons (.v 0) .nil)))
@[simp] theorem c17_2_ {Γ : Sys} {σ : MF} {h : MH} : evS Γ c17_2 σ h = evS Γ (.ex (.call 6 (.cons (.v 0) .nil))) σ h := rfl
def c17_3 : C := .cons c17_2 c17_1
@[simp] theorem c17_3_ {Γ : Sys} {σ : MF} {h : MH} : evSs Γ c17_3 σ h = sq (evS Γ c17_2) (evSs Γ c17_1) σ h := Ss_cons
/-- turned -/
def c17 : C := c17_3
def r17 : Mini.Row := ⟨43, ("turned" : Str), [("letters" : Str), ("word" : Str)], [("letters" : Str), ("word" : Str)], false, c17, false, none⟩
def c18_0 : C := (.ret (.dct (.cons (.ks ("cells" : Str)) (.cons (.blt .list (.cons (.v 0) .nil)) (.cons (.ks ("at" : Str)) (.cons (.ki 0) (.cons (.ks ("digits" : Str)) (.cons (.ki 0) (.cons (.ks ("count" : Str)) (.cons (.ki 0) (.cons (.ks ("fold" : Str)) (.cons (.v 1) .nil))))))))))))
@[simp] theorem c18_0_ {Γ : Sys} {σ : MF} {h : MH} : evS Γ c18_0 σ h = evS Γ (.ret (.dct (.cons (.ks ("cells" : Str)) (.cons (.blt .list (.cons (.v 0) .nil)) (.cons (.ks ("at" : Str)) (.cons (.ki 0) (.cons (.ks ("digits" : Str)) (.cons (.ki 0) (.cons (.ks ("count" : Str)) (.cons (.ki 0) (.cons (.ks ("fold" : Str)) (.cons (.v 1) .nil)))))))))))) σ h := rfl
def c18_1 : C := .cons c18_0 .nil
@[simp] theorem c18_1_ {Γ : Sys} {σ : MF} {h : MH} : evSs Γ c18_1 σ h = sq (evS Γ c18_0) (evSs Γ .nil) σ h := Ss_cons
def c18_2 : C := (.set (.tv 1) (.op .mod (.blt .int (.cons (.op .add (.op .mul (.v 1) (.ki 47)) (.v 2)) .nil)) (.ki 1000000007)))
@[simp] theorem c18_2_ {Γ : Sys} {σ : MF} {h : MH} : evS Γ c18_2 σ h = evS Γ (.set (.tv 1) (.op .mod (.blt .int (.cons (.op .add (.op .mul (.v 1) (.ki 47)) (.v 2)) .nil)) (.ki 1000000007))) σ h := rfl
def c18_3 : C := .cons c18_2 .nil
@[simp] theorem c18_3_ {Γ : Sys} {σ : MF} {h : MH} : evSs Γ c18_3 σ h = sq (evS Γ c18_2) (evSs Γ .nil) σ h := Ss_cons
def c18_4 : C := (.for_ (.tv 2) (.each (.v 0)) c18_3)
@[simp] theorem c18_4_ {Γ : Sys} {σ : MF} {h : MH} : evS Γ c18_4 σ h = evS Γ (.for_ (.tv 2) (.each (.v 0)) c18_3) σ h := rfl
def c18_5 : C := .cons c18_4 c18_1
@[simp] theorem c18_5_ {Γ : Sys} {σ : MF} {h : MH} : evSs Γ c18_5 σ h = sq (evS Γ c18_4) (evSs Γ c18_1) σ h := Ss_cons
def c18_6 : C := (.set (.tv 1) (.ki 0))
@[simp] theorem c18_6_ {Γ : Sys} {σ : MF} {h : MH} : evS Γ c18_6 σ h = evS Γ (.set (.tv 1) (.ki 0)) σ h := rfl
def c18_7 : C := .cons c18_6 c18_5
@[simp] theorem c18_7_ {Γ : Sys} {σ : MF} {h : MH} : evSs Γ c18_7 σ h = sq (evS Γ c18_6) (evSs Γ c18_5) σ h := Ss_cons
/-- _law_pen -/
def c18 : C := c18_7
def r18 : Mini.Row := ⟨45, ("_law_pen" : Str), [("script" : Str)], [("script" : Str), ("fold" : Str), ("cell" : Str)], false, c18, false, none⟩
def c19_0 : C := (.ret (.op .mod (.blt .int (.cons (.op .fdiv (.v 4) (.ki 64)) .nil)) (.v 1)))
@[simp] theorem c19_0_ {Γ : Sys} {σ : MF} {h : MH} : evS Γ c19_0 σ h = evS Γ (.ret (.op .mod (.blt .int (.cons (.op .fdiv (.v 4) (.ki 64)) .nil)) (.v 1))) σ h := rfl
def c19_1 : C := .cons c19_0 .nil
@[simp] theorem c19_1_ {Γ : Sys} {σ : MF} {h : MH} : evSs Γ c19_1 σ h = sq (evS Γ c19_0) (evSs Γ .nil) σ h := Ss_cons
def c19_2 : C := (.set (.tix (.v 0) (.ks ("fold" : Str))) (.op .mod (.blt .int (.cons (.op .add (.op .mul (.v 4) (.ki 16807)) (.ki 7)) .nil)) (.ki 2147483647)))
@[simp] theorem c19_2_ {Γ : Sys} {σ : MF} {h : MH} : evS Γ c19_2 σ h = evS Γ (.set (.tix (.v 0) (.ks ("fold" : Str))) (.op .mod (.blt .int (.cons (.op .add (.op .mul (.v 4) (.ki 16807)) (.ki 7)) .nil)) (.ki 2147483647))) σ h := rfl
def c19_3 : C := .cons c19_2 c19_1
@[simp] theorem c19_3_ {Γ : Sys} {σ : MF} {h : MH} : evSs Γ c19_3 σ h = sq (evS Γ c19_2) (evSs Γ c19_1) σ h := Ss_cons
def c19_4 : C := (.set (.tv 4) (.op .mod (.blt .int (.cons (.op .add (.op .add (.op .mul (.v 4) (.v 4)) (.op .mul (.ki 31) (.v 4))) (.ix (.v 0) (.ks ("count" : Str)))) .nil)) (.ki 2147483629)))
@[simp] theorem c19_4_ {Γ : Sys} {σ : MF} {h : MH} : evS Γ c19_4 σ h = evS Γ (.set (.tv 4) (.op .mod (.blt .int (.cons (.op .add (.op .add (.op .mul (.v 4) (.v 4)) (.op .mul (.ki 31) (.v 4))) (.ix (.v 0) (.ks ("count" : Str)))) .nil)) (.ki 2147483629))) σ h := rfl
def c19_5 : C := .cons c19_4 c19_3
@[simp] theorem c19_5_ {Γ : Sys} {σ : MF} {h : MH} : evSs Γ c19_5 σ h = sq (evS Γ c19_4) (evSs Γ c19_3) σ h := Ss_cons
def c19_6 : C := (.set (.tv 4) (.op .mod (.blt .int (.cons (.op .add (.op .add (.op .mul (.ix (.v 0) (.ks ("fold" : Str))) (.ki 48271)) (.op .mul (.ix (.v 0) (.ks ("count" : Str))) (.ki 7919))) (.ki 13)) .nil)) (.ki 2147483647)))
@[simp] theorem c19_6_ {Γ : Sys} {σ : MF} {h : MH} : evS Γ c19_6 σ h = evS Γ (.set (.tv 4) (.op .mod (.blt .int (.cons (.op .add (.op .add (.op .mul (.ix (.v 0) (.ks ("fold" : Str))) (.ki 48271)) (.op .mul (.ix (.v 0) (.ks ("count" : Str))) (.ki 7919))) (.ki 13)) .nil)) (.ki 2147483647))) σ h := rfl
def c19_7 : C := .cons c19_6 c19_5
@[simp] theorem c19_7_ {Γ : Sys} {σ : MF} {h : MH} : evSs Γ c19_7 σ h = sq (evS Γ c19_6) (evSs Γ c19_5) σ h := Ss_cons
def c19_8 : C := (.ret (.v 3))
@[simp] theorem c19_8_ {Γ : Sys} {σ : MF} {h : MH} : evS Γ c19_8 σ h = evS Γ (.ret (.v 3)) σ h := rfl
def c19_9 : C := .cons c19_8 .nil
@[simp] theorem c19_9_ {Γ : Sys} {σ : MF} {h : MH} : evSs Γ c19_9 σ h = sq (evS Γ c19_8) (evSs Γ .nil) σ h := Ss_cons
def c19_10 : C := (.set (.tix (.v 0) (.ks ("digits" : Str))) (.op .fdiv (.ix (.v 0) (.ks ("digits" : Str))) (.v 1)))
@[simp] theorem c19_10_ {Γ : Sys} {σ : MF} {h : MH} : evS Γ c19_10 σ h = evS Γ (.set (.tix (.v 0) (.ks ("digits" : Str))) (.op .fdiv (.ix (.v 0) (.ks ("digits" : Str))) (.v 1))) σ h := rfl
def c19_11 : C := .cons c19_10 c19_9
@[simp] theorem c19_11_ {Γ : Sys} {σ : MF} {h : MH} : evSs Γ c19_11 σ h = sq (evS Γ c19_10) (evSs Γ c19_9) σ h := Ss_cons
def c19_12 : C := (.set (.tv 3) (.op .mod (.blt .int (.cons (.ix (.v 0) (.ks ("digits" : Str))) .nil)) (.v 1)))
@[simp] theorem c19_12_ {Γ : Sys} {σ : MF} {h : MH} : evS Γ c19_12 σ h = evS Γ (.set (.tv 3) (.op .mod (.blt .int (.cons (.ix (.v 0) (.ks ("digits" : Str))) .nil)) (.v 1))) σ h := rfl
def c19_13 : C := .cons c19_12 c19_11
@[simp] theorem c19_13_ {Γ : Sys} {σ : MF} {h : MH} : evSs Γ c19_13 σ h = sq (evS Γ c19_12) (evSs Γ c19_11) σ h := Ss_cons
def c19_14 : C := (.ite (.cm .gt (.ix (.v 0) (.ks ("digits" : Str))) (.ki 0)) c19_13 .nil)
@[simp] theorem c19_14_ {Γ : Sys} {σ : MF} {h : MH} : evS Γ c19_14 σ h = evS Γ (.ite (.cm .gt (.ix (.v 0) (.ks ("digits" : Str))) (.ki 0)) c19_13 .nil) σ h := rfl
def c19_15 : C := .cons c19_14 c19_7
@[simp] theorem c19_15_ {Γ : Sys} {σ : MF} {h : MH} : evSs Γ c19_15 σ h = sq (evS Γ c19_14) (evSs Γ c19_7) σ h := Ss_cons
def c19_16 : C := (.set (.tix (.v 0) (.ks ("digits" : Str))) (.op .sub (.v 2) (.op .pow (.ki 10) (.ki 18))))
@[simp] theorem c19_16_ {Γ : Sys} {σ : MF} {h : MH} : evS Γ c19_16 σ h = evS Γ (.set (.tix (.v 0) (.ks ("digits" : Str))) (.op .sub (.v 2) (.op .pow (.ki 10) (.ki 18)))) σ h := rfl
def c19_17 : C := .cons c19_16 .nil
@[simp] theorem c19_17_ {Γ : Sys} {σ : MF} {h : MH} : evSs Γ c19_17 σ h = sq (evS Γ c19_16) (evSs Γ .nil) σ h := Ss_cons
def c19_18 : C := (.set (.tix (.v 0) (.ks ("fold" : Str))) (.op .mod (.blt .int (.cons (.op .add (.op .mul (.ix (.v 0) (.ks ("fold" : Str))) (.ki 69069)) (.v 2)) .nil)) (.ki 2147483587)))
@[simp] theorem c19_18_ {Γ : Sys} {σ : MF} {h : MH} : evS Γ c19_18 σ h = evS Γ (.set (.tix (.v 0) (.ks ("fold" : Str))) (.op .mod (.blt .int (.cons (.op .add (.op .mul (.ix (.v 0) (.ks ("fold" : Str))) (.ki 69069)) (.v 2)) .nil)) (.ki 2147483587))) σ h := rfl
def c19_19 : C := .cons c19_18 .nil
@[simp] theorem c19_19_ {Γ : Sys} {σ : MF} {h : MH} : evSs Γ c19_19 σ h = sq (evS Γ c19_18) (evSs Γ .nil) σ h := Ss_cons
def c19_20 : C := (.ite (.cm .ge (.v 2) (.op .pow (.ki 10) (.ki 18))) c19_17 c19_19)
@[simp] theorem c19_20_ {Γ : Sys} {σ : MF} {h : MH} : evS Γ c19_20 σ h = evS Γ (.ite (.cm .ge (.v 2) (.op .pow (.ki 10) (.ki 18))) c19_17 c19_19) σ h := rfl
def c19_21 : C := .cons c19_20 .nil
@[simp] theorem c19_21_ {Γ : Sys} {σ : MF} {h : MH} : evSs Γ c19_21 σ h = sq (evS Γ c19_20) (evSs Γ .nil) σ h := Ss_cons
def c19_22 : C := (.set (.tix (.v 0) (.ks ("at" : Str))) (.op .add (.ix (.v 0) (.ks ("at" : Str))) (.ki 1)))
@[simp] theorem c19_22_ {Γ : Sys} {σ : MF} {h : MH} : evS Γ c19_22 σ h = evS Γ (.set (.tix (.v 0) (.ks ("at" : Str))) (.op .add (.ix (.v 0) (.ks ("at" : Str))) (.ki 1))) σ h := rfl
def c19_23 : C := .cons c19_22 c19_21
@[simp] theorem c19_23_ {Γ : Sys} {σ : MF} {h : MH} : evSs Γ c19_23 σ h = sq (evS Γ c19_22) (evSs Γ c19_21) σ h := Ss_cons
def c19_24 : C := (.set (.tv 2) (.ix (.ix (.v 0) (.ks ("cells" : Str))) (.ix (.v 0) (.ks ("at" : Str)))))
@[simp] theorem c19_24_ {Γ : Sys} {σ : MF} {h : MH} : evS Γ c19_24 σ h = evS Γ (.set (.tv 2) (.ix (.ix (.v 0) (.ks ("cells" : Str))) (.ix (.v 0) (.ks ("at" : Str))))) σ h := rfl
def c19_25 : C := .cons c19_24 c19_23
@[simp] theorem c19_25_ {Γ : Sys} {σ : MF} {h : MH} : evSs Γ c19_25 σ h = sq (evS Γ c19_24) (evSs Γ c19_23) σ h := Ss_cons
def c19_26 : C := (.ite (.and (.cm .eq (.ix (.v 0) (.ks ("digits" : Str))) (.ki 0)) (.cm .lt (.ix (.v 0) (.ks ("at" : Str))) (.blt .len (.cons (.ix (.v 0) (.ks ("cells" : Str))) .nil)))) c19_25 .nil)
@[simp] theorem c19_26_ {Γ : Sys} {σ : MF} {h : MH} : evS Γ c19_26 σ h = evS Γ (.ite (.and (.cm .eq (.ix (.v 0) (.ks ("digits" : Str))) (.ki 0)) (.cm .lt (.ix (.v 0) (.ks ("at" : Str))) (.blt .len (.cons (.ix (.v 0) (.ks ("cells" : Str))) .nil)))) c19_25 .nil) σ h := rfl
def c19_27 : C := .cons c19_26 c19_15
@[simp] theorem c19_27_ {Γ : Sys} {σ : MF} {h : MH} : evSs Γ c19_27 σ h = sq (evS Γ c19_26) (evSs Γ c19_15) σ h := Ss_cons
def c19_28 : C := (.set (.tix (.v 0) (.ks ("count" : Str))) (.op .add (.ix (.v 0) (.ks ("count" : Str))) (.ki 1)))
@[simp] theorem c19_28_ {Γ : Sys} {σ : MF} {h : MH} : evS Γ c19_28 σ h = evS Γ (.set (.tix (.v 0) (.ks ("count" : Str))) (.op .add (.ix (.v 0) (.ks ("count" : Str))) (.ki 1))) σ h := rfl
def c19_29 : C := .cons c19_28 c19_27
@[simp] theorem c19_29_ {Γ : Sys} {σ : MF} {h : MH} : evSs Γ c19_29 σ h = sq (evS Γ c19_28) (evSs Γ c19_27) σ h := Ss_cons
/-- _law_draw -/
def c19 : C := c19_29
def r19 : Mini.Row := ⟨46, ("_law_draw" : Str), [("pen" : Str), ("many" : Str)], [("pen" : Str), ("many" : Str), ("cell" : Str), ("digit" : Str), ("blend" : Str)], false, c19, false, none⟩
def c20_0 : C := (.ret (.ix (.v 1) (.call 19 (.cons (.v 0) (.cons (.blt .len (.cons (.v 1) .nil)) .nil)))))
@[simp] theorem c20_0_ {Γ : Sys} {σ : MF} {h : MH} : evS Γ c20_0 σ h = evS Γ (.ret (.ix (.v 1) (.call 19 (.cons (.v 0) (.cons (.blt .len (.cons (.v 1) .nil)) .nil))))) σ h := rfl
def c20_1 : C := .cons c20_0 .nil
@[simp] theorem c20_1_ {Γ : Sys} {σ : MF} {h : MH} : evSs Γ c20_1 σ h = sq (evS Γ c20_0) (evSs Γ .nil) σ h := Ss_cons
/-- _law_pick -/
def c20 : C := c20_1
def r20 : Mini.Row := ⟨47, ("_law_pick" : Str), [("pen" : Str), ("some" : Str)], [("pen" : Str), ("some" : Str)], false, c20, false, none⟩
def c21_0 : C := (.ret (.and (.blt .isinstance (.cons (.v 0) (.cons (.gv (.ty "int")) .nil))) (.and (.not (.blt .isinstance (.cons (.v 0) (.cons (.gv (.ty "bool")) .nil)))) (.cm .eq (.v 0) (.v 1)))))
@[simp] theorem c21_0_ {Γ : Sys} {σ : MF} {h : MH} : evS Γ c21_0 σ h = evS Γ (.ret (.and (.blt .isinstance (.cons (.v 0) (.cons (.gv (.ty "int")) .nil))) (.and (.not (.blt .isinstance (.cons (.v 0) (.cons (.gv (.ty "bool")) .nil)))) (.cm .eq (.v 0) (.v 1))))) σ h := rfl
def c21_1 : C := .cons c21_0 .nil
@[simp] theorem c21_1_ {Γ : Sys} {σ : MF} {h : MH} : evSs Γ c21_1 σ h = sq (evS Γ c21_0) (evSs Γ .nil) σ h := Ss_cons
def c21_2 : C := (.ret (.and (.blt .isinstance (.cons (.v 0) (.cons (.gv (.ty "str")) .nil))) (.cm .eq (.v 0) (.v 1))))
@[simp] theorem c21_2_ {Γ : Sys} {σ : MF} {h : MH} : evS Γ c21_2 σ h = evS Γ (.ret (.and (.blt .isinstance (.cons (.v 0) (.cons (.gv (.ty "str")) .nil))) (.cm .eq (.v 0) (.v 1)))) σ h := rfl
def c21_3 : C := .cons c21_2 .nil
@[simp] theorem c21_3_ {Γ : Sys} {σ : MF} {h : MH} : evSs Γ c21_3 σ h = sq (evS Γ c21_2) (evSs Γ .nil) σ h := Ss_cons
def c21_4 : C := (.ite (.blt .isinstance (.cons (.v 1) (.cons (.gv (.ty "str")) .nil))) c21_3 .nil)
@[simp] theorem c21_4_ {Γ : Sys} {σ : MF} {h : MH} : evS Γ c21_4 σ h = evS Γ (.ite (.blt .isinstance (.cons (.v 1) (.cons (.gv (.ty "str")) .nil))) c21_3 .nil) σ h := rfl
def c21_5 : C := .cons c21_4 c21_1
@[simp] theorem c21_5_ {Γ : Sys} {σ : MF} {h : MH} : evSs Γ c21_5 σ h = sq (evS Γ c21_4) (evSs Γ c21_1) σ h := Ss_cons
def c21_6 : C := (.ret (.cm .is (.v 0) (.kb false)))
@[simp] theorem c21_6_ {Γ : Sys} {σ : MF} {h : MH} : evS Γ c21_6 σ h = evS Γ (.ret (.cm .is (.v 0) (.kb false))) σ h := rfl
def c21_7 : C := .cons c21_6 .nil
@[simp] theorem c21_7_ {Γ : Sys} {σ : MF} {h : MH} : evSs Γ c21_7 σ h = sq (evS Γ c21_6) (evSs Γ .nil) σ h := Ss_cons
def c21_8 : C := (.ite (.cm .is (.v 1) (.kb false)) c21_7 .nil)
@[simp] theorem c21_8_ {Γ : Sys} {σ : MF} {h : MH} : evS Γ c21_8 σ h = evS Γ (.ite (.cm .is (.v 1) (.kb false)) c21_7 .nil) σ h := rfl
def c21_9 : C := .cons c21_8 c21_5
@[simp] theorem c21_9_ {Γ : Sys} {σ : MF} {h : MH} : evSs Γ c21_9 σ h = sq (evS Γ c21_8) (evSs Γ c21_5) σ h := Ss_cons
def c21_10 : C := (.ret (.cm .is (.v 0) (.kb true)))
@[simp] theorem c21_10_ {Γ : Sys} {σ : MF} {h : MH} : evS Γ c21_10 σ h = evS Γ (.ret (.cm .is (.v 0) (.kb true))) σ h := rfl
def c21_11 : C := .cons c21_10 .nil
@[simp] theorem c21_11_ {Γ : Sys} {σ : MF} {h : MH} : evSs Γ c21_11 σ h = sq (evS Γ c21_10) (evSs Γ .nil) σ h := Ss_cons
def c21_12 : C := (.ite (.cm .is (.v 1) (.kb true)) c21_11 .nil)
@[simp] theorem c21_12_ {Γ : Sys} {σ : MF} {h : MH} : evS Γ c21_12 σ h = evS Γ (.ite (.cm .is (.v 1) (.kb true)) c21_11 .nil) σ h := rfl
def c21_13 : C := .cons c21_12 c21_9
@[simp] theorem c21_13_ {Γ : Sys} {σ : MF} {h : MH} : evSs Γ c21_13 σ h = sq (evS Γ c21_12) (evSs Γ c21_9) σ h := Ss_cons
def c21_14 : C := (.ret (.cm .is (.v 0) .kn))
@[simp] theorem c21_14_ {Γ : Sys} {σ : MF} {h : MH} : evS Γ c21_14 σ h = evS Γ (.ret (.cm .is (.v 0) .kn)) σ h := rfl
def c21_15 : C := .cons c21_14 .nil
@[simp] theorem c21_15_ {Γ : Sys} {σ : MF} {h : MH} : evSs Γ c21_15 σ h = sq (evS Γ c21_14) (evSs Γ .nil) σ h := Ss_cons
def c21_16 : C := (.ite (.cm .is (.v 1) .kn) c21_15 .nil)
@[simp] theorem c21_16_ {Γ : Sys} {σ : MF} {h : MH} : evS Γ c21_16 σ h = evS Γ (.ite (.cm .is (.v 1) .kn) c21_15 .nil) σ h := rfl
def c21_17 : C := .cons c21_16 c21_13
@[simp] theorem c21_17_ {Γ : Sys} {σ : MF} {h : MH} : evSs Γ c21_17 σ h = sq (evS Γ c21_16) (evSs Γ c21_13) σ h := Ss_cons
def c21_l0 : C := (.lc [2] (.v 2) (.tv 2) (.rng1 (.blt .len (.cons (.v 1) .nil))) (.not (.call 21 (.cons (.ix (.v 0) (.v 2)) (.cons (.ix (.v 1) (.v 2)) .nil)))))
def c21_18 : C := (.ret (.cm .eq c21_l0 (.lst .nil)))
@[simp] theorem c21_18_ {Γ : Sys} {σ : MF} {h : MH} : evS Γ c21_18 σ h = evS Γ (.ret (.cm .eq c21_l0 (.lst .nil))) σ h := rfl
def c21_19 : C := .cons c21_18 .nil
@[simp] theorem c21_19_ {Γ : Sys} {σ : MF} {h : MH} : evSs Γ c21_19 σ h = sq (evS Γ c21_18) (evSs Γ .nil) σ h := Ss_cons
def c21_20 : C := (.ret (.kb false))
@[simp] theorem c21_20_ {Γ : Sys} {σ : MF} {h : MH} : evS Γ c21_20 σ h = evS Γ (.ret (.kb false)) σ h := rfl
def c21_21 : C := .cons c21_20 .nil
@[simp] theorem c21_21_ {Γ : Sys} {σ : MF} {h : MH} : evSs Γ c21_21 σ h = sq (evS Γ c21_20) (evSs Γ .nil) σ h := Ss_cons
def c21_22 : C := (.ite (.or (.not (.blt .isinstance (.cons (.v 0) (.cons (.gv (.ty "tuple")) .nil)))) (.cm .ne (.blt .len (.cons (.v 0) .nil)) (.blt .len (.cons (.v 1) .nil)))) c21_21 .nil)
@[simp] theorem c21_22_ {Γ : Sys} {σ : MF} {h : MH} : evS Γ c21_22 σ h = evS Γ (.ite (.or (.not (.blt .isinstance (.cons (.v 0) (.cons (.gv (.ty "tuple")) .nil)))) (.cm .ne (.blt .len (.cons (.v 0) .nil)) (.blt .len (.cons (.v 1) .nil)))) c21_21 .nil) σ h := rfl
def c21_23 : C := .cons c21_22 c21_19
@[simp] theorem c21_23_ {Γ : Sys} {σ : MF} {h : MH} : evSs Γ c21_23 σ h = sq (evS Γ c21_22) (evSs Γ c21_19) σ h := Ss_cons
def c21_24 : C := (.ite (.blt .isinstance (.cons (.v 1) (.cons (.gv (.ty "tuple")) .nil))) c21_23 .nil)
@[simp] theorem c21_24_ {Γ : Sys} {σ : MF} {h : MH} : evS Γ c21_24 σ h = evS Γ (.ite (.blt .isinstance (.cons (.v 1) (.cons (.gv (.ty "tuple")) .nil))) c21_23 .nil) σ h := rfl
def c21_25 : C := .cons c21_24 c21_17
@[simp] theorem c21_25_ {Γ : Sys} {σ : MF} {h : MH} : evSs Γ c21_25 σ h = sq (evS Γ c21_24) (evSs Γ c21_17) σ h := Ss_cons
/-- _law_is -/
def c21 : C := c21_25
def r21 : Mini.Row := ⟨48, ("_law_is" : Str), [("told" : Str), ("due" : Str)], [("told" : Str), ("due" : Str), ("at" : Str)], false, c21, false, none⟩
def c22_0 : C := (.set (.tv 1) (.ifx (.and (.cm .eq (.blt .len (.cons (.v 1) .nil)) (.ki 1)) (.blt .isinstance (.cons (.v 2) (.cons (.gv (.ty "ValueError")) .nil)))) (.ix (.v 1) (.ki 0)) (.tup (.cons (.ks ("several" : Str)) (.cons (.blt .len (.cons (.v 1) .nil)) .nil)))))
@[simp] theorem c22_0_ {Γ : Sys} {σ : MF} {h : MH} : evS Γ c22_0 σ h = evS Γ (.set (.tv 1) (.ifx (.and (.cm .eq (.blt .len (.cons (.v 1) .nil)) (.ki 1)) (.blt .isinstance (.cons (.v 2) (.cons (.gv (.ty "ValueError")) .nil)))) (.ix (.v 1) (.ki 0)) (.tup (.cons (.ks ("several" : Str)) (.cons (.blt .len (.cons (.v 1) .nil)) .nil))))) σ h := rfl
def c22_1 : C := .cons c22_0 .nil
@[simp] theorem c22_1_ {Γ : Sys} {σ : MF} {h : MH} : evSs Γ c22_1 σ h = sq (evS Γ c22_0) (evSs Γ .nil) σ h := Ss_cons
def c22_2 : C := (.set (.tv 1) (.call 23 (.cons (.v 2) .nil)))
@[simp] theorem c22_2_ {Γ : Sys} {σ : MF} {h : MH} : evS Γ c22_2 σ h = evS Γ (.set (.tv 1) (.call 23 (.cons (.v 2) .nil))) σ h := rfl
def c22_3 : C := .cons c22_2 c22_1
@[simp] theorem c22_3_ {Γ : Sys} {σ : MF} {h : MH} : evSs Γ c22_3 σ h = sq (evS Γ c22_2) (evSs Γ c22_1) σ h := Ss_cons
/-- _law_fault -/
def c22 : C := c22_3
def r22 : Mini.Row := ⟨49, ("_law_fault" : Str), [("call" : Str)], [("call" : Str), ("found" : Str), ("e" : Str)], false, c22, false, some 0⟩
def c23_0 : C := (.ret (.op .add (.v 1) (.call 24 (.cons (.v 0) .nil))))
@[simp] theorem c23_0_ {Γ : Sys} {σ : MF} {h : MH} : evS Γ c23_0 σ h = evS Γ (.ret (.op .add (.v 1) (.call 24 (.cons (.v 0) .nil)))) σ h := rfl
def c23_1 : C := .cons c23_0 .nil
@[simp] theorem c23_1_ {Γ : Sys} {σ : MF} {h : MH} : evSs Γ c23_1 σ h = sq (evS Γ c23_0) (evSs Γ .nil) σ h := Ss_cons
def c23_2 : C := (.ex (.mth .append (.v 1) (.cons (.tup (.cons (.ks ("text" : Str)) (.cons (.fld (.v 0) ("line" : Str)) (.cons (.fld (.v 0) ("token" : Str)) .nil)))) .nil)))
@[simp] theorem c23_2_ {Γ : Sys} {σ : MF} {h : MH} : evS Γ c23_2 σ h = evS Γ (.ex (.mth .append (.v 1) (.cons (.tup (.cons (.ks ("text" : Str)) (.cons (.fld (.v 0) ("line" : Str)) (.cons (.fld (.v 0) ("token" : Str)) .nil)))) .nil))) σ h := rfl
def c23_3 : C := .cons c23_2 .nil
@[simp] theorem c23_3_ {Γ : Sys} {σ : MF} {h : MH} : evSs Γ c23_3 σ h = sq (evS Γ c23_2) (evSs Γ .nil) σ h := Ss_cons
def c23_4 : C := (.ite (.blt .isinstance (.cons (.v 0) (.cons (.gv (.cls 10)) .nil))) c23_3 .nil)
@[simp] theorem c23_4_ {Γ : Sys} {σ : MF} {h : MH} : evS Γ c23_4 σ h = evS Γ (.ite (.blt .isinstance (.cons (.v 0) (.cons (.gv (.cls 10)) .nil))) c23_3 .nil) σ h := rfl
def c23_5 : C := .cons c23_4 c23_1
@[simp] theorem c23_5_ {Γ : Sys} {σ : MF} {h : MH} : evSs Γ c23_5 σ h = sq (evS Γ c23_4) (evSs Γ c23_1) σ h := Ss_cons
def c23_6 : C := (.ex (.mth .append (.v 1) (.cons (.tup (.cons (.ks ("badname" : Str)) (.cons (.blt .repr (.cons (.fld (.v 0) ("name" : Str)) .nil)) .nil))) .nil)))
@[simp] theorem c23_6_ {Γ : Sys} {σ : MF} {h : MH} : evS Γ c23_6 σ h = evS Γ (.ex (.mth .append (.v 1) (.cons (.tup (.cons (.ks ("badname" : Str)) (.cons (.blt .repr (.cons (.fld (.v 0) ("name" : Str)) .nil)) .nil))) .nil))) σ h := rfl
def c23_7 : C := .cons c23_6 .nil
@[simp] theorem c23_7_ {Γ : Sys} {σ : MF} {h : MH} : evSs Γ c23_7 σ h = sq (evS Γ c23_6) (evSs Γ .nil) σ h := Ss_cons
def c23_8 : C := (.ite (.blt .isinstance (.cons (.v 0) (.cons (.gv (.cls 9)) .nil))) c23_7 .nil)
@[simp] theorem c23_8_ {Γ : Sys} {σ : MF} {h : MH} : evS Γ c23_8 σ h = evS Γ (.ite (.blt .isinstance (.cons (.v 0) (.cons (.gv (.cls 9)) .nil))) c23_7 .nil) σ h := rfl
def c23_9 : C := .cons c23_8 c23_5
@[simp] theorem c23_9_ {Γ : Sys} {σ : MF} {h : MH} : evSs Γ c23_9 σ h = sq (evS Γ c23_8) (evSs Γ c23_5) σ h := Ss_cons
def c23_10 : C := (.ex (.mth .append (.v 1) (.cons (.tup (.cons (.ks ("book" : Str)) (.cons (.fld (.v 0) ("what" : Str)) .nil))) .nil)))
@[simp] theorem c23_10_ {Γ : Sys} {σ : MF} {h : MH} : evS Γ c23_10 σ h = evS Γ (.ex (.mth .append (.v 1) (.cons (.tup (.cons (.ks ("book" : Str)) (.cons (.fld (.v 0) ("what" : Str)) .nil))) .nil))) σ h := rfl
def c23_11 : C := .cons c23_10 .nil
@[simp] theorem c23_11_ {Γ : Sys} {σ : MF} {h : MH} : evSs Γ c23_11 σ h = sq (evS Γ c23_10) (evSs Γ .nil) σ h := Ss_cons
def c23_12 : C := (.ite (.blt .isinstance (.cons (.v 0) (.cons (.gv (.cls 8)) .nil))) c23_11 .nil)
@[simp] theorem c23_12_ {Γ : Sys} {σ : MF} {h : MH} : evS Γ c23_12 σ h = evS Γ (.ite (.blt .isinstance (.cons (.v 0) (.cons (.gv (.cls 8)) .nil))) c23_11 .nil) σ h := rfl
def c23_13 : C := .cons c23_12 c23_9
@[simp] theorem c23_13_ {Γ : Sys} {σ : MF} {h : MH} : evSs Γ c23_13 σ h = sq (evS Γ c23_12) (evSs Γ c23_9) σ h := Ss_cons
def c23_14 : C := (.ex (.mth .append (.v 1) (.cons (.tup (.cons (.ks ("kind" : Str)) (.cons (.blt .repr (.cons (.fld (.v 0) ("kind" : Str)) .nil)) .nil))) .nil)))
@[simp] theorem c23_14_ {Γ : Sys} {σ : MF} {h : MH} : evS Γ c23_14 σ h = evS Γ (.ex (.mth .append (.v 1) (.cons (.tup (.cons (.ks ("kind" : Str)) (.cons (.blt .repr (.cons (.fld (.v 0) ("kind" : Str)) .nil)) .nil))) .nil))) σ h := rfl
def c23_15 : C := .cons c23_14 .nil
@[simp] theorem c23_15_ {Γ : Sys} {σ : MF} {h : MH} : evSs Γ c23_15 σ h = sq (evS Γ c23_14) (evSs Γ .nil) σ h := Ss_cons
def c23_16 : C := (.ite (.blt .isinstance (.cons (.v 0) (.cons (.gv (.cls 7)) .nil))) c23_15 .nil)
@[simp] theorem c23_16_ {Γ : Sys} {σ : MF} {h : MH} : evS Γ c23_16 σ h = evS Γ (.ite (.blt .isinstance (.cons (.v 0) (.cons (.gv (.cls 7)) .nil))) c23_15 .nil) σ h := rfl
def c23_17 : C := .cons c23_16 c23_13
@[simp] theorem c23_17_ {Γ : Sys} {σ : MF} {h : MH} : evSs Γ c23_17 σ h = sq (evS Γ c23_16) (evSs Γ c23_13) σ h := Ss_cons
def c23_18 : C := (.ex (.mth .append (.v 1) (.cons (.tup (.cons (.ks ("table" : Str)) (.cons (.fld (.v 0) ("what" : Str)) .nil))) .nil)))
@[simp] theorem c23_18_ {Γ : Sys} {σ : MF} {h : MH} : evS Γ c23_18 σ h = evS Γ (.ex (.mth .append (.v 1) (.cons (.tup (.cons (.ks ("table" : Str)) (.cons (.fld (.v 0) ("what" : Str)) .nil))) .nil))) σ h := rfl
def c23_19 : C := .cons c23_18 .nil
@[simp] theorem c23_19_ {Γ : Sys} {σ : MF} {h : MH} : evSs Γ c23_19 σ h = sq (evS Γ c23_18) (evSs Γ .nil) σ h := Ss_cons
def c23_20 : C := (.ite (.blt .isinstance (.cons (.v 0) (.cons (.gv (.cls 6)) .nil))) c23_19 .nil)
@[simp] theorem c23_20_ {Γ : Sys} {σ : MF} {h : MH} : evS Γ c23_20 σ h = evS Γ (.ite (.blt .isinstance (.cons (.v 0) (.cons (.gv (.cls 6)) .nil))) c23_19 .nil) σ h := rfl
def c23_21 : C := .cons c23_20 c23_17
@[simp] theorem c23_21_ {Γ : Sys} {σ : MF} {h : MH} : evSs Γ c23_21 σ h = sq (evS Γ c23_20) (evSs Γ c23_17) σ h := Ss_cons
def c23_22 : C := (.ex (.mth .append (.v 1) (.cons (.tup (.cons (.ks ("machine" : Str)) (.cons (.fld (.v 0) ("what" : Str)) .nil))) .nil)))
@[simp] theorem c23_22_ {Γ : Sys} {σ : MF} {h : MH} : evS Γ c23_22 σ h = evS Γ (.ex (.mth .append (.v 1) (.cons (.tup (.cons (.ks ("machine" : Str)) (.cons (.fld (.v 0) ("what" : Str)) .nil))) .nil))) σ h := rfl
def c23_23 : C := .cons c23_22 .nil
@[simp] theorem c23_23_ {Γ : Sys} {σ : MF} {h : MH} : evSs Γ c23_23 σ h = sq (evS Γ c23_22) (evSs Γ .nil) σ h := Ss_cons
def c23_24 : C := (.ite (.blt .isinstance (.cons (.v 0) (.cons (.gv (.cls 5)) .nil))) c23_23 .nil)
@[simp] theorem c23_24_ {Γ : Sys} {σ : MF} {h : MH} : evS Γ c23_24 σ h = evS Γ (.ite (.blt .isinstance (.cons (.v 0) (.cons (.gv (.cls 5)) .nil))) c23_23 .nil) σ h := rfl
def c23_25 : C := .cons c23_24 c23_21
@[simp] theorem c23_25_ {Γ : Sys} {σ : MF} {h : MH} : evSs Γ c23_25 σ h = sq (evS Γ c23_24) (evSs Γ c23_21) σ h := Ss_cons
def c23_26 : C := (.ex (.mth .append (.v 1) (.cons (.tup (.cons (.ks ("pattern" : Str)) (.cons (.fld (.v 0) ("what" : Str)) .nil))) .nil)))
@[simp] theorem c23_26_ {Γ : Sys} {σ : MF} {h : MH} : evS Γ c23_26 σ h = evS Γ (.ex (.mth .append (.v 1) (.cons (.tup (.cons (.ks ("pattern" : Str)) (.cons (.fld (.v 0) ("what" : Str)) .nil))) .nil))) σ h := rfl
def c23_27 : C := .cons c23_26 .nil
@[simp] theorem c23_27_ {Γ : Sys} {σ : MF} {h : MH} : evSs Γ c23_27 σ h = sq (evS Γ c23_26) (evSs Γ .nil) σ h := Ss_cons
def c23_28 : C := (.ite (.blt .isinstance (.cons (.v 0) (.cons (.gv (.cls 4)) .nil))) c23_27 .nil)
@[simp] theorem c23_28_ {Γ : Sys} {σ : MF} {h : MH} : evS Γ c23_28 σ h = evS Γ (.ite (.blt .isinstance (.cons (.v 0) (.cons (.gv (.cls 4)) .nil))) c23_27 .nil) σ h := rfl
def c23_29 : C := .cons c23_28 c23_25
@[simp] theorem c23_29_ {Γ : Sys} {σ : MF} {h : MH} : evSs Γ c23_29 σ h = sq (evS Γ c23_28) (evSs Γ c23_25) σ h := Ss_cons
def c23_30 : C := (.ex (.mth .append (.v 1) (.cons (.tup (.cons (.ks ("word" : Str)) (.cons (.fld (.v 0) ("what" : Str)) (.cons (.blt .repr (.cons (.fld (.v 0) ("word" : Str)) .nil)) .nil)))) .nil)))
@[simp] theorem c23_30_ {Γ : Sys} {σ : MF} {h : MH} : evS Γ c23_30 σ h = evS Γ (.ex (.mth .append (.v 1) (.cons (.tup (.cons (.ks ("word" : Str)) (.cons (.fld (.v 0) ("what" : Str)) (.cons (.blt .repr (.cons (.fld (.v 0) ("word" : Str)) .nil)) .nil)))) .nil))) σ h := rfl
def c23_31 : C := .cons c23_30 .nil
@[simp] theorem c23_31_ {Γ : Sys} {σ : MF} {h : MH} : evSs Γ c23_31 σ h = sq (evS Γ c23_30) (evSs Γ .nil) σ h := Ss_cons
def c23_32 : C := (.ite (.blt .isinstance (.cons (.v 0) (.cons (.gv (.cls 3)) .nil))) c23_31 .nil)
@[simp] theorem c23_32_ {Γ : Sys} {σ : MF} {h : MH} : evS Γ c23_32 σ h = evS Γ (.ite (.blt .isinstance (.cons (.v 0) (.cons (.gv (.cls 3)) .nil))) c23_31 .nil) σ h := rfl
def c23_33 : C := .cons c23_32 c23_29
@[simp] theorem c23_33_ {Γ : Sys} {σ : MF} {h : MH} : evSs Γ c23_33 σ h = sq (evS Γ c23_32) (evSs Γ c23_29) σ h := Ss_cons
def c23_34 : C := (.ex (.mth .append (.v 1) (.cons (.tup (.cons (.ks ("row" : Str)) (.cons (.fld (.v 0) ("what" : Str)) (.cons (.blt .repr (.cons (.fld (.v 0) ("row" : Str)) .nil)) .nil)))) .nil)))
@[simp] theorem c23_34_ {Γ : Sys} {σ : MF} {h : MH} : evS Γ c23_34 σ h = evS Γ (.ex (.mth .append (.v 1) (.cons (.tup (.cons (.ks ("row" : Str)) (.cons (.fld (.v 0) ("what" : Str)) (.cons (.blt .repr (.cons (.fld (.v 0) ("row" : Str)) .nil)) .nil)))) .nil))) σ h := rfl
def c23_35 : C := .cons c23_34 .nil
@[simp] theorem c23_35_ {Γ : Sys} {σ : MF} {h : MH} : evSs Γ c23_35 σ h = sq (evS Γ c23_34) (evSs Γ .nil) σ h := Ss_cons
def c23_36 : C := (.ite (.blt .isinstance (.cons (.v 0) (.cons (.gv (.cls 2)) .nil))) c23_35 .nil)
@[simp] theorem c23_36_ {Γ : Sys} {σ : MF} {h : MH} : evS Γ c23_36 σ h = evS Γ (.ite (.blt .isinstance (.cons (.v 0) (.cons (.gv (.cls 2)) .nil))) c23_35 .nil) σ h := rfl
def c23_37 : C := .cons c23_36 c23_33
@[simp] theorem c23_37_ {Γ : Sys} {σ : MF} {h : MH} : evSs Γ c23_37 σ h = sq (evS Γ c23_36) (evSs Γ c23_33) σ h := Ss_cons
def c23_38 : C := (.ex (.mth .append (.v 1) (.cons (.tup (.cons (.ks ("number" : Str)) (.cons (.fld (.v 0) ("what" : Str)) (.cons (.blt .repr (.cons (.fld (.v 0) ("number" : Str)) .nil)) .nil)))) .nil)))
@[simp] theorem c23_38_ {Γ : Sys} {σ : MF} {h : MH} : evS Γ c23_38 σ h = evS Γ (.ex (.mth .append (.v 1) (.cons (.tup (.cons (.ks ("number" : Str)) (.cons (.fld (.v 0) ("what" : Str)) (.cons (.blt .repr (.cons (.fld (.v 0) ("number" : Str)) .nil)) .nil)))) .nil))) σ h := rfl
def c23_39 : C := .cons c23_38 .nil
@[simp] theorem c23_39_ {Γ : Sys} {σ : MF} {h : MH} : evSs Γ c23_39 σ h = sq (evS Γ c23_38) (evSs Γ .nil) σ h := Ss_cons
def c23_40 : C := (.ite (.blt .isinstance (.cons (.v 0) (.cons (.gv (.cls 1)) .nil))) c23_39 .nil)
@[simp] theorem c23_40_ {Γ : Sys} {σ : MF} {h : MH} : evS Γ c23_40 σ h = evS Γ (.ite (.blt .isinstance (.cons (.v 0) (.cons (.gv (.cls 1)) .nil))) c23_39 .nil) σ h := rfl
def c23_41 : C := .cons c23_40 c23_37
@[simp] theorem c23_41_ {Γ : Sys} {σ : MF} {h : MH} : evSs Γ c23_41 σ h = sq (evS Γ c23_40) (evSs Γ c23_37) σ h := Ss_cons
def c23_42 : C := (.set (.tv 1) (.lst .nil))
@[simp] theorem c23_42_ {Γ : Sys} {σ : MF} {h : MH} : evS Γ c23_42 σ h = evS Γ (.set (.tv 1) (.lst .nil)) σ h := rfl
def c23_43 : C := .cons c23_42 c23_41
@[simp] theorem c23_43_ {Γ : Sys} {σ : MF} {h : MH} : evSs Γ c23_43 σ h = sq (evS Γ c23_42) (evSs Γ c23_41) σ h := Ss_cons
/-- _law_kinds -/
def c23 : C := c23_43
def r23 : Mini.Row := ⟨50, ("_law_kinds" : Str), [("e" : Str)], [("e" : Str), ("found" : Str)], true, c23, false, none⟩
def c24_0 : C := (.ret (.v 1))
@[simp] theorem c24_0_ {Γ : Sys} {σ : MF} {h : MH} : evS Γ c24_0 σ h = evS Γ (.ret (.v 1)) σ h := rfl
def c24_1 : C := .cons c24_0 .nil
@[simp] theorem c24_1_ {Γ : Sys} {σ : MF} {h : MH} : evSs Γ c24_1 σ h = sq (evS Γ c24_0) (evSs Γ .nil) σ h := Ss_cons
def c24_2 : C := (.ex (.mth .append (.v 1) (.cons (.tup (.cons (.ks ("redo" : Str)) .nil)) .nil)))
@[simp] theorem c24_2_ {Γ : Sys} {σ : MF} {h : MH} : evS Γ c24_2 σ h = evS Γ (.ex (.mth .append (.v 1) (.cons (.tup (.cons (.ks ("redo" : Str)) .nil)) .nil))) σ h := rfl
def c24_3 : C := .cons c24_2 .nil
@[simp] theorem c24_3_ {Γ : Sys} {σ : MF} {h : MH} : evSs Γ c24_3 σ h = sq (evS Γ c24_2) (evSs Γ .nil) σ h := Ss_cons
def c24_4 : C := (.ite (.blt .isinstance (.cons (.v 0) (.cons (.gv (.cls 19)) .nil))) c24_3 .nil)
@[simp] theorem c24_4_ {Γ : Sys} {σ : MF} {h : MH} : evS Γ c24_4 σ h = evS Γ (.ite (.blt .isinstance (.cons (.v 0) (.cons (.gv (.cls 19)) .nil))) c24_3 .nil) σ h := rfl
def c24_5 : C := .cons c24_4 c24_1
@[simp] theorem c24_5_ {Γ : Sys} {σ : MF} {h : MH} : evSs Γ c24_5 σ h = sq (evS Γ c24_4) (evSs Γ c24_1) σ h := Ss_cons
def c24_6 : C := (.ex (.mth .append (.v 1) (.cons (.tup (.cons (.ks ("undo" : Str)) .nil)) .nil)))
@[simp] theorem c24_6_ {Γ : Sys} {σ : MF} {h : MH} : evS Γ c24_6 σ h = evS Γ (.ex (.mth .append (.v 1) (.cons (.tup (.cons (.ks ("undo" : Str)) .nil)) .nil))) σ h := rfl
def c24_7 : C := .cons c24_6 .nil
@[simp] theorem c24_7_ {Γ : Sys} {σ : MF} {h : MH} : evSs Γ c24_7 σ h = sq (evS Γ c24_6) (evSs Γ .nil) σ h := Ss_cons
def c24_8 : C := (.ite (.blt .isinstance (.cons (.v 0) (.cons (.gv (.cls 18)) .nil))) c24_7 .nil)
@[simp] theorem c24_8_ {Γ : Sys} {σ : MF} {h : MH} : evS Γ c24_8 σ h = evS Γ (.ite (.blt .isinstance (.cons (.v 0) (.cons (.gv (.cls 18)) .nil))) c24_7 .nil) σ h := rfl
def c24_9 : C := .cons c24_8 c24_5
@[simp] theorem c24_9_ {Γ : Sys} {σ : MF} {h : MH} : evSs Γ c24_9 σ h = sq (evS Γ c24_8) (evSs Γ c24_5) σ h := Ss_cons
def c24_10 : C := (.ex (.mth .append (.v 1) (.cons (.tup (.cons (.ks ("kept" : Str)) (.cons (.fld (.v 0) ("promise" : Str)) (.cons (.fld (.v 0) ("witness" : Str)) .nil)))) .nil)))
@[simp] theorem c24_10_ {Γ : Sys} {σ : MF} {h : MH} : evS Γ c24_10 σ h = evS Γ (.ex (.mth .append (.v 1) (.cons (.tup (.cons (.ks ("kept" : Str)) (.cons (.fld (.v 0) ("promise" : Str)) (.cons (.fld (.v 0) ("witness" : Str)) .nil)))) .nil))) σ h := rfl
def c24_11 : C := .cons c24_10 .nil
@[simp] theorem c24_11_ {Γ : Sys} {σ : MF} {h : MH} : evSs Γ c24_11 σ h = sq (evS Γ c24_10) (evSs Γ .nil) σ h := Ss_cons
def c24_12 : C := (.ite (.blt .isinstance (.cons (.v 0) (.cons (.gv (.cls 17)) .nil))) c24_11 .nil)
@[simp] theorem c24_12_ {Γ : Sys} {σ : MF} {h : MH} : evS Γ c24_12 σ h = evS Γ (.ite (.blt .isinstance (.cons (.v 0) (.cons (.gv (.cls 17)) .nil))) c24_11 .nil) σ h := rfl
def c24_13 : C := .cons c24_12 c24_9
@[simp] theorem c24_13_ {Γ : Sys} {σ : MF} {h : MH} : evSs Γ c24_13 σ h = sq (evS Γ c24_12) (evSs Γ c24_9) σ h := Ss_cons
def c24_14 : C := (.ex (.mth .append (.v 1) (.cons (.tup (.cons (.ks ("many" : Str)) (.cons (.fld (.v 0) ("what" : Str)) (.cons (.fld (.v 0) ("many" : Str)) (.cons (.fld (.v 0) ("limit" : Str)) .nil))))) .nil)))
@[simp] theorem c24_14_ {Γ : Sys} {σ : MF} {h : MH} : evS Γ c24_14 σ h = evS Γ (.ex (.mth .append (.v 1) (.cons (.tup (.cons (.ks ("many" : Str)) (.cons (.fld (.v 0) ("what" : Str)) (.cons (.fld (.v 0) ("many" : Str)) (.cons (.fld (.v 0) ("limit" : Str)) .nil))))) .nil))) σ h := rfl
def c24_15 : C := .cons c24_14 .nil
@[simp] theorem c24_15_ {Γ : Sys} {σ : MF} {h : MH} : evSs Γ c24_15 σ h = sq (evS Γ c24_14) (evSs Γ .nil) σ h := Ss_cons
def c24_16 : C := (.ite (.blt .isinstance (.cons (.v 0) (.cons (.gv (.cls 16)) .nil))) c24_15 .nil)
@[simp] theorem c24_16_ {Γ : Sys} {σ : MF} {h : MH} : evS Γ c24_16 σ h = evS Γ (.ite (.blt .isinstance (.cons (.v 0) (.cons (.gv (.cls 16)) .nil))) c24_15 .nil) σ h := rfl
def c24_17 : C := .cons c24_16 c24_13
@[simp] theorem c24_17_ {Γ : Sys} {σ : MF} {h : MH} : evSs Γ c24_17 σ h = sq (evS Γ c24_16) (evSs Γ c24_13) σ h := Ss_cons
def c24_18 : C := (.ex (.mth .append (.v 1) (.cons (.tup (.cons (.ks ("notthere" : Str)) (.cons (.fld (.v 0) ("paper" : Str)) .nil))) .nil)))
@[simp] theorem c24_18_ {Γ : Sys} {σ : MF} {h : MH} : evS Γ c24_18 σ h = evS Γ (.ex (.mth .append (.v 1) (.cons (.tup (.cons (.ks ("notthere" : Str)) (.cons (.fld (.v 0) ("paper" : Str)) .nil))) .nil))) σ h := rfl
def c24_19 : C := .cons c24_18 .nil
@[simp] theorem c24_19_ {Γ : Sys} {σ : MF} {h : MH} : evSs Γ c24_19 σ h = sq (evS Γ c24_18) (evSs Γ .nil) σ h := Ss_cons
def c24_20 : C := (.ite (.blt .isinstance (.cons (.v 0) (.cons (.gv (.cls 15)) .nil))) c24_19 .nil)
@[simp] theorem c24_20_ {Γ : Sys} {σ : MF} {h : MH} : evS Γ c24_20 σ h = evS Γ (.ite (.blt .isinstance (.cons (.v 0) (.cons (.gv (.cls 15)) .nil))) c24_19 .nil) σ h := rfl
def c24_21 : C := .cons c24_20 c24_17
@[simp] theorem c24_21_ {Γ : Sys} {σ : MF} {h : MH} : evSs Γ c24_21 σ h = sq (evS Γ c24_20) (evSs Γ c24_17) σ h := Ss_cons
def c24_22 : C := (.ex (.mth .append (.v 1) (.cons (.tup (.cons (.ks ("unlike" : Str)) (.cons (.fld (.v 0) ("what" : Str)) .nil))) .nil)))
@[simp] theorem c24_22_ {Γ : Sys} {σ : MF} {h : MH} : evS Γ c24_22 σ h = evS Γ (.ex (.mth .append (.v 1) (.cons (.tup (.cons (.ks ("unlike" : Str)) (.cons (.fld (.v 0) ("what" : Str)) .nil))) .nil))) σ h := rfl
def c24_23 : C := .cons c24_22 .nil
@[simp] theorem c24_23_ {Γ : Sys} {σ : MF} {h : MH} : evSs Γ c24_23 σ h = sq (evS Γ c24_22) (evSs Γ .nil) σ h := Ss_cons
def c24_24 : C := (.ite (.blt .isinstance (.cons (.v 0) (.cons (.gv (.cls 14)) .nil))) c24_23 .nil)
@[simp] theorem c24_24_ {Γ : Sys} {σ : MF} {h : MH} : evS Γ c24_24 σ h = evS Γ (.ite (.blt .isinstance (.cons (.v 0) (.cons (.gv (.cls 14)) .nil))) c24_23 .nil) σ h := rfl
def c24_25 : C := .cons c24_24 c24_21
@[simp] theorem c24_25_ {Γ : Sys} {σ : MF} {h : MH} : evSs Γ c24_25 σ h = sq (evS Γ c24_24) (evSs Γ c24_21) σ h := Ss_cons
def c24_26 : C := (.ex (.mth .append (.v 1) (.cons (.tup (.cons (.ks ("taken" : Str)) (.cons (.blt .repr (.cons (.fld (.v 0) ("name" : Str)) .nil)) .nil))) .nil)))
@[simp] theorem c24_26_ {Γ : Sys} {σ : MF} {h : MH} : evS Γ c24_26 σ h = evS Γ (.ex (.mth .append (.v 1) (.cons (.tup (.cons (.ks ("taken" : Str)) (.cons (.blt .repr (.cons (.fld (.v 0) ("name" : Str)) .nil)) .nil))) .nil))) σ h := rfl
def c24_27 : C := .cons c24_26 .nil
@[simp] theorem c24_27_ {Γ : Sys} {σ : MF} {h : MH} : evSs Γ c24_27 σ h = sq (evS Γ c24_26) (evSs Γ .nil) σ h := Ss_cons
def c24_28 : C := (.ite (.blt .isinstance (.cons (.v 0) (.cons (.gv (.cls 13)) .nil))) c24_27 .nil)
@[simp] theorem c24_28_ {Γ : Sys} {σ : MF} {h : MH} : evS Γ c24_28 σ h = evS Γ (.ite (.blt .isinstance (.cons (.v 0) (.cons (.gv (.cls 13)) .nil))) c24_27 .nil) σ h := rfl
def c24_29 : C := .cons c24_28 c24_25
@[simp] theorem c24_29_ {Γ : Sys} {σ : MF} {h : MH} : evSs Γ c24_29 σ h = sq (evS Γ c24_28) (evSs Γ c24_25) σ h := Ss_cons
def c24_30 : C := (.ex (.mth .append (.v 1) (.cons (.tup (.cons (.ks ("noname" : Str)) (.cons (.blt .repr (.cons (.fld (.v 0) ("name" : Str)) .nil)) .nil))) .nil)))
@[simp] theorem c24_30_ {Γ : Sys} {σ : MF} {h : MH} : evS Γ c24_30 σ h = evS Γ (.ex (.mth .append (.v 1) (.cons (.tup (.cons (.ks ("noname" : Str)) (.cons (.blt .repr (.cons (.fld (.v 0) ("name" : Str)) .nil)) .nil))) .nil))) σ h := rfl
def c24_31 : C := .cons c24_30 .nil
@[simp] theorem c24_31_ {Γ : Sys} {σ : MF} {h : MH} : evSs Γ c24_31 σ h = sq (evS Γ c24_30) (evSs Γ .nil) σ h := Ss_cons
def c24_32 : C := (.ite (.blt .isinstance (.cons (.v 0) (.cons (.gv (.cls 12)) .nil))) c24_31 .nil)
@[simp] theorem c24_32_ {Γ : Sys} {σ : MF} {h : MH} : evS Γ c24_32 σ h = evS Γ (.ite (.blt .isinstance (.cons (.v 0) (.cons (.gv (.cls 12)) .nil))) c24_31 .nil) σ h := rfl
def c24_33 : C := .cons c24_32 c24_29
@[simp] theorem c24_33_ {Γ : Sys} {σ : MF} {h : MH} : evSs Γ c24_33 σ h = sq (evS Γ c24_32) (evSs Γ c24_29) σ h := Ss_cons
def c24_34 : C := (.ex (.mth .append (.v 1) (.cons (.tup (.cons (.ks ("place" : Str)) (.cons (.fld (.v 0) ("what" : Str)) (.cons (.blt .repr (.cons (.fld (.v 0) ("index" : Str)) .nil)) .nil)))) .nil)))
@[simp] theorem c24_34_ {Γ : Sys} {σ : MF} {h : MH} : evS Γ c24_34 σ h = evS Γ (.ex (.mth .append (.v 1) (.cons (.tup (.cons (.ks ("place" : Str)) (.cons (.fld (.v 0) ("what" : Str)) (.cons (.blt .repr (.cons (.fld (.v 0) ("index" : Str)) .nil)) .nil)))) .nil))) σ h := rfl
def c24_35 : C := .cons c24_34 .nil
@[simp] theorem c24_35_ {Γ : Sys} {σ : MF} {h : MH} : evSs Γ c24_35 σ h = sq (evS Γ c24_34) (evSs Γ .nil) σ h := Ss_cons
def c24_36 : C := (.ite (.blt .isinstance (.cons (.v 0) (.cons (.gv (.cls 11)) .nil))) c24_35 .nil)
@[simp] theorem c24_36_ {Γ : Sys} {σ : MF} {h : MH} : evS Γ c24_36 σ h = evS Γ (.ite (.blt .isinstance (.cons (.v 0) (.cons (.gv (.cls 11)) .nil))) c24_35 .nil) σ h := rfl
def c24_37 : C := .cons c24_36 c24_33
@[simp] theorem c24_37_ {Γ : Sys} {σ : MF} {h : MH} : evSs Γ c24_37 σ h = sq (evS Γ c24_36) (evSs Γ c24_33) σ h := Ss_cons
def c24_38 : C := (.set (.tv 1) (.lst .nil))
@[simp] theorem c24_38_ {Γ : Sys} {σ : MF} {h : MH} : evS Γ c24_38 σ h = evS Γ (.set (.tv 1) (.lst .nil)) σ h := rfl
def c24_39 : C := .cons c24_38 c24_37
@[simp] theorem c24_39_ {Γ : Sys} {σ : MF} {h : MH} : evSs Γ c24_39 σ h = sq (evS Γ c24_38) (evSs Γ c24_37) σ h := Ss_cons
/-- _law_more_kinds -/
def c24 : C := c24_39
def r24 : Mini.Row := ⟨51, ("_law_more_kinds" : Str), [("e" : Str)], [("e" : Str), ("found" : Str)], true, c24, false, none⟩
def c25_0 : C := (.ret (.call 20 (.cons (.v 0) (.cons (.lst (.cons (.ki 0) (.cons (.ki 4) (.cons (.neg (.ki 1)) (.cons .kn (.cons (.kb true) (.cons (.ks ("2" : Str)) (.cons (.tup (.cons (.ki 2) .nil)) (.cons (.op .pow (.ki 10) (.ki 9)) (.cons (.dct .nil) .nil)))))))))) .nil))))
@[simp] theorem c25_0_ {Γ : Sys} {σ : MF} {h : MH} : evS Γ c25_0 σ h = evS Γ (.ret (.call 20 (.cons (.v 0) (.cons (.lst (.cons (.ki 0) (.cons (.ki 4) (.cons (.neg (.ki 1)) (.cons .kn (.cons (.kb true) (.cons (.ks ("2" : Str)) (.cons (.tup (.cons (.ki 2) .nil)) (.cons (.op .pow (.ki 10) (.ki 9)) (.cons (.dct .nil) .nil)))))))))) .nil)))) σ h := rfl
def c25_1 : C := .cons c25_0 .nil
@[simp] theorem c25_1_ {Γ : Sys} {σ : MF} {h : MH} : evSs Γ c25_1 σ h = sq (evS Γ c25_0) (evSs Γ .nil) σ h := Ss_cons
/-- _law_bad_letters -/
def c25 : C := c25_1
def r25 : Mini.Row := ⟨52, ("_law_bad_letters" : Str), [("pen" : Str)], [("pen" : Str)], false, c25, false, none⟩
def c26_0 : C := (.ret (.call 20 (.cons (.v 0) (.cons (.lst (.cons .kn (.cons (.ki 3) (.cons (.ks ("ab" : Str)) (.cons (.kb true) (.cons (.tup (.cons (.v 1) .nil)) (.cons (.tup (.cons (.ki 0) (.cons (.neg (.ki 1)) .nil))) (.cons (.tup (.cons (.ki 0) (.cons .kn .nil))) (.cons (.tup (.cons (.kb true) .nil)) (.cons (.tup (.cons (.tup (.cons (.ki 0) .nil)) .nil)) (.cons (.dct .nil) (.cons (.op .mul (.tup (.cons (.ki 0) .nil)) (.ki 401)) (.cons (.tup (.cons (.ki 0) (.cons (.ks ("a" : Str)) .nil))) .nil))))))))))))) .nil))))
@[simp] theorem c26_0_ {Γ : Sys} {σ : MF} {h : MH} : evS Γ c26_0 σ h = evS Γ (.ret (.call 20 (.cons (.v 0) (.cons (.lst (.cons .kn (.cons (.ki 3) (.cons (.ks ("ab" : Str)) (.cons (.kb true) (.cons (.tup (.cons (.v 1) .nil)) (.cons (.tup (.cons (.ki 0) (.cons (.neg (.ki 1)) .nil))) (.cons (.tup (.cons (.ki 0) (.cons .kn .nil))) (.cons (.tup (.cons (.kb true) .nil)) (.cons (.tup (.cons (.tup (.cons (.ki 0) .nil)) .nil)) (.cons (.dct .nil) (.cons (.op .mul (.tup (.cons (.ki 0) .nil)) (.ki 401)) (.cons (.tup (.cons (.ki 0) (.cons (.ks ("a" : Str)) .nil))) .nil))))))))))))) .nil)))) σ h := rfl
def c26_1 : C := .cons c26_0 .nil
@[simp] theorem c26_1_ {Γ : Sys} {σ : MF} {h : MH} : evSs Γ c26_1 σ h = sq (evS Γ c26_0) (evSs Γ .nil) σ h := Ss_cons
/-- _law_bad_word -/
def c26 : C := c26_1
def r26 : Mini.Row := ⟨53, ("_law_bad_word" : Str), [("pen" : Str), ("letters" : Str)], [("pen" : Str), ("letters" : Str)], false, c26, false, none⟩
def c27_l0 : C := (.lc [3] (.call 19 (.cons (.v 0) (.cons (.v 1) .nil))) (.tv 3) (.rng1 (.call 19 (.cons (.v 0) (.cons (.op .add (.v 2) (.ki 1)) .nil)))) .nil)
def c27_0 : C := (.ret (.btup c27_l0))
@[simp] theorem c27_0_ {Γ : Sys} {σ : MF} {h : MH} : evS Γ c27_0 σ h = evS Γ (.ret (.btup c27_l0)) σ h := rfl
def c27_1 : C := .cons c27_0 .nil
@[simp] theorem c27_1_ {Γ : Sys} {σ : MF} {h : MH} : evSs Γ c27_1 σ h = sq (evS Γ c27_0) (evSs Γ .nil) σ h := Ss_cons
/-- _law_word -/
def c27 : C := c27_1
def r27 : Mini.Row := ⟨54, ("_law_word" : Str), [("pen" : Str), ("letters" : Str), ("most" : Str)], [("pen" : Str), ("letters" : Str), ("most" : Str), ("lap" : Str)], false, c27, false, none⟩
def c28_0 : C := (.ret (.v 2))
@[simp] theorem c28_0_ {Γ : Sys} {σ : MF} {h : MH} : evS Γ c28_0 σ h = evS Γ (.ret (.v 2)) σ h := rfl
def c28_1 : C := .cons c28_0 .nil
@[simp] theorem c28_1_ {Γ : Sys} {σ : MF} {h : MH} : evSs Γ c28_1 σ h = sq (evS Γ c28_0) (evSs Γ .nil) σ h := Ss_cons
def c28_2 : C := (.ex (.mth .extend (.v 2) (.cons (.v 3) .nil)))
@[simp] theorem c28_2_ {Γ : Sys} {σ : MF} {h : MH} : evS Γ c28_2 σ h = evS Γ (.ex (.mth .extend (.v 2) (.cons (.v 3) .nil))) σ h := rfl
def c28_3 : C := .cons c28_2 .nil
@[simp] theorem c28_3_ {Γ : Sys} {σ : MF} {h : MH} : evSs Γ c28_3 σ h = sq (evS Γ c28_2) (evSs Γ .nil) σ h := Ss_cons
def c28_4 : C := (.set (.tv 3) (.v 5))
@[simp] theorem c28_4_ {Γ : Sys} {σ : MF} {h : MH} : evS Γ c28_4 σ h = evS Γ (.set (.tv 3) (.v 5)) σ h := rfl
def c28_5 : C := .cons c28_4 c28_3
@[simp] theorem c28_5_ {Γ : Sys} {σ : MF} {h : MH} : evSs Γ c28_5 σ h = sq (evS Γ c28_4) (evSs Γ c28_3) σ h := Ss_cons
def c28_l0 : C := (.lc [7] (.op .add (.v 6) (.tup (.cons (.v 7) .nil))) (.tv 7) (.rng1 (.v 0)) .nil)
def c28_6 : C := (.ex (.mth .extend (.v 5) (.cons c28_l0 .nil)))
@[simp] theorem c28_6_ {Γ : Sys} {σ : MF} {h : MH} : evS Γ c28_6 σ h = evS Γ (.ex (.mth .extend (.v 5) (.cons c28_l0 .nil))) σ h := rfl
def c28_7 : C := .cons c28_6 .nil
@[simp] theorem c28_7_ {Γ : Sys} {σ : MF} {h : MH} : evSs Γ c28_7 σ h = sq (evS Γ c28_6) (evSs Γ .nil) σ h := Ss_cons
def c28_8 : C := (.for_ (.tv 6) (.each (.v 3)) c28_7)
@[simp] theorem c28_8_ {Γ : Sys} {σ : MF} {h : MH} : evS Γ c28_8 σ h = evS Γ (.for_ (.tv 6) (.each (.v 3)) c28_7) σ h := rfl
def c28_9 : C := .cons c28_8 c28_5
@[simp] theorem c28_9_ {Γ : Sys} {σ : MF} {h : MH} : evSs Γ c28_9 σ h = sq (evS Γ c28_8) (evSs Γ c28_5) σ h := Ss_cons
def c28_10 : C := (.set (.tv 5) (.lst .nil))
@[simp] theorem c28_10_ {Γ : Sys} {σ : MF} {h : MH} : evS Γ c28_10 σ h = evS Γ (.set (.tv 5) (.lst .nil)) σ h := rfl
def c28_11 : C := .cons c28_10 c28_9
@[simp] theorem c28_11_ {Γ : Sys} {σ : MF} {h : MH} : evSs Γ c28_11 σ h = sq (evS Γ c28_10) (evSs Γ c28_9) σ h := Ss_cons
def c28_12 : C := (.for_ (.tv 4) (.rng1 (.v 1)) c28_11)
@[simp] theorem c28_12_ {Γ : Sys} {σ : MF} {h : MH} : evS Γ c28_12 σ h = evS Γ (.for_ (.tv 4) (.rng1 (.v 1)) c28_11) σ h := rfl
def c28_13 : C := .cons c28_12 c28_1
@[simp] theorem c28_13_ {Γ : Sys} {σ : MF} {h : MH} : evSs Γ c28_13 σ h = sq (evS Γ c28_12) (evSs Γ c28_1) σ h := Ss_cons
def c28_14 : C := (.set (.tt (.cons (.tv 2) (.cons (.tv 3) .nil))) (.tup (.cons (.lst (.cons (.tup .nil) .nil)) (.cons (.lst (.cons (.tup .nil) .nil)) .nil))))
@[simp] theorem c28_14_ {Γ : Sys} {σ : MF} {h : MH} : evS Γ c28_14 σ h = evS Γ (.set (.tt (.cons (.tv 2) (.cons (.tv 3) .nil))) (.tup (.cons (.lst (.cons (.tup .nil) .nil)) (.cons (.lst (.cons (.tup .nil) .nil)) .nil)))) σ h := rfl
def c28_15 : C := .cons c28_14 c28_13
@[simp] theorem c28_15_ {Γ : Sys} {σ : MF} {h : MH} : evSs Γ c28_15 σ h = sq (evS Γ c28_14) (evSs Γ c28_13) σ h := Ss_cons
/-- _law_words -/
def c28 : C := c28_15
def r28 : Mini.Row := ⟨55, ("_law_words" : Str), [("letters" : Str), ("most" : Str)], [("letters" : Str), ("most" : Str), ("found" : Str), ("here" : Str), ("lap" : Str), ("longer" : Str), ("word" : Str), ("letter" : Str)], false, c28, false, none⟩
def c29_0 : C := (.ret (.and (.call 30 (.cons (.v 0) (.cons (.v 1) .nil))) (.call 31 (.cons (.v 0) (.cons (.v 1) (.cons (.v 2) .nil))))))
@[simp] theorem c29_0_ {Γ : Sys} {σ : MF} {h : MH} : evS Γ c29_0 σ h = evS Γ (.ret (.and (.call 30 (.cons (.v 0) (.cons (.v 1) .nil))) (.call 31 (.cons (.v 0) (.cons (.v 1) (.cons (.v 2) .nil)))))) σ h := rfl
def c29_1 : C := .cons c29_0 .nil
@[simp] theorem c29_1_ {Γ : Sys} {σ : MF} {h : MH} : evSs Γ c29_1 σ h = sq (evS Γ c29_0) (evSs Γ .nil) σ h := Ss_cons
def c29_l0 : C := (.lc [4] (.v 4) (.tv 4) (.each (.call 28 (.cons (.v 1) (.cons (.v 7) .nil)))) (.cm .eq (.blt .len (.cons (.v 4) .nil)) (.v 7)))
def c29_2 : C := (.ret (.kb false))
@[simp] theorem c29_2_ {Γ : Sys} {σ : MF} {h : MH} : evS Γ c29_2 σ h = evS Γ (.ret (.kb false)) σ h := rfl
def c29_3 : C := .cons c29_2 .nil
@[simp] theorem c29_3_ {Γ : Sys} {σ : MF} {h : MH} : evSs Γ c29_3 σ h = sq (evS Γ c29_2) (evSs Γ .nil) σ h := Ss_cons
def c29_4 : C := (.ite (.not (.call 21 (.cons (.call 11 (.cons (.v 1) (.cons (.v 7) .nil))) (.cons (.blt .tuple (.cons c29_l0 .nil)) .nil)))) c29_3 .nil)
@[simp] theorem c29_4_ {Γ : Sys} {σ : MF} {h : MH} : evS Γ c29_4 σ h = evS Γ (.ite (.not (.call 21 (.cons (.call 11 (.cons (.v 1) (.cons (.v 7) .nil))) (.cons (.blt .tuple (.cons c29_l0 .nil)) .nil)))) c29_3 .nil) σ h := rfl
def c29_5 : C := .cons c29_4 c29_1
@[simp] theorem c29_5_ {Γ : Sys} {σ : MF} {h : MH} : evSs Γ c29_5 σ h = sq (evS Γ c29_4) (evSs Γ c29_1) σ h := Ss_cons
def c29_6 : C := (.set (.tv 7) (.call 19 (.cons (.v 0) (.cons (.ki 5) .nil))))
@[simp] theorem c29_6_ {Γ : Sys} {σ : MF} {h : MH} : evS Γ c29_6 σ h = evS Γ (.set (.tv 7) (.call 19 (.cons (.v 0) (.cons (.ki 5) .nil)))) σ h := rfl
def c29_7 : C := .cons c29_6 c29_5
@[simp] theorem c29_7_ {Γ : Sys} {σ : MF} {h : MH} : evSs Γ c29_7 σ h = sq (evS Γ c29_6) (evSs Γ c29_5) σ h := Ss_cons
def c29_8 : C := (.ret (.kb false))
@[simp] theorem c29_8_ {Γ : Sys} {σ : MF} {h : MH} : evS Γ c29_8 σ h = evS Γ (.ret (.kb false)) σ h := rfl
def c29_9 : C := .cons c29_8 .nil
@[simp] theorem c29_9_ {Γ : Sys} {σ : MF} {h : MH} : evSs Γ c29_9 σ h = sq (evS Γ c29_8) (evSs Γ .nil) σ h := Ss_cons
def c29_10 : C := (.ite (.or (.not (.call 21 (.cons (.call 17 (.cons (.v 1) (.cons (.v 3) .nil))) (.cons (.rvs (.unt (.v 2))) .nil)))) (.not (.call 21 (.cons (.call 16 (.cons (.v 1) (.cons (.v 3) (.cons (.v 6) .nil)))) (.cons (.op .mul (.unt (.v 2)) (.v 6)) .nil))))) c29_9 .nil)
@[simp] theorem c29_10_ {Γ : Sys} {σ : MF} {h : MH} : evS Γ c29_10 σ h = evS Γ (.ite (.or (.not (.call 21 (.cons (.call 17 (.cons (.v 1) (.cons (.v 3) .nil))) (.cons (.rvs (.unt (.v 2))) .nil)))) (.not (.call 21 (.cons (.call 16 (.cons (.v 1) (.cons (.v 3) (.cons (.v 6) .nil)))) (.cons (.op .mul (.unt (.v 2)) (.v 6)) .nil))))) c29_9 .nil) σ h := rfl
def c29_11 : C := .cons c29_10 c29_7
@[simp] theorem c29_11_ {Γ : Sys} {σ : MF} {h : MH} : evSs Γ c29_11 σ h = sq (evS Γ c29_10) (evSs Γ c29_7) σ h := Ss_cons
def c29_12 : C := (.set (.tv 6) (.call 19 (.cons (.v 0) (.cons (.ki 14) .nil))))
@[simp] theorem c29_12_ {Γ : Sys} {σ : MF} {h : MH} : evS Γ c29_12 σ h = evS Γ (.set (.tv 6) (.call 19 (.cons (.v 0) (.cons (.ki 14) .nil)))) σ h := rfl
def c29_13 : C := .cons c29_12 c29_11
@[simp] theorem c29_13_ {Γ : Sys} {σ : MF} {h : MH} : evSs Γ c29_13 σ h = sq (evS Γ c29_12) (evSs Γ c29_11) σ h := Ss_cons
def c29_l1 : C := (.lc [5] (.v 5) (.tv 5) (.rng1 (.v 1)) (.cm .isin (.v 5) (.unt (.v 2))))
def c29_14 : C := (.ret (.kb false))
@[simp] theorem c29_14_ {Γ : Sys} {σ : MF} {h : MH} : evS Γ c29_14 σ h = evS Γ (.ret (.kb false)) σ h := rfl
def c29_15 : C := .cons c29_14 .nil
@[simp] theorem c29_15_ {Γ : Sys} {σ : MF} {h : MH} : evSs Γ c29_15 σ h = sq (evS Γ c29_14) (evSs Γ .nil) σ h := Ss_cons
def c29_16 : C := (.ite (.not (.call 21 (.cons (.call 15 (.cons (.v 1) (.cons (.v 3) .nil))) (.cons (.blt .tuple (.cons c29_l1 .nil)) .nil)))) c29_15 .nil)
@[simp] theorem c29_16_ {Γ : Sys} {σ : MF} {h : MH} : evS Γ c29_16 σ h = evS Γ (.ite (.not (.call 21 (.cons (.call 15 (.cons (.v 1) (.cons (.v 3) .nil))) (.cons (.blt .tuple (.cons c29_l1 .nil)) .nil)))) c29_15 .nil) σ h := rfl
def c29_17 : C := .cons c29_16 c29_13
@[simp] theorem c29_17_ {Γ : Sys} {σ : MF} {h : MH} : evSs Γ c29_17 σ h = sq (evS Γ c29_16) (evSs Γ c29_13) σ h := Ss_cons
def c29_l3 : C := (.lc [4] (.ki 1) (.tv 4) (.each (.unt (.v 2))) (.cm .eq (.v 4) (.v 5)))
def c29_l2 : C := (.lc [5] (.blt .len (.cons c29_l3 .nil)) (.tv 5) (.rng1 (.v 1)) .nil)
def c29_18 : C := (.ret (.kb false))
@[simp] theorem c29_18_ {Γ : Sys} {σ : MF} {h : MH} : evS Γ c29_18 σ h = evS Γ (.ret (.kb false)) σ h := rfl
def c29_19 : C := .cons c29_18 .nil
@[simp] theorem c29_19_ {Γ : Sys} {σ : MF} {h : MH} : evSs Γ c29_19 σ h = sq (evS Γ c29_18) (evSs Γ .nil) σ h := Ss_cons
def c29_20 : C := (.ite (.not (.call 21 (.cons (.call 13 (.cons (.v 1) (.cons (.v 3) .nil))) (.cons (.blt .tuple (.cons c29_l2 .nil)) .nil)))) c29_19 .nil)
@[simp] theorem c29_20_ {Γ : Sys} {σ : MF} {h : MH} : evS Γ c29_20 σ h = evS Γ (.ite (.not (.call 21 (.cons (.call 13 (.cons (.v 1) (.cons (.v 3) .nil))) (.cons (.blt .tuple (.cons c29_l2 .nil)) .nil)))) c29_19 .nil) σ h := rfl
def c29_21 : C := .cons c29_20 c29_17
@[simp] theorem c29_21_ {Γ : Sys} {σ : MF} {h : MH} : evSs Γ c29_21 σ h = sq (evS Γ c29_20) (evSs Γ c29_17) σ h := Ss_cons
def c29_22 : C := (.set (.tv 3) (.ifx (.cm .eq (.call 19 (.cons (.v 0) (.cons (.ki 2) .nil))) (.ki 0)) (.blt .list (.cons (.unt (.v 2)) .nil)) (.v 2)))
@[simp] theorem c29_22_ {Γ : Sys} {σ : MF} {h : MH} : evS Γ c29_22 σ h = evS Γ (.set (.tv 3) (.ifx (.cm .eq (.call 19 (.cons (.v 0) (.cons (.ki 2) .nil))) (.ki 0)) (.blt .list (.cons (.unt (.v 2)) .nil)) (.v 2))) σ h := rfl
def c29_23 : C := .cons c29_22 c29_21
@[simp] theorem c29_23_ {Γ : Sys} {σ : MF} {h : MH} : evSs Γ c29_23 σ h = sq (evS Γ c29_22) (evSs Γ c29_21) σ h := Ss_cons
def c29_24 : C := (.set (.tv 2) (.call 27 (.cons (.v 0) (.cons (.v 1) (.cons (.ki 30) .nil)))))
@[simp] theorem c29_24_ {Γ : Sys} {σ : MF} {h : MH} : evS Γ c29_24 σ h = evS Γ (.set (.tv 2) (.call 27 (.cons (.v 0) (.cons (.v 1) (.cons (.ki 30) .nil))))) σ h := rfl
def c29_25 : C := .cons c29_24 c29_23
@[simp] theorem c29_25_ {Γ : Sys} {σ : MF} {h : MH} : evSs Γ c29_25 σ h = sq (evS Γ c29_24) (evSs Γ c29_23) σ h := Ss_cons
def c29_26 : C := (.set (.tv 1) (.op .add (.ki 1) (.call 19 (.cons (.v 0) (.cons (.ki 3) .nil)))))
@[simp] theorem c29_26_ {Γ : Sys} {σ : MF} {h : MH} : evS Γ c29_26 σ h = evS Γ (.set (.tv 1) (.op .add (.ki 1) (.call 19 (.cons (.v 0) (.cons (.ki 3) .nil))))) σ h := rfl
def c29_27 : C := .cons c29_26 c29_25
@[simp] theorem c29_27_ {Γ : Sys} {σ : MF} {h : MH} : evSs Γ c29_27 σ h = sq (evS Γ c29_26) (evSs Γ c29_25) σ h := Ss_cons
/-- _law_right -/
def c29 : C := c29_27
def r29 : Mini.Row := ⟨56, ("_law_right" : Str), [("pen" : Str)], [("pen" : Str), ("letters" : Str), ("word" : Str), ("handed" : Str), ("one" : Str), ("letter" : Str), ("times" : Str), ("length" : Str)], false, c29, false, none⟩
def c30_0 : C := (.ret (.cm .eq (.v 5) (.lst (.cons (.ki 1) (.cons (.ki 4096) (.cons (.ki 2187) (.cons (.tup (.cons (.ks ("many" : Str)) (.cons (.ks ("words" : Str)) (.cons (.ki 8192) (.cons (.ki 4096) .nil))))) (.cons (.tup (.cons (.ks ("many" : Str)) (.cons (.ks ("words" : Str)) (.cons (.ki 6561) (.cons (.ki 4096) .nil))))) .nil))))))))
@[simp] theorem c30_0_ {Γ : Sys} {σ : MF} {h : MH} : evS Γ c30_0 σ h = evS Γ (.ret (.cm .eq (.v 5) (.lst (.cons (.ki 1) (.cons (.ki 4096) (.cons (.ki 2187) (.cons (.tup (.cons (.ks ("many" : Str)) (.cons (.ks ("words" : Str)) (.cons (.ki 8192) (.cons (.ki 4096) .nil))))) (.cons (.tup (.cons (.ks ("many" : Str)) (.cons (.ks ("words" : Str)) (.cons (.ki 6561) (.cons (.ki 4096) .nil))))) .nil)))))))) σ h := rfl
def c30_1 : C := .cons c30_0 .nil
@[simp] theorem c30_1_ {Γ : Sys} {σ : MF} {h : MH} : evSs Γ c30_1 σ h = sq (evS Γ c30_0) (evSs Γ .nil) σ h := Ss_cons
def c30_2 : C := (.set (.tv 5) (.lst (.cons (.blt .len (.cons (.call 11 (.cons (.ki 1) (.cons (.ki 400) .nil))) .nil)) (.cons (.blt .len (.cons (.call 11 (.cons (.ki 2) (.cons (.ki 12) .nil))) .nil)) (.cons (.blt .len (.cons (.call 11 (.cons (.ki 3) (.cons (.ki 7) .nil))) .nil)) (.cons (.call 32 (.cons (.gv (.fn 11)) (.cons (.ki 2) (.cons (.ki 13) .nil)))) (.cons (.call 32 (.cons (.gv (.fn 11)) (.cons (.ki 3) (.cons (.ki 8) .nil)))) .nil)))))))
@[simp] theorem c30_2_ {Γ : Sys} {σ : MF} {h : MH} : evS Γ c30_2 σ h = evS Γ (.set (.tv 5) (.lst (.cons (.blt .len (.cons (.call 11 (.cons (.ki 1) (.cons (.ki 400) .nil))) .nil)) (.cons (.blt .len (.cons (.call 11 (.cons (.ki 2) (.cons (.ki 12) .nil))) .nil)) (.cons (.blt .len (.cons (.call 11 (.cons (.ki 3) (.cons (.ki 7) .nil))) .nil)) (.cons (.call 32 (.cons (.gv (.fn 11)) (.cons (.ki 2) (.cons (.ki 13) .nil)))) (.cons (.call 32 (.cons (.gv (.fn 11)) (.cons (.ki 3) (.cons (.ki 8) .nil)))) .nil))))))) σ h := rfl
def c30_3 : C := .cons c30_2 c30_1
@[simp] theorem c30_3_ {Γ : Sys} {σ : MF} {h : MH} : evSs Γ c30_3 σ h = sq (evS Γ c30_2) (evSs Γ c30_1) σ h := Ss_cons
def c30_4 : C := (.ret (.kb false))
@[simp] theorem c30_4_ {Γ : Sys} {σ : MF} {h : MH} : evS Γ c30_4 σ h = evS Γ (.ret (.kb false)) σ h := rfl
def c30_5 : C := .cons c30_4 .nil
@[simp] theorem c30_5_ {Γ : Sys} {σ : MF} {h : MH} : evSs Γ c30_5 σ h = sq (evS Γ c30_4) (evSs Γ .nil) σ h := Ss_cons
def c30_6 : C := (.ite (.and (.cm .lt (.op .fdiv (.ki 400) (.v 2)) (.ki 400)) (.cm .ne (.call 33 (.cons (.gv (.fn 16)) (.cons (.v 1) (.cons (.v 3) (.cons (.op .add (.op .fdiv (.ki 400) (.v 2)) (.ki 1)) .nil))))) (.tup (.cons (.ks ("many" : Str)) (.cons (.ks ("letters" : Str)) (.cons (.op .mul (.v 2) (.op .add (.op .fdiv (.ki 400) (.v 2)) (.ki 1))) (.cons (.ki 400) .nil))))))) c30_5 .nil)
@[simp] theorem c30_6_ {Γ : Sys} {σ : MF} {h : MH} : evS Γ c30_6 σ h = evS Γ (.ite (.and (.cm .lt (.op .fdiv (.ki 400) (.v 2)) (.ki 400)) (.cm .ne (.call 33 (.cons (.gv (.fn 16)) (.cons (.v 1) (.cons (.v 3) (.cons (.op .add (.op .fdiv (.ki 400) (.v 2)) (.ki 1)) .nil))))) (.tup (.cons (.ks ("many" : Str)) (.cons (.ks ("letters" : Str)) (.cons (.op .mul (.v 2) (.op .add (.op .fdiv (.ki 400) (.v 2)) (.ki 1))) (.cons (.ki 400) .nil))))))) c30_5 .nil) σ h := rfl
def c30_7 : C := .cons c30_6 c30_3
@[simp] theorem c30_7_ {Γ : Sys} {σ : MF} {h : MH} : evSs Γ c30_7 σ h = sq (evS Γ c30_6) (evSs Γ c30_3) σ h := Ss_cons
def c30_8 : C := (.ret (.kb false))
@[simp] theorem c30_8_ {Γ : Sys} {σ : MF} {h : MH} : evS Γ c30_8 σ h = evS Γ (.ret (.kb false)) σ h := rfl
def c30_9 : C := .cons c30_8 .nil
@[simp] theorem c30_9_ {Γ : Sys} {σ : MF} {h : MH} : evSs Γ c30_9 σ h = sq (evS Γ c30_8) (evSs Γ .nil) σ h := Ss_cons
def c30_10 : C := (.ite (.not (.call 21 (.cons (.call 16 (.cons (.v 1) (.cons (.v 3) (.cons (.op .fdiv (.ki 400) (.v 2)) .nil)))) (.cons (.op .mul (.unt (.v 3)) (.op .fdiv (.ki 400) (.v 2))) .nil)))) c30_9 .nil)
@[simp] theorem c30_10_ {Γ : Sys} {σ : MF} {h : MH} : evS Γ c30_10 σ h = evS Γ (.ite (.not (.call 21 (.cons (.call 16 (.cons (.v 1) (.cons (.v 3) (.cons (.op .fdiv (.ki 400) (.v 2)) .nil)))) (.cons (.op .mul (.unt (.v 3)) (.op .fdiv (.ki 400) (.v 2))) .nil)))) c30_9 .nil) σ h := rfl
def c30_11 : C := .cons c30_10 c30_7
@[simp] theorem c30_11_ {Γ : Sys} {σ : MF} {h : MH} : evSs Γ c30_11 σ h = sq (evS Γ c30_10) (evSs Γ c30_7) σ h := Ss_cons
def c30_l0 : C := (.lc [4] (.call 19 (.cons (.v 0) (.cons (.v 1) .nil))) (.tv 4) (.rng1 (.v 2)) .nil)
def c30_12 : C := (.set (.tv 3) (.blt .tuple (.cons c30_l0 .nil)))
@[simp] theorem c30_12_ {Γ : Sys} {σ : MF} {h : MH} : evS Γ c30_12 σ h = evS Γ (.set (.tv 3) (.blt .tuple (.cons c30_l0 .nil))) σ h := rfl
def c30_13 : C := .cons c30_12 c30_11
@[simp] theorem c30_13_ {Γ : Sys} {σ : MF} {h : MH} : evSs Γ c30_13 σ h = sq (evS Γ c30_12) (evSs Γ c30_11) σ h := Ss_cons
def c30_14 : C := (.set (.tv 2) (.call 20 (.cons (.v 0) (.cons (.lst (.cons (.ki 1) (.cons (.ki 2) (.cons (.ki 4) (.cons (.ki 5) (.cons (.ki 8) (.cons (.ki 10) (.cons (.ki 16) (.cons (.ki 20) (.cons (.ki 25) (.cons (.ki 40) (.cons (.ki 50) (.cons (.ki 80) (.cons (.ki 100) (.cons (.ki 200) (.cons (.ki 400) .nil)))))))))))))))) .nil))))
@[simp] theorem c30_14_ {Γ : Sys} {σ : MF} {h : MH} : evS Γ c30_14 σ h = evS Γ (.set (.tv 2) (.call 20 (.cons (.v 0) (.cons (.lst (.cons (.ki 1) (.cons (.ki 2) (.cons (.ki 4) (.cons (.ki 5) (.cons (.ki 8) (.cons (.ki 10) (.cons (.ki 16) (.cons (.ki 20) (.cons (.ki 25) (.cons (.ki 40) (.cons (.ki 50) (.cons (.ki 80) (.cons (.ki 100) (.cons (.ki 200) (.cons (.ki 400) .nil)))))))))))))))) .nil)))) σ h := rfl
def c30_15 : C := .cons c30_14 c30_13
@[simp] theorem c30_15_ {Γ : Sys} {σ : MF} {h : MH} : evSs Γ c30_15 σ h = sq (evS Γ c30_14) (evSs Γ c30_13) σ h := Ss_cons
/-- _law_limits -/
def c30 : C := c30_15
def r30 : Mini.Row := ⟨57, ("_law_limits" : Str), [("pen" : Str), ("letters" : Str)], [("pen" : Str), ("letters" : Str), ("long" : Str), ("word" : Str), ("lap" : Str), ("told" : Str)], false, c30, false, none⟩
def c31_0 : C := (.ret (.cm .eq (.v 7) (.op .add (.v 8) (.lst (.cons (.tup (.cons (.ks ("word" : Str)) (.cons (.ks ("word" : Str)) (.cons (.blt .repr (.cons (.v 4) .nil)) .nil)))) (.cons (.tup (.cons (.ks ("number" : Str)) (.cons (.ks ("times" : Str)) (.cons (.blt .repr (.cons (.v 6) .nil)) .nil)))) .nil))))))
@[simp] theorem c31_0_ {Γ : Sys} {σ : MF} {h : MH} : evS Γ c31_0 σ h = evS Γ (.ret (.cm .eq (.v 7) (.op .add (.v 8) (.lst (.cons (.tup (.cons (.ks ("word" : Str)) (.cons (.ks ("word" : Str)) (.cons (.blt .repr (.cons (.v 4) .nil)) .nil)))) (.cons (.tup (.cons (.ks ("number" : Str)) (.cons (.ks ("times" : Str)) (.cons (.blt .repr (.cons (.v 6) .nil)) .nil)))) .nil)))))) σ h := rfl
def c31_1 : C := .cons c31_0 .nil
@[simp] theorem c31_1_ {Γ : Sys} {σ : MF} {h : MH} : evSs Γ c31_1 σ h = sq (evS Γ c31_0) (evSs Γ .nil) σ h := Ss_cons
def c31_2 : C := (.set (.tv 8) (.lst (.cons (.tup (.cons (.ks ("number" : Str)) (.cons (.ks ("letters" : Str)) (.cons (.blt .repr (.cons (.v 3) .nil)) .nil)))) (.cons (.tup (.cons (.ks ("number" : Str)) (.cons (.ks ("length" : Str)) (.cons (.blt .repr (.cons (.v 6) .nil)) .nil)))) (.cons (.tup (.cons (.ks ("number" : Str)) (.cons (.ks ("letters" : Str)) (.cons (.blt .repr (.cons (.v 3) .nil)) .nil)))) .nil)))))
@[simp] theorem c31_2_ {Γ : Sys} {σ : MF} {h : MH} : evS Γ c31_2 σ h = evS Γ (.set (.tv 8) (.lst (.cons (.tup (.cons (.ks ("number" : Str)) (.cons (.ks ("letters" : Str)) (.cons (.blt .repr (.cons (.v 3) .nil)) .nil)))) (.cons (.tup (.cons (.ks ("number" : Str)) (.cons (.ks ("length" : Str)) (.cons (.blt .repr (.cons (.v 6) .nil)) .nil)))) (.cons (.tup (.cons (.ks ("number" : Str)) (.cons (.ks ("letters" : Str)) (.cons (.blt .repr (.cons (.v 3) .nil)) .nil)))) .nil))))) σ h := rfl
def c31_3 : C := .cons c31_2 c31_1
@[simp] theorem c31_3_ {Γ : Sys} {σ : MF} {h : MH} : evSs Γ c31_3 σ h = sq (evS Γ c31_2) (evSs Γ c31_1) σ h := Ss_cons
def c31_4 : C := (.ex (.mth .extend (.v 7) (.cons (.lst (.cons (.call 33 (.cons (.gv (.fn 16)) (.cons (.v 1) (.cons (.v 4) (.cons (.v 6) .nil))))) (.cons (.call 33 (.cons (.gv (.fn 16)) (.cons (.v 1) (.cons (.v 2) (.cons (.v 6) .nil))))) .nil))) .nil)))
@[simp] theorem c31_4_ {Γ : Sys} {σ : MF} {h : MH} : evS Γ c31_4 σ h = evS Γ (.ex (.mth .extend (.v 7) (.cons (.lst (.cons (.call 33 (.cons (.gv (.fn 16)) (.cons (.v 1) (.cons (.v 4) (.cons (.v 6) .nil))))) (.cons (.call 33 (.cons (.gv (.fn 16)) (.cons (.v 1) (.cons (.v 2) (.cons (.v 6) .nil))))) .nil))) .nil))) σ h := rfl
def c31_5 : C := .cons c31_4 c31_3
@[simp] theorem c31_5_ {Γ : Sys} {σ : MF} {h : MH} : evSs Γ c31_5 σ h = sq (evS Γ c31_4) (evSs Γ c31_3) σ h := Ss_cons
def c31_6 : C := (.set (.tv 7) (.lst (.cons (.call 32 (.cons (.gv (.fn 11)) (.cons (.v 3) (.cons (.v 6) .nil)))) (.cons (.call 32 (.cons (.gv (.fn 11)) (.cons (.v 1) (.cons (.v 6) .nil)))) (.cons (.call 33 (.cons (.gv (.fn 16)) (.cons (.v 3) (.cons (.v 4) (.cons (.v 6) .nil))))) .nil)))))
@[simp] theorem c31_6_ {Γ : Sys} {σ : MF} {h : MH} : evS Γ c31_6 σ h = evS Γ (.set (.tv 7) (.lst (.cons (.call 32 (.cons (.gv (.fn 11)) (.cons (.v 3) (.cons (.v 6) .nil)))) (.cons (.call 32 (.cons (.gv (.fn 11)) (.cons (.v 1) (.cons (.v 6) .nil)))) (.cons (.call 33 (.cons (.gv (.fn 16)) (.cons (.v 3) (.cons (.v 4) (.cons (.v 6) .nil))))) .nil))))) σ h := rfl
def c31_7 : C := .cons c31_6 c31_5
@[simp] theorem c31_7_ {Γ : Sys} {σ : MF} {h : MH} : evSs Γ c31_7 σ h = sq (evS Γ c31_6) (evSs Γ c31_5) σ h := Ss_cons
def c31_8 : C := (.set (.tv 6) (.call 20 (.cons (.v 0) (.cons (.lst (.cons (.neg (.ki 1)) (.cons (.ki 401) (.cons .kn (.cons (.kb true) (.cons (.ks ("2" : Str)) (.cons (.tup (.cons (.ki 1) .nil)) .nil))))))) .nil))))
@[simp] theorem c31_8_ {Γ : Sys} {σ : MF} {h : MH} : evS Γ c31_8 σ h = evS Γ (.set (.tv 6) (.call 20 (.cons (.v 0) (.cons (.lst (.cons (.neg (.ki 1)) (.cons (.ki 401) (.cons .kn (.cons (.kb true) (.cons (.ks ("2" : Str)) (.cons (.tup (.cons (.ki 1) .nil)) .nil))))))) .nil)))) σ h := rfl
def c31_9 : C := .cons c31_8 c31_7
@[simp] theorem c31_9_ {Γ : Sys} {σ : MF} {h : MH} : evSs Γ c31_9 σ h = sq (evS Γ c31_8) (evSs Γ c31_7) σ h := Ss_cons
def c31_10 : C := (.ret (.kb false))
@[simp] theorem c31_10_ {Γ : Sys} {σ : MF} {h : MH} : evS Γ c31_10 σ h = evS Γ (.ret (.kb false)) σ h := rfl
def c31_11 : C := .cons c31_10 .nil
@[simp] theorem c31_11_ {Γ : Sys} {σ : MF} {h : MH} : evSs Γ c31_11 σ h = sq (evS Γ c31_10) (evSs Γ .nil) σ h := Ss_cons
def c31_12 : C := (.ite (.or (.cm .ne (.call 32 (.cons (.v 5) (.cons (.v 3) (.cons (.v 4) .nil)))) (.tup (.cons (.ks ("number" : Str)) (.cons (.ks ("letters" : Str)) (.cons (.blt .repr (.cons (.v 3) .nil)) .nil))))) (.cm .ne (.call 32 (.cons (.v 5) (.cons (.v 1) (.cons (.v 4) .nil)))) (.tup (.cons (.ks ("word" : Str)) (.cons (.ks ("word" : Str)) (.cons (.blt .repr (.cons (.v 4) .nil)) .nil)))))) c31_11 .nil)
@[simp] theorem c31_12_ {Γ : Sys} {σ : MF} {h : MH} : evS Γ c31_12 σ h = evS Γ (.ite (.or (.cm .ne (.call 32 (.cons (.v 5) (.cons (.v 3) (.cons (.v 4) .nil)))) (.tup (.cons (.ks ("number" : Str)) (.cons (.ks ("letters" : Str)) (.cons (.blt .repr (.cons (.v 3) .nil)) .nil))))) (.cm .ne (.call 32 (.cons (.v 5) (.cons (.v 1) (.cons (.v 4) .nil)))) (.tup (.cons (.ks ("word" : Str)) (.cons (.ks ("word" : Str)) (.cons (.blt .repr (.cons (.v 4) .nil)) .nil)))))) c31_11 .nil) σ h := rfl
def c31_13 : C := .cons c31_12 .nil
@[simp] theorem c31_13_ {Γ : Sys} {σ : MF} {h : MH} : evSs Γ c31_13 σ h = sq (evS Γ c31_12) (evSs Γ .nil) σ h := Ss_cons
def c31_14 : C := (.for_ (.tv 5) (.each (.tup (.cons (.gv (.fn 13)) (.cons (.gv (.fn 15)) (.cons (.gv (.fn 17)) .nil))))) c31_13)
@[simp] theorem c31_14_ {Γ : Sys} {σ : MF} {h : MH} : evS Γ c31_14 σ h = evS Γ (.for_ (.tv 5) (.each (.tup (.cons (.gv (.fn 13)) (.cons (.gv (.fn 15)) (.cons (.gv (.fn 17)) .nil))))) c31_13) σ h := rfl
def c31_15 : C := .cons c31_14 c31_9
@[simp] theorem c31_15_ {Γ : Sys} {σ : MF} {h : MH} : evSs Γ c31_15 σ h = sq (evS Γ c31_14) (evSs Γ c31_9) σ h := Ss_cons
def c31_16 : C := (.set (.tt (.cons (.tv 3) (.cons (.tv 4) .nil))) (.tup (.cons (.call 25 (.cons (.v 0) .nil)) (.cons (.call 26 (.cons (.v 0) (.cons (.v 1) .nil))) .nil))))
@[simp] theorem c31_16_ {Γ : Sys} {σ : MF} {h : MH} : evS Γ c31_16 σ h = evS Γ (.set (.tt (.cons (.tv 3) (.cons (.tv 4) .nil))) (.tup (.cons (.call 25 (.cons (.v 0) .nil)) (.cons (.call 26 (.cons (.v 0) (.cons (.v 1) .nil))) .nil)))) σ h := rfl
def c31_17 : C := .cons c31_16 c31_15
@[simp] theorem c31_17_ {Γ : Sys} {σ : MF} {h : MH} : evSs Γ c31_17 σ h = sq (evS Γ c31_16) (evSs Γ c31_15) σ h := Ss_cons
/-- _law_refused -/
def c31 : C := c31_17
def r31 : Mini.Row := ⟨58, ("_law_refused" : Str), [("pen" : Str), ("letters" : Str), ("word" : Str)], [("pen" : Str), ("letters" : Str), ("word" : Str), ("odd" : Str), ("bad" : Str), ("call" : Str), ("wrong" : Str), ("told" : Str), ("due" : Str)], false, c31, false, none⟩
def c32_0 : C := (.ret (.flt 22 (.callv 0 (.cons (.v 1) (.cons (.v 2) .nil)))))
@[simp] theorem c32_0_ {Γ : Sys} {σ : MF} {h : MH} : evS Γ c32_0 σ h = evS Γ (.ret (.flt 22 (.callv 0 (.cons (.v 1) (.cons (.v 2) .nil))))) σ h := rfl
def c32_1 : C := .cons c32_0 .nil
@[simp] theorem c32_1_ {Γ : Sys} {σ : MF} {h : MH} : evSs Γ c32_1 σ h = sq (evS Γ c32_0) (evSs Γ .nil) σ h := Ss_cons
/-- _law_two -/
def c32 : C := c32_1
def r32 : Mini.Row := ⟨59, ("_law_two" : Str), [("call" : Str), ("one" : Str), ("other" : Str)], [("call" : Str), ("one" : Str), ("other" : Str)], false, c32, true, none⟩
def c33_0 : C := (.ret (.flt 22 (.callv 0 (.cons (.v 1) (.cons (.v 2) (.cons (.v 3) .nil))))))
@[simp] theorem c33_0_ {Γ : Sys} {σ : MF} {h : MH} : evS Γ c33_0 σ h = evS Γ (.ret (.flt 22 (.callv 0 (.cons (.v 1) (.cons (.v 2) (.cons (.v 3) .nil)))))) σ h := rfl
def c33_1 : C := .cons c33_0 .nil
@[simp] theorem c33_1_ {Γ : Sys} {σ : MF} {h : MH} : evSs Γ c33_1 σ h = sq (evS Γ c33_0) (evSs Γ .nil) σ h := Ss_cons
/-- _law_three -/
def c33 : C := c33_1
def r33 : Mini.Row := ⟨60, ("_law_three" : Str), [("call" : Str), ("one" : Str), ("other" : Str), ("third" : Str)], [("call" : Str), ("one" : Str), ("other" : Str), ("third" : Str)], false, c33, true, none⟩
def c34_0 : C := (.ret (.and (.cm .eq (.call 11 (.cons (.ki 1) (.cons (.ki 0) .nil))) (.tup (.cons (.tup .nil) .nil))) (.cm .eq (.call 15 (.cons (.ki 3) (.cons (.tup (.cons (.ki 2) (.cons (.ki 0) (.cons (.ki 2) .nil)))) .nil))) (.tup (.cons (.ki 0) (.cons (.ki 2) .nil))))))
@[simp] theorem c34_0_ {Γ : Sys} {σ : MF} {h : MH} : evS Γ c34_0 σ h = evS Γ (.ret (.and (.cm .eq (.call 11 (.cons (.ki 1) (.cons (.ki 0) .nil))) (.tup (.cons (.tup .nil) .nil))) (.cm .eq (.call 15 (.cons (.ki 3) (.cons (.tup (.cons (.ki 2) (.cons (.ki 0) (.cons (.ki 2) .nil)))) .nil))) (.tup (.cons (.ki 0) (.cons (.ki 2) .nil)))))) σ h := rfl
def c34_1 : C := .cons c34_0 .nil
@[simp] theorem c34_1_ {Γ : Sys} {σ : MF} {h : MH} : evSs Γ c34_1 σ h = sq (evS Γ c34_0) (evSs Γ .nil) σ h := Ss_cons
def c34_2 : C := (.ret (.kb false))
@[simp] theorem c34_2_ {Γ : Sys} {σ : MF} {h : MH} : evS Γ c34_2 σ h = evS Γ (.ret (.kb false)) σ h := rfl
def c34_3 : C := .cons c34_2 .nil
@[simp] theorem c34_3_ {Γ : Sys} {σ : MF} {h : MH} : evSs Γ c34_3 σ h = sq (evS Γ c34_2) (evSs Γ .nil) σ h := Ss_cons
def c34_4 : C := (.ite (.not (.call 29 (.cons (.v 1) .nil))) c34_3 .nil)
@[simp] theorem c34_4_ {Γ : Sys} {σ : MF} {h : MH} : evS Γ c34_4 σ h = evS Γ (.ite (.not (.call 29 (.cons (.v 1) .nil))) c34_3 .nil) σ h := rfl
def c34_5 : C := .cons c34_4 .nil
@[simp] theorem c34_5_ {Γ : Sys} {σ : MF} {h : MH} : evSs Γ c34_5 σ h = sq (evS Γ c34_4) (evSs Γ .nil) σ h := Ss_cons
def c34_6 : C := (.for_ (.tv 2) (.rng1 (.ki 4)) c34_5)
@[simp] theorem c34_6_ {Γ : Sys} {σ : MF} {h : MH} : evS Γ c34_6 σ h = evS Γ (.for_ (.tv 2) (.rng1 (.ki 4)) c34_5) σ h := rfl
def c34_7 : C := .cons c34_6 c34_1
@[simp] theorem c34_7_ {Γ : Sys} {σ : MF} {h : MH} : evSs Γ c34_7 σ h = sq (evS Γ c34_6) (evSs Γ c34_1) σ h := Ss_cons
def c34_8 : C := (.set (.tv 1) (.call 18 (.cons (.v 0) .nil)))
@[simp] theorem c34_8_ {Γ : Sys} {σ : MF} {h : MH} : evS Γ c34_8 σ h = evS Γ (.set (.tv 1) (.call 18 (.cons (.v 0) .nil))) σ h := rfl
def c34_9 : C := .cons c34_8 c34_7
@[simp] theorem c34_9_ {Γ : Sys} {σ : MF} {h : MH} : evSs Γ c34_9 σ h = sq (evS Γ c34_8) (evSs Γ c34_7) σ h := Ss_cons
/-- law -/
def c34 : C := c34_9
def r34 : Mini.Row := ⟨61, ("law" : Str), [("script" : Str)], [("script" : Str), ("pen" : Str), ("lap" : Str)], false, c34, false, none⟩
def tab : Mini.Tab := ⟨[r0, r1, r2, r3, r4, r5, r6, r7, r8, r9, r10, r11, r12, r13, r14, r15, r16, r17, r18, r19, r20, r21, r22, r23, r24, r25, r26, r27, r28, r29, r30, r31, r32, r33, r34], [⟨1, ("KindsError" : Str), []⟩, ⟨2, ("BadNumber" : Str), [("what" : Str), ("number" : Str)]⟩, ⟨3, ("BadRow" : Str), [("what" : Str), ("row" : Str)]⟩, ⟨4, ("BadWord" : Str), [("what" : Str), ("word" : Str)]⟩, ⟨5, ("BadPattern" : Str), [("what" : Str)]⟩, ⟨6, ("BadMachine" : Str), [("what" : Str)]⟩, ⟨7, ("BadTable" : Str), [("what" : Str)]⟩, ⟨8, ("BadKind" : Str), [("kind" : Str)]⟩, ⟨9, ("BadBook" : Str), [("what" : Str)]⟩, ⟨10, ("BadName" : Str), [("name" : Str)]⟩, ⟨11, ("BadText" : Str), [("line" : Str), ("token" : Str)]⟩, ⟨12, ("NoPlace" : Str), [("what" : Str), ("index" : Str)]⟩, ⟨13, ("NoName" : Str), [("name" : Str)]⟩, ⟨14, ("TakenName" : Str), [("name" : Str)]⟩, ⟨15, ("Unlike" : Str), [("what" : Str)]⟩, ⟨16, ("NotThere" : Str), [("paper" : Str)]⟩, ⟨17, ("TooMany" : Str), [("what" : Str), ("many" : Str), ("limit" : Str)]⟩, ⟨18, ("NotKept" : Str), [("promise" : Str), ("witness" : Str)]⟩, ⟨19, ("NothingToUndo" : Str), []⟩, ⟨20, ("NothingToRedo" : Str), []⟩], [("list" : Str), ("tuple" : Str), ("isinstance" : Str), ("bool" : Str), ("int" : Str), ("all" : Str), ("len" : Str), ("range" : Str), ("sorted" : Str), ("set" : Str), ("str" : Str), ("ValueError" : Str), ("repr" : Str)], [(("MOST_LONG" : Str), 400), (("MOST_LETTERS" : Str), 3), (("MOST_WORDS" : Str), 4096)]⟩
def fam : Mini.Fam := ⟨fun c => match c with
  | 0 => [0]
  | 1 => [1, 0]
  | 2 => [2, 0]
  | 3 => [3, 0]
  | 4 => [4, 0]
  | 5 => [5, 0]
  | 6 => [6, 0]
  | 7 => [7, 0]
  | 8 => [8, 0]
  | 9 => [9, 0]
  | 10 => [10, 0]
  | 11 => [11, 0]
  | 12 => [12, 0]
  | 13 => [13, 0]
  | 14 => [14, 0]
  | 15 => [15, 0]
  | 16 => [16, 0]
  | 17 => [17, 0]
  | 18 => [18, 0]
  | 19 => [19, 0]
  | _ => []⟩
abbrev lawIx : Nat := 34
abbrev lawAt : Nat := 61
theorem tab_ok : tabOk PySem.Challenge.rw_sayingkinds_k02_words.prog tab = true := by kernel_rfl
end Law
set_option Elab.async false
set_option linter.all false
set_option maxRecDepth 100000
set_option maxHeartbeats 8000000
namespace Law
open PySem Mini
def PG : Prog := prgOf tab fam
theorem call_s {k i : Nat} {r : Mini.Row} {xs : List Val} {h : MH} (hr : tab.rows[i]? = some r) (hf : r.flt = none) : (sys PG (k + 1)).call i xs h = runFn (sys PG k) (fnR r) xs h := by
  have e : PG.fns i = some (fnR r) := by
    show (match tab.rows[i]? with
      | some r => if r.flt.isSome then none else some (fnR r)
      | none => none) = _
    rw [hr]
    dsimp only
    rw [hf]
    rfl
  show (match PG.fns i with
    | some f => runFn (sys PG k) f xs h
    | none => .bad) = _
  rw [e]
theorem thunk_s {k i c : Nat} {r : Mini.Row} {o : Res Val} (hr : tab.rows[i]? = some r) (hf : r.flt = some c) : (sys PG (k + 1)).thunk i o = thunkF (sys PG k) c r.core o := by
  have e : PG.flt i = some (c, r.core) := by
    show (match tab.rows[i]? with
      | some r => r.flt.map fun c => (c, r.core)
      | none => none) = _
    rw [hr]
    dsimp only
    rw [hf]
    rfl
  show (match PG.flt i with
    | some q => thunkF (sys PG k) q.1 q.2 o
    | none => .bad) = _
  rw [e]
theorem s_flds {k : Nat} : (sys PG k).flds = PG.flds := by cases k <;> rfl
theorem s_isx {k : Nat} : (sys PG k).isx = PG.isx := by cases k <;> rfl
theorem s_sub {k : Nat} : (sys PG k).sub = PG.sub := by cases k <;> rfl
theorem s_isf {k : Nat} : (sys PG k).isf = PG.isf := by cases k <;> rfl
theorem fit_s {n : Nat} (h : n ≤ 1000) : fits n = true := decide_eq_true (Nat.le_trans h (by decide))
end Law
namespace Law
open PySem Mini
section
variable {k n : Nat} {h : MH} {v : Val} {d : PyData} {m : Int}
theorem is_list_ok (e : toD h n v = some d) : (sys PG (k + 1)).call 0 [v] h = .ok (.bl (isSeqD d)) h := by
  rw [call_s (r := r0) rfl rfl, run_fn (by rfl)]
  have b := isi_lt (Γ := sys PG k) (toD_tag e)
  have ht : (tySub (tagD d) "list" || tySub (tagD d) "tuple") = isSeqD d := by cases d <;> rfl
  rw [ht] at b
  simp -implicitDefEqProofs [fnR, r0, c0, fit_s, dat, b]
theorem is_integer_ok (e : toD h n v = some d) : (sys PG (k + 1)).call 1 [v] h = .ok (.bl (isIntD d)) h := by
  rw [call_s (r := r1) rfl rfl, run_fn (by rfl)]
  have b := isi_ty (Γ := sys PG k) (n := "int") (toD_tag e) (by decide)
  have b2 := isi_ty (Γ := sys PG k) (n := "bool") (toD_tag e) (by decide)
  cases d <;> simp -implicitDefEqProofs [tagD, tySub] at b b2 <;> simp -implicitDefEqProofs [fnR, r1, c1, b, b2, isIntD]
theorem is_index_ok (e : toD h n v = some d) : (sys PG (k + 2)).call 2 [v, .int m] h = .ok (.bl (ixD m d)) h := by
  rw [call_s (r := r2) rfl rfl, run_fn (by rfl)]
  have b := is_integer_ok (k := k) e
  cases hd : isIntD d with
  | false =>
    rw [hd] at b
    have hx : ixD m d = false := by cases d <;> first | rfl | cases hd
    simp -implicitDefEqProofs [fnR, r2, c2, b, hx]
  | true =>
    rw [hd] at b
    cases d with
    | int i =>
      have ev := toD_int e
      subst ev
      by_cases h0 : 0 ≤ i <;> simp -implicitDefEqProofs [fnR, r2, c2, b, ixD, cop, leV, ltV, h0]
    | _ => cases hd
theorem is_indexes_ok (e : toD h (n + 1) v = some d) (hl : (itemsD d).length ≤ 100000) : ∃ h', Pre h h' ∧ (sys PG (k + 3)).call 4 [v, .int m] h = .ok (.bl (ixsD m d)) h' := by
  rw [call_s (r := r4) rfl rfl, run_fn (by rfl)]
  have b := is_list_ok (k := k + 1) e
  cases hd : isSeqD d with
  | false =>
    rw [hd] at b
    refine ⟨h, .refl, ?_⟩
    simp -implicitDefEqProofs [fnR, r4, c4, b, ixsD, hd]
  | true =>
    rw [hd] at b
    obtain ⟨xs, e1, e2⟩ := toD_seq e hd
    have len := mapM_len e2
    obtain ⟨h', p, e3⟩ := lc_bools (Γ := sys PG (k + 2)) (vs := [2]) (i := 2) (e := .call 2 (.cons (.v 2) (.cons (.v 1) .nil))) (a := .v 0) (σ := [some v, some (.int m), none]) (ixD m) (by simp) e1 e2 (by omega)
      fun x d h1 _ ed _ => ⟨h1, .refl, by
        have b3 := is_index_ok (k := k) (m := m) ed
        simp -implicitDefEqProofs [wipeM, b3]⟩
    have e4 : evE (sys PG (k + 2)) c4_l0 [some v, some (.int m), none] h = .ok (.ref h'.length) (h' ++ [.lst ((itemsD d).map fun d => .bl (ixD m d))]) := e3
    have e6 := all_bools (Γ := sys PG (k + 2)) (h := h') (ds := itemsD d) (q := ixD m)
    refine ⟨h' ++ [.lst ((itemsD d).map fun d => .bl (ixD m d))], p.trans .app, ?_⟩
    simp -implicitDefEqProofs [fnR, r4, c4, b, e4, e6, ixsD, hd]
theorem is_word_ok (e : toD h (n + 1) v = some d) (hl : (itemsD d).length ≤ 100000) : ∃ h', Pre h h' ∧ (sys PG (k + 4)).call 5 [v, .int m] h = .ok (.bl (wordD m d)) h' := by
  rw [call_s (r := r5) rfl rfl, run_fn (by rfl)]
  obtain ⟨h', p, e1⟩ := is_indexes_ok (k := k) (m := m) e hl
  refine ⟨h', p, ?_⟩
  cases hx : ixsD m d with
  | false =>
    rw [hx] at e1
    simp -implicitDefEqProofs [fnR, r5, c5, e1, wordD, hx]
  | true =>
    rw [hx] at e1
    have hs : isSeqD d = true := by
      unfold ixsD at hx
      rw [Bool.and_eq_true] at hx
      exact hx.1
    obtain ⟨xs, e2, e3⟩ := toD_seq e hs
    have len := mapM_len e3
    have e4 := len_seq (Γ := sys PG (k + 3)) (isSeq_pre p e2)
    simp -implicitDefEqProofs [fnR, r5, c5, e1, wordD, hx, e4, cop, leV, ← len]
    omega
end
end Law
set_option Elab.async false
set_option linter.all false
set_option maxRecDepth 100000
set_option maxHeartbeats 8000000
namespace Law
open PySem Mini
section
variable {k n p c : Nat} {h h0 : MH} {v w u : Val} {d dw : PyData} {m : Int} {cells : List Int} {W : List Int} {s : Str}
def btwD (lo hi : Int) : PyData → Bool
  | .int i => decide (lo ≤ i) && decide (i ≤ hi)
  | _ => false
theorem is_between_ok {lo hi : Int} (e : toD h n v = some d) : (sys PG (k + 2)).call 3 [v, .int lo, .int hi] h = .ok (.bl (btwD lo hi d)) h := by
  rw [call_s (r := r3) rfl rfl, run_fn (by rfl)]
  have b := is_integer_ok (k := k) e
  cases hd : isIntD d with
  | false =>
    rw [hd] at b
    have hx : btwD lo hi d = false := by cases d <;> first | rfl | cases hd
    simp -implicitDefEqProofs [fnR, r3, c3, b, hx]
  | true =>
    rw [hd] at b
    cases d with
    | int i =>
      have ev := toD_int e
      subst ev
      by_cases h0 : lo ≤ i <;> simp -implicitDefEqProofs [fnR, r3, c3, b, btwD, cop, leV, h0]
    | _ => cases hd
theorem isx_ {c : Nat} (hc : c < 20) : (sys PG k).isx c = true := by
  rw [s_isx]
  exact decide_eq_true hc
theorem rais2 {σ : MF} {c : Nat} {f g : Str} {a b : Val} (hc : c < 20) (e : (sys PG k).flds c = [f, g]) (ha : dat a = true) (hb : dat b = true) : raF (sys PG k) c σ [a, b] h = .ex c [a, b] σ h := by
  refine raF_ ?_
  rw [e, isx_ hc]
  simp [ha, hb]
theorem flds1 : (sys PG k).flds 1 = (["what", "number"] : List Str) := by rw [s_flds]; rfl
theorem flds3 : (sys PG k).flds 3 = (["what", "word"] : List Str) := by rw [s_flds]; rfl
theorem need_letters_ok (e : toD h n v = some d) : (sys PG (k + 3)).call 6 [v] h = if btwD 1 3 d then .ok .non h else .exc 1 [.str "letters", v] h := by
  rw [call_s (r := r6) rfl rfl, run_fn (by rfl)]
  have b := is_between_ok (k := k) (lo := 1) (hi := 3) e
  have ra := fun (σ : MF) (h : MH) => rais2 (k := k + 2) (σ := σ) (h := h) (a := .str "letters") (b := v) (by decide) flds1 rfl (toD_dat e)
  cases hd : btwD 1 3 d with
  | false =>
    rw [hd] at b
    simp -implicitDefEqProofs [-raF, fnR, r6, c6, b, tru, ra]
  | true =>
    rw [hd] at b
    simp -implicitDefEqProofs [-raF, fnR, r6, c6, b, tru]
/-- a word: a tuple, a tuple that is known, a list -/
def IsW (h : MH) (v : Val) (W : List Int) : Prop := v = tupI W ∨ v = .tp (W.map .int) ∨ ∃ r, v = .ref r ∧ h[r]? = some (.lst (W.map .int))
def tupW (W : List Int) : Val → Val
  | .tup _ => tupI W
  | _ => .tp (W.map .int)
def InR (m : Int) (W : List Int) : Prop := ∀ a ∈ W, 0 ≤ a ∧ a < m
theorem IsW.toD (x : IsW h v W) : ∃ d, toD h (n + 2) (untV v) = some d ∧ isSeqD d = true ∧ itemsD d = W.map .int := by
  rcases x with rfl | rfl | ⟨r, rfl, e⟩
  · exact ⟨_, toD_tupI, rfl, rfl⟩
  · exact ⟨_, toD_tupI, rfl, rfl⟩
  · refine ⟨.list (W.map .int), ?_, rfl, rfl⟩
    show (match h[r]? with
      | some (.lst xs) => (xs.mapM (Mini.toD h (n + 1))).map PyData.list
      | some (.dic kvs) => _
      | _ => none) = _
    rw [e]
    show ((W.map Val.int).mapM (Mini.toD h (n + 1))).map PyData.list = _
    rw [int_toD]
    rfl
theorem IsW.pre {h' : MH} (x : IsW h v W) (p : Pre h h') : IsW h' v W := by
  rcases x with rfl | rfl | ⟨r, rfl, e⟩
  · exact .inl rfl
  · exact .inr (.inl rfl)
  · exact .inr (.inr ⟨r, rfl, p.get e⟩)
theorem ixs_in (hw : InR m W) : (W.map PyData.int).all (ixD m) = true := by
  rw [List.all_map, List.all_eq_true]
  intro a ha
  have := hw a ha
  simp [ixD, this.1, this.2]
theorem unt_w (u : Val) : untV (tupW W u) = tupI W := by
  cases u <;> rfl
theorem need_word_w (x : IsW h v W) (hw : InR m W) (hl : W.length ≤ 400) : ∃ h', Pre h h' ∧ (sys PG (k + 5)).call 7 [v, .int m, .str s] h = .ok (tupW W v) h' := by
  rw [call_s (r := r7) rfl rfl, run_fn (by rfl)]
  obtain ⟨d, e, sd, it⟩ := x.toD (n := 0)
  obtain ⟨h', p, e1⟩ := is_word_ok (k := k) (m := m) e (by rw [it, List.length_map]; omega)
  have hd : wordD m d = true := by
    unfold wordD ixsD
    rw [sd, it, ixs_in hw, List.length_map]
    simpa using hl
  rw [hd] at e1
  have e2 : btupV h' v = some (tupW W v, h') := by
    rcases x.pre p with rfl | rfl | ⟨r, rfl, e9⟩
    · rfl
    · rfl
    · show (isList h' (.ref r)).map _ = _
      simp only [isList, e9]
      rfl
  refine ⟨h', p, ?_⟩
  simp -implicitDefEqProofs [fnR, r7, c7, e1, tru, e2]
theorem toD_unt {v : Val} (e : Mini.toD h n v = some d) : untV v = v := by
  cases v with
  | tp xs =>
    cases n <;> cases e
  | _ => rfl
theorem need_word_b (e : toD h (n + 1) v = some d) (hl : (itemsD d).length ≤ 100000) (hw : wordD m d = false) : ∃ h', Pre h h' ∧ (sys PG (k + 5)).call 7 [v, .int m, .str s] h = .exc 3 [.str s, v] h' := by
  rw [call_s (r := r7) rfl rfl, run_fn (by rfl)]
  obtain ⟨h', p, e1⟩ := is_word_ok (k := k) (m := m) e hl
  rw [hw] at e1
  have ra := fun (σ : MF) (h : MH) => rais2 (k := k + 4) (σ := σ) (h := h) (a := .str s) (b := v) (by decide) flds3 rfl (toD_dat e)
  have un := toD_unt e
  refine ⟨h', p, ?_⟩
  simp -implicitDefEqProofs [-raF, fnR, r7, c7, un, e1, tru, ra]
/-! ### counts, lots, turned words -/
def cntI (n : Nat) (W : List Int) : List Int := (List.range n).map fun (j : Nat) => ((W.count (j : Int) : Nat) : Int)
theorem intsV_map : ∀ {W : List Int}, intsV (W.map .int) = some W
  | [] => rfl
  | a :: W => by
    show (intsV (W.map Val.int)).map _ = _
    rw [intsV_map]
    rfl
def cntF (W : List Int) : Val → Option Val
  | .int i => some (.int (W.count i : Nat))
  | _ => none
theorem counts_in_ok {j : Nat} (hj : j ≤ 1000) : ∃ h', Pre h h' ∧ (sys PG (k + 1)).call 12 [.int j, .tp (W.map .int)] h = .ok (tupI (cntI j W)) h' := by
  rw [call_s (r := r12) rfl rfl, run_fn (by rfl)]
  have ei : evI (sys PG k) (.rng1 (.v 0)) [some (.int j), some (.tp (W.map .int)), none] h = .ok (.items ((List.range (j : Int).toNat).map fun (k : Nat) => .int k)) h := I_rng (n := j) (by simp) ⟨by omega, by omega⟩
  rw [Int.toNat_natCast] at ei
  obtain ⟨h', p, e1⟩ := lc_items (Γ := sys PG k) (vs := [2]) (e := .mth .count (.v 1) (.cons (.v 2) .nil)) (t := .tv 2) (c := .nil) (g := cntF W) ei (by simp; omega)
    (fun x hx h1 _ => by
      obtain ⟨i, _, rfl⟩ := List.mem_map.mp hx
      refine ⟨h1, .refl, lcT0 ?_⟩
      have a1 : mtTy .count h1 (.tp (W.map .int)) = true := rfl
      have a2 : mtV .count h1 (.tp (W.map .int)) [.int i] = some (.int (W.count (i : Int) : Nat), h1) := by
        show (intsV (W.map Val.int)).map _ = _
        rw [intsV_map]
        rfl
      simp -implicitDefEqProofs [wipeM, a1, a2])
    (fun x hx y hy => by
      obtain ⟨i, _, rfl⟩ := List.mem_map.mp hx
      cases hy
      rfl)
  have e2 : evE (sys PG k) c12_l0 [some (.int j), some (.tp (W.map .int)), none] h = .ok (.ref h'.length) (h' ++ [.lst ((cntI j W).map .int)]) := by
    have e3 : ((List.range j).map fun (k : Nat) => Val.int k).filterMap (cntF W) = (cntI j W).map .int := by
      unfold cntI
      rw [List.filterMap_map, List.map_map]
      exact fm_map
    rw [← e3]
    exact e1
  have t1 : biV (sys PG k) .tuple (h' ++ [.lst ((cntI j W).map .int)]) [.ref h'.length] = some (tupI (cntI j W), h' ++ [.lst ((cntI j W).map .int)]) := tup_seq (by simp [isSeq, isList])
  refine ⟨h' ++ [.lst ((cntI j W).map .int)], p.trans .app, ?_⟩
  simp -implicitDefEqProofs [fnR, r12, c12, e2, t1]
theorem letters_ok {j : Nat} (h1 : 1 ≤ j) (h3 : j ≤ 3) : (sys PG (k + 3)).call 6 [.int j] h = .ok .non h := by
  rw [need_letters_ok (n := 1) (d := .int j) rfl]
  have : btwD 1 3 (.int j) = true := by simp [btwD]; omega
  rw [this]
  rfl
theorem counts_of_ok {j : Nat} (x : IsW h v W) (hv : v ≠ tupI W) (hw : InR j W) (hl : W.length ≤ 400) (h1 : 1 ≤ j) (h3 : j ≤ 3) : ∃ h', Pre h h' ∧ (sys PG (k + 6)).call 13 [.int j, v] h = .ok (tupI (cntI j W)) h' := by
  rw [call_s (r := r13) rfl rfl, run_fn (by rfl)]
  have a1 := letters_ok (k := k + 2) (h := h) h1 h3
  obtain ⟨h2, p2, e2⟩ := need_word_w (k := k) (s := "word") x hw hl
  obtain ⟨h4, p4, e4⟩ := counts_in_ok (k := k + 4) (h := h2) (W := W) (j := j) (by omega)
  have e5 : tupW W v = .tp (W.map .int) := by
    rcases x with rfl | rfl | ⟨r, rfl, _⟩
    · exact absurd rfl hv
    · rfl
    · rfl
  rw [e5] at e2
  refine ⟨h4, p2.trans p4, ?_⟩
  simp -implicitDefEqProofs [fnR, r13, c13, a1, e2, e4]
theorem lot_of_ok {j : Nat} (x : IsW h v W) (hw : InR j W) (hl : W.length < 64) (h1 : 1 ≤ j) (h3 : j ≤ 3) : ∃ h', Pre h h' ∧ (sys PG (k + 6)).call 15 [.int j, v] h = .ok (tupI (sortU W)) h' := by
  rw [call_s (r := r15) rfl rfl, run_fn (by rfl)]
  have a1 := letters_ok (k := k + 2) (h := h) h1 h3
  obtain ⟨h2, p2, e2⟩ := need_word_w (k := k) (s := "word") x hw (by omega)
  have e3 : ssetV h2 (tupI W) = some (.ref h2.length, h2 ++ [.lst ((sortU W).map .int)]) := by
    show (intsV (W.map Val.int)).bind _ = _
    rw [intsV_map]
    show guardO (decide (W.length < 64)) _ = _
    rw [decide_eq_true hl]
    rfl
  have t1 : biV (sys PG (k + 4)) .tuple (h2 ++ [.lst ((sortU W).map .int)]) [.ref h2.length] = some (tupI (sortU W), h2 ++ [.lst ((sortU W).map .int)]) := tup_seq (by simp [isSeq, isList])
  have e4 : (sys PG (k + 5)).call 14 [tupW W v] h2 = .ok (tupI (sortU W)) (h2 ++ [.lst ((sortU W).map .int)]) := by
    rw [call_s (r := r14) rfl rfl, run_fn (by rfl)]
    simp -implicitDefEqProofs [fnR, r14, c14, unt_w, e3, t1]
  refine ⟨h2 ++ [.lst ((sortU W).map .int)], p2.trans .app, ?_⟩
  simp -implicitDefEqProofs [fnR, r15, c15, a1, e2, e4]
theorem rev_tupI : revV h (tupI W) = some (tupI W.reverse, h) := by
  show some (Val.tup (W.map Val.int).reverse, h) = _
  rw [← List.map_reverse]
  rfl
theorem turned_ok {j : Nat} (x : IsW h v W) (hw : InR j W) (hl : W.length ≤ 400) (h1 : 1 ≤ j) (h3 : j ≤ 3) : ∃ h', Pre h h' ∧ (sys PG (k + 6)).call 17 [.int j, v] h = .ok (tupI W.reverse) h' := by
  rw [call_s (r := r17) rfl rfl, run_fn (by rfl)]
  have a1 := letters_ok (k := k + 2) (h := h) h1 h3
  obtain ⟨h2, p2, e2⟩ := need_word_w (k := k) (s := "word") x hw hl
  have e3 := rev_tupI (h := h2) (W := W)
  refine ⟨h2, p2, ?_⟩
  simp -implicitDefEqProofs [fnR, r17, c17, a1, e2, unt_w, e3]
theorem mul_tupI {t : Nat} (ht : t ≤ 1000) (hl : W.length ≤ 1000) : bop .mul h (tupI W) (.int t) = some (tupI (List.replicate t W).flatten, h) := by
  show guardO (decide (-1000000 ≤ (t : Int)) && (decide ((t : Int) ≤ 1000) && decide ((W.map Val.int).length ≤ 1000))) (some (Val.tup (List.replicate (t : Int).toNat (W.map Val.int)).flatten, h)) = _
  have e : (List.replicate t (W.map Val.int)).flatten = (List.replicate t W).flatten.map Val.int := by
    clear ht
    induction t with
    | zero => rfl
    | succ t ih => rw [List.replicate_succ, List.flatten_cons, ih, List.replicate_succ, List.flatten_cons, List.map_append]
  have g : (decide (-1000000 ≤ (t : Int)) && (decide ((t : Int) ≤ 1000) && decide ((W.map Val.int).length ≤ 1000))) = true := by
    simp
    omega
  unfold guardO
  rw [if_pos g, Int.toNat_natCast, e]
  rfl
theorem flds16 : (sys PG k).flds 16 = (["what", "many", "limit"] : List Str) := by rw [s_flds]; rfl
theorem rais3 {σ : MF} {a b c : Val} (ha : dat a = true) (hb : dat b = true) (hc : dat c = true) : raF (sys PG k) 16 σ [a, b, c] h = .ex 16 [a, b, c] σ h := by
  refine raF_ ?_
  rw [flds16, isx_ (by decide)]
  simp [ha, hb, hc]
theorem power_of_ok {j t : Nat} (x : IsW h v W) (hw : InR j W) (hl : W.length ≤ 400) (h1 : 1 ≤ j) (h3 : j ≤ 3) (ht : t ≤ 400) : ∃ h', Pre h h' ∧ (sys PG (k + 6)).call 16 [.int j, v, .int t] h = if W.length * t ≤ 400 then .ok (tupI (List.replicate t W).flatten) h' else .exc 16 [.str "letters", .int (W.length * t : Nat), .int 400] h' := by
  rw [call_s (r := r16) rfl rfl, run_fn (by rfl)]
  have a1 := letters_ok (k := k + 2) (h := h) h1 h3
  obtain ⟨h2, p2, e2⟩ := need_word_w (k := k) (s := "word") x hw hl
  have b2 := is_between_ok (k := k + 3) (lo := 0) (hi := 400) (h := h2) (n := 1) (v := .int t) (d := .int t) rfl
  have b3 : btwD 0 400 (.int t) = true := by simp [btwD]; omega
  rw [b3] at b2
  have nl := len_seq (Γ := sys PG (k + 5)) (h := h2) (v := tupI W) (xs := W.map .int) rfl
  rw [List.length_map] at nl
  have m1 : bop .mul h2 (.int W.length) (.int t) = some (.int (W.length * t : Nat), h2) := by
    show guardO (lim64 W.length || lim64 t) (some (Val.int ((W.length : Int) * (t : Int)), h2)) = _
    have : lim64 W.length = true := lim_small (by omega) (by omega)
    rw [this, Int.natCast_mul]
    rfl
  have m2 := mul_tupI (h := h2) (t := t) (W := W) (by omega) (by omega)
  have ra := fun (σ : MF) => rais3 (k := k + 5) (σ := σ) (h := h2) (a := .str "letters") (b := .int (W.length * t : Nat)) (c := .int 400) rfl rfl rfl
  refine ⟨h2, p2, ?_⟩
  by_cases hz : W.length * t ≤ 400
  · have hz' : ¬ (400 : Int) < ((W.length * t : Nat) : Int) := by omega
    rw [if_pos hz]
    generalize hM : ((W.length * t : Nat) : Int) = M at *
    simp -implicitDefEqProofs [-raF, fnR, r16, c16, a1, e2, b2, unt_w, nl, m1, m2, cop, ltV, hz', tru]
  · have hz' : (400 : Int) < ((W.length * t : Nat) : Int) := by omega
    rw [if_neg hz]
    generalize hM : ((W.length * t : Nat) : Int) = M at *
    simp -implicitDefEqProofs [-raF, fnR, r16, c16, a1, e2, b2, unt_w, nl, m1, m2, cop, ltV, hz', tru, ra]
end
end Law
set_option Elab.async false
set_option linter.all false
set_option maxRecDepth 100000
set_option maxHeartbeats 8000000
namespace Law
open PySem Mini
section
variable {k n p c : Nat} {h h0 : MH} {v w u : Val} {d dw : PyData} {m : Int} {cells : List Int} {W : List Int} {s : Str}
/-- all words of a length, in order -/
def AW (j : Nat) : Nat → List (List Int)
  | 0 => [[]]
  | n + 1 => (AW j n).flatMap fun w => (List.range j).map fun (a : Nat) => w ++ [(a : Int)]
theorem AW_len (j : Nat) : ∀ n, (AW j n).length = j ^ n
  | 0 => rfl
  | n + 1 => by
    have : ∀ l : List (List Int), (l.flatMap fun w => (List.range j).map fun (a : Nat) => w ++ [(a : Int)]).length = l.length * j := fun l => by
      induction l with
      | nil => simp
      | cons x l ih => rw [List.flatMap_cons, List.length_append, ih, List.length_map, List.length_range, List.length_cons, Nat.succ_mul]; omega
    rw [AW, this, AW_len j n, Nat.pow_succ]
theorem AW_in (j : Nat) : ∀ n, ∀ w ∈ AW j n, w.length = n ∧ InR j w
  | 0, w, hw => by
    simp [AW] at hw
    subst hw
    exact ⟨rfl, by simp [InR]⟩
  | n + 1, w, hw => by
    obtain ⟨x, hx, hy⟩ := List.mem_flatMap.mp hw
    obtain ⟨a, ha, rfl⟩ := List.mem_map.mp hy
    obtain ⟨l, ix⟩ := AW_in j n x hx
    refine ⟨by rw [List.length_append, l]; rfl, fun b hb => ?_⟩
    rcases List.mem_append.mp hb with z | z
    · exact ix b z
    · rw [List.mem_singleton.mp z]
      have := List.mem_range.mp ha
      omega
theorem lc2R_pure {turn : Val → List Val → MH → Res (List Val)} {g : Val → List Val} {r N : Nat} {h : MH} {xs : List Val} (hr : h[r]? = some (.lst xs)) (hx : ∀ x ∈ xs, ∀ acc, acc.length + (g x).length ≤ N → turn x acc h = .ok (acc ++ g x) h) :
    ∀ (m i : Nat) (acc : List Val), xs.length - i < m → i ≤ xs.length → acc.length + ((xs.drop i).flatMap g).length ≤ N → lc2R turn r m i acc h = .ok (acc ++ (xs.drop i).flatMap g) h := by
  intro m
  induction m with
  | zero => intro i acc h1; omega
  | succ m ih =>
    intro i acc h1 h2 h3
    by_cases hi : i < xs.length
    · have e : xs[i]? = some xs[i] := List.getElem?_eq_getElem hi
      rw [List.drop_eq_getElem_cons hi, List.flatMap_cons, List.length_append] at h3
      rw [lc2R_some hr e, hx _ (List.getElem_mem hi) acc (by omega), List.drop_eq_getElem_cons hi, List.flatMap_cons]
      show lc2R turn r m (i + 1) (acc ++ g xs[i]) h = _
      rw [ih (i + 1) (acc ++ g xs[i]) (by omega) (by omega) (by rw [List.length_append]; omega), List.append_assoc]
    · rw [lc2R]
      have e : xs[i]? = none := List.getElem?_eq_none (Nat.le_of_not_lt hi)
      simp only [hr, e]
      rw [List.drop_eq_nil_of_le (Nat.le_of_not_lt hi)]
      simp
theorem turn2_ok {r : Out} {σ : MF} {h1 h3 : MH} {test : MF → MH → Res Val} {it : MF → MH → Res Walk} {inner : MF → Walk → List Val → MH → Res (List Val)} {acc : List Val} {w : Walk} (er : r = .nx σ h1) (ei : it σ h1 = .ok w h3) : turn2 true r test it inner acc = inner σ w acc h3 := by
  subst er
  have : turn2 true (.nx σ h1) test it inner acc = (noExc (it σ h1)).bind fun w h3 => inner σ w acc h3 := rfl
  rw [this, ei]
  rfl
theorem lc2_eval {Γ : Sys} {vs vs1 : List Nat} {e t it c t1 it1 c1 : C} {σ : MF} {h h1 h' : MH} {r : Nat} {ys : List Val} (ei : evI Γ it σ h = .ok (.live r) h1) (el : lc2R (lc2TF Γ vs e t c vs1 t1 it1 c1 σ) r FUEL 0 [] h1 = .ok ys h') (hd : ys.all dat = true) : evE Γ (.lc2 vs e t it c vs1 t1 it1 c1) σ h = .ok (.ref h'.length) (h' ++ [.lst ys]) := by
  rw [E_lc2, bd_, ei, b_ok]
  unfold lc2F walk2
  dsimp only
  rw [el]
  exact lcE_ hd
theorem rng_map {j : Nat} : (List.range (j : Int).toNat).map (fun (k : Nat) => Val.int k) = (List.range j).map fun (k : Nat) => Val.int k := by rw [Int.toNat_natCast]
theorem all_turn {Γ : Sys} {j : Nat} {w : List Int} {acc : List Val} {a b x3 : Option Val} (hj : j ≤ 1000) (hw : w.length ≤ 900) (ha : acc.length + j ≤ 1000000) :
    lc2TF Γ [4, 5] (.op .add (.v 4) (.tup (.cons (.v 5) .nil))) (.tv 4) .nil [5] (.tv 5) (.rng1 (.v 0)) .nil [some (.int j), a, b, x3, none, none] (tupI w) acc h = .ok (acc ++ (List.range j).map fun (a : Nat) => tupI (w ++ [(a : Int)])) h := by
  have ei : evI Γ (.rng1 (.v 0)) [some (.int j), a, b, x3, some (tupI w), none] h = .ok (.items ((List.range j).map fun (k : Nat) => .int k)) h := by
    rw [← rng_map]
    exact I_rng (n := j) (by simp) ⟨by omega, by omega⟩
  unfold lc2TF
  rw [show isNil .nil = true from rfl, turn2_ok (σ := [some (.int j), a, b, x3, some (tupI w), none]) (h1 := h) (by rw [G_tv]; rfl) ei]
  unfold walkAcc
  dsimp only
  have lp := lc_pure (turn := fun y h5 => lcTurn (isNil .nil) (asg Γ (.tv 5) y (wipeM [some (.int j), a, b, x3, some (tupI w), none] [5]) h5) (evE Γ .nil) (evE Γ (.op .add (.v 4) (.tup (.cons (.v 5) .nil))))) (h := h) (g := fun y => match y with
    | Val.int i => some (tupI (w ++ [i]))
    | _ => none) ((List.range j).map fun (k : Nat) => Val.int k) acc (fun y hy => by
      obtain ⟨i, _, rfl⟩ := List.mem_map.mp hy
      have t0 : tupF [.int i] h = .ok (.tup [.int i]) h := tupF_ rfl
      have ad : bop .add h (tupI w) (.tup [.int i]) = some (tupI (w ++ [(i : Int)]), h) := by
        show guardO (fits ((w.map Val.int).length + 1)) (some (Val.tup (w.map Val.int ++ [Val.int i]), h)) = _
        rw [List.length_map, fit_s (n := w.length + 1) (by omega)]
        unfold tupI
        rw [List.map_append]
        rfl
      have := lcT0 (Γ := Γ) (vs := [5]) (e := .op .add (.v 4) (.tup (.cons (.v 5) .nil))) (i := 5) (σ := [some (.int j), a, b, x3, some (tupI w), none]) (x := .int i) (h := h) (y := tupI (w ++ [(i : Int)])) (h' := h) (by simp -implicitDefEqProofs [-tupF, wipeM, t0, ad])
      exact this) (by
      rw [List.length_map, List.length_range]
      exact Nat.le_trans ha (by decide))
  have e9 : ((List.range j).map fun (k : Nat) => Val.int k).filterMap (fun y => match y with
    | Val.int i => some (tupI (w ++ [i]))
    | _ => none) = (List.range j).map fun (a : Nat) => tupI (w ++ [(a : Int)]) := by
    rw [List.filterMap_map]
    exact fm_map
  rw [e9] at lp
  exact lp
theorem AW_step {Γ : Sys} {j i r : Nat} {a x3 : Option Val} (hj : j ≤ 3) (hi : i ≤ 400) (hm : j ^ (i + 1) ≤ 10000) (hm0 : j ^ i ≤ 10000) (hr : h[r]? = some (.lst ((AW j i).map tupI))) :
    evE Γ c8_l0 [some (.int j), a, some (.ref r), x3, none, none] h = .ok (.ref h.length) (h ++ [.lst ((AW j (i + 1)).map tupI)]) := by
  have ei : evI Γ (.each (.v 2)) [some (.int j), a, some (.ref r), x3, none, none] h = .ok (.live r) h := I_e (x := .ref r) (by simp) (by simp only [walkOf, hr])
  obtain ⟨g, hg⟩ : ∃ g : Val → List Val, g = fun x => match x with
    | .tup ys => (List.range j).map fun (a : Nat) => Val.tup (ys ++ [.int a])
    | _ => [] := ⟨_, rfl⟩
  have gt : ∀ w : List Int, g (tupI w) = (List.range j).map fun (a : Nat) => tupI (w ++ [(a : Int)]) := fun w => by
    rw [hg]
    refine List.map_congr_left fun a _ => ?_
    unfold tupI
    rw [List.map_append]
    rfl
  have fm : ((AW j i).map tupI).flatMap g = (AW j (i + 1)).map tupI := by
    rw [AW, List.flatMap_map, List.map_flatMap]
    congr 1
    funext w
    show g (tupI w) = _
    rw [gt, List.map_map]
    rfl
  have ln : (((AW j i).map tupI).flatMap g).length ≤ 20000 := by
    rw [fm, List.length_map, AW_len]
    omega
  have lp := lc2R_pure (turn := lc2TF Γ [4, 5] (.op .add (.v 4) (.tup (.cons (.v 5) .nil))) (.tv 4) .nil [5] (.tv 5) (.rng1 (.v 0)) .nil [some (.int j), a, some (.ref r), x3, none, none]) (g := g) (N := 20000) hr (fun x hx acc ha => by
    obtain ⟨w, hw, rfl⟩ := List.mem_map.mp hx
    rw [gt, List.length_map, List.length_range] at ha
    rw [gt]
    exact all_turn (by omega) (by rw [(AW_in j i w hw).1]; omega) (by omega)) FUEL 0 [] (by
      rw [List.length_map, AW_len]
      exact Nat.lt_of_le_of_lt (by omega : j ^ i - 0 ≤ 10000) (by decide)) (Nat.zero_le _) (by simpa using ln)
  rw [List.drop_zero, List.nil_append, fm] at lp
  exact lc2_eval ei lp tupIs_dat
theorem pow_mono {j i n : Nat} (hj : 1 ≤ j) (h : i ≤ n) : j ^ i ≤ j ^ n := Nat.pow_le_pow_right hj h
theorem all_loop {Γ : Sys} {j n : Nat} (h1 : 1 ≤ j) (hj : j ≤ 3) (hn : n ≤ 400) (hm : j ^ n ≤ 4096) : ∀ (xs : List Val) (i r : Nat) (h : MH) (x3 : Option Val), i + xs.length = n → h[r]? = some (.lst ((AW j i).map tupI)) →
    ∃ h' r' y3, Pre h h' ∧ h'[r']? = some (.lst ((AW j n).map tupI)) ∧ forL (turnF Γ (.tv 3) c8_3) xs [some (.int j), some (.int n), some (.ref r), x3, none, none] h = .nx [some (.int j), some (.int n), some (.ref r'), y3, none, none] h'
  | [], i, r, h, x3, hl, hr => by
    have : i = n := by simpa using hl
    subst this
    exact ⟨h, r, x3, .refl, hr, rfl⟩
  | x :: xs, i, r, h, x3, hl, hr => by
    rw [List.length_cons] at hl
    have b1 : j ^ (i + 1) ≤ 4096 := Nat.le_trans (pow_mono h1 (by omega)) hm
    have b0 : j ^ i ≤ 4096 := Nat.le_trans (pow_mono h1 (by omega)) hm
    have e1 := AW_step (Γ := Γ) (a := some (.int n)) (x3 := some x) hj (by omega) (by omega) (by omega) hr
    obtain ⟨h', r', y3, p, g, e2⟩ := all_loop h1 hj hn hm xs (i + 1) h.length (h ++ [.lst ((AW j (i + 1)).map tupI)]) (some x) (by omega) get_new
    refine ⟨h', r', y3, Pre.app.trans p, g, ?_⟩
    have e3 : turnF Γ (.tv 3) c8_3 x [some (.int j), some (.int n), some (.ref r), x3, none, none] h = .nx [some (.int j), some (.int n), some (.ref h.length), some x, none, none] (h ++ [.lst ((AW j (i + 1)).map tupI)]) := by
      clear e2 p g
      generalize (AW j (i + 1)).map tupI = Z at *
      simp -implicitDefEqProofs [turnF, e1]
    rw [nx_for e3]
    exact e2
theorem all_words_ok {j n : Nat} (h1 : 1 ≤ j) (hj : j ≤ 3) (hn : n ≤ 400) (hm : j ^ n ≤ 4096) : ∃ h', Pre h h' ∧ (sys PG (k + 1)).call 8 [.int j, .int n] h = .ok (.tup ((AW j n).map tupI)) h' := by
  rw [call_s (r := r8) rfl rfl, run_fn (by rfl)]
  have lf : lstF [.tup []] h = .ok (.ref h.length) (h ++ [.lst [.tup []]]) := lstF_ rfl
  have t0 : tupF [] h = .ok (.tup []) h := tupF_ rfl
  have ei : evI (sys PG k) (.rng1 (.v 1)) [some (.int j), some (.int n), some (.ref h.length), none, none, none] (h ++ [.lst [.tup []]]) = .ok (.items ((List.range n).map fun (k : Nat) => .int k)) (h ++ [.lst [.tup []]]) := by
    rw [← rng_map]
    exact I_rng (n := n) (by simp) ⟨by omega, by omega⟩
  obtain ⟨h', r', y3, p, g, e⟩ := all_loop (Γ := sys PG k) h1 hj hn hm ((List.range n).map fun (k : Nat) => .int k) 0 h.length (h ++ [.lst [.tup []]]) none (by simp) (by simp [AW, tupI])
  have t1 : biV (sys PG k) .tuple h' [.ref r'] = some (.tup ((AW j n).map tupI), h') := tup_seq (by simp only [isSeq, isList, g])
  refine ⟨h', Pre.app.trans p, ?_⟩
  generalize (AW j n).map tupI = Z at *
  generalize ((List.range n).map fun (k : Nat) => Val.int k) = Y at *
  simp -implicitDefEqProofs [-lstF, -tupF, fnR, r8, c8, lf, t0, ei, e, t1]
/-! ### how many -/
theorem many_loop {Γ : Sys} {j n : Nat} (hj : j ≤ 1000) : ∀ (xs : List Val) (i : Nat) (x3 : Option Val), ∃ y3, forL (turnF Γ (.tv 3) c10_3) xs [some (.int j), some (.int n), some (.int (j ^ i : Nat)), x3] h = .nx [some (.int j), some (.int n), some (.int (j ^ (i + xs.length) : Nat)), y3] h
  | [], i, x3 => ⟨x3, rfl⟩
  | x :: xs, i, x3 => by
    obtain ⟨y3, e⟩ := many_loop (n := n) hj xs (i + 1) (some x)
    refine ⟨y3, ?_⟩
    have m1 : bop .imul h (.int (j ^ i : Nat)) (.int j) = some (.int (j ^ (i + 1) : Nat), h) := by
      show guardO (lim64 (j ^ i : Nat) || lim64 j) (some (Val.int (((j ^ i : Nat) : Int) * (j : Int)), h)) = _
      have : lim64 j = true := lim_small (by omega) (by omega)
      rw [this, Bool.or_true, Nat.pow_succ, Int.natCast_mul]
      rfl
    have e3 : turnF Γ (.tv 3) c10_3 x [some (.int j), some (.int n), some (.int (j ^ i : Nat)), x3] h = .nx [some (.int j), some (.int n), some (.int (j ^ (i + 1) : Nat)), some x] h := by
      generalize ((j ^ i : Nat) : Int) = A at *
      generalize ((j ^ (i + 1) : Nat) : Int) = B at *
      simp -implicitDefEqProofs [turnF, m1]
    rw [nx_for e3, e, List.length_cons]
    have : i + 1 + xs.length = i + (xs.length + 1) := by omega
    rw [this]
theorem how_many_ok {j n : Nat} (hj : j ≤ 1000) (hn : n ≤ 1000) : (sys PG (k + 1)).call 10 [.int j, .int n] h = .ok (.int (j ^ n : Nat)) h := by
  rw [call_s (r := r10) rfl rfl, run_fn (by rfl)]
  have ei : evI (sys PG k) (.rng1 (.v 1)) [some (.int j), some (.int n), some (.int 1), none] h = .ok (.items ((List.range n).map fun (k : Nat) => .int k)) h := by
    rw [← rng_map]
    exact I_rng (n := n) (by simp) ⟨by omega, by omega⟩
  obtain ⟨y3, e⟩ := many_loop (Γ := sys PG k) (h := h) (j := j) (n := n) hj ((List.range n).map fun (k : Nat) => .int k) 0 none
  rw [List.length_map, List.length_range, Nat.zero_add] at e
  have e' : forL (turnF (sys PG k) (.tv 3) c10_3) ((List.range n).map fun (k : Nat) => .int k) [some (.int j), some (.int n), some (.int 1), none] h = _ := e
  generalize ((j ^ n : Nat) : Int) = A at *
  generalize ((List.range n).map fun (k : Nat) => Val.int k) = Y at *
  simp -implicitDefEqProofs [fnR, r10, c10, ei, e']
theorem words_of_ok {j n : Nat} (h1 : 1 ≤ j) (hj : j ≤ 3) (hn : n ≤ 400) : ∃ h', Pre h h' ∧ (sys PG (k + 4)).call 11 [.int j, .int n] h = if j ^ n ≤ 4096 then .ok (.tup ((AW j n).map tupI)) h' else .exc 16 [.str "words", .int (j ^ n : Nat), .int 4096] h' := by
  rw [call_s (r := r11) rfl rfl, run_fn (by rfl)]
  have a1 := letters_ok (k := k) (h := h) h1 hj
  have b2 := is_between_ok (k := k + 1) (lo := 0) (hi := 400) (h := h) (n := 1) (v := .int n) (d := .int n) rfl
  have b3 : btwD 0 400 (.int n) = true := by simp [btwD]; omega
  rw [b3] at b2
  have hm := how_many_ok (k := k + 2) (h := h) (j := j) (n := n) (by omega) (by omega)
  by_cases hz : j ^ n ≤ 4096
  · obtain ⟨h', p, e⟩ := all_words_ok (k := k + 2) (h := h) h1 hj hn hz
    refine ⟨h', p, ?_⟩
    rw [if_pos hz]
    have hz' : ¬ (4096 : Int) < ((j ^ n : Nat) : Int) := by omega
    have nf : (sys PG (k + 3)).call 9 [.int (j ^ n : Nat)] h = .ok .non h := by
      rw [call_s (r := r9) rfl rfl, run_fn (by rfl)]
      generalize ((j ^ n : Nat) : Int) = A at *
      simp -implicitDefEqProofs [fnR, r9, c9, cop, ltV, hz', tru]
    generalize ((j ^ n : Nat) : Int) = A at *
    generalize (AW j n).map tupI = Z at *
    simp -implicitDefEqProofs [fnR, r11, c11, a1, b2, hm, nf, e, tru]
  · refine ⟨h, .refl, ?_⟩
    rw [if_neg hz]
    have hz' : (4096 : Int) < ((j ^ n : Nat) : Int) := by omega
    have ra := fun (σ : MF) => rais3 (k := k + 2) (σ := σ) (h := h) (a := .str "words") (b := .int (j ^ n : Nat)) (c := .int 4096) rfl rfl rfl
    have nf : (sys PG (k + 3)).call 9 [.int (j ^ n : Nat)] h = .exc 16 [.str "words", .int (j ^ n : Nat), .int 4096] h := by
      rw [call_s (r := r9) rfl rfl, run_fn (by rfl)]
      generalize ((j ^ n : Nat) : Int) = A at *
      simp -implicitDefEqProofs [-raF, fnR, r9, c9, cop, ltV, hz', tru, ra]
    generalize ((j ^ n : Nat) : Int) = A at *
    simp -implicitDefEqProofs [fnR, r11, c11, a1, b2, hm, nf, tru]
end
end Law
set_option Elab.async false
set_option linter.all false
set_option maxRecDepth 100000
set_option maxHeartbeats 8000000
namespace Law
open PySem Mini
def flT : Nat → List Str
  | 1 => ["what", "number"]
  | 2 => ["what", "row"]
  | 3 => ["what", "word"]
  | 4 => ["what"]
  | 5 => ["what"]
  | 6 => ["what"]
  | 7 => ["kind"]
  | 8 => ["what"]
  | 9 => ["name"]
  | 10 => ["line", "token"]
  | 11 => ["what", "index"]
  | 12 => ["name"]
  | 13 => ["name"]
  | 14 => ["what"]
  | 15 => ["paper"]
  | 16 => ["what", "many", "limit"]
  | 17 => ["promise", "witness"]
  | _ => []
theorem s_fl {k c : Nat} (h : c < 20) : (sys PG k).flds c = flT c := by
  rw [s_flds]
  match c, h with
  | 0, _ => rfl
  | 1, _ => rfl
  | 2, _ => rfl
  | 3, _ => rfl
  | 4, _ => rfl
  | 5, _ => rfl
  | 6, _ => rfl
  | 7, _ => rfl
  | 8, _ => rfl
  | 9, _ => rfl
  | 10, _ => rfl
  | 11, _ => rfl
  | 12, _ => rfl
  | 13, _ => rfl
  | 14, _ => rfl
  | 15, _ => rfl
  | 16, _ => rfl
  | 17, _ => rfl
  | 18, _ => rfl
  | 19, _ => rfl
  | n + 20, h => exact absurd h (by omega)
theorem isi_c {k : Nat} {h : MH} {c d : Nat} {fs : List Val} (hd : d < 20) : biV (sys PG k) .isinstance h [.exn c fs, .cls d] = some (.bl ((fam.ups c).contains d), h) := by
  have e : (sys PG k).isx d = true := by
    rw [s_isx]
    exact decide_eq_true hd
  have e2 : (sys PG k).sub c d = (fam.ups c).contains d := by rw [s_sub]; rfl
  simp -implicitDefEqProofs [biV, biIsi, isInst, e, e2, guardO]
theorem isi_v {k : Nat} {h : MH} {c : Nat} {fs : List Val} : biV (sys PG k) .isinstance h [.exn c fs, .ty "ValueError"] = some (.bl true, h) := by
  simp -implicitDefEqProofs [biV, biIsi, isInst, excTypes, guardO]
/-- what is told of a kind -/
def dueV (n : Nat) (a b c : Val) (sa sb : Str) : Val := match n with
  | 0 => .tup [.str "number", a, .str sb]
  | 1 => .tup [.str "row", a, .str sb]
  | 2 => .tup [.str "word", a, .str sb]
  | 3 => .tup [.str "place", a, .str sb]
  | 4 => .tup [.str "pattern", a]
  | 5 => .tup [.str "machine", a]
  | 6 => .tup [.str "table", a]
  | 7 => .tup [.str "book", a]
  | 8 => .tup [.str "unlike", a]
  | 9 => .tup [.str "notthere", a]
  | 10 => .tup [.str "kind", .str sa]
  | 11 => .tup [.str "badname", .str sa]
  | 12 => .tup [.str "noname", .str sa]
  | 13 => .tup [.str "taken", .str sa]
  | 14 => .tup [.str "text", a, b]
  | 15 => .tup [.str "kept", a, b]
  | 16 => .tup [.str "many", a, b, c]
  | 17 => .tup [.str "undo"]
  | _ => .tup [.str "redo"]
/-- the class that is raised -/
def clsV (n : Nat) : Nat := [1, 2, 3, 11, 4, 5, 6, 8, 14, 15, 7, 9, 12, 13, 10, 17, 16, 18, 19].getD n 0
def argV (n : Nat) (a b c : Val) : List Val := if n < 4 ∨ n = 14 ∨ n = 15 then [a, b] else if n = 16 then [a, b, c] else if n = 17 ∨ n = 18 then [] else [a]
theorem F1_0 : (flT 1).idxOf? ("what" : Str) = some 0 := by decide +kernel
theorem F1_1 : (flT 1).idxOf? ("number" : Str) = some 1 := by decide +kernel
theorem F2_0 : (flT 2).idxOf? ("what" : Str) = some 0 := by decide +kernel
theorem F2_1 : (flT 2).idxOf? ("row" : Str) = some 1 := by decide +kernel
theorem F3_0 : (flT 3).idxOf? ("what" : Str) = some 0 := by decide +kernel
theorem F3_1 : (flT 3).idxOf? ("word" : Str) = some 1 := by decide +kernel
theorem F4_0 : (flT 4).idxOf? ("what" : Str) = some 0 := by decide +kernel
theorem F5_0 : (flT 5).idxOf? ("what" : Str) = some 0 := by decide +kernel
theorem F6_0 : (flT 6).idxOf? ("what" : Str) = some 0 := by decide +kernel
theorem F7_0 : (flT 7).idxOf? ("kind" : Str) = some 0 := by decide +kernel
theorem F8_0 : (flT 8).idxOf? ("what" : Str) = some 0 := by decide +kernel
theorem F9_0 : (flT 9).idxOf? ("name" : Str) = some 0 := by decide +kernel
theorem F10_0 : (flT 10).idxOf? ("line" : Str) = some 0 := by decide +kernel
theorem F10_1 : (flT 10).idxOf? ("token" : Str) = some 1 := by decide +kernel
theorem F11_0 : (flT 11).idxOf? ("what" : Str) = some 0 := by decide +kernel
theorem F11_1 : (flT 11).idxOf? ("index" : Str) = some 1 := by decide +kernel
theorem F12_0 : (flT 12).idxOf? ("name" : Str) = some 0 := by decide +kernel
theorem F13_0 : (flT 13).idxOf? ("name" : Str) = some 0 := by decide +kernel
theorem F14_0 : (flT 14).idxOf? ("what" : Str) = some 0 := by decide +kernel
theorem F15_0 : (flT 15).idxOf? ("paper" : Str) = some 0 := by decide +kernel
theorem F16_0 : (flT 16).idxOf? ("what" : Str) = some 0 := by decide +kernel
theorem F16_1 : (flT 16).idxOf? ("many" : Str) = some 1 := by decide +kernel
theorem F16_2 : (flT 16).idxOf? ("limit" : Str) = some 2 := by decide +kernel
theorem F17_0 : (flT 17).idxOf? ("promise" : Str) = some 0 := by decide +kernel
theorem F17_1 : (flT 17).idxOf? ("witness" : Str) = some 1 := by decide +kernel
theorem ups_ {c : Nat} (h0 : 0 < c) (h : c < 20) : fam.ups c = [c, 0] := by
  match c, h0, h with
  | 1, _, _ => rfl
  | 2, _, _ => rfl
  | 3, _, _ => rfl
  | 4, _, _ => rfl
  | 5, _, _ => rfl
  | 6, _, _ => rfl
  | 7, _, _ => rfl
  | 8, _, _ => rfl
  | 9, _, _ => rfl
  | 10, _, _ => rfl
  | 11, _, _ => rfl
  | 12, _, _ => rfl
  | 13, _, _ => rfl
  | 14, _, _ => rfl
  | 15, _, _ => rfl
  | 16, _, _ => rfl
  | 17, _, _ => rfl
  | 18, _, _ => rfl
  | 19, _, _ => rfl
  | n + 20, _, h => exact absurd h (by omega)
theorem dT {xs : List Val} : dat (.tup xs) = true := rfl
theorem dS {x : Str} : dat (.str x) = true := rfl
theorem dI {x : Int} : dat (.int x) = true := rfl
theorem szl {n : Nat} (h : n ≤ 1000) : (n < sizeLine) = True := eq_true (Nat.lt_of_le_of_lt h (by decide))
section
variable {k p : Nat} {h : MH} {a b c : Val} {d1 d2 d3 : PyData}
theorem fieldE {F : Nat → List Str} {j : Nat} {fs : List Val} {f : Str} : getFld F h (.exn j fs) f = ((F j).idxOf? f).bind fun i => fs[i]? := rfl
theorem skip {c d : Nat} {fs : List Val} {σ : MF} {body : C} (hd : d < 20) (hn : (fam.ups c).contains d = false) : evS (sys PG k) (.ite (.blt .isinstance (.cons (.v 0) (.cons (.gv (.cls d)) .nil))) body .nil) (some (.exn c fs) :: σ) h = .nx (some (.exn c fs) :: σ) h := by
  have e : biV (sys PG k) .isinstance h [.exn c fs, .cls d] = some (.bl false, h) := by rw [isi_c hd, hn]
  simp -implicitDefEqProofs [e, tru]
theorem more_ok (N1 : Nice p h a d1) (N2 : Nice p h b d2) (N3 : Nice p h c d3) (n : Nat) (h19 : n < 19) : (sys PG (k + 1)).call 24 [.exn (clsV n) (argV n a b c)] h = .ok (.ref h.length) (h ++ [.lst (if clsV n < 11 then [] else [dueV n a b c d1.shown d2.shown])]) := by
  rw [call_s (r := r24) rfl rfl, run_fn (by rfl)]
  have ha := N1.2.1
  have hb := N2.2.1
  have hc := N3.2.1
  have ra := rep_app N1 (t := [.lst []]) (Γ := sys PG k)
  have rb := rep_app N2 (t := [.lst []]) (Γ := sys PG k)
  have n19 : n = 0 ∨ n = 1 ∨ n = 2 ∨ n = 3 ∨ n = 4 ∨ n = 5 ∨ n = 6 ∨ n = 7 ∨ n = 8 ∨ n = 9 ∨ n = 10 ∨ n = 11 ∨ n = 12 ∨ n = 13 ∨ n = 14 ∨ n = 15 ∨ n = 16 ∨ n = 17 ∨ n = 18 := by omega
  rcases n19 with rfl | rfl | rfl | rfl | rfl | rfl | rfl | rfl | rfl | rfl | rfl | rfl | rfl | rfl | rfl | rfl | rfl | rfl | rfl <;>
    simp -implicitDefEqProofs [fnR, r24, c24, ↓skip, isi_c, ups_, clsV, tru, argV, dueV, fit_s, Mini.alloc, mtTy, isLst, mtV, mtAppend, guardO, ha, hb, hc, ra, rb, fieldE, s_fl, F1_0, F1_1, F2_0, F2_1, F3_0, F3_1, F4_0, F5_0, F6_0, F7_0, F8_0, F9_0, F10_0, F10_1, F11_0, F11_1, F12_0, F13_0, F14_0, F15_0, F16_0, F16_1, F16_2, F17_0, F17_1, dT, dS, dI, szl, List.set_append]
theorem kinds_ok (N1 : Nice p h a d1) (N2 : Nice p h b d2) (N3 : Nice p h c d3) (n : Nat) (h19 : n < 19) : ∃ A B, (sys PG (k + 2)).call 23 [.exn (clsV n) (argV n a b c)] h = .ok (.ref (h.length + 2)) (h ++ [.lst A, .lst B, .lst [dueV n a b c d1.shown d2.shown]]) := by
  refine ⟨if clsV n < 11 then [dueV n a b c d1.shown d2.shown] else [], if clsV n < 11 then [] else [dueV n a b c d1.shown d2.shown], ?_⟩
  rw [call_s (r := r23) rfl rfl, run_fn (by rfl)]
  have ha := N1.2.1
  have hb := N2.2.1
  have hc := N3.2.1
  have ra := rep_app N1 (t := [.lst []]) (Γ := sys PG (k + 1))
  have rb := rep_app N2 (t := [.lst []]) (Γ := sys PG (k + 1))
  have e4 := fun t : MH => more_ok (k := k) (N1.later (Later.app (t := t))) (N2.later (Later.app (t := t))) (N3.later (Later.app (t := t))) n h19
  have n19 : n = 0 ∨ n = 1 ∨ n = 2 ∨ n = 3 ∨ n = 4 ∨ n = 5 ∨ n = 6 ∨ n = 7 ∨ n = 8 ∨ n = 9 ∨ n = 10 ∨ n = 11 ∨ n = 12 ∨ n = 13 ∨ n = 14 ∨ n = 15 ∨ n = 16 ∨ n = 17 ∨ n = 18 := by omega
  rcases n19 with rfl | rfl | rfl | rfl | rfl | rfl | rfl | rfl | rfl | rfl | rfl | rfl | rfl | rfl | rfl | rfl | rfl | rfl | rfl <;>
    simp -implicitDefEqProofs [clsV, argV, dueV] at e4 <;>
    simp -implicitDefEqProofs [fnR, r23, c23, ↓skip, isi_c, ups_, clsV, tru, argV, dueV, fit_s, Mini.alloc, mtTy, isLst, mtV, mtAppend, guardO, ha, hb, hc, ra, rb, fieldE, s_fl, F1_0, F1_1, F2_0, F2_1, F3_0, F3_1, F4_0, F5_0, F6_0, F7_0, F8_0, F9_0, F10_0, F10_1, F11_0, F11_1, F12_0, F13_0, F14_0, F15_0, F16_0, F16_1, F16_2, F17_0, F17_1, dT, dS, dI, szl, List.set_append, e4, bop, opAdd]
/-- what is told of an error that a call raises -/
theorem fault_ok (N1 : Nice p h a d1) (N2 : Nice p h b d2) (N3 : Nice p h c d3) (n : Nat) (h19 : n < 19) : ∃ h', Pre h h' ∧ (sys PG (k + 3)).thunk 22 (.exc (clsV n) (argV n a b c) h) = .ok (dueV n a b c d1.shown d2.shown) h' := by
  obtain ⟨A, B, e⟩ := kinds_ok (k := k) N1 N2 N3 n h19
  rw [thunk_s (r := r22) (c := 0) rfl rfl]
  have hx : ∀ j, j < 20 → (sys PG (k + 2)).isx j = true := fun j hj => by
    rw [s_isx]
    exact decide_eq_true hj
  have cl : clsV n < 20 ∧ (fam.ups (clsV n)).contains 0 = true := by
    have n19 : n = 0 ∨ n = 1 ∨ n = 2 ∨ n = 3 ∨ n = 4 ∨ n = 5 ∨ n = 6 ∨ n = 7 ∨ n = 8 ∨ n = 9 ∨ n = 10 ∨ n = 11 ∨ n = 12 ∨ n = 13 ∨ n = 14 ∨ n = 15 ∨ n = 16 ∨ n = 17 ∨ n = 18 := by omega
    rcases n19 with rfl | rfl | rfl | rfl | rfl | rfl | rfl | rfl | rfl | rfl | rfl | rfl | rfl | rfl | rfl | rfl | rfl | rfl | rfl <;> decide
  have hs : (sys PG (k + 2)).sub (clsV n) 0 = true := by
    rw [s_sub]
    exact cl.2
  rw [th_exc (by rw [hx _ cl.1, hx 0 (by decide), hs]; rfl)]
  obtain ⟨t, et⟩ : ∃ t : MH, t = [.lst A, .lst B, .lst [dueV n a b c d1.shown d2.shown]] := ⟨_, rfl⟩
  rw [← et] at e
  have gl : (h ++ t)[h.length + 2]? = some (.lst [dueV n a b c d1.shown d2.shown]) := by
    rw [et]
    simp
  have g0 : getIx (h ++ t) (.ref (h.length + 2)) (.int 0) = some (dueV n a b c d1.shown d2.shown) := by
    rw [get_lst gl (by decide) (by simp)]
    rfl
  have g1 := ge_len gl (Γ := sys PG (k + 2))
  have dd : dat (dueV n a b c d1.shown d2.shown) = true := by
    have n19 : n = 0 ∨ n = 1 ∨ n = 2 ∨ n = 3 ∨ n = 4 ∨ n = 5 ∨ n = 6 ∨ n = 7 ∨ n = 8 ∨ n = 9 ∨ n = 10 ∨ n = 11 ∨ n = 12 ∨ n = 13 ∨ n = 14 ∨ n = 15 ∨ n = 16 ∨ n = 17 ∨ n = 18 := by omega
    rcases n19 with rfl | rfl | rfl | rfl | rfl | rfl | rfl | rfl | rfl | rfl | rfl | rfl | rfl | rfl | rfl | rfl | rfl | rfl | rfl <;> rfl
  refine ⟨h ++ t, .app, ?_⟩
  generalize dueV n a b c d1.shown d2.shown = X at *
  simp -implicitDefEqProofs [r22, c22, e, cop, eqV_int, g1, tru, isi_v, g0, thS, dd]
end
end Law
set_option Elab.async false
set_option linter.all false
set_option maxRecDepth 100000
set_option maxHeartbeats 8000000
namespace Law
open PySem Mini
section
variable {k p c : Nat} {h : MH} {cells : List Int} {m : Int}
theorem draw_ok (P : PenAt h p c cells) (hm : 0 < m) (hm2 : m < 1073741824) :
    ∃ r h', (sys PG (k + 1)).call 19 [.ref p, .int m] h = .ok (.int r) h' ∧ PenAt h' p c cells ∧ Later p h h' ∧ h'.length = h.length ∧ 0 ≤ r ∧ r < m := by
  obtain ⟨r, o, e, P', r1, r2⟩ := draw_body (Γ := sys PG k) P hm hm2
  refine ⟨r, _, ?_, P', Later.set, by simp, r1, r2⟩
  rw [call_s (r := r19) rfl rfl, run_fn (by rfl)]
  exact e
theorem pick_ok {s : Val} {xs : List Val} (P : PenAt h p c cells) (hs : ∀ h', Later p h h' → isSeq h' s = some xs) (h0 : xs ≠ []) (h1 : xs.length ≤ 1000) :
    ∃ (i : Nat) (x : Val) (h' : MH), xs[i]? = some x ∧ (sys PG (k + 2)).call 20 [.ref p, s] h = .ok x h' ∧ PenAt h' p c cells ∧ Later p h h' := by
  have hl : 0 < xs.length := List.length_pos_iff.mpr h0
  obtain ⟨r, h', e, P', l, _, r0, r1⟩ := draw_ok (k := k) (m := xs.length) P (by omega) (by omega)
  have hi : r.toNat < xs.length := by omega
  refine ⟨r.toNat, xs[r.toNat], h', List.getElem?_eq_getElem hi, ?_, P', l⟩
  rw [call_s (r := r20) rfl rfl, run_fn (by rfl)]
  have n1 := len_seq (Γ := sys PG (k + 1)) (hs h .refl)
  have g1 := get_seq (hs h' l) r0 (by omega)
  rw [List.getElem?_eq_getElem hi] at g1
  simp -implicitDefEqProofs [fnR, r20, c20, n1, e, g1]
theorem pen_loop {Γ : Sys} {s : Val} : ∀ (ns : List Int) (f : Int) (x : Option Val), ∃ f' x', forL (turnF Γ (.tv 2) c18_3) (ns.map Val.int) [some s, some (.int f), x] h = .nx [some s, some (.int f'), x'] h
  | [], f, x => ⟨f, x, rfl⟩
  | i :: ns, f, x => by
    obtain ⟨f', x', e⟩ := pen_loop (Γ := Γ) (s := s) ns ((f * 47 + i) % 1000000007) (some (.int i))
    refine ⟨f', x', ?_⟩
    have hl : lim64 47 = true := by decide
    rw [List.map_cons, forL_cons]
    have e1 : turnF Γ (.tv 2) c18_3 (.int i) [some s, some (.int f), x] h = .nx [some s, some (.int ((f * 47 + i) % 1000000007)), some (.int i)] h := by
      simp -implicitDefEqProofs [turnF, bop, opAdd, opMul, opMod, guardO, hl, bi_int]
    rw [e1]
    exact e
theorem pen_ok {ns : List Int} : ∃ f, (sys PG (k + 1)).call 18 [.fl (ns.map Val.int)] [] = .ok (.ref 1) [.lst (ns.map Val.int), .dic (penL 0 0 0 0 f)] := by
  obtain ⟨f, x, e⟩ := pen_loop (h := []) (Γ := sys PG k) (s := .fl (ns.map Val.int)) ns 0 none
  refine ⟨f, ?_⟩
  rw [call_s (r := r18) rfl rfl, run_fn (by rfl)]
  have i1 : evI (sys PG k) (.each (.v 0)) [some (.fl (ns.map Val.int)), some (.int 0), none] [] = .ok (.items (ns.map Val.int)) [] := I_e (x := .fl (ns.map Val.int)) (by simp) rfl
  have b1 : biV (sys PG k) .list [] [.fl (ns.map Val.int)] = some (.ref 0, [.lst (ns.map Val.int)]) := rfl
  have n1 : newDic [.lst (ns.map Val.int)] [.str "cells", .ref 0, .str "at", .int 0, .str "digits", .int 0, .str "count", .int 0, .str "fold", .int f] = some (.ref 1, [.lst (ns.map Val.int), .dic (penL 0 0 0 0 f)]) := rfl
  simp -implicitDefEqProofs [fnR, r18, c18, i1, e, b1, n1]
theorem mul_zeros {n : Nat} (h2 : 2 ≤ n) (h3 : n ≤ 1000) : bop .mul h (.tup [.int 0]) (.int n) = some (tupI (List.replicate n 0), h) := by
  have e : (List.replicate n [Val.int 0]).flatten = (List.replicate n (0 : Int)).map .int := by
    clear h2 h3
    induction n with
    | zero => rfl
    | succ n ih => rw [List.replicate_succ, List.flatten_cons, ih, List.replicate_succ]; rfl
  show opMul h (.tup [.int 0]) (.int n) = _
  have g : (decide (-1000000 ≤ (n : Int)) && (decide ((n : Int) ≤ 1000) && decide ([Val.int 0].length ≤ 1000))) = true := by
    simp
    omega
  show guardO (decide (-1000000 ≤ (n : Int)) && (decide ((n : Int) ≤ 1000) && decide ([Val.int 0].length ≤ 1000))) (some (Val.tup (List.replicate (n : Int).toNat [Val.int 0]).flatten, h)) = _
  unfold guardO
  rw [if_pos g, Int.toNat_natCast, e]
  rfl
/-- the values that are no words -/
def badL (m : Int) (r : Nat) : List Val := [.non, .int 3, .str "ab", .bl true, .tup [.int m], .tup [.int 0, .int (-1)], .tup [.int 0, .non], .tup [.bl true], .tup [.tup [.int 0]], .ref r, tupI (List.replicate 401 0), .tup [.int 0, .str "a"]]
theorem zeros_sz : ∀ n : Nat, szs ((List.replicate n (0 : Int)).map PyData.int) = n * 5
  | 0 => rfl
  | n + 1 => by
    rw [List.replicate_succ, List.map_cons]
    show sz (.int 0) + 2 + szs _ = _
    rw [zeros_sz n]
    show (0 : Int).natAbs.log2 + 3 + 2 + n * 5 = _
    have : (0 : Int).natAbs.log2 = 0 := by decide
    omega
theorem zeros_show (n : Nat) : (tupD (List.replicate n 0)).showable = true := by
  unfold tupD
  simp only [PyData.showable]
  induction n with
  | zero => rfl
  | succ n ih =>
    rw [List.replicate_succ, List.map_cons]
    simp only [PyData.showableAll, ih]
    decide
theorem zeros_txt (n : Nat) : txt (tupD (List.replicate n 0)) := by
  unfold tupD
  simp only [txt]
  induction n with
  | zero => simp [txts]
  | succ n ih =>
    rw [List.replicate_succ, List.map_cons]
    simp only [txts, txt, ih, and_self]
theorem zeros_nice {n : Nat} (hn : n ≤ 1000) : Nice p h (tupI (List.replicate n 0)) (tupD (List.replicate n 0)) := by
  refine nice_of (fun _ _ => toD_tupI) rfl (zeros_show n) (zeros_txt n) ?_
  unfold tupD
  simp only [sz]
  rw [zeros_sz]
  omega
theorem bad_pick {r : Nat} (hr : r ≠ p) (h0 : 1 ≤ m) (h3 : m ≤ 3) {i : Nat} {v : Val} (e : (badL m r)[i]? = some v) (hd : ∀ h', Later p h h' → h'[r]? = some (.dic [])) : ∃ d, Nice p h v d ∧ wordD m d = false ∧ smallD d := by
  have hi : i < 12 := (List.getElem?_eq_some_iff.mp e).1
  have sm : ∀ d, (itemsD d).length ≤ 1000 → (∀ o ∈ itemsD d, itemsD o = [] ∨ itemsD o = [.int 0]) → smallD d := fun d a b => ⟨a, fun o ho => by
    rcases b o ho with z | z
    · rw [z]
      exact ⟨by simp, by simp⟩
    · rw [z]
      exact ⟨by simp, by simp [itemsD]⟩⟩
  have ml : m.natAbs.log2 ≤ 1 := by
    have : m = 1 ∨ m = 2 ∨ m = 3 := by omega
    rcases this with rfl | rfl | rfl <;> decide
  match i, hi, e with
  | 0, _, e => cases e; exact ⟨.none, nice_of (fun _ _ => rfl) rfl rfl (by simp only [txt]) (by simp only [sz]; decide), rfl, sm _ (by simp [itemsD]) (by simp [itemsD])⟩
  | 1, _, e => cases e; exact ⟨.int 3, nice_of (fun _ _ => rfl) rfl (by decide) (by simp only [txt]) (by simp only [sz]; decide), rfl, sm _ (by simp [itemsD]) (by simp [itemsD])⟩
  | 2, _, e => cases e; exact ⟨.str "ab", str_nice (by decide), rfl, sm _ (by simp [itemsD]) (by simp [itemsD])⟩
  | 3, _, e => cases e; exact ⟨.bool true, nice_of (fun _ _ => rfl) rfl rfl (by simp only [txt]) (by simp only [sz]; decide), rfl, sm _ (by simp [itemsD]) (by simp [itemsD])⟩
  | 4, _, e =>
    cases e
    refine ⟨.tuple [.int m], nice_of (fun _ _ => rfl) rfl ?_ (by simp only [txt, txts, and_self]) (by simp only [sz, szs]; omega), ?_, sm _ (by simp [itemsD]) (by simp [itemsD])⟩
    · have : m = 1 ∨ m = 2 ∨ m = 3 := by omega
      rcases this with rfl | rfl | rfl <;> decide
    · simp [wordD, ixsD, itemsD, ixD]
  | 5, _, e => cases e; exact ⟨.tuple [.int 0, .int (-1)], nice_of (fun _ _ => rfl) rfl (by decide) (by simp only [txt, txts, and_self]) (by simp only [sz, szs]; decide), by simp [wordD, ixsD, itemsD, ixD], sm _ (by simp [itemsD]) (by simp [itemsD])⟩
  | 6, _, e => cases e; exact ⟨.tuple [.int 0, .none], nice_of (fun _ _ => rfl) rfl (by decide) (by simp only [txt, txts, and_self]) (by simp only [sz, szs]; decide), by simp [wordD, ixsD, itemsD, ixD], sm _ (by simp [itemsD]) (by simp [itemsD])⟩
  | 7, _, e => cases e; exact ⟨.tuple [.bool true], nice_of (fun _ _ => rfl) rfl (by decide) (by simp only [txt, txts, and_self]) (by simp only [sz, szs]; decide), by simp [wordD, ixsD, itemsD, ixD], sm _ (by simp [itemsD]) (by simp [itemsD])⟩
  | 8, _, e => cases e; exact ⟨.tuple [.tuple [.int 0]], nice_of (fun _ _ => rfl) rfl (by decide) (by simp only [txt, txts, and_self]) (by simp only [sz, szs]; decide), by simp [wordD, ixsD, itemsD, ixD], sm _ (by simp [itemsD]) (by simp [itemsD])⟩
  | 9, _, e =>
    cases e
    refine ⟨.dict [], ⟨fun h' l n hn => ?_, rfl, by decide, by simp only [txt, txtk], by simp only [sz, szk]; decide⟩, rfl, sm _ (by simp [itemsD]) (by simp [itemsD])⟩
    obtain ⟨q, rfl⟩ := Nat.exists_eq_add_of_le' hn
    simp only [toD, hd h' l]
    rfl
  | 10, _, e =>
    cases e
    refine ⟨tupD (List.replicate 401 0), zeros_nice (by decide), ?_, sm _ ?_ fun o ho => ?_⟩
    · have : (itemsD (tupD (List.replicate 401 0))).length = 401 := by
        show ((List.replicate 401 (0 : Int)).map PyData.int).length = 401
        rw [List.length_map, List.length_replicate]
      unfold wordD
      rw [this]
      simp
    · show ((List.replicate 401 (0 : Int)).map PyData.int).length ≤ 1000
      rw [List.length_map, List.length_replicate]
      decide
    · obtain ⟨j, _, rfl⟩ := List.mem_map.mp (show o ∈ (List.replicate 401 (0 : Int)).map PyData.int from ho)
      exact .inl rfl
  | 11, _, e => cases e; exact ⟨.tuple [.int 0, .str "a"], nice_of (fun _ _ => rfl) rfl (by decide) (by simp only [txt, txts, and_true]; exact ⟨trivial, good_of _⟩) (by simp only [sz, szs]; decide), by simp [wordD, ixsD, itemsD, ixD], sm _ (by simp [itemsD]) (by simp [itemsD])⟩
theorem bad_word_ok (P : PenAt h p c cells) (h0 : 1 ≤ m) (h3 : m ≤ 3) : ∃ v d h', (sys PG (k + 3)).call 26 [.ref p, .int m] h = .ok v h' ∧ PenAt h' p c cells ∧ Later p h h' ∧ Nice p h' v d ∧ wordD m d = false ∧ smallD d := by
  have lt := P.lt
  obtain ⟨h1, e1⟩ : ∃ h1, h1 = h ++ [.dic []] ++ [.lst (badL m h.length)] := ⟨_, rfl⟩
  have P1 : PenAt h1 p c cells := by
    rw [e1]
    exact P.app.app
  have l1 : Later p h h1 := by
    rw [e1]
    exact Later.app.trans .app
  have a1 : h1[h.length]? = some (.dic []) := by rw [e1]; simp
  have a2 : h1[h.length + 1]? = some (.lst (badL m h.length)) := by rw [e1]; simp
  obtain ⟨i, x, h2, hx, e2, P2, l2⟩ := pick_ok (k := k) (s := .ref (h.length + 1)) (xs := badL m h.length) P1 (fun h' l => by simp only [isSeq, isList, l.get (by omega) a2]) (by simp [badL]) (by simp [badL])
  obtain ⟨d, N, w, s⟩ := bad_pick (p := p) (h := h2) (by omega) h0 h3 hx fun h' l => (l2.trans l).get (by omega) a1
  refine ⟨x, d, h2, ?_, P2, l1.trans l2, N, w, s⟩
  rw [call_s (r := r26) rfl rfl, run_fn (by rfl)]
  have mz := mul_zeros (h := h ++ [.dic []]) (n := 401) (by decide) (by decide)
  have nd : newDic h [] = some (.ref h.length, h ++ [.dic []]) := rfl
  have lf : lstF [.non, .int 3, .str "ab", .bl true, .tup [.int m], .tup [.int 0, .int (-1)], .tup [.int 0, .non], .tup [.bl true], .tup [.tup [.int 0]], .ref h.length, tupI (List.replicate 401 0), .tup [.int 0, .str "a"]] (h ++ [.dic []]) = .ok (.ref (h.length + 1)) h1 := by
    rw [e1]
    have z : (h ++ [Obj.dic []]).length = h.length + 1 := by simp
    rw [← z]
    exact lstF_ rfl
  have hz : ((401 : Nat) : Int) = 401 := rfl
  rw [hz] at mz
  generalize tupI (List.replicate 401 0) = Z at mz lf
  simp -implicitDefEqProofs [-lstF, fnR, r26, c26, nd, mz, fit_s, dat, lf, e2]
end
end Law
set_option Elab.async false
set_option linter.all false
set_option maxRecDepth 100000
set_option maxHeartbeats 8000000
namespace Law
open PySem Mini
section
variable {k n p c : Nat} {h h0 : MH} {v w u : Val} {d dw : PyData} {m : Int} {cells : List Int} {W : List Int} {s : Str}
/-- the law's own look tells them the same, j calls deep -/
def Same (j : Nat) (v : Val) : Prop := ∀ (k : Nat) (h : MH), ∃ h', Pre h h' ∧ (sys PG (k + j)).call 21 [v, v] h = .ok (.bl true) h'
theorem same_up {j i : Nat} (s : Same j v) (hi : j ≤ i) : Same i v := fun k h => by
  obtain ⟨q, rfl⟩ := Nat.exists_eq_add_of_le' hi
  have := s (k + q) h
  rw [Nat.add_assoc] at this
  exact this
theorem same_int (i : Int) : Same 1 (.int i) := fun k h => by
  rw [call_s (r := r21) rfl rfl, run_fn (by rfl)]
  have b1 := isi_ty (Γ := sys PG k) (n := "tuple") (h := h) (v := .int i) rfl (by decide)
  have b2 := isi_ty (Γ := sys PG k) (n := "str") (h := h) (v := .int i) rfl (by decide)
  have b3 := isi_ty (Γ := sys PG k) (n := "int") (h := h) (v := .int i) rfl (by decide)
  have b4 := isi_ty (Γ := sys PG k) (n := "bool") (h := h) (v := .int i) rfl (by decide)
  rw [show tySub "int" "tuple" = false from rfl] at b1
  rw [show tySub "int" "str" = false from rfl] at b2
  rw [show tySub "int" "int" = true from rfl] at b3
  rw [show tySub "int" "bool" = false from rfl] at b4
  refine ⟨h, .refl, ?_⟩
  simp -implicitDefEqProofs [fnR, r21, c21, b1, b2, b3, b4, tru, cop, isV, eqV_int]
theorem same_tup {j : Nat} {xs : List Val} (hx : ∀ x ∈ xs, Same j x) (hl : xs.length ≤ 1000000) : Same (j + 1) (.tup xs) := fun k h => by
  rw [show k + (j + 1) = (k + j) + 1 by omega, call_s (r := r21) rfl rfl, run_fn (by rfl)]
  have b1 := isi_ty (Γ := sys PG (k + j)) (n := "tuple") (h := h) (v := .tup xs) rfl (by decide)
  rw [show tySub "tuple" "tuple" = true from rfl] at b1
  have n1 := fun h => len_seq (Γ := sys PG (k + j)) (h := h) (v := .tup xs) (xs := xs) rfl
  have ei : evI (sys PG (k + j)) (.rng1 (.blt .len (.cons (.v 1) .nil))) [some (.tup xs), some (.tup xs), none] h = .ok (.items ((List.range xs.length).map fun (k : Nat) => .int k)) h := by
    have := I_rng (Γ := sys PG (k + j)) (a := .blt .len (.cons (.v 1) .nil)) (σ := [some (.tup xs), some (.tup xs), none]) (h := h) (h1 := h) (n := xs.length) (by simp -implicitDefEqProofs [n1]) ⟨by omega, by omega⟩
    rw [Int.toNat_natCast] at this
    exact this
  obtain ⟨h', p, e1⟩ := lc_items (Γ := sys PG (k + j)) (vs := [2]) (e := .v 2) (t := .tv 2) (c := .not (.call 21 (.cons (.ix (.v 0) (.v 2)) (.cons (.ix (.v 1) (.v 2)) .nil)))) (g := fun _ => none) ei (by simp; omega)
    (fun x hx2 h1 _ => by
      obtain ⟨i, hi, rfl⟩ := List.mem_map.mp hx2
      have hi' : i < xs.length := List.mem_range.mp hi
      have g1 : getIx h1 (.tup xs) (.int i) = some xs[i] := by
        rw [get_seq (xs := xs) rfl (by omega) (by omega), Int.toNat_natCast, List.getElem?_eq_getElem hi']
      obtain ⟨h2, p2, e2⟩ := hx _ (List.getElem_mem hi') k h1
      exact ⟨h2, p2, lcT1f rfl (by simp -implicitDefEqProofs [wipeM, g1, e2])⟩)
    (fun x _ y hy => by cases hy)
  have e2 : evE (sys PG (k + j)) c21_l0 [some (.tup xs), some (.tup xs), none] h = .ok (.ref h'.length) (h' ++ [.lst []]) := by
    have : ((List.range xs.length).map fun (k : Nat) => Val.int k).filterMap (fun _ => (none : Option Val)) = [] := by
      generalize ((List.range xs.length).map fun (k : Nat) => Val.int k) = l
      induction l with
      | nil => rfl
      | cons a l ih => rw [List.filterMap_cons]; exact ih
    rw [this] at e1
    exact e1
  have lf : lstF [] (h' ++ [.lst []]) = .ok (.ref (h'.length + 1)) (h' ++ [.lst []] ++ [.lst []]) := by
    rw [lstF_ rfl]
    simp
  have eq := eqV_lnil (h := h' ++ [Obj.lst []] ++ [.lst []]) (r := h'.length) (s := h'.length + 1) (is := []) (by simp) (by simp)
  refine ⟨h' ++ [.lst []] ++ [.lst []], (p.trans .app).trans .app, ?_⟩
  have nn : ∀ z : Int, eqV h (.int z) (.int z) = some true := fun z => by rw [eqV_int]; simp
  generalize h' ++ [Obj.lst []] ++ [.lst []] = H9 at *
  generalize h' ++ [Obj.lst []] = H8 at *
  simp -implicitDefEqProofs [-lstF, fnR, r21, c21, b1, n1, tru, cop, nn, e2, lf, eq]
theorem same_tupI (W : List Int) (hl : W.length ≤ 1000000) : Same 2 (tupI W) := same_tup (fun x hx => by
  obtain ⟨a, _, rfl⟩ := List.mem_map.mp hx
  exact same_int a) (by rw [List.length_map]; exact hl)
theorem same_tups {L : List (List Int)} (h1 : ∀ w ∈ L, w.length ≤ 1000000) (hl : L.length ≤ 1000000) : Same 3 (.tup (L.map tupI)) := same_tup (fun x hx => by
  obtain ⟨w, hw, rfl⟩ := List.mem_map.mp hx
  exact same_tupI w (h1 w hw)) (by rw [List.length_map]; exact hl)
/-! ### told faults -/
theorem s_fn {f : Nat} (hf : PG.isf f = true) : (sys PG k).isf f = true := by rw [s_isf]; exact hf
theorem two_x {f : Nat} {a b A B D : Val} {h1 : MH} {d1 d2 d3 : PyData} {x : Nat} (hf : PG.isf f = true) (hx : x < 19) (e : (sys PG (k + 6)).call f [a, b] h = .exc (clsV x) (argV x A B D) h1) (N1 : Nice p h1 A d1) (N2 : Nice p h1 B d2) (N3 : Nice p h1 D d3) :
    ∃ h', Pre h1 h' ∧ (sys PG (k + 7)).call 32 [.fn f, a, b] h = .ok (dueV x A B D d1.shown d2.shown) h' := by
  obtain ⟨h', q, e2⟩ := fault_ok (k := k + 3) N1 N2 N3 x hx
  have e2' : (sys PG (k + 6)).thunk 22 (.exc (clsV x) (argV x A B D) h1) = _ := e2
  refine ⟨h', q, ?_⟩
  rw [call_s (r := r32) rfl rfl, run_fn (by rfl)]
  generalize dueV x A B D d1.shown d2.shown = R at *
  simp -implicitDefEqProofs [fnR, r32, c32, cvF_ (s_fn (k := k + 6) hf), e, e2']
theorem three_x {f : Nat} {a b c A B D : Val} {h1 : MH} {d1 d2 d3 : PyData} {x : Nat} (hf : PG.isf f = true) (hx : x < 19) (e : (sys PG (k + 6)).call f [a, b, c] h = .exc (clsV x) (argV x A B D) h1) (N1 : Nice p h1 A d1) (N2 : Nice p h1 B d2) (N3 : Nice p h1 D d3) :
    ∃ h', Pre h1 h' ∧ (sys PG (k + 7)).call 33 [.fn f, a, b, c] h = .ok (dueV x A B D d1.shown d2.shown) h' := by
  obtain ⟨h', q, e2⟩ := fault_ok (k := k + 3) N1 N2 N3 x hx
  have e2' : (sys PG (k + 6)).thunk 22 (.exc (clsV x) (argV x A B D) h1) = _ := e2
  refine ⟨h', q, ?_⟩
  rw [call_s (r := r33) rfl rfl, run_fn (by rfl)]
  generalize dueV x A B D d1.shown d2.shown = R at *
  simp -implicitDefEqProofs [fnR, r33, c33, cvF_ (s_fn (k := k + 6) hf), e, e2']
end
end Law
set_option Elab.async false
set_option linter.all false
set_option maxRecDepth 100000
set_option maxHeartbeats 8000000
namespace Law
open PySem Mini
section
variable {k n p c : Nat} {h h0 : MH} {v w u : Val} {d dw : PyData} {m : Int} {cells : List Int} {W : List Int} {s : Str}
theorem word_tp {N : Int} (P : PenAt h p c cells) (hm : 0 < m) (hm2 : m < 1000) (h0 : 0 ≤ N) (h1 : N ≤ 1000) : ∃ W h', (sys PG (k + 2)).call 27 [.ref p, .int m, .int N] h = .ok (.tp (W.map .int)) h' ∧ PenAt h' p c cells ∧ Later p h h' ∧ InR m W ∧ (W.length : Int) ≤ N := by
  obtain ⟨r, h2, e2, P2, l2, _, r0, r1⟩ := draw_ok (k := k) (m := N + 1) P (by omega) (by omega)
  have ei : evI (sys PG (k + 1)) (.rng1 (.call 19 (.cons (.v 0) (.cons (.op .add (.v 2) (.ki 1)) .nil)))) [some (.ref p), some (.int m), some (.int N), none] h = .ok (.items ((List.range r.toNat).map fun (k : Nat) => .int k)) h2 := I_rng (n := r) (by simp -implicitDefEqProofs [bop, opAdd, e2]) ⟨by omega, by omega⟩
  obtain ⟨ys, h3, e3, ⟨P3, l3⟩, py, ly⟩ := lcL_inv (turn := lcTF (sys PG (k + 1)) [3] (.call 19 (.cons (.v 0) (.cons (.v 1) .nil))) (.tv 3) .nil [some (.ref p), some (.int m), some (.int N), none]) (fun h' => PenAt h' p c cells ∧ Later p h h') (fun y => ∃ i, y = .int i ∧ 0 ≤ i ∧ i < m) ((List.range r.toNat).map fun (k : Nat) => Val.int k) [] h2
    (fun x hx h4 ⟨P4, l4⟩ => by
      obtain ⟨j, _, rfl⟩ := List.mem_map.mp hx
      obtain ⟨z, h5, e5, P5, l5, _, z0, z1⟩ := draw_ok (k := k) (m := m) P4 hm (by omega)
      refine ⟨some (.int z), h5, lcT0 ?_, ⟨P5, l4.trans l5⟩, fun y hy => ?_⟩
      · simp -implicitDefEqProofs [wipeM, e5]
      · cases hy
        exact ⟨z, rfl, z0, z1⟩) ⟨P2, l2⟩ (by
      have z : r.toNat ≤ 1001 := by omega
      have z2 : (1001 : Nat) ≤ sizeLine := by decide
      simp
      omega)
  have hw : ∃ W : List Int, ys = W.map Val.int ∧ ∀ w ∈ W, 0 ≤ w ∧ w < m := by
    clear e3 ly
    induction ys with
    | nil => exact ⟨[], rfl, by simp⟩
    | cons y ys ih =>
      obtain ⟨W, rfl, hW⟩ := ih fun z hz => py z (List.mem_cons_of_mem _ hz)
      obtain ⟨i, rfl, i0, i1⟩ := py y List.mem_cons_self
      exact ⟨i :: W, rfl, fun w hw => by
        rcases List.mem_cons.mp hw with rfl | z
        · exact ⟨i0, i1⟩
        · exact hW w z⟩
  obtain ⟨W, rfl, hW⟩ := hw
  have e4 : evE (sys PG (k + 1)) c27_l0 [some (.ref p), some (.int m), some (.int N), none] h = .ok (.ref h3.length) (h3 ++ [.lst (W.map .int)]) := lc_eval ei (by simpa using e3) int_dat
  have t1 : btupV (h3 ++ [.lst (W.map .int)]) (.ref h3.length) = some (.tp (W.map .int), h3 ++ [.lst (W.map .int)]) := by
    show (isList _ (.ref h3.length)).map _ = _
    simp [isList]
  refine ⟨W, h3 ++ [.lst (W.map .int)], ?_, P3.app, l3.trans .app, hW, by simp at ly; omega⟩
  rw [call_s (r := r27) rfl rfl, run_fn (by rfl)]
  simp -implicitDefEqProofs [fnR, r27, c27, e4, t1]
/-! ### all words to a length -/
def extW (j : Nat) (w : List Int) : List (List Int) := (List.range j).map fun (a : Nat) => w ++ [(a : Int)]
def upTo (j n : Nat) : List (List Int) := (List.range (n + 1)).flatMap (AW j)
theorem upTo_succ (j n : Nat) : upTo j (n + 1) = upTo j n ++ AW j (n + 1) := by
  unfold upTo
  rw [List.range_succ, List.flatMap_append]
  simp
theorem upTo_in (j n : Nat) : ∀ w ∈ upTo j n, w.length ≤ n := fun w hw => by
  obtain ⟨q, hq, hw⟩ := List.mem_flatMap.mp hw
  rw [(AW_in j q w hw).1]
  have := List.mem_range.mp hq
  omega
theorem upTo_filter (j : Nat) : ∀ n, (upTo j n).filter (fun w => decide (w.length = n)) = AW j n
  | 0 => rfl
  | n + 1 => by
    rw [upTo_succ, List.filter_append]
    have a : (upTo j n).filter (fun w => decide (w.length = n + 1)) = [] := by
      rw [List.filter_eq_nil_iff]
      intro w hw
      have := upTo_in j n w hw
      simp
      omega
    have b : (AW j (n + 1)).filter (fun w => decide (w.length = n + 1)) = AW j (n + 1) := by
      rw [List.filter_eq_self]
      intro w hw
      simp [(AW_in j (n + 1) w hw).1]
    rw [a, b, List.nil_append]
theorem upTo_len {j : Nat} (hj : j ≤ 3) : ∀ n, n ≤ 4 → (upTo j n).length ≤ 121 ∧ (AW j n).length ≤ 81 := fun n hn => by
  have : ∀ j : Fin 4, ∀ n : Fin 5, (upTo j.1 n.1).length ≤ 121 ∧ (AW j.1 n.1).length ≤ 81 := by decide +kernel
  exact this ⟨j, by omega⟩ ⟨n, by omega⟩
theorem forR_step {turn : Val → MF → MH → Out} {r n i : Nat} {xs : List Val} {x : Val} {σ σ' : MF} {h h' : MH} (hr : h[r]? = some (.lst xs)) (hx : xs[i]? = some x) (e : turn x σ h = .nx σ' h') : forR turn r (n + 1) i σ h = forR turn r n (i + 1) σ' h' := by
  rw [forR]
  simp only [hr, hx, e]
theorem forR_end {turn : Val → MF → MH → Out} {r n i : Nat} {xs : List Val} {σ : MF} {h : MH} (hr : h[r]? = some (.lst xs)) (hx : xs[i]? = none) : forR turn r (n + 1) i σ h = .nx σ h := by
  rw [forR]
  simp only [hr, hx]
theorem ext_eval {Γ : Sys} {j : Nat} {w : List Int} {a b x2 x3 x5 : Option Val} (hj : j ≤ 1000) (hw : w.length ≤ 900) :
    evE Γ c28_l0 [some (.int j), a, b, x2, x3, x5, some (tupI w), none] h = .ok (.ref h.length) (h ++ [.lst ((extW j w).map tupI)]) := by
  have ei : evI Γ (.rng1 (.v 0)) [some (.int j), a, b, x2, x3, x5, some (tupI w), none] h = .ok (.items ((List.range j).map fun (k : Nat) => .int k)) h := by
    rw [← rng_map]
    exact I_rng (n := j) (by simp) ⟨by omega, by omega⟩
  have lp := lc_pure (turn := lcTF Γ [7] (.op .add (.v 6) (.tup (.cons (.v 7) .nil))) (.tv 7) .nil [some (.int j), a, b, x2, x3, x5, some (tupI w), none]) (h := h) (g := fun y => match y with
    | Val.int i => some (tupI (w ++ [i]))
    | _ => none) ((List.range j).map fun (k : Nat) => Val.int k) [] (fun y hy => by
      obtain ⟨i, _, rfl⟩ := List.mem_map.mp hy
      have t0 : tupF [.int i] h = .ok (.tup [.int i]) h := tupF_ rfl
      have ad : bop .add h (tupI w) (.tup [.int i]) = some (tupI (w ++ [(i : Int)]), h) := by
        show guardO (fits ((w.map Val.int).length + 1)) (some (Val.tup (w.map Val.int ++ [Val.int i]), h)) = _
        rw [List.length_map, fit_s (n := w.length + 1) (by omega)]
        unfold tupI
        rw [List.map_append]
        rfl
      exact lcT0 (by simp -implicitDefEqProofs [-tupF, wipeM, t0, ad])) (by
      rw [List.length_map, List.length_range]
      exact Nat.le_trans (by simpa using hj) (by decide : 1000 ≤ sizeLine))
  have e9 : ((List.range j).map fun (k : Nat) => Val.int k).filterMap (fun y => match y with
    | Val.int i => some (tupI (w ++ [i]))
    | _ => none) = (extW j w).map tupI := by
    rw [List.filterMap_map]
    unfold extW
    rw [List.map_map]
    exact fm_map
  rw [e9] at lp
  exact lc_eval ei (by simpa using lp) tupIs_dat
/-- a live list of words that is walked: each is made longer -/
theorem words_inner {Γ : Sys} {j rh rl : Nat} {a b x4 : Option Val} {L : List (List Int)} (hj : j ≤ 3) (hL : L.length ≤ 100) (hw : ∀ w ∈ L, w.length ≤ 900) (ne : rh ≠ rl) : ∀ (i m : Nat) (h : MH) (x6 : Option Val), L.length - i < m → i ≤ L.length → h[rh]? = some (.lst (L.map tupI)) → h[rl]? = some (.lst (((L.take i).flatMap (extW j)).map tupI)) →
    ∃ h' y6, (∀ q o, q ≠ rl → h[q]? = some o → h'[q]? = some o) ∧ h.length ≤ h'.length ∧ h'[rl]? = some (.lst ((L.flatMap (extW j)).map tupI)) ∧ forR (turnF Γ (.tv 6) c28_7) rh m i [some (.int j), a, b, some (.ref rh), x4, some (.ref rl), x6, none] h = .nx [some (.int j), a, b, some (.ref rh), x4, some (.ref rl), y6, none] h' := by
  intro i
  obtain ⟨t, ht⟩ : ∃ t, t = L.length - i := ⟨_, rfl⟩
  induction t generalizing i with
  | zero =>
    intro m h x6 hm hi g1 g2
    have : i = L.length := by omega
    subst this
    obtain ⟨q, rfl⟩ : ∃ q, m = q + 1 := ⟨m - 1, by omega⟩
    refine ⟨h, x6, fun _ _ _ e => e, Nat.le_refl _, ?_, forR_end g1 (by rw [List.getElem?_eq_none (by rw [List.length_map]; omega)])⟩
    rw [List.take_length] at g2
    exact g2
  | succ t ih =>
    intro m h x6 hm hi g1 g2
    have hi2 : i < L.length := by omega
    obtain ⟨q, rfl⟩ : ∃ q, m = q + 1 := ⟨m - 1, by omega⟩
    have ex : (L.map tupI)[i]? = some (tupI L[i]) := by rw [List.getElem?_map, List.getElem?_eq_getElem hi2]; rfl
    have e1 := ext_eval (Γ := Γ) (h := h) (j := j) (w := L[i]) (a := a) (b := b) (x2 := some (.ref rh)) (x3 := x4) (x5 := some (.ref rl)) (by omega) (hw _ (List.getElem_mem hi2))
    have lt : rl < h.length := (List.getElem?_eq_some_iff.mp g2).1
    have g2' : (h ++ [Obj.lst ((extW j L[i]).map tupI)])[rl]? = some (.lst (((L.take i).flatMap (extW j)).map tupI)) := Pre.get .app g2
    have ll : ∀ l : List (List Int), (l.flatMap (extW j)).length = l.length * j := fun l => by
      induction l with
      | nil => simp
      | cons x l ih => rw [List.flatMap_cons, List.length_append, ih, List.length_cons, Nat.succ_mul]; unfold extW; rw [List.length_map, List.length_range]; omega
    have mx := mt_ext g2' get_new (by
      rw [List.length_map, List.length_map, ll, List.length_take]
      have a1 : min i L.length * j ≤ 100 * 3 := Nat.mul_le_mul (by omega) hj
      have a2 : (extW j L[i]).length = j := by unfold extW; rw [List.length_map, List.length_range]
      omega)
    have is : mtTy .extend h (.ref rl) = true := isLst_of g2
    have nw : ((L.take i).flatMap (extW j)).map tupI ++ (extW j L[i]).map tupI = ((L.take (i + 1)).flatMap (extW j)).map tupI := by
      rw [List.take_add_one, List.getElem?_eq_getElem hi2, List.flatMap_append, List.map_append]
      simp
    rw [nw] at mx
    have e2 : turnF Γ (.tv 6) c28_7 (tupI L[i]) [some (.int j), a, b, some (.ref rh), x4, some (.ref rl), x6, none] h = .nx [some (.int j), a, b, some (.ref rh), x4, some (.ref rl), some (tupI L[i]), none] ((h ++ [Obj.lst ((extW j L[i]).map tupI)]).set rl (.lst (((L.take (i + 1)).flatMap (extW j)).map tupI))) := by
      have m2 := mx.2
      clear ih g2' nw mx
      generalize ((L.take (i + 1)).flatMap (extW j)).map tupI = Z at *
      generalize (extW j L[i]).map tupI = Y at *
      simp -implicitDefEqProofs [-mtF, mtF_, turnF, e1, is, m2]
    obtain ⟨h', y6, k1, k2, k3, k4⟩ := ih (i + 1) (by omega) q ((h ++ [Obj.lst ((extW j L[i]).map tupI)]).set rl (.lst (((L.take (i + 1)).flatMap (extW j)).map tupI))) (some (tupI L[i])) (by omega) (by omega) (by
      rw [List.getElem?_set_ne (Ne.symm ne)]
      exact Pre.get .app g1) (by rw [List.getElem?_set_self (by simp; omega)])
    refine ⟨h', y6, fun q o nq e => k1 q o nq ?_, ?_, k3, ?_⟩
    · rw [List.getElem?_set_ne (Ne.symm nq)]
      exact Pre.get .app e
    · simp at k2
      omega
    · rw [forR_step g1 ex e2]
      exact k4
end
end Law
set_option Elab.async false
set_option linter.all false
set_option maxRecDepth 100000
set_option maxHeartbeats 8000000
namespace Law
open PySem Mini
section
variable {k n p c : Nat} {h h0 : MH} {v w u : Val} {d dw : PyData} {m : Int} {cells : List Int} {W : List Int} {s : Str}
theorem keep_pre {h h' : MH} (hl : h.length ≤ h'.length) (e : ∀ i, i < h.length → h'[i]? = h[i]?) : Pre h h' := by
  refine ⟨h'.drop h.length, ?_⟩
  refine List.ext_getElem? fun i => ?_
  by_cases hi : i < h.length
  · rw [e i hi, List.getElem?_append_left hi]
  · rw [List.getElem?_append_right (by omega), List.getElem?_drop]
    congr 1
    omega
theorem words_turn {Γ : Sys} {j n i rf rh : Nat} {x : Val} {x4 x5 x6 : Option Val} (hj : j ≤ 3) (hi : i < 4) (hf : h[rf]? = some (.lst ((upTo j i).map tupI))) (hh : h[rh]? = some (.lst ((AW j i).map tupI))) (ne : rf ≠ rh) (l0 : h0.length ≤ rf ∧ h0.length ≤ rh) (k0 : h0.length ≤ h.length ∧ ∀ q, q < h0.length → h[q]? = h0[q]?) :
    ∃ h' rh' y5 y6, h'[rf]? = some (.lst ((upTo j (i + 1)).map tupI)) ∧ h'[rh']? = some (.lst ((AW j (i + 1)).map tupI)) ∧ rf ≠ rh' ∧ h0.length ≤ rh' ∧ (h0.length ≤ h'.length ∧ ∀ q, q < h0.length → h'[q]? = h0[q]?) ∧
      turnF Γ (.tv 4) c28_11 x [some (.int j), some (.int n), some (.ref rf), some (.ref rh), x4, x5, x6, none] h = .nx [some (.int j), some (.int n), some (.ref rf), some (.ref rh'), some x, y5, y6, none] h' := by
  have ltf : rf < h.length := (List.getElem?_eq_some_iff.mp hf).1
  have lth : rh < h.length := (List.getElem?_eq_some_iff.mp hh).1
  have al := upTo_len hj i (by omega)
  obtain ⟨h1, y6, k1, k2, k3, k4⟩ := words_inner (Γ := Γ) (j := j) (rh := rh) (rl := h.length) (a := some (.int n)) (b := some (.ref rf)) (x4 := some x) (L := AW j i) hj (by omega) (fun w hw => by rw [(AW_in j i w hw).1]; omega) (by omega) 0 FUEL (h ++ [.lst []]) x6 (Nat.lt_of_le_of_lt (by omega : (AW j i).length - 0 ≤ 81) (by decide)) (Nat.zero_le _) (Pre.get .app hh) (by simp)
  have g1 : h1[rf]? = some (.lst ((upTo j i).map tupI)) := k1 rf _ (by omega) (Pre.get .app hf)
  have e3 : (AW j i).flatMap (extW j) = AW j (i + 1) := rfl
  rw [e3] at k3
  have al2 := upTo_len hj (i + 1) (by omega)
  have mx := mt_ext g1 k3 (by rw [List.length_map, List.length_map]; omega)
  rw [← List.map_append, ← upTo_succ] at mx
  have is : mtTy .extend h1 (.ref rf) = true := isLst_of g1
  have lf : lstF [] h = .ok (.ref h.length) (h ++ [.lst []]) := lstF_ rfl
  have ei : evI Γ (.each (.v 3)) [some (.int j), some (.int n), some (.ref rf), some (.ref rh), some x, some (.ref h.length), x6, none] (h ++ [.lst []]) = .ok (.live rh) (h ++ [.lst []]) := I_e (x := .ref rh) (by simp) (by simp only [walkOf, Pre.get (.app : Pre h (h ++ [Obj.lst []])) hh])
  rw [List.length_append] at k2
  refine ⟨h1.set rf (.lst ((upTo j (i + 1)).map tupI)), h.length, some (.ref h.length), y6, by rw [List.getElem?_set_self (by simp at k2; omega)], by rw [List.getElem?_set_ne (by omega)]; exact k3, by omega, by omega, ⟨by rw [List.length_set]; simp at k2; omega, fun q hq => ?_⟩, ?_⟩
  · rw [List.getElem?_set_ne (by omega), ← k0.2 q hq]
    have hq2 : q < h.length := by omega
    rw [k1 q h[q] (by omega) (by rw [List.getElem?_append_left hq2, List.getElem?_eq_getElem hq2]), List.getElem?_eq_getElem hq2]
  · have m2 := mx.2
    clear mx al al2
    generalize (upTo j (i + 1)).map tupI = Z at *
    simp -implicitDefEqProofs [-lstF, -mtF, mtF_, turnF, lf, ei, k4, is, m2]
theorem words_loop {Γ : Sys} {j n rf : Nat} (hj : j ≤ 3) (hn : n ≤ 4) : ∀ (xs : List Val) (i rh : Nat) (h : MH) (x4 x5 x6 : Option Val), i + xs.length = n → h[rf]? = some (.lst ((upTo j i).map tupI)) → h[rh]? = some (.lst ((AW j i).map tupI)) → rf ≠ rh → h0.length ≤ rf ∧ h0.length ≤ rh → (h0.length ≤ h.length ∧ ∀ q, q < h0.length → h[q]? = h0[q]?) →
    ∃ h' y3 y4 y5 y6, h'[rf]? = some (.lst ((upTo j n).map tupI)) ∧ Pre h0 h' ∧ forL (turnF Γ (.tv 4) c28_11) xs [some (.int j), some (.int n), some (.ref rf), some (.ref rh), x4, x5, x6, none] h = .nx [some (.int j), some (.int n), some (.ref rf), y3, y4, y5, y6, none] h'
  | [], i, rh, h, x4, x5, x6, hl, hf, hh, ne, l0, k0 => by
    have : i = n := by simpa using hl
    subst this
    exact ⟨h, _, x4, x5, x6, hf, keep_pre k0.1 k0.2, rfl⟩
  | x :: xs, i, rh, h, x4, x5, x6, hl, hf, hh, ne, l0, k0 => by
    rw [List.length_cons] at hl
    obtain ⟨h1, rh1, y5, y6, a1, a2, a3, a4, a5, e⟩ := words_turn (Γ := Γ) (n := n) (x := x) (x4 := x4) (x5 := x5) (x6 := x6) hj (by omega) hf hh ne l0 k0
    obtain ⟨h2, z3, z4, z5, z6, b1, b2, e2⟩ := words_loop (Γ := Γ) hj hn xs (i + 1) rh1 h1 (some x) y5 y6 (by omega) a1 a2 a3 ⟨l0.1, a4⟩ a5
    exact ⟨h2, z3, z4, z5, z6, b1, b2, by rw [nx_for e]; exact e2⟩
theorem law_words_ok {j n : Nat} (hj : j ≤ 3) (hn : n ≤ 4) : ∃ r h', Pre h h' ∧ h'[r]? = some (.lst ((upTo j n).map tupI)) ∧ (sys PG (k + 1)).call 28 [.int j, .int n] h = .ok (.ref r) h' := by
  rw [call_s (r := r28) rfl rfl, run_fn (by rfl)]
  obtain ⟨h', y3, y4, y5, y6, g, p, e⟩ := words_loop (Γ := sys PG k) (h0 := h) (j := j) (n := n) (rf := h.length) hj hn ((List.range n).map fun (k : Nat) => .int k) 0 (h.length + 1) (h ++ [.lst [.tup []], .lst [.tup []]]) none none none (by simp) (by simp [upTo, AW, tupI, List.range_succ]) (by simp [AW, tupI]) (by omega) ⟨Nat.le_refl _, by omega⟩ ⟨by simp, fun q hq => List.getElem?_append_left hq⟩
  have ei : evI (sys PG k) (.rng1 (.v 1)) [some (.int j), some (.int n), some (.ref h.length), some (.ref (h.length + 1)), none, none, none, none] (h ++ [.lst [.tup []], .lst [.tup []]]) = .ok (.items ((List.range n).map fun (k : Nat) => .int k)) (h ++ [.lst [.tup []], .lst [.tup []]]) := by
    rw [← rng_map]
    exact I_rng (n := n) (by simp) ⟨by omega, by omega⟩
  have t0 : ∀ h' : MH, tupF [] h' = .ok (.tup []) h' := fun _ => tupF_ rfl
  have lf1 : lstF [.tup []] h = .ok (.ref h.length) (h ++ [.lst [.tup []]]) := lstF_ rfl
  have lf2 : lstF [.tup []] (h ++ [.lst [.tup []]]) = .ok (.ref (h.length + 1)) (h ++ [.lst [.tup []], .lst [.tup []]]) := by
    rw [lstF_ rfl]
    simp
  have tf : ∀ h' : MH, tupF [.ref h.length, .ref (h.length + 1)] h' = .ok (.tup [.ref h.length, .ref (h.length + 1)]) h' := fun h' => tupF_ rfl
  have gt : ∀ {σ : MF} {h' : MH}, asg (sys PG k) (.tt (.cons (.tv 2) (.cons (.tv 3) .nil))) (.tup [.ref h.length, .ref (h.length + 1)]) σ h' = _ := G_tt rfl
  refine ⟨h.length, h', p, g, ?_⟩
  generalize ((List.range n).map fun (k : Nat) => Val.int k) = Y at *
  simp -implicitDefEqProofs [-lstF, -tupF, fnR, r28, c28, t0, lf1, lf2, tf, gt, ei, e]
end
end Law
set_option Elab.async false
set_option linter.all false
set_option maxRecDepth 100000
set_option maxHeartbeats 8000000
namespace Law
open PySem Mini
section
variable {k n p c : Nat} {h h0 : MH} {v w u : Val} {d dw : PyData} {m : Int} {cells : List Int} {W : List Int} {s : Str}
theorem forL_all {turn : Val → MF → MH → Out} {xs : List Val} (I : MF → MH → Prop) (step : ∀ x ∈ xs, ∀ σ h, I σ h → ∃ σ' h', turn x σ h = .nx σ' h' ∧ I σ' h') : ∀ (σ : MF) (h : MH), I σ h → ∃ σ' h', forL turn xs σ h = .nx σ' h' ∧ I σ' h' := by
  induction xs with
  | nil => exact fun σ h hI => ⟨σ, h, rfl, hI⟩
  | cons x xs ih =>
    intro σ h hI
    obtain ⟨σ1, h1, e1, I1⟩ := step x List.mem_cons_self σ h hI
    obtain ⟨σ2, h2, e2, I2⟩ := ih (fun y hy => step y (List.mem_cons_of_mem _ hy)) σ1 h1 I1
    exact ⟨σ2, h2, by rw [nx_for e1, e2], I2⟩
theorem eq_strs {a b s : Str} (h1 : goodS a) (h2 : goodS b) (h3 : goodS s) : eqV h (.tup [.str a, .str b, .str s]) (.tup [.str a, .str b, .str s]) = some true := by
  refine eqV_same (d := .tuple [.str a, .str b, .str s]) rfl rfl ?_
  simp [SeqAt.shaped, PyData.canLay0, PyData.canLayAll0, PyData.depth, PyData.depthAll, good_ok h1, good_ok h2, good_ok h3]
/-! ### what is no number of letters -/
def oddL (r : Nat) : List Val := [.int 0, .int 4, .int (-1), .non, .bl true, .str "2", .tup [.int 2], .int 1000000000, .ref r]
theorem odd_pick {r : Nat} (hr : r ≠ p) {i : Nat} {v : Val} (e : (oddL r)[i]? = some v) (hd : ∀ h', Later p h h' → h'[r]? = some (.dic [])) : ∃ d, Nice p h v d ∧ btwD 1 3 d = false := by
  have hi : i < 9 := (List.getElem?_eq_some_iff.mp e).1
  match i, hi, e with
  | 0, _, e => cases e; exact ⟨.int 0, (NV.int (by decide)).nice (by decide) (by decide), rfl⟩
  | 1, _, e => cases e; exact ⟨.int 4, (NV.int (by decide)).nice (by decide) (by decide), rfl⟩
  | 2, _, e => cases e; exact ⟨.int (-1), (NV.int (by decide)).nice (by decide) (by decide), rfl⟩
  | 3, _, e => cases e; exact ⟨.none, NV.non.nice (by decide) (by decide), rfl⟩
  | 4, _, e => cases e; exact ⟨.bool true, NV.bl.nice (by decide) (by decide), rfl⟩
  | 5, _, e => cases e; exact ⟨.str "2", str_nice (by decide), rfl⟩
  | 6, _, e => cases e; exact ⟨.tuple [.int 2], ((NVs.ints (is := [2]) (by simp)).tup).nice (by decide) (by decide), rfl⟩
  | 7, _, e => cases e; exact ⟨.int 1000000000, (NV.int (by decide)).nice (by decide) (by decide), rfl⟩
  | 8, _, e =>
    cases e
    refine ⟨.dict [], ⟨fun h' l n hn => ?_, rfl, by decide, by simp only [txt, txtk], by simp only [sz, szk]; decide⟩, rfl⟩
    obtain ⟨q, rfl⟩ := Nat.exists_eq_add_of_le' hn
    simp only [toD, hd h' l]
    rfl
theorem bad_letters_ok (P : PenAt h p c cells) : ∃ v d h', (sys PG (k + 3)).call 25 [.ref p] h = .ok v h' ∧ PenAt h' p c cells ∧ Later p h h' ∧ Nice p h' v d ∧ btwD 1 3 d = false := by
  have lt := P.lt
  obtain ⟨h1, e1⟩ : ∃ h1, h1 = h ++ [.dic []] ++ [.lst (oddL h.length)] := ⟨_, rfl⟩
  have P1 : PenAt h1 p c cells := by
    rw [e1]
    exact P.app.app
  have l1 : Later p h h1 := by
    rw [e1]
    exact Later.app.trans .app
  have a1 : h1[h.length]? = some (.dic []) := by rw [e1]; simp
  have a2 : h1[h.length + 1]? = some (.lst (oddL h.length)) := by rw [e1]; simp
  obtain ⟨i, x, h2, hx, e2, P2, l2⟩ := pick_ok (k := k) (s := .ref (h.length + 1)) (xs := oddL h.length) P1 (fun h' l => by simp only [isSeq, isList, l.get (by omega) a2]) (by simp [oddL]) (by simp [oddL])
  obtain ⟨d, N, w⟩ := odd_pick (p := p) (h := h2) (by omega) hx fun h' l => (l2.trans l).get (by omega) a1
  refine ⟨x, d, h2, ?_, P2, l1.trans l2, N, w⟩
  rw [call_s (r := r25) rfl rfl, run_fn (by rfl)]
  have nd : newDic h [] = some (.ref h.length, h ++ [.dic []]) := rfl
  have pw : ∀ h', bop .pow h' (.int 10) (.int 9) = some (.int 1000000000, h') := fun h' => rfl
  have lf : lstF [.int 0, .int 4, .int (-1), .non, .bl true, .str "2", .tup [.int 2], .int 1000000000, .ref h.length] (h ++ [.dic []]) = .ok (.ref (h.length + 1)) h1 := by
    rw [e1]
    have z : (h ++ [Obj.dic []]).length = h.length + 1 := by simp
    rw [← z]
    exact lstF_ rfl
  simp -implicitDefEqProofs [-lstF, fnR, r25, c25, nd, pw, fit_s, dat, lf, e2]
/-! ### what is no length, no number of times -/
def wrongL : List Val := [.int (-1), .int 401, .non, .bl true, .str "2", .tup [.int 1]]
theorem wrong_pick {i : Nat} {v : Val} (e : wrongL[i]? = some v) : ∃ d, Nice p h v d ∧ btwD 0 400 d = false := by
  have hi : i < 6 := (List.getElem?_eq_some_iff.mp e).1
  match i, hi, e with
  | 0, _, e => cases e; exact ⟨.int (-1), (NV.int (by decide)).nice (by decide) (by decide), rfl⟩
  | 1, _, e => cases e; exact ⟨.int 401, (NV.int (by decide)).nice (by decide) (by decide), rfl⟩
  | 2, _, e => cases e; exact ⟨.none, NV.non.nice (by decide) (by decide), rfl⟩
  | 3, _, e => cases e; exact ⟨.bool true, NV.bl.nice (by decide) (by decide), rfl⟩
  | 4, _, e => cases e; exact ⟨.str "2", str_nice (by decide), rfl⟩
  | 5, _, e => cases e; exact ⟨.tuple [.int 1], ((NVs.ints (is := [1]) (by simp)).tup).nice (by decide) (by decide), rfl⟩
/-! ### the due errors -/
theorem odd_let (e : toD h n v = some d) (hb : btwD 1 3 d = false) : (sys PG (k + 3)).call 6 [v] h = .exc 1 [.str "letters", v] h := by
  rw [need_letters_ok e, hb]
  rfl
theorem odd_counts (e : toD h n v = some d) (hb : btwD 1 3 d = false) : (sys PG (k + 6)).call 13 [v, w] h = .exc 1 [.str "letters", v] h := by
  rw [call_s (r := r13) rfl rfl, run_fn (by rfl)]
  have a1 := odd_let (k := k + 2) e hb
  simp -implicitDefEqProofs [fnR, r13, c13, a1]
theorem odd_lot (e : toD h n v = some d) (hb : btwD 1 3 d = false) : (sys PG (k + 6)).call 15 [v, w] h = .exc 1 [.str "letters", v] h := by
  rw [call_s (r := r15) rfl rfl, run_fn (by rfl)]
  have a1 := odd_let (k := k + 2) e hb
  simp -implicitDefEqProofs [fnR, r15, c15, a1]
theorem odd_turned (e : toD h n v = some d) (hb : btwD 1 3 d = false) : (sys PG (k + 6)).call 17 [v, w] h = .exc 1 [.str "letters", v] h := by
  rw [call_s (r := r17) rfl rfl, run_fn (by rfl)]
  have a1 := odd_let (k := k + 2) e hb
  simp -implicitDefEqProofs [fnR, r17, c17, a1]
theorem odd_words (e : toD h n v = some d) (hb : btwD 1 3 d = false) : (sys PG (k + 6)).call 11 [v, w] h = .exc 1 [.str "letters", v] h := by
  rw [call_s (r := r11) rfl rfl, run_fn (by rfl)]
  have a1 := odd_let (k := k + 2) e hb
  simp -implicitDefEqProofs [fnR, r11, c11, a1]
theorem odd_power (e : toD h n v = some d) (hb : btwD 1 3 d = false) : (sys PG (k + 6)).call 16 [v, w, u] h = .exc 1 [.str "letters", v] h := by
  rw [call_s (r := r16) rfl rfl, run_fn (by rfl)]
  have a1 := odd_let (k := k + 2) e hb
  simp -implicitDefEqProofs [fnR, r16, c16, a1]
section
variable {j : Nat} (h1 : 1 ≤ j) (h3 : j ≤ 3) (e : toD h (n + 1) w = some d) (hl : (itemsD d).length ≤ 100000) (hw : wordD j d = false)
include h1 h3 e hl hw
theorem bad_counts : ∃ h', Pre h h' ∧ (sys PG (k + 6)).call 13 [.int j, w] h = .exc 3 [.str "word", w] h' := by
  rw [call_s (r := r13) rfl rfl, run_fn (by rfl)]
  have a1 := letters_ok (k := k + 2) (h := h) h1 h3
  obtain ⟨h', p, e2⟩ := need_word_b (k := k) (m := j) (s := "word") e hl hw
  exact ⟨h', p, by simp -implicitDefEqProofs [fnR, r13, c13, a1, e2]⟩
theorem bad_lot_ : ∃ h', Pre h h' ∧ (sys PG (k + 6)).call 15 [.int j, w] h = .exc 3 [.str "word", w] h' := by
  rw [call_s (r := r15) rfl rfl, run_fn (by rfl)]
  have a1 := letters_ok (k := k + 2) (h := h) h1 h3
  obtain ⟨h', p, e2⟩ := need_word_b (k := k) (m := j) (s := "word") e hl hw
  exact ⟨h', p, by simp -implicitDefEqProofs [fnR, r15, c15, a1, e2]⟩
theorem bad_turned : ∃ h', Pre h h' ∧ (sys PG (k + 6)).call 17 [.int j, w] h = .exc 3 [.str "word", w] h' := by
  rw [call_s (r := r17) rfl rfl, run_fn (by rfl)]
  have a1 := letters_ok (k := k + 2) (h := h) h1 h3
  obtain ⟨h', p, e2⟩ := need_word_b (k := k) (m := j) (s := "word") e hl hw
  exact ⟨h', p, by simp -implicitDefEqProofs [fnR, r17, c17, a1, e2]⟩
theorem bad_power : ∃ h', Pre h h' ∧ (sys PG (k + 6)).call 16 [.int j, w, u] h = .exc 3 [.str "word", w] h' := by
  rw [call_s (r := r16) rfl rfl, run_fn (by rfl)]
  have a1 := letters_ok (k := k + 2) (h := h) h1 h3
  obtain ⟨h', p, e2⟩ := need_word_b (k := k) (m := j) (s := "word") e hl hw
  exact ⟨h', p, by simp -implicitDefEqProofs [fnR, r16, c16, a1, e2]⟩
end
theorem wrong_words {j : Nat} (h1 : 1 ≤ j) (h3 : j ≤ 3) (e : toD h n v = some d) (hb : btwD 0 400 d = false) : (sys PG (k + 6)).call 11 [.int j, v] h = .exc 1 [.str "length", v] h := by
  rw [call_s (r := r11) rfl rfl, run_fn (by rfl)]
  have a1 := letters_ok (k := k + 2) (h := h) h1 h3
  have b2 := is_between_ok (k := k + 3) (lo := 0) (hi := 400) e
  rw [hb] at b2
  have ra := fun (σ : MF) => rais2 (k := k + 5) (σ := σ) (h := h) (a := .str "length") (b := v) (by decide) flds1 rfl (toD_dat e)
  simp -implicitDefEqProofs [-raF, fnR, r11, c11, a1, b2, tru, ra]
theorem wrong_power {j : Nat} (x : IsW h w W) (hw : InR j W) (hl : W.length ≤ 400) (h1 : 1 ≤ j) (h3 : j ≤ 3) (e : toD h n v = some d) (hb : btwD 0 400 d = false) : ∃ h', Pre h h' ∧ (sys PG (k + 6)).call 16 [.int j, w, v] h = .exc 1 [.str "times", v] h' := by
  rw [call_s (r := r16) rfl rfl, run_fn (by rfl)]
  have a1 := letters_ok (k := k + 2) (h := h) h1 h3
  obtain ⟨h2, p2, e2⟩ := need_word_w (k := k) (s := "word") x hw hl
  have b2 := is_between_ok (k := k + 3) (lo := 0) (hi := 400) (toD_pre p2 _ _ _ e)
  rw [hb] at b2
  have ra := fun (σ : MF) => rais2 (k := k + 5) (σ := σ) (h := h2) (a := .str "times") (b := v) (by decide) flds1 rfl (toD_dat e)
  exact ⟨h2, p2, by simp -implicitDefEqProofs [-raF, fnR, r16, c16, a1, e2, b2, tru, ra]⟩
end
end Law
set_option Elab.async false
set_option linter.all false
set_option maxRecDepth 100000
set_option maxHeartbeats 8000000
namespace Law
open PySem Mini
section
variable {k n p c : Nat} {h h0 : MH} {v w u : Val} {d dw : PyData} {m : Int} {cells : List Int} {W : List Int} {s : Str}
def t3 (a b : String) (s : Str) : Val := .tup [.str a, .str b, .str s]
def t3D (a b : String) (s : Str) : PyData := .tuple [.str a, .str b, .str s]
theorem t3_eq {a b : String} {s : Str} (hs : goodS s) : eqV h (t3 a b s) (t3 a b s) = some true := eq_strs (good_of _) (good_of _) hs
theorem non_nice : Nice p h .non .none := NV.non.nice (by decide) (by decide)
/-- the fault of a bad number, of a bad word -/
theorem two_num {f : Nat} {a : String} {x y b : Val} {h1 : MH} {db : PyData} (hf : PG.isf f = true) (ha : a.length ≤ 1000) (e : (sys PG (k + 6)).call f [x, y] h = .exc 1 [.str a, b] h1) (N : Nice p h1 b db) : ∃ h', Pre h1 h' ∧ (sys PG (k + 7)).call 32 [.fn f, x, y] h = .ok (t3 "number" a db.shown) h' :=
  two_x (x := 0) (A := .str a) (B := b) (D := .non) hf (by decide) e (str_nice ha) N non_nice
theorem two_word {f : Nat} {a : String} {x y b : Val} {h1 : MH} {db : PyData} (hf : PG.isf f = true) (ha : a.length ≤ 1000) (e : (sys PG (k + 6)).call f [x, y] h = .exc 3 [.str a, b] h1) (N : Nice p h1 b db) : ∃ h', Pre h1 h' ∧ (sys PG (k + 7)).call 32 [.fn f, x, y] h = .ok (t3 "word" a db.shown) h' :=
  two_x (x := 2) (A := .str a) (B := b) (D := .non) hf (by decide) e (str_nice ha) N non_nice
theorem three_num {f : Nat} {a : String} {x y z b : Val} {h1 : MH} {db : PyData} (hf : PG.isf f = true) (ha : a.length ≤ 1000) (e : (sys PG (k + 6)).call f [x, y, z] h = .exc 1 [.str a, b] h1) (N : Nice p h1 b db) : ∃ h', Pre h1 h' ∧ (sys PG (k + 7)).call 33 [.fn f, x, y, z] h = .ok (t3 "number" a db.shown) h' :=
  three_x (x := 0) (A := .str a) (B := b) (D := .non) hf (by decide) e (str_nice ha) N non_nice
theorem three_word {f : Nat} {a : String} {x y z b : Val} {h1 : MH} {db : PyData} (hf : PG.isf f = true) (ha : a.length ≤ 1000) (e : (sys PG (k + 6)).call f [x, y, z] h = .exc 3 [.str a, b] h1) (N : Nice p h1 b db) : ∃ h', Pre h1 h' ∧ (sys PG (k + 7)).call 33 [.fn f, x, y, z] h = .ok (t3 "word" a db.shown) h' :=
  three_x (x := 2) (A := .str a) (B := b) (D := .non) hf (by decide) e (str_nice ha) N non_nice
theorem ref_turn {f j : Nat} {a2 v6 v7 v8 x5 odd bad : Val} {do_ db : PyData} {o6 o7 o8 o5 : Option Val} (hf : PG.isf f = true) (No : Nice p h odd do_) (Nb : Nice p h bad db)
    (e1 : (sys PG (k + 6)).call f [odd, bad] h = .exc 1 [.str "letters", odd] h) (e2 : ∀ h1, Pre h h1 → ∃ h2, Pre h1 h2 ∧ (sys PG (k + 6)).call f [.int j, bad] h1 = .exc 3 [.str "word", bad] h2) :
    ∃ h', Pre h h' ∧ turnF (sys PG (k + 7)) (.tv 5) c31_13 (.fn f) [some (.ref p), some (.int j), some a2, some odd, some bad, o5, o6, o7, o8] h = .nx [some (.ref p), some (.int j), some a2, some odd, some bad, some (.fn f), o6, o7, o8] h' := by
  obtain ⟨h1, p1, q1⟩ := two_num (k := k) (a := "letters") hf (by decide) e1 No
  have No1 := No.later (p1.later (p := p))
  have Nb1 := Nb.later (p1.later (p := p))
  obtain ⟨h2, p2, q2⟩ := e2 h1 p1
  obtain ⟨h3, p3, q3⟩ := two_word (k := k) (a := "word") hf (by decide) q2 (Nb1.later (p2.later (p := p)))
  have Nb3 := (Nb1.later (p2.later (p := p))).later (p3.later (p := p))
  have r1 := rep No1 (Γ := sys PG (k + 7))
  have r3 := rep Nb3 (Γ := sys PG (k + 7))
  have g1 := (shown_le do_ No.2.2.2.1).2
  have g3 := (shown_le db Nb.2.2.2.1).2
  have u1 := t3_eq (h := h1) (a := "number") (b := "letters") g1
  have u3 := t3_eq (h := h3) (a := "word") (b := "word") g3
  have w1 : tupF [.str "number", .str "letters", .str do_.shown] h1 = .ok (t3 "number" "letters" do_.shown) h1 := tupF_ rfl
  have w3 : tupF [.str "word", .str "word", .str db.shown] h3 = .ok (t3 "word" "word" db.shown) h3 := tupF_ rfl
  refine ⟨h3, (p1.trans p2).trans p3, ?_⟩
  simp -implicitDefEqProofs [-tupF, turnF, q1, q3, r1, r3, w1, w3, cop, u1, u3, tru]
theorem eq_five {T1 T2 T4 T5 : Val} {D1 D2 D4 D5 : PyData} {r q : Nat} (hr : h[r]? = some (.lst [T1, T2, T1, T4, T5])) (hq : h[q]? = some (.lst [T1, T2, T1, T4, T5])) (e1 : toD h 59 T1 = some D1) (e2 : toD h 59 T2 = some D2) (e4 : toD h 59 T4 = some D4) (e5 : toD h 59 T5 = some D5) (hs : SeqAt.shaped (.list [D1, D2, D1, D4, D5]) = true) : eqV h (.ref r) (.ref q) = some true := by
  have a : ∀ r, h[r]? = some (.lst [T1, T2, T1, T4, T5]) → toD h 60 (.ref r) = some (.list [D1, D2, D1, D4, D5]) := fun r e => by
    show (match h[r]? with
      | some (.lst xs) => (xs.mapM (toD h 59)).map PyData.list
      | some (.dic kvs) => _
      | _ => none) = _
    rw [e]
    show ([T1, T2, T1, T4, T5].mapM (toD h 59)).map PyData.list = _
    simp [e1, e2, e4, e5]
  exact eqV_same (a r hr) (a q hq) hs
theorem shaped5 {a1 b1 a2 b2 a4 b4 a5 b5 : String} {s1 s2 s4 s5 : Str} (g1 : goodS s1) (g2 : goodS s2) (g4 : goodS s4) (g5 : goodS s5) : SeqAt.shaped (.list [t3D a1 b1 s1, t3D a2 b2 s2, t3D a1 b1 s1, t3D a4 b4 s4, t3D a5 b5 s5]) = true := by
  simp [t3D, SeqAt.shaped, PyData.canLay0, PyData.canLayAll0, PyData.depth, PyData.depthAll, good_ok (good_of _), good_ok g1, good_ok g2, good_ok g4, good_ok g5]
theorem refused_ok {j : Nat} (P : PenAt h p c cells) (h1 : 1 ≤ j) (h3 : j ≤ 3) (x : IsW h w W) (hx : w = .tp (W.map .int)) (hw : InR j W) (hl : W.length ≤ 400) : ∃ h', (sys PG (k + 8)).call 31 [.ref p, .int j, w] h = .ok (.bl true) h' ∧ PenAt h' p c cells ∧ Later p h h' := by
  rw [call_s (r := r31) rfl rfl, run_fn (by rfl)]
  obtain ⟨odd, do_, ha, ea, Pa, la, No, bo⟩ := bad_letters_ok (k := k + 4) P
  obtain ⟨bad, db, hb, eb, Pb, lb, Nb, wb, sb⟩ := bad_word_ok (k := k + 4) (m := j) Pa (by omega) (by omega)
  have ea' : (sys PG (k + 7)).call 25 [.ref p] h = .ok odd ha := ea
  have eb' : (sys PG (k + 7)).call 26 [.ref p, .int j] ha = .ok bad hb := eb
  have No1 := No.later lb
  have sl : (itemsD db).length ≤ 100000 := Nat.le_trans sb.1 (by decide)
  have tf0 : tupF [odd, bad] hb = .ok (.tup [odd, bad]) hb := tupF_ (by
    show (fits 2 && (dat odd && (dat bad && true))) = true
    rw [No.2.1, Nb.2.1]
    rfl)
  -- the three calls
  have isf : PG.isf 13 = true ∧ PG.isf 15 = true ∧ PG.isf 17 = true ∧ PG.isf 11 = true ∧ PG.isf 16 = true := ⟨by rfl, by rfl, by rfl, by rfl, by rfl⟩
  obtain ⟨σ', hc, ec, o5, rfl, pc⟩ := forL_all (turn := turnF (sys PG (k + 7)) (.tv 5) c31_13) (xs := [.fn 13, .fn 15, .fn 17]) (fun σ h' => ∃ o5, σ = [some (.ref p), some (.int j), some w, some odd, some bad, o5, none, none, none] ∧ Pre hb h') (fun y hy σ h' ⟨o5, hs, q⟩ => by
    have No2 := No1.later (q.later (p := p))
    have Nb2 := Nb.later (q.later (p := p))
    have too := No2.1 h' .refl 10 (by decide)
    have tb := fun h1 (q1 : Pre h' h1) => Nb2.1 h1 (q1.later (p := p)) (9 + 1) (by decide)
    rw [hs]
    simp only [List.mem_cons, List.not_mem_nil, or_false] at hy
    rcases hy with rfl | rfl | rfl
    · obtain ⟨h'', q2, e⟩ := ref_turn (k := k) (a2 := w) (v6 := .non) (v7 := .non) (v8 := .non) (x5 := .non) (o5 := o5) (o6 := none) (o7 := none) (o8 := none) isf.1 No2 Nb2 (odd_counts too bo) (fun hq q1 => bad_counts h1 h3 (tb hq q1) sl wb)
      exact ⟨_, h'', e, _, rfl, q.trans q2⟩
    · obtain ⟨h'', q2, e⟩ := ref_turn (k := k) (a2 := w) (v6 := .non) (v7 := .non) (v8 := .non) (x5 := .non) (o5 := o5) (o6 := none) (o7 := none) (o8 := none) isf.2.1 No2 Nb2 (odd_lot too bo) (fun hq q1 => bad_lot_ h1 h3 (tb hq q1) sl wb)
      exact ⟨_, h'', e, _, rfl, q.trans q2⟩
    · obtain ⟨h'', q2, e⟩ := ref_turn (k := k) (a2 := w) (v6 := .non) (v7 := .non) (v8 := .non) (x5 := .non) (o5 := o5) (o6 := none) (o7 := none) (o8 := none) isf.2.2.1 No2 Nb2 (odd_turned too bo) (fun hq q1 => bad_turned h1 h3 (tb hq q1) sl wb)
      exact ⟨_, h'', e, _, rfl, q.trans q2⟩) [some (.ref p), some (.int j), some w, some odd, some bad, none, none, none, none] hb ⟨none, rfl, .refl⟩
  have Pc := Pb.pre pc
  have lf0 : lstF [.int (-1), .int 401, .non, .bl true, .str "2", .tup [.int 1]] hc = .ok (.ref hc.length) (hc ++ [.lst wrongL]) := lstF_ rfl
  have tf1 : ∀ h' : MH, tupF [.int 1] h' = .ok (.tup [.int 1]) h' := fun _ => tupF_ rfl
  have gw : (hc ++ [Obj.lst wrongL])[hc.length]? = some (.lst wrongL) := get_new
  obtain ⟨i, wrong, hd, hi, ed, Pd, ld⟩ := pick_ok (k := k + 5) (s := .ref hc.length) (xs := wrongL) (Pc.app (t := [.lst wrongL])) (fun h' l => by simp only [isSeq, isList, l.get ((Pc.app (t := [.lst wrongL])).ne gw) gw]) (by simp [wrongL]) (by simp [wrongL])
  have ed' : (sys PG (k + 7)).call 20 [.ref p, .ref hc.length] (hc ++ [.lst wrongL]) = .ok wrong hd := ed
  obtain ⟨dw, Nw, ww⟩ := wrong_pick (p := p) (h := hd) hi
  have lcd : Later p hb hd := (pc.later (p := p)).trans (Later.app.trans ld)
  have No3 := No1.later lcd
  have Nb3 := Nb.later lcd
  have xw : ∀ h', IsW h' w W := fun h' => .inr (.inl hx)
  -- the five told faults
  obtain ⟨e1h, p1, q1⟩ := two_num (k := k) (a := "letters") (y := wrong) isf.2.2.2.1 (by decide) (odd_words (No3.1 hd .refl 10 (by decide)) bo) No3
  have Nw1 := Nw.later (p1.later (p := p))
  obtain ⟨e2h, p2, q2⟩ := two_num (k := k) (a := "length") isf.2.2.2.1 (by decide) (wrong_words h1 h3 (Nw1.1 e1h .refl 10 (by decide)) ww) Nw1
  have No5 := (No3.later (p1.later (p := p))).later (p2.later (p := p))
  have Nb5 := (Nb3.later (p1.later (p := p))).later (p2.later (p := p))
  have Nw5 := Nw1.later (p2.later (p := p))
  obtain ⟨e3h, p3, q3⟩ := three_num (k := k) (a := "letters") (y := bad) (z := wrong) isf.2.2.2.2 (by decide) (odd_power (No5.1 e2h .refl 10 (by decide)) bo) No5
  obtain ⟨f3, hf3⟩ : ∃ f3, f3 = e3h ++ [Obj.lst [t3 "number" "letters" do_.shown, t3 "number" "length" dw.shown, t3 "number" "letters" do_.shown]] := ⟨_, rfl⟩
  have pf3 : Pre e3h f3 := by rw [hf3]; exact .app
  have gf3 : f3[e3h.length]? = some (.lst [t3 "number" "letters" do_.shown, t3 "number" "length" dw.shown, t3 "number" "letters" do_.shown]) := by rw [hf3]; exact get_new
  have lf3 : lstF [t3 "number" "letters" do_.shown, t3 "number" "length" dw.shown, t3 "number" "letters" do_.shown] e3h = .ok (.ref e3h.length) f3 := by rw [hf3]; exact lstF_ rfl
  have Nb6 := (Nb5.later (p3.later (p := p))).later (pf3.later (p := p))
  have Nw6 := (Nw5.later (p3.later (p := p))).later (pf3.later (p := p))
  have No6 := (No5.later (p3.later (p := p))).later (pf3.later (p := p))
  obtain ⟨g4, p4, q4⟩ := bad_power (k := k) (u := wrong) h1 h3 (Nb6.1 f3 .refl (9 + 1) (by decide)) sl wb
  obtain ⟨e4h, p5, q5⟩ := three_word (k := k) (a := "word") isf.2.2.2.2 (by decide) q4 (Nb6.later (p4.later (p := p)))
  have Nw7 := (Nw6.later (p4.later (p := p))).later (p5.later (p := p))
  obtain ⟨g6, p6, q6⟩ := wrong_power (k := k) (xw e4h) hw hl h1 h3 (Nw7.1 e4h .refl 10 (by decide)) ww
  obtain ⟨e5h, p7, q7⟩ := three_num (k := k) (a := "times") isf.2.2.2.2 (by decide) q6 (Nw7.later (p6.later (p := p)))
  obtain ⟨f5, hf5⟩ : ∃ f5, f5 = e5h ++ [Obj.lst [t3 "word" "word" db.shown, t3 "number" "times" dw.shown]] := ⟨_, rfl⟩
  have lf5 : lstF [t3 "word" "word" db.shown, t3 "number" "times" dw.shown] e5h = .ok (.ref e5h.length) f5 := by rw [hf5]; exact lstF_ rfl
  have pf5 : Pre e5h f5 := by rw [hf5]; exact .app
  have gf5 : f5[e5h.length]? = some (.lst [t3 "word" "word" db.shown, t3 "number" "times" dw.shown]) := by rw [hf5]; exact get_new
  have p35 : Pre f3 f5 := ((((p4.trans p5).trans p6).trans p7)).trans pf5
  have mx := mt_ext (p35.get gf3) gf5 (show 3 + 2 ≤ 1000 by decide)
  have isl : mtTy .extend f3 (.ref e3h.length) = true := isLst_of gf3
  obtain ⟨f6, hf6⟩ : ∃ f6, f6 = f5.set e3h.length (.lst [t3 "number" "letters" do_.shown, t3 "number" "length" dw.shown, t3 "number" "letters" do_.shown, t3 "word" "word" db.shown, t3 "number" "times" dw.shown]) := ⟨_, rfl⟩
  have mx2 : mtV .extend f5 (.ref e3h.length) [.ref e5h.length] = some (.non, f6) := by rw [hf6]; exact mx.2
  have ltf : e3h.length < f5.length := Nat.lt_of_lt_of_le (List.getElem?_eq_some_iff.mp gf3).1 (Pre.later (p := p) p35).1
  have gf6 : f6[e3h.length]? = some (.lst [t3 "number" "letters" do_.shown, t3 "number" "length" dw.shown, t3 "number" "letters" do_.shown, t3 "word" "word" db.shown, t3 "number" "times" dw.shown]) := by rw [hf6, List.getElem?_set_self ltf]
  have len3 : hd.length ≤ e3h.length := Nat.le_trans (Pre.later (p := p) p1).1 (Nat.le_trans (Pre.later (p := p) p2).1 (Pre.later (p := p) p3).1)
  have lf6 : Later p hd f6 := by
    rw [hf6]
    exact Later.put (((p1.later (p := p)).trans (p2.later (p := p))).trans ((p3.later (p := p)).trans ((pf3.later (p := p)).trans (p35.later (p := p))))) len3
  have No8 := No3.later lf6
  have Nb8 := Nb3.later lf6
  have Nw8 := Nw.later lf6
  have r1 := fun (h' : MH) (l : Later p f6 h') => rep (No8.later l) (Γ := sys PG (k + 7))
  have r2 := fun (h' : MH) (l : Later p f6 h') => rep (Nb8.later l) (Γ := sys PG (k + 7))
  have r3 := fun (h' : MH) (l : Later p f6 h') => rep (Nw8.later l) (Γ := sys PG (k + 7))
  obtain ⟨f7, hf7⟩ : ∃ f7, f7 = f6 ++ [Obj.lst [t3 "number" "letters" do_.shown, t3 "number" "length" dw.shown, t3 "number" "letters" do_.shown]] := ⟨_, rfl⟩
  have lf7 : lstF [t3 "number" "letters" do_.shown, t3 "number" "length" dw.shown, t3 "number" "letters" do_.shown] f6 = .ok (.ref f6.length) f7 := by rw [hf7]; exact lstF_ rfl
  have pf7 : Pre f6 f7 := by rw [hf7]; exact .app
  have gf7 : f7[f6.length]? = some (.lst [t3 "number" "letters" do_.shown, t3 "number" "length" dw.shown, t3 "number" "letters" do_.shown]) := by rw [hf7]; exact get_new
  obtain ⟨f8, hf8⟩ : ∃ f8, f8 = f7 ++ [Obj.lst [t3 "word" "word" db.shown, t3 "number" "times" dw.shown]] := ⟨_, rfl⟩
  have lf8 : lstF [t3 "word" "word" db.shown, t3 "number" "times" dw.shown] f7 = .ok (.ref f7.length) f8 := by rw [hf8]; exact lstF_ rfl
  have pf8 : Pre f7 f8 := by rw [hf8]; exact .app
  have gf8 : f8[f7.length]? = some (.lst [t3 "word" "word" db.shown, t3 "number" "times" dw.shown]) := by rw [hf8]; exact get_new
  obtain ⟨f9, hf9⟩ : ∃ f9, f9 = f8 ++ [Obj.lst [t3 "number" "letters" do_.shown, t3 "number" "length" dw.shown, t3 "number" "letters" do_.shown, t3 "word" "word" db.shown, t3 "number" "times" dw.shown]] := ⟨_, rfl⟩
  have ad : bop .add f8 (.ref f6.length) (.ref f7.length) = some (.ref f8.length, f9) := by
    show opAdd f8 (.ref f6.length) (.ref f7.length) = _
    unfold opAdd
    dsimp only
    rw [pf8.get gf7, gf8, hf9]
    rfl
  have pf9 : Pre f8 f9 := by rw [hf9]; exact .app
  have gf9 : f9[f8.length]? = some (.lst [t3 "number" "letters" do_.shown, t3 "number" "length" dw.shown, t3 "number" "letters" do_.shown, t3 "word" "word" db.shown, t3 "number" "times" dw.shown]) := by rw [hf9]; exact get_new
  have fin := eq_five (h := f9) (((pf7.trans pf8).trans pf9).get gf6) gf9 (D1 := t3D "number" "letters" do_.shown) (D2 := t3D "number" "length" dw.shown) (D4 := t3D "word" "word" db.shown) (D5 := t3D "number" "times" dw.shown) rfl rfl rfl rfl (shaped5 (shown_le do_ No.2.2.2.1).2 (shown_le dw Nw.2.2.2.1).2 (shown_le db Nb.2.2.2.1).2 (shown_le dw Nw.2.2.2.1).2)
  have w1 : ∀ (h' : MH) (a b : String) (s : Str), tupF [.str a, .str b, .str s] h' = .ok (t3 a b s) h' := fun _ _ _ _ => tupF_ rfl
  have rr1 := r1 f6 .refl
  have rr3 := r3 f6 .refl
  have rr2 := r2 f7 (pf7.later)
  have rr4 := r3 f7 (pf7.later)
  have Pf6 : PenAt f6 p c cells := by
    rw [hf6]
    exact (((((Pd.pre p1).pre p2).pre p3).pre pf3).pre p35).set (by
      have := Pd.lt
      omega) (by
      have := Pd.cl
      omega)
  refine ⟨f9, ?_, ((Pf6.pre pf7).pre pf8).pre pf9, (la.trans lb).trans (lcd.trans (lf6.trans ((pf7.later (p := p)).trans ((pf8.later (p := p)).trans pf9.later))))⟩
  have tg : ∀ {σ : MF} {h' : MH}, asg (sys PG (k + 7)) (.tt (.cons (.tv 3) (.cons (.tv 4) .nil))) (.tup [odd, bad]) σ h' = _ := G_tt rfl
  have tfs : tupF [.fn 13, .fn 15, .fn 17] hb = .ok (.tup [.fn 13, .fn 15, .fn 17]) hb := tupF_ rfl
  have ei : evI (sys PG (k + 7)) (.each (.tup (.cons (.gv (.fn 13)) (.cons (.gv (.fn 15)) (.cons (.gv (.fn 17)) .nil))))) [some (.ref p), some (.int j), some w, some odd, some bad, none, none, none, none] hb = .ok (.items [.fn 13, .fn 15, .fn 17]) hb := I_e (x := .tup [.fn 13, .fn 15, .fn 17]) (by simp -implicitDefEqProofs [-tupF, tfs]) rfl
  simp -implicitDefEqProofs [-lstF, -tupF, -mtF, mtF_, fnR, r31, c31, ea', eb', tf0, tg, ei, ec, tf1, lf0, ed', q1, q2, q3, lf3, isl, q5, q7, lf5, mx2, rr1, rr2, rr3, rr4, w1, lf7, lf8, ad, cop, fin]
end
end Law
set_option Elab.async false
set_option linter.all false
set_option maxRecDepth 100000
set_option maxHeartbeats 8000000
namespace Law
open PySem Mini
section
variable {k n p c : Nat} {h h0 : MH} {v w u : Val} {d dw : PyData} {m : Int} {cells : List Int} {W : List Int} {s : Str}
theorem lcL_full {turn : Val → MH → Res (Option Val)} (I : MH → Prop) (P : Val → Prop) : ∀ (xs acc : List Val) (h : MH), (∀ x ∈ xs, ∀ h, I h → ∃ y h', turn x h = .ok (some y) h' ∧ I h' ∧ P y) → I h → acc.length + xs.length ≤ sizeLine → ∃ ys h', lcL turn xs acc h = .ok (acc ++ ys) h' ∧ I h' ∧ (∀ y ∈ ys, P y) ∧ ys.length = xs.length
  | [], acc, h, _, hI, _ => ⟨[], h, by unfold lcL; simp, hI, by simp, rfl⟩
  | x :: xs, acc, h, hx, hI, hl => by
    obtain ⟨y, h2, e2, I2, P2⟩ := hx x List.mem_cons_self h hI
    have hl' : acc.length + (xs.length + 1) ≤ sizeLine := hl
    obtain ⟨ys, h3, e3, I3, P3, l3⟩ := lcL_full I P xs (acc ++ [y]) h2 (fun y hy => hx y (List.mem_cons_of_mem x hy)) I2 (by rw [List.length_append, List.length_singleton]; omega)
    refine ⟨y :: ys, h3, ?_, I3, fun z hz => ?_, by rw [List.length_cons, List.length_cons, l3]⟩
    · rw [lcL_cons, e2]
      show (if acc.length < sizeLine then lcL turn xs (acc ++ [y]) h2 else .bad) = _
      rw [if_pos (by omega), e3, List.append_assoc]
      rfl
    · rcases List.mem_cons.mp hz with rfl | z
      · exact P2
      · exact P3 _ z
def longL : List Int := [1, 2, 4, 5, 8, 10, 16, 20, 25, 40, 50, 80, 100, 200, 400]
def manyV (a : String) (x y : Int) : Val := .tup [.str "many", .str a, .int x, .int y]
def manyD (a : String) (x y : Int) : PyData := .tuple [.str "many", .str a, .int x, .int y]
theorem many_eq {a : String} {x y : Int} : eqV h (manyV a x y) (manyV a x y) = some true := by
  refine eqV_same (d := manyD a x y) rfl rfl ?_
  simp [manyD, SeqAt.shaped, PyData.canLay0, PyData.canLayAll0, PyData.depth, PyData.depthAll, good_ok (good_of _)]
theorem int_nice {i : Int} (hi : i.natAbs < 2 ^ 60) : Nice p h (.int i) (.int i) := (NV.int hi).nice (by decide) (by decide)
theorem words_many {j n : Nat} (h1 : 1 ≤ j) (hj : j ≤ 3) (hn : n ≤ 400) (hm : 4096 < j ^ n) (hm2 : j ^ n < 2 ^ 60) : ∃ h', Pre h h' ∧ (sys PG (k + 7)).call 32 [.fn 11, .int j, .int n] h = .ok (manyV "words" (j ^ n : Nat) 4096) h' := by
  obtain ⟨h2, p2, e2⟩ := words_of_ok (k := k + 2) (h := h) h1 hj hn
  rw [if_neg (by omega)] at e2
  obtain ⟨h3, p3, e3⟩ := two_x (k := k) (p := 0) (x := 16) (A := .str "words") (B := .int (j ^ n : Nat)) (D := .int 4096) (f := 11) (by rfl) (by decide) e2 (str_nice (by decide)) (int_nice (by omega)) (int_nice (by decide))
  exact ⟨h3, p2.trans p3, e3⟩
theorem words_lens {j n : Nat} (h1 : 1 ≤ j) (hj : j ≤ 3) (hn : n ≤ 400) (hm : j ^ n ≤ 4096) : ∃ h' xs, Pre h h' ∧ (sys PG (k + 7)).call 11 [.int j, .int n] h = .ok (.tup xs) h' ∧ xs.length = j ^ n := by
  obtain ⟨h2, p2, e2⟩ := words_of_ok (k := k + 3) (h := h) h1 hj hn
  rw [if_pos hm] at e2
  exact ⟨h2, _, p2, e2, by rw [List.length_map, AW_len]⟩
theorem told_ok {r q : Nat} (hr : h[r]? = some (.lst [.int 1, .int 4096, .int 2187, manyV "words" 8192 4096, manyV "words" 6561 4096])) (hq : h[q]? = some (.lst [.int 1, .int 4096, .int 2187, manyV "words" 8192 4096, manyV "words" 6561 4096])) : eqV h (.ref r) (.ref q) = some true := by
  have a : ∀ r, h[r]? = some (.lst [.int 1, .int 4096, .int 2187, manyV "words" 8192 4096, manyV "words" 6561 4096]) → toD h 60 (.ref r) = some (.list [.int 1, .int 4096, .int 2187, manyD "words" 8192 4096, manyD "words" 6561 4096]) := fun r e => by
    show (match h[r]? with
      | some (.lst xs) => (xs.mapM (toD h 59)).map PyData.list
      | some (.dic kvs) => _
      | _ => none) = _
    rw [e]
    rfl
  refine eqV_same (a r hr) (a q hq) ?_
  simp [manyD, SeqAt.shaped, PyData.canLay0, PyData.canLayAll0, PyData.depth, PyData.depthAll, good_ok (good_of _)]
theorem limits_ok {j : Nat} (P : PenAt h p c cells) (h1 : 1 ≤ j) (h3 : j ≤ 3) : ∃ h', (sys PG (k + 8)).call 30 [.ref p, .int j] h = .ok (.bl true) h' ∧ PenAt h' p c cells ∧ Later p h h' := by
  rw [call_s (r := r30) rfl rfl, run_fn (by rfl)]
  have lf0 : lstF [.int 1, .int 2, .int 4, .int 5, .int 8, .int 10, .int 16, .int 20, .int 25, .int 40, .int 50, .int 80, .int 100, .int 200, .int 400] h = .ok (.ref h.length) (h ++ [.lst (longL.map .int)]) := lstF_ rfl
  have P0 := P.app (t := [.lst (longL.map .int)])
  have g0 : (h ++ [Obj.lst (longL.map Val.int)])[h.length]? = some (.lst (longL.map .int)) := get_new
  obtain ⟨i, x, ha, hi, ea, Pa, la⟩ := pick_ok (k := k + 5) (s := .ref h.length) (xs := longL.map .int) P0 (fun h' l => by simp only [isSeq, isList, l.get (P0.ne g0) g0]) (by simp [longL]) (by simp [longL])
  have ea' : (sys PG (k + 7)).call 20 [.ref p, .ref h.length] (h ++ [.lst (longL.map .int)]) = .ok x ha := ea
  obtain ⟨ln, t, rfl, l1, lt, lm, ldv⟩ : ∃ ln t : Nat, x = .int ln ∧ 1 ≤ ln ∧ ln ≤ 400 ∧ ln * t = 400 ∧ (400 : Int) / (ln : Int) = (t : Int) := by
    rw [List.getElem?_map] at hi
    obtain ⟨a, hq, rfl⟩ := Option.map_eq_some_iff.mp hi
    have hm := List.mem_of_getElem? hq
    unfold longL at hm
    simp only [List.mem_cons, List.not_mem_nil, or_false] at hm
    rcases hm with rfl | rfl | rfl | rfl | rfl | rfl | rfl | rfl | rfl | rfl | rfl | rfl | rfl | rfl | rfl
    · exact ⟨1, 400, rfl, by decide, by decide, by decide, by decide⟩
    · exact ⟨2, 200, rfl, by decide, by decide, by decide, by decide⟩
    · exact ⟨4, 100, rfl, by decide, by decide, by decide, by decide⟩
    · exact ⟨5, 80, rfl, by decide, by decide, by decide, by decide⟩
    · exact ⟨8, 50, rfl, by decide, by decide, by decide, by decide⟩
    · exact ⟨10, 40, rfl, by decide, by decide, by decide, by decide⟩
    · exact ⟨16, 25, rfl, by decide, by decide, by decide, by decide⟩
    · exact ⟨20, 20, rfl, by decide, by decide, by decide, by decide⟩
    · exact ⟨25, 16, rfl, by decide, by decide, by decide, by decide⟩
    · exact ⟨40, 10, rfl, by decide, by decide, by decide, by decide⟩
    · exact ⟨50, 8, rfl, by decide, by decide, by decide, by decide⟩
    · exact ⟨80, 5, rfl, by decide, by decide, by decide, by decide⟩
    · exact ⟨100, 4, rfl, by decide, by decide, by decide, by decide⟩
    · exact ⟨200, 2, rfl, by decide, by decide, by decide, by decide⟩
    · exact ⟨400, 1, rfl, by decide, by decide, by decide, by decide⟩
  have ei : evI (sys PG (k + 7)) (.rng1 (.v 2)) [some (.ref p), some (.int j), some (.int ln), none, none, none] ha = .ok (.items ((List.range ln).map fun (k : Nat) => .int k)) ha := by
    rw [← rng_map]
    exact I_rng (n := ln) (by simp) ⟨by omega, by omega⟩
  obtain ⟨ys, hb, eb, ⟨Pb, lb⟩, py, ly⟩ := lcL_full (turn := lcTF (sys PG (k + 7)) [4] (.call 19 (.cons (.v 0) (.cons (.v 1) .nil))) (.tv 4) .nil [some (.ref p), some (.int j), some (.int ln), none, none, none]) (fun h' => PenAt h' p c cells ∧ Later p ha h') (fun y => ∃ i, y = .int i ∧ 0 ≤ i ∧ i < (j : Int)) ((List.range ln).map fun (k : Nat) => Val.int k) [] ha
    (fun x hx h4 ⟨P4, l4⟩ => by
      obtain ⟨q, _, rfl⟩ := List.mem_map.mp hx
      obtain ⟨z, h5, e5, P5, l5, _, z0, z1⟩ := draw_ok (k := k + 6) (m := j) P4 (by omega) (by omega)
      refine ⟨.int z, h5, lcT0 ?_, ⟨P5, l4.trans l5⟩, z, rfl, z0, z1⟩
      simp -implicitDefEqProofs [wipeM, e5]) ⟨Pa, .refl⟩ (by
      have z2 : (401 : Nat) ≤ sizeLine := by decide
      simp
      omega)
  have hW : ∃ W : List Int, ys = W.map Val.int ∧ InR j W := by
    clear eb ly
    induction ys with
    | nil => exact ⟨[], rfl, by simp [InR]⟩
    | cons y ys ih =>
      obtain ⟨W, rfl, hW⟩ := ih fun z hz => py z (List.mem_cons_of_mem _ hz)
      obtain ⟨i, rfl, i0, i1⟩ := py y List.mem_cons_self
      exact ⟨i :: W, rfl, fun w hw => by
        rcases List.mem_cons.mp hw with rfl | z
        · exact ⟨i0, i1⟩
        · exact hW w z⟩
  obtain ⟨W, rfl, hW⟩ := hW
  have lw : W.length = ln := by simpa using ly
  have e4 : evE (sys PG (k + 7)) c30_l0 [some (.ref p), some (.int j), some (.int ln), none, none, none] ha = .ok (.ref hb.length) (hb ++ [.lst (W.map .int)]) := lc_eval ei (by simpa using eb) int_dat
  obtain ⟨hc, ehc⟩ : ∃ hc, hc = hb ++ [Obj.lst (W.map Val.int)] := ⟨_, rfl⟩
  rw [← ehc] at e4
  have t1 : biV (sys PG (k + 7)) .tuple hc [.ref hb.length] = some (tupI W, hc) := tup_seq (by rw [ehc]; simp [isSeq, isList])
  have pc : Pre hb hc := by rw [ehc]; exact .app
  have t1000 : t ≤ 400 := by
    have : 1 * t ≤ ln * t := Nat.mul_le_mul_right t l1
    omega
  obtain ⟨hd, pd, ed⟩ := power_of_ok (k := k + 1) (h := hc) (v := tupI W) (t := t) (.inl rfl) hW (by omega) h1 h3 t1000
  rw [lw, lm, if_pos (Nat.le_refl _)] at ed
  have ed' : (sys PG (k + 7)).call 16 [.int j, tupI W, .int t] hc = .ok (tupI (List.replicate t W).flatten) hd := ed
  have m2 := fun h' : MH => mul_tupI (h := h') (t := t) (W := W) (by omega) (by omega)
  have fl : (List.replicate t W).flatten.length ≤ 1000000 := by
    have : ∀ q : Nat, (List.replicate q W).flatten.length = W.length * q := fun q => by
      induction q with
      | zero => rfl
      | succ q ih => rw [List.replicate_succ, List.flatten_cons, List.length_append, ih, Nat.mul_succ]; omega
    rw [this, lw, lm]
    decide
  obtain ⟨he, pe, ee⟩ := same_tupI (List.replicate t W).flatten fl (k + 5) hd
  have ee' : (sys PG (k + 7)).call 21 [tupI (List.replicate t W).flatten, tupI (List.replicate t W).flatten] hd = .ok (.bl true) he := ee
  have dv : ∀ h' : MH, bop .fdiv h' (.int 400) (.int ln) = some (.int t, h') := fun h' => by
    show guardO (decide (0 < (ln : Int)) && decide ((ln : Int) < 1073741824)) (some (Val.int ((400 : Int) / (ln : Int)), h')) = _
    rw [ldv, decide_eq_true (by omega), decide_eq_true (by omega)]
    rfl
  -- the second test
  have second : ∃ hf, Pre he hf ∧ evE (sys PG (k + 7)) (.and (.cm .lt (.op .fdiv (.ki 400) (.v 2)) (.ki 400)) (.cm .ne (.call 33 (.cons (.gv (.fn 16)) (.cons (.v 1) (.cons (.v 3) (.cons (.op .add (.op .fdiv (.ki 400) (.v 2)) (.ki 1)) .nil))))) (.tup (.cons (.ks ("many" : Str)) (.cons (.ks ("letters" : Str)) (.cons (.op .mul (.v 2) (.op .add (.op .fdiv (.ki 400) (.v 2)) (.ki 1))) (.cons (.ki 400) .nil))))))) [some (.ref p), some (.int j), some (.int ln), some (tupI W), none, none] he = .ok (.bl false) hf := by
    by_cases ht : t < 400
    · have b1 : (ln : Int) * ((t : Int) + 1) = ((ln * (t + 1) : Nat) : Int) := by rw [Int.natCast_mul]; rfl
      have b2 : 400 < ln * (t + 1) := by rw [Nat.mul_add, lm]; omega
      have b3 : ln * (t + 1) ≤ 800 := by rw [Nat.mul_add, lm]; omega
      obtain ⟨hf, pf, ef⟩ := power_of_ok (k := k) (h := he) (v := tupI W) (t := t + 1) (.inl rfl) hW (by omega) h1 h3 (by omega)
      rw [lw, if_neg (by omega)] at ef
      obtain ⟨hg, pg, eg⟩ := three_x (k := k) (p := p) (x := 16) (A := .str "letters") (B := .int (ln * (t + 1) : Nat)) (D := .int 400) (f := 16) (by rfl) (by decide) ef (str_nice (by decide)) (int_nice (by omega)) (int_nice (by decide))
      have eg' : (sys PG (k + 7)).call 33 [.fn 16, .int j, tupI W, .int ((t : Int) + 1)] he = .ok (manyV "letters" (ln * (t + 1) : Nat) 400) hg := eg
      have tt : ((t : Int) < 400) := by omega
      have ml : bop .mul hg (.int ln) (.int ((t : Int) + 1)) = some (.int (ln * (t + 1) : Nat), hg) := by
        show guardO (lim64 ln || lim64 ((t : Int) + 1)) (some (Val.int ((ln : Int) * ((t : Int) + 1)), hg)) = _
        have : lim64 ln = true := lim_small (by omega) (by omega)
        rw [this, b1]
        rfl
      have ad : ∀ h' : MH, bop .add h' (.int t) (.int 1) = some (.int ((t : Int) + 1), h') := fun _ => rfl
      have tf : tupF [.str "many", .str "letters", .int (ln * (t + 1) : Nat), .int 400] hg = .ok (manyV "letters" (ln * (t + 1) : Nat) 400) hg := tupF_ rfl
      have mq := many_eq (h := hg) (a := "letters") (x := (ln * (t + 1) : Nat)) (y := 400)
      refine ⟨hg, pf.trans pg, ?_⟩
      generalize ((ln * (t + 1) : Nat) : Int) = M at *
      simp -implicitDefEqProofs [-tupF, dv, ad, eg', ml, tf, cop, ltV, tt, mq, tru]
    · have tt : ¬ ((t : Int) < 400) := by omega
      refine ⟨he, .refl, ?_⟩
      simp -implicitDefEqProofs [dv, cop, ltV, tt, tru]
  obtain ⟨hf, pf, ef⟩ := second
  obtain ⟨hg, xs1, pg, eg, ng⟩ := words_lens (k := k) (h := hf) (j := 1) (n := 400) (by decide) (by decide) (by decide) (by decide)
  obtain ⟨hi2, xs2, pi, ei2, ni⟩ := words_lens (k := k) (h := hg) (j := 2) (n := 12) (by decide) (by decide) (by decide) (by decide)
  obtain ⟨hj2, xs3, pj, ej, nj⟩ := words_lens (k := k) (h := hi2) (j := 3) (n := 7) (by decide) (by decide) (by decide) (by decide)
  obtain ⟨hk, pk, ek⟩ := words_many (k := k) (h := hj2) (j := 2) (n := 13) (by decide) (by decide) (by decide) (by decide) (by decide)
  obtain ⟨hl, pl, el⟩ := words_many (k := k) (h := hk) (j := 3) (n := 8) (by decide) (by decide) (by decide) (by decide) (by decide)
  have ek' : (sys PG (k + 7)).call 32 [.fn 11, .int 2, .int 13] hj2 = .ok (manyV "words" 8192 4096) hk := ek
  have el' : (sys PG (k + 7)).call 32 [.fn 11, .int 3, .int 8] hk = .ok (manyV "words" 6561 4096) hl := el
  have eg' : (sys PG (k + 7)).call 11 [.int 1, .int 400] hf = .ok (.tup xs1) hg := eg
  have ei' : (sys PG (k + 7)).call 11 [.int 2, .int 12] hg = .ok (.tup xs2) hi2 := ei2
  have ej' : (sys PG (k + 7)).call 11 [.int 3, .int 7] hi2 = .ok (.tup xs3) hj2 := ej
  have n1 : biV (sys PG (k + 7)) .len hg [.tup xs1] = some (.int 1, hg) := by rw [len_seq (xs := xs1) rfl, ng]; rfl
  have n2 : biV (sys PG (k + 7)) .len hi2 [.tup xs2] = some (.int 4096, hi2) := by rw [len_seq (xs := xs2) rfl, ni]; rfl
  have n3 : biV (sys PG (k + 7)) .len hj2 [.tup xs3] = some (.int 2187, hj2) := by rw [len_seq (xs := xs3) rfl, nj]; rfl
  obtain ⟨hm, ehm⟩ : ∃ hm, hm = hl ++ [Obj.lst [.int 1, .int 4096, .int 2187, manyV "words" 8192 4096, manyV "words" 6561 4096]] := ⟨_, rfl⟩
  have lfm : lstF [.int 1, .int 4096, .int 2187, manyV "words" 8192 4096, manyV "words" 6561 4096] hl = .ok (.ref hl.length) hm := by rw [ehm]; exact lstF_ rfl
  have gm : hm[hl.length]? = some (.lst [.int 1, .int 4096, .int 2187, manyV "words" 8192 4096, manyV "words" 6561 4096]) := by rw [ehm]; exact get_new
  obtain ⟨hn, ehn⟩ : ∃ hn, hn = hm ++ [Obj.lst [.int 1, .int 4096, .int 2187, manyV "words" 8192 4096, manyV "words" 6561 4096]] := ⟨_, rfl⟩
  have lfn : lstF [.int 1, .int 4096, .int 2187, manyV "words" 8192 4096, manyV "words" 6561 4096] hm = .ok (.ref hm.length) hn := by rw [ehn]; exact lstF_ rfl
  have pn : Pre hm hn := by rw [ehn]; exact .app
  have pm : Pre hl hm := by rw [ehm]; exact .app
  have gn : hn[hm.length]? = some (.lst [.int 1, .int 4096, .int 2187, manyV "words" 8192 4096, manyV "words" 6561 4096]) := by rw [ehn]; exact get_new
  have fin := told_ok (pn.get gm) gn
  have w4 : ∀ (h' : MH) (a : String) (x y : Int), tupF [.str "many", .str a, .int x, .int y] h' = .ok (manyV a x y) h' := fun _ _ _ _ => tupF_ rfl
  have pall : Pre hc hn := pd.trans (pe.trans (pf.trans (pg.trans (pi.trans (pj.trans (pk.trans (pl.trans (pm.trans pn))))))))
  refine ⟨hn, ?_, (Pb.pre pc).pre pall, (Later.app.trans la).trans (lb.trans ((pc.later (p := p)).trans pall.later))⟩
  have m2' := m2 hd
  have un : untV (tupI W) = tupI W := rfl
  generalize tupI (List.replicate t W).flatten = Z at *
  simp -implicitDefEqProofs [-E_and, -lstF, -tupF, fnR, r30, c30, lf0, ea', e4, t1, dv, ed', un, m2', ee', tru, ef, eg', n1, ei', n2, ej', n3, ek', el', lfm, lfn, w4, cop, fin]
end
end Law
set_option Elab.async false
set_option linter.all false
set_option maxRecDepth 100000
set_option maxHeartbeats 8000000
namespace Law
open PySem Mini
section
variable {k n p c : Nat} {h h0 : MH} {v w u : Val} {d dw : PyData} {m : Int} {cells : List Int} {W : List Int} {s : Str}
theorem ones_ok {Γ : Sys} {i : Nat} {a0 a1 a3 a4 a6 a7 : Option Val} (hl : W.length ≤ 1000) : evE Γ c29_l3 [a0, a1, some (.tp (W.map .int)), a3, a4, some (.int i), a6, a7] h = .ok (.ref h.length) (h ++ [.lst (List.replicate (W.count (i : Int)) (.int 1))]) := by
  have ei : evI Γ (.each (.unt (.v 2))) [a0, a1, some (.tp (W.map .int)), a3, a4, some (.int i), a6, a7] h = .ok (.items (W.map .int)) h := I_e (x := tupI W) (by simp; rfl) rfl
  have lp := lc_pure (turn := lcTF Γ [4] (.ki 1) (.tv 4) (.cm .eq (.v 4) (.v 5)) [a0, a1, some (.tp (W.map .int)), a3, a4, some (.int i), a6, a7]) (h := h) (g := fun y => match y with
    | Val.int z => if z = (i : Int) then some (Val.int 1) else none
    | _ => none) (W.map .int) [] (fun y hy => by
      obtain ⟨z, _, rfl⟩ := List.mem_map.mp hy
      by_cases hz : z = (i : Int)
      · simp only [hz, if_true]
        exact lcT1 rfl (h1 := h) (by simp -implicitDefEqProofs [wipeM, cop, eqV_int]) (by simp -implicitDefEqProofs [wipeM])
      · simp only [hz, if_false]
        exact lcT1f rfl (by simp -implicitDefEqProofs [wipeM, cop, eqV_int, hz])) (by
      rw [List.length_map]
      exact Nat.le_trans (by simpa using hl) (by decide : 1000 ≤ sizeLine))
  have e9 : (W.map Val.int).filterMap (fun y => match y with
    | Val.int z => if z = (i : Int) then some (Val.int 1) else none
    | _ => none) = List.replicate (W.count (i : Int)) (.int 1) := by
    clear lp ei hl
    induction W with
    | nil => rfl
    | cons a W ih =>
      rw [List.map_cons, List.filterMap_cons, List.count_cons]
      by_cases ha : a = (i : Int)
      · simp only [ha, if_true, beq_self_eq_true]
        rw [ih, List.replicate_succ]
      · have : (a == (i : Int)) = false := by simp [ha]
        simp only [ha, if_false, this, Bool.false_eq_true]
        rw [ih, Nat.add_zero]
  rw [e9] at lp
  exact lc_eval ei (by simpa using lp) (by
    rw [List.all_eq_true]
    intro x hx
    rw [(List.mem_replicate.mp hx).2]
    rfl)
theorem cnts_ok {Γ : Sys} {j : Nat} {a0 a3 a4 a5 a6 a7 : Option Val} (hj : j ≤ 1000) (hl : W.length ≤ 1000) : ∃ h', Pre h h' ∧ evE Γ c29_l2 [a0, some (.int j), some (.tp (W.map .int)), a3, a4, a5, a6, a7] h = .ok (.ref h'.length) (h' ++ [.lst ((cntI j W).map .int)]) := by
  have ei : evI Γ (.rng1 (.v 1)) [a0, some (.int j), some (.tp (W.map .int)), a3, a4, a5, a6, a7] h = .ok (.items ((List.range j).map fun (k : Nat) => .int k)) h := by
    rw [← rng_map]
    exact I_rng (n := j) (by simp) ⟨by omega, by omega⟩
  obtain ⟨h', p, e⟩ := lc_items (Γ := Γ) (vs := [5]) (e := .blt .len (.cons c29_l3 .nil)) (t := .tv 5) (c := .nil) (g := cntF W) ei (by simp; omega)
    (fun x hx h1 _ => by
      obtain ⟨i, _, rfl⟩ := List.mem_map.mp hx
      have e1 := ones_ok (Γ := Γ) (h := h1) (i := i) (W := W) (a0 := a0) (a1 := some (.int j)) (a3 := a3) (a4 := a4) (a6 := a6) (a7 := a7) hl
      have n1 : biV Γ .len (h1 ++ [.lst (List.replicate (W.count (i : Int)) (.int 1))]) [.ref h1.length] = some (.int (W.count (i : Int) : Nat), h1 ++ [.lst (List.replicate (W.count (i : Int)) (.int 1))]) := by
        rw [len_seq (xs := List.replicate (W.count (i : Int)) (.int 1)) (by simp [isSeq, isList]), List.length_replicate]
      refine ⟨h1 ++ [.lst (List.replicate (W.count (i : Int)) (.int 1))], .app, lcT0 ?_⟩
      show evE Γ _ [a0, some (.int j), some (.tp (W.map .int)), a3, a4, some (.int i), a6, a7] h1 = _
      generalize (W.count (i : Int)) = C at *
      simp -implicitDefEqProofs [e1, n1])
    (fun x hx y hy => by
      obtain ⟨i, _, rfl⟩ := List.mem_map.mp hx
      cases hy
      rfl)
  have e3 : ((List.range j).map fun (k : Nat) => Val.int k).filterMap (cntF W) = (cntI j W).map .int := by
    unfold cntI
    rw [List.filterMap_map, List.map_map]
    exact fm_map
  rw [e3] at e
  exact ⟨h', p, e⟩
def lotI (j : Nat) (W : List Int) : List Int := ((List.range j).map fun (i : Nat) => (i : Int)).filter fun a => W.contains a
theorem lot_same {j : Nat} (hw : InR j W) : lotI j W = sortU W := by
  refine up_unique ?_ up_sortU fun a => ?_
  · unfold lotI
    refine List.Pairwise.filter _ ?_
    rw [List.pairwise_map]
    exact List.Pairwise.imp (fun h => by omega) List.pairwise_lt_range
  · unfold lotI
    rw [mem_sortU, List.mem_filter]
    constructor
    · intro h
      simpa using h.2
    · intro h
      refine ⟨List.mem_map.mpr ⟨a.toNat, List.mem_range.mpr ?_, ?_⟩, by simpa using h⟩
      · have := hw a h
        omega
      · have := hw a h
        omega
theorem lots_ok {Γ : Sys} {j : Nat} {a0 a3 a4 a5 a6 a7 : Option Val} (hj : j ≤ 1000) : evE Γ c29_l1 [a0, some (.int j), some (.tp (W.map .int)), a3, a4, a5, a6, a7] h = .ok (.ref h.length) (h ++ [.lst ((lotI j W).map .int)]) := by
  have ei : evI Γ (.rng1 (.v 1)) [a0, some (.int j), some (.tp (W.map .int)), a3, a4, a5, a6, a7] h = .ok (.items ((List.range j).map fun (k : Nat) => .int k)) h := by
    rw [← rng_map]
    exact I_rng (n := j) (by simp) ⟨by omega, by omega⟩
  have lp := lc_pure (turn := lcTF Γ [5] (.v 5) (.tv 5) (.cm .isin (.v 5) (.unt (.v 2))) [a0, some (.int j), some (.tp (W.map .int)), a3, a4, a5, a6, a7]) (h := h) (g := fun y => match y with
    | Val.int z => if W.contains z = true then some (Val.int z) else none
    | _ => none) ((List.range j).map fun (k : Nat) => .int k) [] (fun y hy => by
      obtain ⟨z, _, rfl⟩ := List.mem_map.mp hy
      have i1 : inV h (.int z) (.tup (W.map .int)) = some (W.contains (z : Int)) := by rw [in_seq rfl rfl int_flat, int_in]
      cases hc : W.contains (z : Int) with
      | true =>
        rw [hc] at i1
        simp only [hc, if_true]
        exact lcT1 rfl (h1 := h) (by simp -implicitDefEqProofs [wipeM, cop, i1]) (by simp -implicitDefEqProofs [wipeM])
      | false =>
        rw [hc] at i1
        simp only [hc, if_false, Bool.false_eq_true]
        exact lcT1f rfl (by simp -implicitDefEqProofs [wipeM, cop, i1])) (by
      rw [List.length_map, List.length_range]
      exact Nat.le_trans (by simpa using hj) (by decide : 1000 ≤ sizeLine))
  have e9 : ((List.range j).map fun (k : Nat) => Val.int k).filterMap (fun y => match y with
    | Val.int z => if W.contains z = true then some (Val.int z) else none
    | _ => none) = (lotI j W).map .int := by
    unfold lotI
    generalize List.range j = l
    induction l with
    | nil => rfl
    | cons a l ih =>
      rw [List.map_cons, List.filterMap_cons, List.map_cons, List.filter_cons]
      cases hc : W.contains (a : Int) with
      | true => simp only [hc, if_true]; rw [ih]; rfl
      | false => simp only [hc, if_false, Bool.false_eq_true]; rw [ih]
  rw [e9] at lp
  exact lc_eval ei (by simpa using lp) int_dat
theorem all_of_len {Γ : Sys} {j n r : Nat} {a0 a2 a3 a4 a5 a6 : Option Val} {h h1 : MH} (hc : Γ.call 28 [.int j, .int n] h = .ok (.ref r) h1) (hj : j ≤ 3) (hn : n ≤ 4) (g : h1[r]? = some (.lst ((upTo j n).map tupI))) : evE Γ c29_l0 [a0, some (.int j), a2, a3, a4, a5, a6, some (.int n)] h = .ok (.ref h1.length) (h1 ++ [.lst ((AW j n).map tupI)]) := by
  have ei : evI Γ (.each (.call 28 (.cons (.v 1) (.cons (.v 7) .nil)))) [a0, some (.int j), a2, a3, a4, a5, a6, some (.int n)] h = .ok (.live r) h1 := I_e (x := .ref r) (by simp -implicitDefEqProofs [hc]) (by simp only [walkOf, g])
  have lp := lcR_pure (turn := lcTF Γ [4] (.v 4) (.tv 4) (.cm .eq (.blt .len (.cons (.v 4) .nil)) (.v 7)) [a0, some (.int j), a2, a3, a4, a5, a6, some (.int n)]) (h := h1) (g := fun y => match y with
    | Val.tup xs => if xs.length = n then some (Val.tup xs) else none
    | _ => none) g (fun y hy => by
      obtain ⟨w, _, rfl⟩ := List.mem_map.mp hy
      have n1 : biV Γ .len h1 [tupI w] = some (.int w.length, h1) := by rw [len_seq (xs := w.map .int) rfl, List.length_map]
      by_cases hz : w.length = n
      · have z : (match tupI w with
          | Val.tup xs => if xs.length = n then some (Val.tup xs) else none
          | _ => none) = some (tupI w) := by
          unfold tupI
          simp [hz]
        have z2 : (w.length : Int) = (n : Int) := by omega
        rw [z]
        exact lcT1 rfl (h1 := h1) (by simp -implicitDefEqProofs [wipeM, cop, n1, eqV_int, z2]) (by simp -implicitDefEqProofs [wipeM])
      · have z : (match tupI w with
          | Val.tup xs => if xs.length = n then some (Val.tup xs) else none
          | _ => none) = none := by
          unfold tupI
          simp [hz]
        have z2 : ¬ (w.length : Int) = (n : Int) := by omega
        rw [z]
        exact lcT1f rfl (by simp -implicitDefEqProofs [wipeM, cop, n1, eqV_int, z2])) (by
      have := upTo_len hj n hn
      rw [List.length_map]
      exact Nat.le_trans this.1 (by decide)) FUEL 0 [] (by
      have := upTo_len hj n hn
      rw [List.length_map]
      exact Nat.lt_of_le_of_lt (by omega : (upTo j n).length - 0 ≤ 121) (by decide)) (Nat.zero_le _) (Nat.le_refl _)
  have e9 : ((upTo j n).map tupI).filterMap (fun y => match y with
    | Val.tup xs => if xs.length = n then some (Val.tup xs) else none
    | _ => none) = (AW j n).map tupI := by
    rw [← upTo_filter j n]
    generalize upTo j n = l
    induction l with
    | nil => rfl
    | cons w l ih =>
      rw [List.map_cons, List.filterMap_cons, List.filter_cons]
      by_cases hz : w.length = n
      · have z : (match tupI w with
          | Val.tup xs => if xs.length = n then some (Val.tup xs) else none
          | _ => none) = some (tupI w) := by
          unfold tupI
          simp [hz]
        rw [z, ih]
        simp [hz]
      · have z : (match tupI w with
          | Val.tup xs => if xs.length = n then some (Val.tup xs) else none
          | _ => none) = none := by
          unfold tupI
          simp [hz]
        rw [z, ih]
        simp [hz]
  rw [List.drop_zero, List.nil_append, e9] at lp
  rw [show c29_l0 = .lc [4] (.v 4) (.tv 4) (.each (.call 28 (.cons (.v 1) (.cons (.v 7) .nil)))) (.cm .eq (.blt .len (.cons (.v 4) .nil)) (.v 7)) from rfl, E_lc, bd_, ei, b_ok]
  unfold lcF walkLc
  dsimp only
  rw [lp]
  exact lcE_ tupIs_dat
end
end Law
set_option Elab.async false
set_option linter.all false
set_option maxRecDepth 100000
set_option maxHeartbeats 8000000
namespace Law
open PySem Mini
section
variable {k n p c : Nat} {h h0 : MH} {v w u : Val} {d dw : PyData} {m : Int} {cells : List Int} {W : List Int} {s : Str}
theorem right_ok (P : PenAt h p c cells) : ∃ h', (sys PG (k + 9)).call 29 [.ref p] h = .ok (.bl true) h' ∧ PenAt h' p c cells ∧ Later p h h' := by
  rw [call_s (r := r29) rfl rfl, run_fn (by rfl)]
  obtain ⟨r, ha, ea, Pa, la, _, r0, r1⟩ := draw_ok (k := k + 7) (m := 3) P (by decide) (by decide)
  obtain ⟨j, hj, j1, j3⟩ : ∃ j : Nat, 1 + r = (j : Int) ∧ 1 ≤ j ∧ j ≤ 3 := ⟨(1 + r).toNat, by omega, by omega, by omega⟩
  have ad : bop .add ha (.int 1) (.int r) = some (.int j, ha) := by
    show some (Val.int (1 + r), ha) = _
    rw [hj]
  obtain ⟨W, hb, eb, Pb, lb, hW, nW⟩ := word_tp (k := k + 6) (m := j) (N := 30) Pa (by omega) (by omega) (by decide) (by decide)
  obtain ⟨z, hc, ec, Pc, lc, _, _, _⟩ := draw_ok (k := k + 7) (m := 2) Pb (by decide) (by decide)
  have eb' : (sys PG (k + 8)).call 27 [.ref p, .int j, .int 30] ha = .ok (.tp (W.map .int)) hb := eb
  -- what is handed on
  obtain ⟨v, hd, pd, xv, nv, ed⟩ : ∃ v hd, Pre hc hd ∧ IsW hd v W ∧ v ≠ tupI W ∧ evE (sys PG (k + 8)) (.ifx (.cm .eq (.call 19 (.cons (.v 0) (.cons (.ki 2) .nil))) (.ki 0)) (.blt .list (.cons (.unt (.v 2)) .nil)) (.v 2)) [some (.ref p), some (.int j), some (.tp (W.map .int)), none, none, none, none, none] hb = .ok v hd := by
    by_cases hz : z = 0
    · have l1 := list_seq (Γ := sys PG (k + 8)) (h := hc) (v := .tup (W.map .int)) (xs := W.map .int) rfl
      refine ⟨.ref hc.length, hc ++ [.lst (W.map .int)], .app, .inr (.inr ⟨_, rfl, get_new⟩), fun z => (by cases z), ?_⟩
      simp -implicitDefEqProofs [ec, cop, eqV_int, hz, tru, l1]
    · refine ⟨.tp (W.map .int), hc, .refl, .inr (.inl rfl), fun z => (by cases z), ?_⟩
      simp -implicitDefEqProofs [ec, cop, eqV_int, hz, tru]
  have Pd := Pc.pre pd
  have nW' : W.length ≤ 30 := by omega
  -- counts
  obtain ⟨he, pe, ee⟩ := counts_of_ok (k := k + 2) (h := hd) (j := j) xv nv hW (by omega) j1 j3
  have ee' : (sys PG (k + 8)).call 13 [.int j, v] hd = .ok (tupI (cntI j W)) he := ee
  obtain ⟨hf, pf, ef⟩ := cnts_ok (Γ := sys PG (k + 8)) (h := he) (j := j) (W := W) (a0 := some (.ref p)) (a3 := some v) (a4 := none) (a5 := none) (a6 := none) (a7 := none) (by omega) (by omega)
  obtain ⟨hf2, ehf⟩ : ∃ hf2, hf2 = hf ++ [Obj.lst ((cntI j W).map Val.int)] := ⟨_, rfl⟩
  rw [← ehf] at ef
  have pf2 : Pre hf hf2 := by rw [ehf]; exact .app
  have tf : biV (sys PG (k + 8)) .tuple hf2 [.ref hf.length] = some (tupI (cntI j W), hf2) := tup_seq (by rw [ehf]; simp [isSeq, isList])
  obtain ⟨hg, pg, eg⟩ := same_tupI (cntI j W) (by unfold cntI; simp; omega) (k + 6) hf2
  have eg' : (sys PG (k + 8)).call 21 [tupI (cntI j W), tupI (cntI j W)] hf2 = .ok (.bl true) hg := eg
  have p1 : Pre hd hg := pe.trans (pf.trans (pf2.trans pg))
  -- lots
  obtain ⟨hi, pi, ei⟩ := lot_of_ok (k := k + 2) (h := hg) (j := j) (xv.pre p1) hW (by omega) j1 j3
  have ei' : (sys PG (k + 8)).call 15 [.int j, v] hg = .ok (tupI (sortU W)) hi := ei
  have el := lots_ok (Γ := sys PG (k + 8)) (h := hi) (j := j) (W := W) (a0 := some (.ref p)) (a3 := some v) (a4 := none) (a5 := none) (a6 := none) (a7 := none) (by omega)
  rw [lot_same hW] at el
  obtain ⟨hi2, ehi⟩ : ∃ hi2, hi2 = hi ++ [Obj.lst ((sortU W).map Val.int)] := ⟨_, rfl⟩
  rw [← ehi] at el
  have pi2 : Pre hi hi2 := by rw [ehi]; exact .app
  have tl : biV (sys PG (k + 8)) .tuple hi2 [.ref hi.length] = some (tupI (sortU W), hi2) := tup_seq (by rw [ehi]; simp [isSeq, isList])
  have sl : (sortU W).length ≤ 1000000 := by
    rw [← lot_same hW]
    unfold lotI
    refine Nat.le_trans (List.length_filter_le _ _) ?_
    simp
    omega
  obtain ⟨hk, pk, ek⟩ := same_tupI (sortU W) sl (k + 6) hi2
  have ek' : (sys PG (k + 8)).call 21 [tupI (sortU W), tupI (sortU W)] hi2 = .ok (.bl true) hk := ek
  have p2 : Pre hd hk := p1.trans (pi.trans (pi2.trans pk))
  have Pk := Pd.pre p2
  -- turned, powers
  obtain ⟨t, hl, el2, Pl, ll, _, t0, t1⟩ := draw_ok (k := k + 7) (m := 14) Pk (by decide) (by decide)
  obtain ⟨tn, htn, tn1⟩ : ∃ tn : Nat, t = (tn : Int) ∧ tn ≤ 13 := ⟨t.toNat, by omega, by omega⟩
  subst htn
  have xl : IsW hl v W := by
    rcases xv.pre p2 with q | q | ⟨rr, q, g⟩
    · exact .inl q
    · exact .inr (.inl q)
    · exact .inr (.inr ⟨rr, q, ll.get (Pk.ne g) g⟩)
  obtain ⟨hm, pm, em⟩ := turned_ok (k := k + 2) (h := hl) (j := j) xl hW (by omega) j1 j3
  have em' : (sys PG (k + 8)).call 17 [.int j, v] hl = .ok (tupI W.reverse) hm := em
  have rv : revV hm (.tup (W.map .int)) = some (tupI W.reverse, hm) := rev_tupI
  obtain ⟨hn, pn, en⟩ := same_tupI W.reverse (by rw [List.length_reverse]; omega) (k + 6) hm
  have en' : (sys PG (k + 8)).call 21 [tupI W.reverse, tupI W.reverse] hm = .ok (.bl true) hn := en
  obtain ⟨ho, po, eo⟩ := power_of_ok (k := k + 2) (h := hn) (j := j) (t := tn) (xl.pre (pm.trans pn)) hW (by omega) j1 j3 (by omega)
  have lt : W.length * tn ≤ 400 := Nat.le_trans (Nat.mul_le_mul nW' tn1) (by decide)
  rw [if_pos lt] at eo
  have eo' : (sys PG (k + 8)).call 16 [.int j, v, .int tn] hn = .ok (tupI (List.replicate tn W).flatten) ho := eo
  have ml : bop .mul ho (.tup (W.map .int)) (.int tn) = some (tupI (List.replicate tn W).flatten, ho) := mul_tupI (by omega) (by omega)
  have fl : (List.replicate tn W).flatten.length ≤ 1000000 := by
    have : ∀ q : Nat, (List.replicate q W).flatten.length = W.length * q := fun q => by
      induction q with
      | zero => rfl
      | succ q ih => rw [List.replicate_succ, List.flatten_cons, List.length_append, ih, Nat.mul_succ]; omega
    rw [this]
    omega
  obtain ⟨hq, pq, eq⟩ := same_tupI (List.replicate tn W).flatten fl (k + 6) ho
  have eq' : (sys PG (k + 8)).call 21 [tupI (List.replicate tn W).flatten, tupI (List.replicate tn W).flatten] ho = .ok (.bl true) hq := eq
  have Pq := (((Pl.pre pm).pre pn).pre po).pre pq
  -- all words
  obtain ⟨b, hr, er, Pr, lr, _, b0, b1⟩ := draw_ok (k := k + 7) (m := 5) Pq (by decide) (by decide)
  obtain ⟨bn, hbn, bn1⟩ : ∃ bn : Nat, b = (bn : Int) ∧ bn ≤ 4 := ⟨b.toNat, by omega, by omega⟩
  subst hbn
  obtain ⟨hs, ps, es⟩ := words_of_ok (k := k + 4) (h := hr) (j := j) (n := bn) j1 j3 (by omega)
  have al := upTo_len j3 bn bn1
  rw [if_pos (by rw [← AW_len]; omega)] at es
  have es' : (sys PG (k + 8)).call 11 [.int j, .int bn] hr = .ok (.tup ((AW j bn).map tupI)) hs := es
  obtain ⟨rw_, ht, pt, gt, et⟩ := law_words_ok (k := k + 7) (h := hs) (j := j) (n := bn) j3 bn1
  have et' := all_of_len (Γ := sys PG (k + 8)) (a0 := some (.ref p)) (a2 := some (.tp (W.map .int))) (a3 := some v) (a4 := none) (a5 := none) (a6 := some (.int tn)) et j3 bn1 gt
  obtain ⟨ht2, eht⟩ : ∃ ht2, ht2 = ht ++ [Obj.lst ((AW j bn).map tupI)] := ⟨_, rfl⟩
  rw [← eht] at et'
  have pt2 : Pre ht ht2 := by rw [eht]; exact .app
  have tt : biV (sys PG (k + 8)) .tuple ht2 [.ref ht.length] = some (.tup ((AW j bn).map tupI), ht2) := tup_seq (by rw [eht]; simp [isSeq, isList])
  obtain ⟨hu, pu, eu⟩ := same_tups (L := AW j bn) (fun w hw => by rw [(AW_in j bn w hw).1]; omega) (by omega) (k + 5) ht2
  have eu' : (sys PG (k + 8)).call 21 [.tup ((AW j bn).map tupI), .tup ((AW j bn).map tupI)] ht2 = .ok (.bl true) hu := eu
  have p5 : Pre hr hu := ps.trans (pt.trans (pt2.trans pu))
  have Pu := Pr.pre p5
  obtain ⟨hx, ex, Px, lx⟩ := limits_ok (k := k) Pu j1 j3
  obtain ⟨hy, ey, Py, ly⟩ := refused_ok (k := k) (w := .tp (W.map .int)) (W := W) Px j1 j3 (.inr (.inl rfl)) rfl hW (by omega)
  refine ⟨hy, ?_, Py, ?_⟩
  · generalize (AW j bn).map tupI = Z1 at *
    generalize hZ2 : tupI (List.replicate tn W).flatten = Z2 at *
    generalize hZ3 : tupI W.reverse = Z3 at *
    generalize hZ4 : tupI (sortU W) = Z4 at *
    generalize hZ5 : tupI (cntI j W) = Z5 at *
    generalize hY : W.map Val.int = Y at *
    simp -implicitDefEqProofs [-E_ifx, fnR, r29, c29, ea, ad, eb', ed, ee', ef, tf, eg', tru, ei', el, tl, ek', el2, em', rv, en', eo', ml, eq', er, es', et', tt, eu', ex, ey]
  · exact la.trans (lb.trans (lc.trans ((pd.later (p := p)).trans ((p2.later (p := p)).trans (ll.trans ((pm.later (p := p)).trans ((pn.later (p := p)).trans ((po.later (p := p)).trans ((pq.later (p := p)).trans (lr.trans ((p5.later (p := p)).trans (lx.trans ly))))))))))))
theorem law_ok (ns : List Int) : ∃ h', (sys PG (k + 10)).call 34 [.fl (ns.map Val.int)] [] = .ok (.bl true) h' := by
  rw [call_s (r := r34) rfl rfl, run_fn (by rfl)]
  obtain ⟨f, e1⟩ := pen_ok (k := k + 8) (ns := ns)
  have P1 : PenAt [.lst (ns.map Val.int), .dic (penL 0 0 0 0 f)] 1 0 ns := ⟨rfl, 0, 0, 0, f, rfl, by decide, by decide⟩
  have ei : evI (sys PG (k + 9)) (.rng1 (.ki 4)) [some (.fl (ns.map Val.int)), some (.ref 1), none] [.lst (ns.map Val.int), .dic (penL 0 0 0 0 f)] = .ok (.items ((List.range 4).map fun (k : Nat) => .int k)) [.lst (ns.map Val.int), .dic (penL 0 0 0 0 f)] := I_rng (n := 4) (by simp) (by decide)
  obtain ⟨σ', h2, e2, x2, rfl, P2⟩ := forL_all (turn := turnF (sys PG (k + 9)) (.tv 2) c34_5) (xs := (List.range 4).map fun (k : Nat) => .int k) (fun σ h' => ∃ x2, σ = [some (.fl (ns.map Val.int)), some (.ref 1), x2] ∧ PenAt h' 1 0 ns) (fun x _ σ h' ⟨x2, hs, P⟩ => by
    obtain ⟨h'', e, P', _⟩ := right_ok (k := k) P
    rw [hs]
    refine ⟨_, h'', ?_, some x, rfl, P'⟩
    simp -implicitDefEqProofs [turnF, e, tru]) [some (.fl (ns.map Val.int)), some (.ref 1), none] [.lst (ns.map Val.int), .dic (penL 0 0 0 0 f)] ⟨none, rfl, P1⟩
  obtain ⟨h3, _, e3⟩ := words_of_ok (k := k + 5) (h := h2) (j := 1) (n := 0) (by decide) (by decide) (by decide)
  have e3' : (sys PG (k + 9)).call 11 [.int 1, .int 0] h2 = .ok (.tup [.tup []]) h3 := e3
  obtain ⟨h4, _, e4⟩ := lot_of_ok (k := k + 3) (h := h3) (j := 3) (v := .tup [.int 2, .int 0, .int 2]) (W := [2, 0, 2]) (.inl rfl) (by simp [InR]) (by decide) (by decide) (by decide)
  have e4' : (sys PG (k + 9)).call 15 [.int 3, .tup [.int 2, .int 0, .int 2]] h3 = .ok (.tup [.int 0, .int 2]) h4 := e4
  have q3 : eqV h3 (.tup [.tup []]) (.tup [.tup []]) = some true := eqV_same (d := .tuple [.tuple []]) rfl rfl (by decide)
  have q4 : eqV h4 (.tup [.int 0, .int 2]) (.tup [.int 0, .int 2]) = some true := eqV_same (d := .tuple [.int 0, .int 2]) rfl rfl (by decide)
  have tf1 : ∀ h' : MH, tupF [] h' = .ok (.tup []) h' := fun _ => tupF_ rfl
  have tf2 : ∀ h' : MH, tupF [.tup []] h' = .ok (.tup [.tup []]) h' := fun _ => tupF_ rfl
  have tf3 : ∀ h' : MH, tupF [.int 2, .int 0, .int 2] h' = .ok (.tup [.int 2, .int 0, .int 2]) h' := fun _ => tupF_ rfl
  have tf4 : ∀ h' : MH, tupF [.int 0, .int 2] h' = .ok (.tup [.int 0, .int 2]) h' := fun _ => tupF_ rfl
  refine ⟨h4, ?_⟩
  simp -implicitDefEqProofs [-tupF, fnR, r34, c34, e1, ei, e2, e3', tf1, tf2, tf3, tf4, e4', cop, q3, q4]
theorem plain (ns : List Int) (_ : ns.length ≤ 63) : ∃ h', (sys (prgOf tab fam) 20).call lawIx [.fl (ns.map Val.int)] [] = .ok (.bl true) h' := law_ok (k := 10) ns
end
end Law
set_option Elab.async false
set_option linter.all false
set_option maxRecDepth 100000
set_option maxHeartbeats 0
namespace Law
open PySem PySem.Spec PyProof.Rows Mini
abbrev R : PySem.W.OpenRow := PySem.W.OpenLaw.row PySem.Challenge.rw_sayingkinds_k02_words
abbrev fns : List He.DefD := fnOfT PySem.Challenge.rw_sayingkinds_k02_words.prog tab
abbrev hk : PySem.W.Hook := hookM 6 [] fns (exB tab fam) (lamsOf tab)
def ob (s : PySem.W.SharedT) : AlM := obsM 6 [] fns (exB tab fam) (lamsOf tab) (HandSHeadRun.getT s)
theorem ob_eq (s : PySem.W.SharedT) : ob s = hk.obs s.abs := obsM_eq (HandSHeadRun.getT_eq s)
abbrev loose : List Str := ((tab.rows.map fun r => r.name).filter fun x => !decide (x = ("law" : Str))) ++ tab.nums.map (fun q => q.1) ++ tab.cls.map fun q => q.name
theorem run (w : World) : HandSHeadRun.RunEq R (PySem.W.view R.prog [lawAt]) hk ob 14000 loose w := by
  intro os
  kernel_rfl
end Law
set_option Elab.async false
set_option linter.all false
set_option maxRecDepth 100000
set_option maxHeartbeats 0
namespace Law
open PySem PySem.Spec PyProof.Rows Mini
end Law
open PySem PySem.W PySem.Calls PyProof.Rows
theorem PySem.Challenge.cw_sayingkinds_k02_words_holds : PySem.Challenge.rw_sayingkinds_k02_words.Holds := by
  w_on; o_law
  refine HandSHeadRun.head_any (r := OpenLaw.row PySem.Challenge.rw_sayingkinds_k02_words) (q := view (OpenLaw.row PySem.Challenge.rw_sayingkinds_k02_words).prog [Law.lawAt]) (H := Law.hk) (ob := Law.ob) (M := 14000) (loose := Law.loose) (d := HandSHeadRun.topDef (OpenLaw.row PySem.Challenge.rw_sayingkinds_k02_words).prog Law.lawAt) (kwd := []) Law.ob_eq
    (by kernel_rfl) (fun s => by kernel_rfl) Law.run (by kernel_rfl) (by kernel_rfl) (by kernel_rfl) (by rfl) (by first | assumption | decide +kernel) (by decide +kernel) ⟨rfl, rfl, rfl, rfl, rfl, by decide +kernel⟩ ?hw ?hc
  case hw => w_witness2
  case hc =>
    exact Mini.walk_mini (l := PySem.Challenge.rw_sayingkinds_k02_words) (n := 63) (k := 20) (i := Law.lawIx) (T := Law.tab) (F := Law.fam) (fa := []) rfl rfl (by decide) (by kernel_rfl) ⟨by decide, by decide⟩ Law.tab_ok rfl (by kernel_rfl) Law.plain
