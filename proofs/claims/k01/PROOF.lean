import PyProof.Rows.All
import Wide.All
import OpenK.AllK
import Wide.FinOn
import HandS.ForMost
import PyProof.ReprReads
import HandS.HeadHook4
import HandS.TupAny
import HandS.Conv
import HandS.RaiseMore
import HandS.IsInst
import HandS.Dict
import PyProof.ReprRoads
import PyProof.EqLayable
import HandS.Exc
import HandS.HotCalls
import HandS.ExcIs
import HandS.ExcField
import KE.KExcIs
import HandS.Style
import HandS.ExcInit
import HandS.ExcInitHot
import HandS.Small
import HandS.Defaults
import HandS.ExcCtx
import HandS.Head0
import HandS.Head1
import HandS.Head2
import HandS.HeadEnd
import HandS.HeadHook1
import HandS.HeadHook2
import HandS.Ends
import PyProof.StrLawsRepr
import PyProof.FitsInt
import PySem.Challenge.RW_sayingkinds_k01_errors
set_option Elab.async false
set_option linter.all false
set_option maxRecDepth 100000
/-! Mini: a small language with a plain meaning: values, objects by number, evaluators. -/
namespace Mini
open PySem

inductive Val where
  | non | bl (b : Bool) | int (i : Int) | str (s : Str)
  | tup (xs : List Val)
  | fl (xs : List Val)
  | ref (i : Nat)
  | ty (n : String)
  | fn (i : Nat)
  | cls (i : Nat)
  | exn (c : Nat) (fs : List Val)
  | clo (i : Nat) (caps : List Val)
  | own (i : Nat)
  deriving Inhabited

inductive Obj where
  | lst (xs : List Val)
  | dic (kvs : List (Val × Val))
  | set (xs : List Val)
  | ins (c : Nat) (fs : List (Str × Val))
  deriving Inhabited

abbrev MH := List Obj
abbrev MF := List (Option Val)

inductive Res (α : Type) where
  | ok (a : α) (h : MH)
  | exc (c : Nat) (fs : List Val) (h : MH)
  | bad

inductive Out where
  | nx (σ : MF) (h : MH)
  | rt (v : Val) (h : MH)
  | bk (σ : MF) (h : MH)
  | ct (σ : MF) (h : MH)
  | ex (c : Nat) (fs : List Val) (σ : MF) (h : MH)
  | bad

inductive BOp where | add | sub | mul | fdiv | mod | pow
  deriving DecidableEq
inductive COp where | eq | ne | lt | le | gt | ge | is | isnot | isin | notin
  deriving DecidableEq
inductive Bi where | len | int | list | tuple | isinstance | repr | all | any | sorted | set | dict | min | max | sum | str
  deriving DecidableEq
inductive Mt where | append | extend | pop | count | index | values | get | join | split
  deriving DecidableEq

inductive C where
  | v (i : Nat) | ki (i : Int) | ks (s : Str) | kb (b : Bool) | kn
  | gv (w : Val)
  | op (o : BOp) (a b : C)
  | neg (a : C)
  | cm (o : COp) (a b : C)
  | ch (o p : COp) (a b c : C)
  | and (a b : C) | or (a b : C) | not (a : C)
  | ifx (c a b : C)
  | tup (es : C) | lst (es : C) | dct (kvs : C)
  | ix (a i : C)
  | sl (a lo hi : C)
  | rev (a : C)
  | call (f : Nat) (es : C)
  | callv (i : Nat) (es : C)
  | blt (b : Bi) (es : C)
  | mth (m : Mt) (o es : C)
  | fld (o : C) (f : Str)
  | mk (c : Nat) (es : C)
  | lc (vs : List Nat) (e t it c : C)
  | lam (i : Nat)
  | nil | cons (a b : C)
  | each (a : C) | rng1 (a : C) | rng2 (a b : C) | enum (a : C) | zip (a b : C)
  | tv (i : Nat) | tt (ts : C) | tix (o i : C) | tfld (o : C) (f : Str)
  | set (t e : C) | aug (t : C) (o : BOp) (e : C) | ex (e : C) | ret (e : C) | retn | pass | brk | cnt
  | ite (c a b : C) | whl (c b : C) | for_ (t it b : C) | rais (c : Nat) (es : C) | try_ (b : C) (c : Nat) (i : Nat) (s : C)

structure Sys where
  call : Nat → List Val → MH → Res Val
  clo : Nat → List Val → List Val → MH → Res Val
  make : Nat → List Val → MH → Res Val
  sub : Nat → Nat → Bool
  flds : Nat → List Str
  isx : Nat → Bool

/-- what may stand within an object or a tuple: all but a caught error -/
def dat : Val → Bool
  | .exn _ _ => false
  | _ => true
def datO : Option Val → Bool
  | some x => dat x
  | none => true
/-! operations -/
abbrev Opt := Option (Val × MH)
def alloc (h : MH) (o : Obj) : Opt := some (.ref h.length, h ++ [o])
def guardO (c : Bool) (r : Option α) : Option α := if c then r else none
def fits (n : Nat) : Bool := decide (n ≤ sizeLine)

/-- what a value holds, as plain data, at every depth -/
def toD (h : MH) : Nat → Val → Option PyData
  | 0, _ => none
  | n + 1, .non => some .none
  | n + 1, .bl b => some (.bool b)
  | n + 1, .int i => some (.int i)
  | n + 1, .str s => some (.str s)
  | n + 1, .tup xs => (xs.mapM (toD h n)).map .tuple
  | n + 1, .fl xs => (xs.mapM (toD h n)).map .list
  | n + 1, .ref i => match h[i]? with
    | some (.lst xs) => (xs.mapM (toD h n)).map .list
    | some (.dic kvs) => ((kvs.map (·.1)).mapM (toD h n)).bind fun ks => ((kvs.map (·.2)).mapM (toD h n)).map fun vs => .dict (ks.zip vs)
    | _ => none
  | _ + 1, _ => none

def isList (h : MH) : Val → Option (List Val)
  | .fl xs => some xs
  | .ref i => match h[i]? with
    | some (.lst xs) => some xs
    | _ => none
  | _ => none
def isSeq (h : MH) : Val → Option (List Val)
  | .tup xs => some xs
  | v => isList h v

def opAdd (h : MH) : Val → Val → Opt
  | .int i, .int j => some (.int (i + j), h)
  | .str a, .str b => guardO (fits (a.length + b.length)) (some (.str (a ++ b), h))
  | .tup a, .tup b => guardO (fits (a.length + b.length)) (some (.tup (a ++ b), h))
  | .ref i, .ref j => match h[i]?, h[j]? with
    | some (.lst xs), some (.lst ys) => guardO (fits (xs.length + ys.length)) (alloc h (.lst (xs ++ ys)))
    | _, _ => none
  | _, _ => none
def lim64 (i : Int) : Bool := decide (-(2 ^ 64) < i) && decide (i < 2 ^ 64)
def opMul (h : MH) : Val → Val → Opt
  | .int i, .int j => guardO (lim64 i || lim64 j) (some (.int (i * j), h))
  | _, _ => none
def opFdiv (h : MH) : Val → Val → Opt
  | .int i, .int j => guardO (decide (0 < j) && decide (j < 1073741824)) (some (.int (i / j), h))
  | _, _ => none
def opMod (h : MH) : Val → Val → Opt
  | .int i, .int j => guardO (decide (0 < j)) (some (.int (i % j), h))
  | _, _ => none
def opPow (h : MH) : Val → Val → Opt
  | .int i, .int j => guardO (decide (0 ≤ j) && (decide (j ≤ 1000000) && decide (i.natAbs < 2 ^ 64))) (some (.int (i ^ j.toNat), h))
  | _, _ => none
def opSub (h : MH) : Val → Val → Opt
  | .int i, .int j => some (.int (i - j), h)
  | _, _ => none
def bop (o : BOp) (h : MH) (a b : Val) : Opt := match o with
  | .add => opAdd h a b
  | .sub => opSub h a b
  | .mul => opMul h a b
  | .fdiv => opFdiv h a b
  | .mod => opMod h a b
  | .pow => opPow h a b

/-- a == b -/
def eqV (h : MH) (a b : Val) : Option Bool :=
  (toD h 60 a).bind fun d => (toD h 60 b).bind fun e => guardO (SeqAt.shaped d && SeqAt.shaped e) (some (PyData.eqv d e))
def isV (h : MH) (a : Val) : Val → Option Bool
  | .non => match a with | .non => some true | _ => some false
  | .bl true => match a with | .bl true => some true | _ => some false
  | .bl false => match a with | .bl false => some true | _ => some false
  | _ => none
def ltV (h : MH) : Val → Val → Option Bool
  | .int i, .int j => some (decide (i < j))
  | _, _ => none
def leV (h : MH) : Val → Val → Option Bool
  | .int i, .int j => some (decide (i ≤ j))
  | _, _ => none
def inV (h : MH) (a b : Val) : Option Bool := none
def cop (o : COp) (h : MH) (a b : Val) : Option Bool := match o with
  | .eq => eqV h a b
  | .ne => (eqV h a b).map (!·)
  | .lt => ltV h a b
  | .le => leV h a b
  | .gt => ltV h b a
  | .ge => leV h b a
  | .is => isV h a b
  | .isnot => (isV h a b).map (!·)
  | .isin => inV h a b
  | .notin => (inV h a b).map (!·)

/-- truth -/
def tru (h : MH) : Val → Option Bool
  | .bl b => some b
  | .non => some false
  | .int i => some (i != 0)
  | _ => none

/-- a place of a sequence, from the end if below 0 -/
def place (n : Nat) (i : Int) : Option Nat :=
  if 0 ≤ i then (if i < n then some i.toNat else none) else (if -(n : Int) ≤ i then some (i + n).toNat else none)

/-- a dict's key: what is alike is one key -/
def keyOk : Val → Bool
  | .str _ => true
  | .int _ => true
  | _ => false
def keyEq : Val → Val → Bool
  | .str a, .str b => decide (a = b)
  | .int a, .int b => decide (a = b)
  | _, _ => false
def dGet (kvs : List (Val × Val)) (k : Val) : Option Val := (kvs.find? fun p => keyEq p.1 k).map (·.2)
def dPut (kvs : List (Val × Val)) (k x : Val) : List (Val × Val) :=
  if (kvs.any fun p => keyEq p.1 k) then kvs.map fun p => if keyEq p.1 k then (p.1, x) else p else kvs ++ [(k, x)]

def getIx (h : MH) (a i : Val) : Option Val := match a with
  | .ref r => match h[r]? with
    | some (.dic kvs) => guardO (keyOk i) (dGet kvs i)
    | some (.lst xs) => match i with
      | .int k => (place xs.length k).bind fun n => xs[n]?
      | _ => none
    | _ => none
  | .tup xs => match i with
    | .int k => (place xs.length k).bind fun n => xs[n]?
    | _ => none
  | .fl xs => match i with
    | .int k => (place xs.length k).bind fun n => xs[n]?
    | _ => none
  | _ => none
def putIx (h : MH) (a i x : Val) : Option MH := match a with
  | .ref r => match h[r]? with
    | some (.dic kvs) => guardO (keyOk i && (fits (kvs.length + 1) && dat x)) (some (h.set r (.dic (dPut kvs i x))))
    | some (.lst xs) => match i with
      | .int k => guardO (dat x) ((place xs.length k).map fun n => h.set r (.lst (xs.set n x)))
      | _ => none
    | _ => none
  | _ => none

def excTypes : List String := ["ValueError", "Exception", "BaseException", "object"]
/-- isinstance(x, T) -/
def isInst (Γ : Sys) (h : MH) (x : Val) : Val → Option Bool
  | .cls c => match x with
    | .exn d _ => guardO (Γ.isx c) (some (Γ.sub d c))
    | _ => none
  | .ty n => match x with
    | .exn _ _ => guardO (excTypes.contains n) (some true)
    | _ => none
  | _ => none

def biLen (h : MH) : List Val → Opt
  | [x] => match isSeq h x with
    | some ys => some (.int ys.length, h)
    | none => match x with
      | .str s => guardO (fits s.length) (some (.int s.length, h))
      | _ => none
  | _ => none
def biInt (h : MH) : List Val → Opt
  | [.int i] => some (.int i, h)
  | [.bl b] => some (.int (if b then 1 else 0), h)
  | _ => none
def biList (h : MH) : List Val → Opt
  | [x] => (isSeq h x).bind fun ys => alloc h (.lst ys)
  | _ => none
def biIsi (Γ : Sys) (h : MH) : List Val → Opt
  | [x, c] => (isInst Γ h x c).map fun b => (.bl b, h)
  | _ => none
def biRepr (h : MH) : List Val → Opt
  | [x] => (toD h 60 x).bind fun d => guardO (d.showable && decide ((d.shown).length ≤ sizeLine)) (some (.str d.shown, h))
  | _ => none
def biV (Γ : Sys) (b : Bi) (h : MH) (xs : List Val) : Opt := match b with
  | .len => biLen h xs
  | .int => biInt h xs
  | .list => biList h xs
  | .isinstance => biIsi Γ h xs
  | .repr => biRepr h xs
  | _ => none

/-- the receiver is of the method's type -/
def mtTy (m : Mt) (h : MH) (o : Val) : Bool := match m with
  | .append => match o with
    | .ref r => match h[r]? with
      | some (.lst _) => true
      | _ => false
    | _ => false
  | _ => false
def mtAppend (h : MH) (o : Val) : List Val → Opt
  | [x] => match o with
    | .ref r => match h[r]? with
      | some (.lst ys) => guardO (decide (ys.length < sizeLine) && dat x) (some (.non, h.set r (.lst (ys ++ [x]))))
      | _ => none
    | _ => none
  | _ => none
def mtV (m : Mt) (h : MH) (o : Val) (xs : List Val) : Opt := match m with
  | .append => mtAppend h o xs
  | _ => none

def getFld (flds : Nat → List Str) (h : MH) (o : Val) (f : Str) : Option Val := match o with
  | .exn c fs => (flds c).idxOf? f |>.bind fun i => fs[i]?
  | .ref r => match h[r]? with
    | some (.ins _ fs) => (fs.find? fun p => decide (p.1 = f)).map (·.2)
    | _ => none
  | _ => none

/-- keys and values of a display, from the left -/
def pairUp : List Val → Option (List (Val × Val))
  | [] => some []
  | k :: v :: r => (pairUp r).map fun ps => (k, v) :: ps
  | _ => none
def mkDic (kvs : List (Val × Val)) : List (Val × Val) := kvs.foldl (fun d p => dPut d p.1 p.2) []
def newDic (h : MH) (xs : List Val) : Opt := (pairUp xs).bind fun kvs => guardO (kvs.all (fun p => keyOk p.1 && dat p.2) && decide (kvs.length ≤ 15)) (alloc h (.dic (mkDic kvs)))
def lenC : C → Nat
  | .cons _ b => lenC b + 1
  | _ => 0

/-! the monad's helpers -/
def Res.bind (r : Res α) (f : α → MH → Res β) : Res β := match r with
  | .ok a h => f a h
  | .exc c fs h => .exc c fs h
  | .bad => .bad
def ofOpt (r : Option (α × MH)) : Res α := match r with
  | some (a, h) => .ok a h
  | none => .bad
def ofVal (r : Option α) (h : MH) : Res α := match r with
  | some a => .ok a h
  | none => .bad
/-- an expression's outcome goes on as a statement -/
def Res.go (r : Res α) (σ : MF) (f : α → MH → Out) : Out := match r with
  | .ok a h => f a h
  | .exc c fs h => .ex c fs σ h
  | .bad => .bad
def Out.seq (r : Out) (f : MF → MH → Out) : Out := match r with
  | .nx σ h => f σ h
  | r => r
/-- what a loop walks: items that stand, a list as it stands at each turn -/
inductive Walk where
  | items (xs : List Val)
  | live (r : Nat)
/-- a loop over items -/
def forL (turn : Val → MF → MH → Out) : List Val → MF → MH → Out
  | [], σ, h => .nx σ h
  | x :: xs, σ, h => match turn x σ h with
    | .nx σ' h' => forL turn xs σ' h'
    | .ct σ' h' => forL turn xs σ' h'
    | .bk σ' h' => .nx σ' h'
    | r => r
/-- a loop over a list that may change -/
def forR (turn : Val → MF → MH → Out) (r : Nat) : Nat → Nat → MF → MH → Out
  | 0, _, _, _ => .bad
  | n + 1, i, σ, h => match h[r]? with
    | some (.lst xs) => match xs[i]? with
      | none => .nx σ h
      | some x => match turn x σ h with
        | .nx σ' h' => forR turn r n (i + 1) σ' h'
        | .ct σ' h' => forR turn r n (i + 1) σ' h'
        | .bk σ' h' => .nx σ' h'
        | r => r
    | _ => .bad
def whileF (test : MF → MH → Res Bool) (turn : MF → MH → Out) : Nat → MF → MH → Out
  | 0, _, _ => .bad
  | n + 1, σ, h => (test σ h).go σ fun b h1 => if b then (match turn σ h1 with
    | .nx σ' h' => whileF test turn n σ' h'
    | .ct σ' h' => whileF test turn n σ' h'
    | .bk σ' h' => .nx σ' h'
    | r => r) else .nx σ h1
def FUEL : Nat := 2 ^ 40
def walkFor (turn : Val → MF → MH → Out) : Walk → MF → MH → Out
  | .items xs => forL turn xs
  | .live r => forR turn r FUEL 0
/-- what may be walked as it is -/
def walkOf (h : MH) : Val → Option Walk
  | .tup xs => some (.items xs)
  | .fl xs => some (.items xs)
  | .ref r => match h[r]? with
    | some (.lst _) => some (.live r)
    | _ => none
  | _ => none

/-- a comprehension's turns: what it appends -/
def lcL (turn : Val → MH → Res (Option Val)) : List Val → List Val → MH → Res (List Val)
  | [], acc, h => .ok acc h
  | x :: xs, acc, h => match turn x h with
    | .ok (some y) h1 => if acc.length < sizeLine then lcL turn xs (acc ++ [y]) h1 else .bad
    | .ok none h1 => lcL turn xs acc h1
    | _ => .bad
def lcR (turn : Val → MH → Res (Option Val)) (r : Nat) : Nat → Nat → List Val → MH → Res (List Val)
  | 0, _, _, _ => .bad
  | n + 1, i, acc, h => match h[r]? with
    | some (.lst xs) => match xs[i]? with
      | none => .ok acc h
      | some x => match turn x h with
        | .ok (some y) h1 => if acc.length < sizeLine then lcR turn r n (i + 1) (acc ++ [y]) h1 else .bad
        | .ok none h1 => lcR turn r n (i + 1) acc h1
        | _ => .bad
    | _ => .bad
def walkLc (turn : Val → MH → Res (Option Val)) : Walk → MH → Res (List Val)
  | .items xs => lcL turn xs []
  | .live r => lcR turn r FUEL 0 []
def wipeM (σ : MF) : List Nat → MF
  | [] => σ
  | v :: vs => (wipeM σ vs).set v none
def isNil : C → Bool
  | .nil => true
  | _ => false
def noExc {α : Type} : Res α → Res α
  | .exc _ _ _ => .bad
  | r => r
/-- one turn: the target is stored, the test asked, the item made -/
def lcTurn (noTest : Bool) (r : Out) (test elt : MF → MH → Res Val) : Res (Option Val) := match r with
  | .nx σ h => (if noTest then .ok true h else (noExc (test σ h)).bind fun x h1 => ofVal (tru h1 x) h1).bind fun b h2 => if b then (noExc (elt σ h2)).bind fun y h3 => .ok (some y) h3 else .ok none h2
  | _ => .bad

variable (Γ : Sys)
mutual
def evE : C → MF → MH → Res Val
  | .v i, σ, h => match σ[i]? with
    | some (some x) => .ok x h
    | _ => .bad
  | .ki i, _, h => .ok (.int i) h
  | .ks s, _, h => .ok (.str s) h
  | .kb b, _, h => .ok (.bl b) h
  | .kn, _, h => .ok .non h
  | .gv w, _, h => .ok w h
  | .op o a b, σ, h => (evE a σ h).bind fun x h1 => (evE b σ h1).bind fun y h2 => ofOpt (bop o h2 x y)
  | .neg a, σ, h => (evE a σ h).bind fun x h1 => match x with
    | .int i => .ok (.int (-i)) h1
    | _ => .bad
  | .cm o a b, σ, h => (evE a σ h).bind fun x h1 => (evE b σ h1).bind fun y h2 => ofVal ((cop o h2 x y).map .bl) h2
  | .and a b, σ, h => (evE a σ h).bind fun x h1 => match x with
    | .bl true => evE b σ h1
    | .bl false => .ok (.bl false) h1
    | _ => .bad
  | .or a b, σ, h => (evE a σ h).bind fun x h1 => match x with
    | .bl true => .ok (.bl true) h1
    | .bl false => evE b σ h1
    | _ => .bad
  | .not a, σ, h => (evE a σ h).bind fun x h1 => match x with
    | .bl b => .ok (.bl (!b)) h1
    | _ => .bad
  | .ifx c a b, σ, h => (evE c σ h).bind fun t h1 => match tru h1 t with
    | some true => evE a σ h1
    | some false => evE b σ h1
    | none => .bad
  | .tup es, σ, h => (evEs es σ h).bind fun xs h1 => if fits xs.length && xs.all dat then .ok (.tup xs) h1 else .bad
  | .lst es, σ, h => (evEs es σ h).bind fun xs h1 => if fits xs.length && xs.all dat then ofOpt (alloc h1 (.lst xs)) else .bad
  | .dct es, σ, h => (evEs es σ h).bind fun xs h1 => ofOpt (newDic h1 xs)
  | .ix a i, σ, h => (evE a σ h).bind fun x h1 => (evE i σ h1).bind fun y h2 => ofVal (getIx h2 x y) h2
  | .call f es, σ, h => (evEs es σ h).bind fun xs h1 => Γ.call f xs h1
  | .blt b es, σ, h => (evEs es σ h).bind fun xs h1 => ofOpt (biV Γ b h1 xs)
  | .mth m o es, σ, h => (evE o σ h).bind fun x h1 => if mtTy m h1 x then (evEs es σ h1).bind fun xs h2 => ofOpt (mtV m h2 x xs) else .bad
  | .fld o f, σ, h => (evE o σ h).bind fun x h1 => ofVal (getFld Γ.flds h1 x f) h1
  | .mk c es, σ, h => (evEs es σ h).bind fun xs h1 => Γ.make c xs h1
  | .lc vs e t it c, σ, h => (evI it σ h).bind fun w h1 => (walkLc (fun x h2 => lcTurn (isNil c) (asg t x (wipeM σ vs) h2) (evE c) (evE e)) w h1).bind fun ys h3 => if ys.all dat then ofOpt (alloc h3 (.lst ys)) else .bad
  | _, _, _ => .bad
def evEs : C → MF → MH → Res (List Val)
  | .nil, _, h => .ok [] h
  | .cons a b, σ, h => (evE a σ h).bind fun x h1 => (evEs b σ h1).bind fun xs h2 => .ok (x :: xs) h2
  | _, _, _ => .bad
/-- what a loop walks -/
def evI : C → MF → MH → Res Walk
  | .each a, σ, h => (evE a σ h).bind fun x h1 => ofVal (walkOf h1 x) h1
  | .rng1 a, σ, h => (evE a σ h).bind fun x h1 => match x with
    | .int n => if -(2 ^ 62) ≤ n ∧ n < 2 ^ 62 then .ok (.items ((List.range n.toNat).map fun (k : Nat) => .int k)) h1 else .bad
    | _ => .bad
  | _, _, _ => .bad
/-- a target gets a value -/
def asg : C → Val → MF → MH → Out
  | .tv i, x, σ, h => .nx (σ.set i (some x)) h
  | .tt ts, x, σ, h => match x with
    | .tup xs => if xs.length = lenC ts then asgs ts xs σ h else .bad
    | _ => .bad
  | .tix o i, x, σ, h => (evE o σ h).go σ fun y h1 => (evE i σ h1).go σ fun z h2 => match putIx h2 y z x with
    | some h3 => .nx σ h3
    | none => .bad
  | _, _, _, _ => .bad
def asgs : C → List Val → MF → MH → Out
  | .nil, [], σ, h => .nx σ h
  | .cons t ts, x :: xs, σ, h => (asg t x σ h).seq fun σ1 h1 => asgs ts xs σ1 h1
  | _, _, _, _ => .bad
end
/-- a test -/
def evT (c : C) (σ : MF) (h : MH) : Res Bool := (evE Γ c σ h).bind fun x h1 => ofVal (tru h1 x) h1
mutual
def evS : C → MF → MH → Out
  | .set t e, σ, h => (evE Γ e σ h).go σ fun x h1 => asg Γ t x σ h1
  | .ex e, σ, h => (evE Γ e σ h).go σ fun _ h1 => .nx σ h1
  | .ret e, σ, h => (evE Γ e σ h).go σ fun x h1 => .rt x h1
  | .retn, _, h => .rt .non h
  | .pass, σ, h => .nx σ h
  | .brk, σ, h => .bk σ h
  | .cnt, σ, h => .ct σ h
  | .ite c a b, σ, h => (evT Γ c σ h).go σ fun t h1 => if t then evSs a σ h1 else evSs b σ h1
  | .whl c b, σ, h => whileF (evT Γ c) (evSs b) FUEL σ h
  | .for_ t it b, σ, h => (evI Γ it σ h).go σ fun w h1 => walkFor (fun x σ' h' => (asg Γ t x σ' h').seq (evSs b)) w σ h1
  | .rais c es, σ, h => (evEs Γ es σ h).go σ fun xs h1 => if xs.length = (Γ.flds c).length && (xs.all dat && Γ.isx c) then .ex c xs σ h1 else .bad
  | .try_ b c i s, σ, h => match evSs b σ h with
    | .ex d fs σ1 h1 => if Γ.isx d && Γ.isx c then (if Γ.sub d c then (match evSs s (σ1.set i (some (.exn d fs))) h1 with
      | .nx σ2 h2 => if (σ2.set i none).all datO then .nx (σ2.set i none) h2 else .bad
      | .rt v h2 => if dat v then .rt v h2 else .bad
      | _ => .bad) else .ex d fs σ1 h1) else .bad
    | r => r
  | _, _, _ => .bad
def evSs : C → MF → MH → Out
  | .nil, σ, h => .nx σ h
  | .cons a b, σ, h => (evS a σ h).seq (evSs b)
  | _, _, _ => .bad
end
/-- a def: how many parameters, how many names, its body -/
structure Fn where
  np : Nat
  ns : Nat
  body : C
def runFn (f : Fn) (xs : List Val) (h : MH) : Res Val :=
  if xs.length = f.np then (match evSs Γ f.body (xs.map some ++ List.replicate (f.ns - f.np) none) h with
    | .nx _ h1 => .ok .non h1
    | .rt v h1 => .ok v h1
    | .ex c fs _ h1 => .exc c fs h1
    | _ => .bad) else .bad
structure Prog where
  fns : Nat → Option Fn
  sub : Nat → Nat → Bool
  flds : Nat → List Str
  isx : Nat → Bool
/-- the program's calls, k deep -/
def sys (P : Prog) : Nat → Sys
  | 0 => ⟨fun _ _ _ => .bad, fun _ _ _ _ => .bad, fun _ _ _ => .bad, P.sub, P.flds, P.isx⟩
  | k + 1 => ⟨fun i xs h => match P.fns i with
    | some f => runFn (sys P k) f xs h
    | none => .bad, fun _ _ _ _ => .bad, fun _ _ _ => .bad, P.sub, P.flds, P.isx⟩
end Mini
set_option Elab.async false
set_option linter.all false
set_option maxRecDepth 100000
/-! Mini against the model: what a value, an object, a frame stands for; outcomes. -/
namespace Mini
open PySem PySem.Spec PyProof.Rows L2

/-- the program's names by number -/
structure Nm where
  fn : Nat → Str
  cls : Nat → Str
  flds : Nat → List Str
  ex : Option (Nat × Addr × Option Addr)

/-- a tuple, a list of the written part -/
def KTup (K : PySem.W.Frag) (a : Addr) (vs : List V) : Prop :=
  ∃ (o : PySem.Obj) (its : Array Value) (n : Nat), K.lookup a = some o ∧ o.cls = .type "tuple" ∧ o.data = .seq its n ∧ its.size ≤ sizeLine ∧ Vals vs its.toList
def KLst (K : PySem.W.Frag) (a : Addr) (vs : List V) : Prop :=
  ∃ (o : PySem.Obj) (its : Array Value) (n : Nat), K.lookup a = some o ∧ o.cls = .type "list" ∧ o.dict = none ∧ o.data = .seq its n ∧ its.size ≤ sizeLine ∧ Vals vs its.toList
def TupAt (K : PySem.W.Frag) (ρ : List Addr) (H : L2.Hp) (a : Addr) (vs : List V) : Prop := (H a = some (.tup vs) ∧ a ∉ ρ) ∨ KTup K a vs
def FlAt (K : PySem.W.Frag) (ρ : List Addr) (H : L2.Hp) (a : Addr) (vs : List V) : Prop := ((∃ o, H a = some (.frz o (.lst vs))) ∧ a ∉ ρ) ∨ KLst K a vs
theorem TupAt.sq {K : PySem.W.Frag} {ρ : List Addr} {H : L2.Hp} {a : Addr} {vs : List V} (t : TupAt K ρ H a vs) : SqT K H a vs := by
  rcases t with ⟨t, _⟩ | t
  · exact .inl (.inl t)
  · exact .inr t
theorem FlAt.sq {K : PySem.W.Frag} {ρ : List Addr} {H : L2.Hp} {a : Addr} {vs : List V} (t : FlAt K ρ H a vs) : SqL K H a vs := by
  rcases t with ⟨⟨o, t⟩, _⟩ | t
  · exact .inl (.inr ⟨o, t⟩)
  · exact .inr t

section
variable (N : Nm) (K : PySem.W.Frag)
mutual
/-- what a value of Mini stands for -/
def VR (ρ : List Addr) (H : L2.Hp) : Val → V → Prop
  | .non, v => v = .non
  | .bl b, v => v = .bl b
  | .int i, v => v = .int i
  | .str s, v => v = .str s
  | .tup xs, v => ∃ (a : Addr) (vs : List V), v = .ref a ∧ TupAt K ρ H a vs ∧ VRs ρ H xs vs ∧ xs.all dat = true
  | .fl xs, v => ∃ (a : Addr) (vs : List V), v = .ref a ∧ FlAt K ρ H a vs ∧ VRs ρ H xs vs ∧ xs.all dat = true
  | .ref i, v => ∃ a : Addr, ρ[i]? = some a ∧ v = .ref a
  | .ty n, v => v = .ty n
  | .fn i, v => v = .ref (He.ga K (N.fn i))
  | .cls i, v => v = .ref (He.ga K (N.cls i))
  | .exn c fs, v => ∃ (a : Addr) (d : Option Addr) (vs : List V), N.ex = some (c, a, d) ∧ v = .ref a ∧ VRs ρ H fs vs ∧ fs.all dat = true ∧ ((N.flds c = [] ∧ d = none) ∨ (N.flds c ≠ [] ∧ ∃ dd, d = some dd ∧ H dd = some (.xd ((N.flds c).zip vs)) ∧ dd ∉ ρ))
  | .clo _ _, _ => False
  | .own _, _ => False
def VRs (ρ : List Addr) (H : L2.Hp) : List Val → List V → Prop
  | [], vs => vs = []
  | x :: xs, vs => ∃ (v : V) (r : List V), vs = v :: r ∧ VR ρ H x v ∧ VRs ρ H xs r
end

/-- keys -/
def KR : Val → Key → Prop
  | .int i, k => k = .inl i
  | .str s, k => k = .inr s
  | _, _ => False
def DR (ρ : List Addr) (H : L2.Hp) : List (Val × Val) → List (Key × V) → Prop
  | [], kv => kv = []
  | p :: ps, kv => ∃ (k : Key) (v : V) (r : List (Key × V)), kv = (k, v) :: r ∧ KR p.1 k ∧ VR N K ρ H p.2 v ∧ dat p.2 = true ∧ DR ρ H ps r
/-- what an object of Mini stands for -/
def OR (ρ : List Addr) (H : L2.Hp) (a : Addr) : Obj → Prop
  | .lst xs => ∃ vs, H a = some (.lst vs) ∧ VRs N K ρ H xs vs ∧ xs.all dat = true
  | .dic kvs => ∃ kv, H a = some (.dK kv) ∧ DR N K ρ H kvs kv
  | .set _ => False
  | .ins _ _ => False

/-- later: more objects, what is not an object of Mini stays -/
structure Ext (ρ : List Addr) (H : L2.Hp) (ρ' : List Addr) (H' : L2.Hp) : Prop where
  pre : ∃ more, ρ' = ρ ++ more ∧ ∀ b ∈ more, H b = none
  keep : ∀ b o, H b = some o → b ∉ ρ → (∀ ps, o ≠ .tbl ps) → H' b = some o
  dom : ∀ b, H' b = none → H b = none
structure RelH (ρ : List Addr) (h : MH) (H : L2.Hp) : Prop where
  len : ρ.length = h.length
  nd : ρ.Nodup
  obj : ∀ (i : Nat) (a : Addr) (o : Obj), ρ[i]? = some a → h[i]? = some o → OR N K ρ H a o
structure FR (ρ : List Addr) (H : L2.Hp) (τ : MF) (σ : L2.St) : Prop where
  len : σ.length = τ.length
  at_ : ∀ (i : Nat) (x : Val), τ[i]? = some (some x) → ∃ v, σ[i]? = some (some v) ∧ VR N K ρ H x v

variable {N K} {ρ ρ' ρ'' : List Addr} {H H' H'' : L2.Hp}
theorem Ext.refl : Ext ρ H ρ H := ⟨⟨[], by simp, by simp⟩, fun _ _ h _ _ => h, fun _ h => h⟩
theorem Ext.notin (e : Ext ρ H ρ' H') {c : Addr} {o : HO} (h : H c = some o) (n : c ∉ ρ) : c ∉ ρ' := fun hc => by
  obtain ⟨m1, e1, f1⟩ := e.pre
  rw [e1] at hc
  rcases List.mem_append.mp hc with z | z
  · exact n z
  · rw [f1 c z] at h
    cases h
theorem Ext.trans (a : Ext ρ H ρ' H') (b : Ext ρ' H' ρ'' H'') : Ext ρ H ρ'' H'' := by
  obtain ⟨m1, e1, f1⟩ := a.pre
  obtain ⟨m2, e2, f2⟩ := b.pre
  refine ⟨⟨m1 ++ m2, by rw [e2, e1, List.append_assoc], fun c hc => ?_⟩, fun c o h n t => b.keep c o (a.keep c o h n t) (a.notin h n) t, fun c h => a.dom c (b.dom c h)⟩
  rcases List.mem_append.mp hc with z | z
  · exact f1 c z
  · exact a.dom c (f2 c z)
theorem Ext.at_ (e : Ext ρ H ρ' H') {i : Nat} {a : Addr} (h : ρ[i]? = some a) : ρ'[i]? = some a := by
  obtain ⟨m1, e1, _⟩ := e.pre
  rw [e1, List.getElem?_append_left (List.getElem?_eq_some_iff.mp h).1]
  exact h
/-- what the values lean on stays -/
def imm : HO → Prop
  | .tup _ => True
  | .frz _ _ => True
  | .xd _ => True
  | _ => False
structure Kp (ρ : List Addr) (H : L2.Hp) (ρ' : List Addr) (H' : L2.Hp) : Prop where
  at_ : ∀ (i : Nat) (a : Addr), ρ[i]? = some a → ρ'[i]? = some a
  keep : ∀ b o, H b = some o → b ∉ ρ → imm o → H' b = some o ∧ b ∉ ρ'
theorem Ext.kp (e : Ext ρ H ρ' H') : Kp ρ H ρ' H' := ⟨fun _ _ h => e.at_ h, fun b o h n t => ⟨e.keep b o h n (fun ps z => by rw [z] at t; exact t), e.notin h n⟩⟩
theorem TupAt.kp (e : Kp ρ H ρ' H') {a : Addr} {vs : List V} (t : TupAt K ρ H a vs) : TupAt K ρ' H' a vs := by
  rcases t with ⟨t, n⟩ | t
  · exact .inl ⟨(e.keep a _ t n trivial).1, (e.keep a _ t n trivial).2⟩
  · exact .inr t
theorem FlAt.kp (e : Kp ρ H ρ' H') {a : Addr} {vs : List V} (t : FlAt K ρ H a vs) : FlAt K ρ' H' a vs := by
  rcases t with ⟨⟨o, t⟩, n⟩ | t
  · exact .inl ⟨⟨o, (e.keep a _ t n trivial).1⟩, (e.keep a _ t n trivial).2⟩
  · exact .inr t
mutual
theorem VR.kp (e : Kp ρ H ρ' H') : ∀ (x : Val) (v : V), VR N K ρ H x v → VR N K ρ' H' x v
  | .non, v, h => h
  | .bl b, v, h => h
  | .int i, v, h => h
  | .str s, v, h => h
  | .tup xs, v, h => by
    simp only [VR] at h ⊢
    obtain ⟨a, vs, e1, t, r, dd⟩ := h
    exact ⟨a, vs, e1, t.kp e, VRs.kp e xs vs r, dd⟩
  | .fl xs, v, h => by
    simp only [VR] at h ⊢
    obtain ⟨a, vs, e1, t, r, dd⟩ := h
    exact ⟨a, vs, e1, t.kp e, VRs.kp e xs vs r, dd⟩
  | .ref i, v, h => by
    simp only [VR] at h ⊢
    obtain ⟨a, e1, e2⟩ := h
    exact ⟨a, e.at_ _ _ e1, e2⟩
  | .ty n, v, h => h
  | .fn i, v, h => h
  | .cls i, v, h => h
  | .exn c fs, v, h => by
    simp only [VR] at h ⊢
    obtain ⟨a, d, vs, e1, e2, r, dd, z⟩ := h
    refine ⟨a, d, vs, e1, e2, VRs.kp e fs vs r, dd, ?_⟩
    rcases z with z | ⟨z, da, z1, z2, z3⟩
    · exact .inl z
    · exact .inr ⟨z, da, z1, (e.keep da _ z2 z3 trivial).1, (e.keep da _ z2 z3 trivial).2⟩
  | .clo _ _, v, h => by
    simp only [VR] at h
  | .own _, v, h => by
    simp only [VR] at h
theorem VRs.kp (e : Kp ρ H ρ' H') : ∀ (xs : List Val) (vs : List V), VRs N K ρ H xs vs → VRs N K ρ' H' xs vs
  | [], vs, h => h
  | x :: xs, vs, h => by
    simp only [VRs] at h ⊢
    obtain ⟨v, r, e1, h1, h2⟩ := h
    exact ⟨v, r, e1, VR.kp e x v h1, VRs.kp e xs r h2⟩
end
theorem DR.kp (e : Kp ρ H ρ' H') : ∀ (ps : List (Val × Val)) (kv : List (Key × V)), DR N K ρ H ps kv → DR N K ρ' H' ps kv
  | [], kv, h => h
  | p :: ps, kv, h => by
    simp only [DR] at h ⊢
    obtain ⟨k, v, r, e1, h1, h2, dd, h3⟩ := h
    exact ⟨k, v, r, e1, h1, h2.kp e, dd, DR.kp e ps r h3⟩
theorem FR.kp (e : Kp ρ H ρ' H') {τ : MF} {σ : L2.St} (f : FR N K ρ H τ σ) : FR N K ρ' H' τ σ :=
  ⟨f.len, fun i x h => let ⟨v, h1, h2⟩ := f.at_ i x h; ⟨v, h1, h2.kp e⟩⟩
theorem TupAt.mono (e : Ext ρ H ρ' H') {a : Addr} {vs : List V} (t : TupAt K ρ H a vs) : TupAt K ρ' H' a vs := t.kp e.kp
theorem FlAt.mono (e : Ext ρ H ρ' H') {a : Addr} {vs : List V} (t : FlAt K ρ H a vs) : FlAt K ρ' H' a vs := t.kp e.kp
theorem VR.mono (e : Ext ρ H ρ' H') (x : Val) (v : V) (h : VR N K ρ H x v) : VR N K ρ' H' x v := VR.kp e.kp x v h
theorem VRs.mono (e : Ext ρ H ρ' H') (x : List Val) (v : List V) (h : VRs N K ρ H x v) : VRs N K ρ' H' x v := VRs.kp e.kp x v h
theorem DR.mono (e : Ext ρ H ρ' H') (x : List (Val × Val)) (v : List (Key × V)) (h : DR N K ρ H x v) : DR N K ρ' H' x v := DR.kp e.kp x v h
theorem FR.mono (e : Ext ρ H ρ' H') {τ : MF} {σ : L2.St} (f : FR N K ρ H τ σ) : FR N K ρ' H' τ σ := f.kp e.kp
theorem FR.set {τ : MF} {σ : L2.St} (f : FR N K ρ H τ σ) (i : Nat) {x : Val} {v : V} (r : VR N K ρ H x v) : FR N K ρ H (τ.set i (some x)) (σ.set i (some v)) := by
  refine ⟨by simp [f.len], fun j y h => ?_⟩
  by_cases hj : i = j
  · subst hj
    rw [List.getElem?_set] at h
    by_cases hl : i < τ.length
    · rw [if_pos rfl, if_pos hl] at h
      cases h
      refine ⟨v, ?_, r⟩
      rw [List.getElem?_set_self (by rw [f.len]; exact hl)]
    · rw [if_pos rfl, if_neg hl] at h
      cases h
  · rw [List.getElem?_set_ne hj] at h
    rw [List.getElem?_set_ne hj]
    exact f.at_ j y h

/-! ### outcomes -/
/-- a raised exception's own dict -/
def XD (N : Nm) (ρ : List Addr) (H : L2.Hp) (c : Nat) (vs : List V) (d : Option Addr) : Prop :=
  (N.flds c = [] ∧ d = none) ∨ (N.flds c ≠ [] ∧ ∃ dd, d = some dd ∧ H dd = some (.xd ((N.flds c).zip vs)) ∧ dd ∉ ρ)
def Post (N : Nm) (K : PySem.W.Frag) (ρ : List Addr) (H : L2.Hp) (Wx : Value → Option Addr → L2.Hp → Prop) {α β : Type} (rel : List Addr → L2.Hp → α → β → Prop) (r : Res α) (Q : β → L2.Hp → Prop) : Prop :=
  match r with
  | .ok x h' => ∀ ρ' H' v, Ext ρ H ρ' H' → RelH N K ρ' h' H' → rel ρ' H' x v → Q v H'
  | .exc c fs h' => ∀ ρ' H' vs d, Ext ρ H ρ' H' → RelH N K ρ' h' H' → VRs N K ρ' H' fs vs → fs.all dat = true → XD N ρ' H' c vs d → Wx (.ref (He.ga K (N.cls c))) d H'
  | .bad => False
section
variable {Wx : Value → Option Addr → L2.Hp → Prop} {α β γ δ : Type} {rel : List Addr → L2.Hp → α → β → Prop} {rel2 : List Addr → L2.Hp → γ → δ → Prop}
theorem Post.later (e : Ext ρ H ρ' H') {r : Res α} {Q : β → L2.Hp → Prop} (p : Post N K ρ H Wx rel r Q) : Post N K ρ' H' Wx rel r Q := by
  cases r with
  | ok x h => exact fun ρ2 H2 v e2 => p ρ2 H2 v (e.trans e2)
  | exc c fs h => exact fun ρ2 H2 vs d e2 => p ρ2 H2 vs d (e.trans e2)
  | bad => exact p
theorem Post.imp {r : Res α} {Q Q' : β → L2.Hp → Prop} (p : Post N K ρ H Wx rel r Q) (h : ∀ v H', Q v H' → Q' v H') : Post N K ρ H Wx rel r Q' := by
  cases r with
  | ok x h1 => exact fun ρ2 H2 v e2 h2 h3 => h v H2 (p ρ2 H2 v e2 h2 h3)
  | exc c fs h1 => exact p
  | bad => exact p
/-- what a first outcome leaves for the second -/
theorem Post.bind {r : Res α} {f : α → MH → Res γ} {Q : δ → L2.Hp → Prop} (p : Post N K ρ H Wx rel2 (r.bind f) Q) :
    Post N K ρ H Wx rel r fun v H1 => ∃ ρ1 h1 x, Ext ρ H ρ1 H1 ∧ RelH N K ρ1 h1 H1 ∧ rel ρ1 H1 x v ∧ Post N K ρ1 H1 Wx rel2 (f x h1) Q := by
  cases r with
  | ok x h => exact fun ρ1 H1 v e rh rv => ⟨ρ1, h, x, e, rh, rv, Post.later (r := f x h) e p⟩
  | exc c fs h => exact p
  | bad => exact p
theorem Post.ok {x : α} {h : MH} {v : β} {Q : β → L2.Hp → Prop} (p : Post N K ρ H Wx rel (.ok x h) Q) (rh : RelH N K ρ h H) (rv : rel ρ H x v) : Q v H := p ρ H v Ext.refl rh rv
end
/-- how a statement goes on -/
def PostS (N : Nm) (K : PySem.W.Frag) (ρ : List Addr) (H : L2.Hp) (W : WX) (D : Ends) (r : Out) : Prop :=
  match r with
  | .nx τ h' => ∀ ρ' H' σ', Ext ρ H ρ' H' → RelH N K ρ' h' H' → FR N K ρ' H' τ σ' → D.nx σ' H'
  | .rt x h' => ∀ ρ' H' v, Ext ρ H ρ' H' → RelH N K ρ' h' H' → VR N K ρ' H' x v → D.rt v H'
  | .bk τ h' => ∀ ρ' H' σ', Ext ρ H ρ' H' → RelH N K ρ' h' H' → FR N K ρ' H' τ σ' → D.bk σ' H'
  | .ct τ h' => ∀ ρ' H' σ', Ext ρ H ρ' H' → RelH N K ρ' h' H' → FR N K ρ' H' τ σ' → D.ct σ' H'
  | .ex c fs τ h' => ∀ ρ' H' σ' vs d, Ext ρ H ρ' H' → RelH N K ρ' h' H' → FR N K ρ' H' τ σ' → VRs N K ρ' H' fs vs → fs.all dat = true → XD N ρ' H' c vs d → W (.ref (He.ga K (N.cls c))) d σ' H'
  | .bad => False
theorem PostS.later {W : WX} {D : Ends} (e : Ext ρ H ρ' H') {r : Out} (p : PostS N K ρ H W D r) : PostS N K ρ' H' W D r := by
  cases r with
  | nx τ h => exact fun ρ2 H2 v e2 => p ρ2 H2 v (e.trans e2)
  | rt x h => exact fun ρ2 H2 v e2 => p ρ2 H2 v (e.trans e2)
  | bk τ h => exact fun ρ2 H2 v e2 => p ρ2 H2 v (e.trans e2)
  | ct τ h => exact fun ρ2 H2 v e2 => p ρ2 H2 v (e.trans e2)
  | ex c fs τ h => exact fun ρ2 H2 σ' vs d e2 => p ρ2 H2 σ' vs d (e.trans e2)
  | bad => exact p

/-! ### readings -/
section
variable (N K) (W : WX)
/-- an expression's reading by its meaning -/
def sE (m : MF → MH → Res Val) : TE := fun σ H Q => ∃ ρ h τ, RelH N K ρ h H ∧ FR N K ρ H τ σ ∧ Post N K ρ H (fun c d H' => W c d σ H') (VR N K) (m τ h) Q
def sA (m : MF → MH → Res (List Val)) : TA := fun σ H Q => ∃ ρ h τ, RelH N K ρ h H ∧ FR N K ρ H τ σ ∧ Post N K ρ H (fun c d H' => W c d σ H') (VRs N K) (m τ h) Q
def sT (m : MF → MH → Res Bool) : TT := fun σ H Q => ∃ ρ h τ, RelH N K ρ h H ∧ FR N K ρ H τ σ ∧ Post N K ρ H (fun c d H' => W c d σ H') (fun _ _ x v => v = x) (m τ h) Q
def sS (m : MF → MH → Out) : TS := fun D σ H => ∃ ρ h τ, RelH N K ρ h H ∧ FR N K ρ H τ σ ∧ PostS N K ρ H W D (m τ h)
/-- an operation of two values -/
def sO2 (f : MH → Val → Val → Res Val) : R2 := fun x y H Q => ∃ ρ h wx wy, RelH N K ρ h H ∧ VR N K ρ H wx x ∧ VR N K ρ H wy y ∧ Post N K ρ H (fun _ _ _ => False) (VR N K) (f h wx wy) Q
def sOs (f : MH → List Val → Res Val) : List V → L2.Hp → VK → Prop := fun xs H Q => ∃ ρ h ws, RelH N K ρ h H ∧ VRs N K ρ H ws xs ∧ Post N K ρ H (fun _ _ _ => False) (VR N K) (f h ws) Q
end
/-- weaker readings -/
theorem _root_.L2.PE.weak {X : Cx} {e : Expr} {t t' : TE} (p : PE X e t) (h : ∀ σ H Q, t' σ H Q → t σ H Q) : PE X e t' := ⟨fun pins s σ H Q I q => p.run pins s σ H Q I (h σ H Q q)⟩
theorem _root_.L2.PT.weak {X : Cx} {e : Expr} {t t' : TT} (p : PT X e t) (h : ∀ σ H Q, t' σ H Q → t σ H Q) : PT X e t' := ⟨fun pins s σ H Q I q => p.run pins s σ H Q I (h σ H Q q)⟩
theorem _root_.L2.PA.weak {X : Cx} {es : List Expr} {t t' : TA} (p : PA X es t) (h : ∀ σ H Q, t' σ H Q → t σ H Q) : PA X es t' := ⟨fun pos pins s σ H Q I q => p.run pos pins s σ H Q I (h σ H Q q)⟩
theorem _root_.L2.PS.weak {X : Cx} {st : Stmt} {t t' : TS} (p : PS X st t) (h : ∀ D σ H, t' D σ H → t D σ H) : PS X st t' := ⟨fun pins s σ H D I q => p.run pins s σ H D I (h D σ H q)⟩
theorem _root_.L2.PSs.weak {X : Cx} {st : List Stmt} {t t' : TS} (p : PSs X st t) (h : ∀ D σ H, t' D σ H → t D σ H) : PSs X st t' := ⟨fun pins s σ H D I q => p.run pins s σ H D I (h D σ H q)⟩
end
end Mini
set_option Elab.async false
set_option linter.all false
set_option maxRecDepth 100000
set_option maxHeartbeats 2000000
/-! Mini against the model: objects made, changed; operations. -/
namespace Mini
open PySem PySem.Spec PyProof.Rows L2
section
variable {N : Nm} {K : PySem.W.Frag} {ρ ρ' : List Addr} {H H' : L2.Hp} {h : MH}

/-! ### lists of values -/
theorem VRs.length : ∀ {xs : List Val} {vs : List V}, VRs N K ρ H xs vs → vs.length = xs.length
  | [], vs, h => by
    simp only [VRs] at h
    rw [h]
    rfl
  | x :: xs, vs, h => by
    simp only [VRs] at h
    obtain ⟨v, r, e, _, h2⟩ := h
    rw [e, List.length_cons, List.length_cons, VRs.length h2]
theorem VRs.get : ∀ {xs : List Val} {vs : List V}, VRs N K ρ H xs vs → ∀ {i : Nat} {x : Val}, xs[i]? = some x → ∃ v, vs[i]? = some v ∧ VR N K ρ H x v
  | [], vs, h, i, x, e => by simp at e
  | y :: xs, vs, h, i, x, e => by
    simp only [VRs] at h
    obtain ⟨v, r, rfl, h1, h2⟩ := h
    cases i with
    | zero =>
      simp at e
      subst e
      exact ⟨v, rfl, h1⟩
    | succ i =>
      obtain ⟨u, a, b⟩ := VRs.get h2 (i := i) (x := x) (by simpa using e)
      exact ⟨u, by simpa using a, b⟩
theorem VRs.append : ∀ {xs ys : List Val} {vs us : List V}, VRs N K ρ H xs vs → VRs N K ρ H ys us → VRs N K ρ H (xs ++ ys) (vs ++ us)
  | [], ys, vs, us, h, g => by
    simp only [VRs] at h
    subst h
    exact g
  | x :: xs, ys, vs, us, h, g => by
    simp only [VRs] at h
    obtain ⟨v, r, rfl, h1, h2⟩ := h
    show VRs N K ρ H (x :: (xs ++ ys)) (v :: (r ++ us))
    simp only [VRs]
    exact ⟨v, _, rfl, h1, h2.append g⟩
theorem VRs.one {x : Val} {v : V} (r : VR N K ρ H x v) : VRs N K ρ H [x] [v] := by
  simp only [VRs]
  exact ⟨v, [], rfl, r, rfl⟩
theorem VRs.set : ∀ {xs : List Val} {vs : List V} (i : Nat) {x : Val} {v : V}, VRs N K ρ H xs vs → VR N K ρ H x v → VRs N K ρ H (xs.set i x) (vs.set i v)
  | [], vs, i, x, v, h, r => by
    simp only [VRs] at h
    subst h
    simp [VRs]
  | y :: xs, vs, 0, x, v, h, r => by
    simp only [VRs] at h
    obtain ⟨u, t, rfl, h1, h2⟩ := h
    show VRs N K ρ H (x :: xs) (v :: t)
    simp only [VRs]
    exact ⟨v, t, rfl, r, h2⟩
  | y :: xs, vs, i + 1, x, v, h, r => by
    simp only [VRs] at h
    obtain ⟨u, t, rfl, h1, h2⟩ := h
    show VRs N K ρ H (y :: xs.set i x) (u :: t.set i v)
    simp only [VRs]
    exact ⟨u, _, rfl, h1, h2.set i r⟩

/-! ### objects -/
theorem OR.kp (e : Kp ρ H ρ' H') {a : Addr} (k : H' a = H a) : ∀ {o : Obj}, OR N K ρ H a o → OR N K ρ' H' a o
  | .lst xs, h => by
    simp only [OR] at h ⊢
    obtain ⟨vs, h1, h2, dd⟩ := h
    exact ⟨vs, by rw [k]; exact h1, h2.kp e, dd⟩
  | .dic kvs, h => by
    simp only [OR] at h ⊢
    obtain ⟨vs, h1, h2⟩ := h
    exact ⟨vs, by rw [k]; exact h1, h2.kp e⟩
  | .set _, h => by
    simp only [OR] at h
  | .ins _ _, h => by
    simp only [OR] at h
theorem OR.mono (e : Ext ρ H ρ' H') {a : Addr} (k : H' a = H a) {o : Obj} (h : OR N K ρ H a o) : OR N K ρ' H' a o := h.kp e.kp k
theorem OR.some_ {a : Addr} : ∀ {o : Obj}, OR N K ρ H a o → ∃ u, H a = some u ∧ Mut (some u) ∧ (∀ ps, u ≠ .tbl ps)
  | .lst xs, h => by
    simp only [OR] at h
    obtain ⟨vs, h1, h2⟩ := h
    exact ⟨_, h1, trivial, fun ps z => by cases z⟩
  | .dic kvs, h => by
    simp only [OR] at h
    obtain ⟨vs, h1, h2⟩ := h
    exact ⟨_, h1, trivial, fun ps z => by cases z⟩
  | .set _, h => by
    simp only [OR] at h
  | .ins _ _, h => by
    simp only [OR] at h
theorem RelH.some_ (r : RelH N K ρ h H) {i : Nat} {a : Addr} (e : ρ[i]? = some a) : ∃ o, h[i]? = some o ∧ OR N K ρ H a o := by
  have hi : i < h.length := by
    rw [← r.len]
    exact (List.getElem?_eq_some_iff.mp e).1
  exact ⟨h[i], List.getElem?_eq_getElem hi, r.obj i a _ e (List.getElem?_eq_getElem hi)⟩
theorem RelH.at_ (r : RelH N K ρ h H) {i : Nat} {o : Obj} (e : h[i]? = some o) : ∃ a, ρ[i]? = some a ∧ OR N K ρ H a o := by
  have hi : i < ρ.length := by
    rw [r.len]
    exact (List.getElem?_eq_some_iff.mp e).1
  exact ⟨ρ[i], List.getElem?_eq_getElem hi, r.obj i _ o (List.getElem?_eq_getElem hi) e⟩
/-- a thing that is no object of Mini is new -/
theorem Ext.newT {p : Addr} {o : HO} (hp : H p = none) : Ext ρ H ρ (upd H p o) :=
  ⟨⟨[], by simp, by simp⟩, fun b u e _ _ => by rw [upd_ne (ne_of_none e hp)]; exact e, fun b e => by
    by_cases q : b = p
    · rw [q]; exact hp
    · rw [upd_ne q] at e; exact e⟩
theorem RelH.newT {p : Addr} {o : HO} (hp : H p = none) (r : RelH N K ρ h H) : RelH N K ρ h (upd H p o) := by
  refine ⟨r.len, r.nd, fun i a u e1 e2 => ?_⟩
  have q := r.obj i a u e1 e2
  obtain ⟨x, hx, _⟩ := q.some_
  exact q.mono (Ext.newT hp) (upd_ne (ne_of_none hx hp))
/-- a new object -/
theorem Ext.new {p : Addr} {o : HO} (hp : H p = none) : Ext ρ H (ρ ++ [p]) (upd H p o) :=
  ⟨⟨[p], rfl, fun b hb => by rw [List.mem_singleton.mp hb]; exact hp⟩, (Ext.newT (ρ := ρ) hp).keep, (Ext.newT (ρ := ρ) hp).dom⟩
theorem RelH.notin (r : RelH N K ρ h H) {p : Addr} (hp : H p = none) : p ∉ ρ := fun hm => by
  obtain ⟨i, hi, e⟩ := List.mem_iff_getElem.mp hm
  obtain ⟨o, _, q⟩ := r.some_ (i := i) (a := p) (by rw [List.getElem?_eq_getElem hi, e])
  obtain ⟨u, hu, _⟩ := q.some_
  rw [hp] at hu
  cases hu
theorem RelH.newK {p : Addr} {o : HO} {ob : Obj} (np : p ∉ ρ) (e0 : Kp ρ H (ρ ++ [p]) (upd H p o)) (r : RelH N K ρ h H) (n : OR N K (ρ ++ [p]) (upd H p o) p ob) : RelH N K (ρ ++ [p]) (h ++ [ob]) (upd H p o) := by
  refine ⟨by rw [List.length_append, List.length_append, r.len]; rfl, ?_, fun i a u e1 e2 => ?_⟩
  · rw [List.nodup_append]
    refine ⟨r.nd, by simp, fun a ha b hb z => ?_⟩
    rw [List.mem_singleton] at hb
    subst hb
    exact np (z ▸ ha)
  · by_cases hi : i < ρ.length
    · rw [List.getElem?_append_left hi] at e1
      rw [List.getElem?_append_left (by rw [← r.len]; exact hi)] at e2
      have q := r.obj i a u e1 e2
      obtain ⟨x, hx, _⟩ := q.some_
      exact q.kp e0 (upd_ne fun z => np (z ▸ List.mem_of_getElem? e1))
    · rw [List.getElem?_append_right (Nat.le_of_not_lt hi)] at e1
      rw [List.getElem?_append_right (by rw [← r.len]; exact Nat.le_of_not_lt hi), ← r.len] at e2
      cases hk : i - ρ.length with
      | zero =>
        rw [hk] at e1 e2
        cases e1
        cases e2
        exact n
      | succ k =>
        rw [hk] at e1
        simp at e1
theorem RelH.new {p : Addr} {o : HO} {ob : Obj} (hp : H p = none) (r : RelH N K ρ h H) (n : OR N K (ρ ++ [p]) (upd H p o) p ob) : RelH N K (ρ ++ [p]) (h ++ [ob]) (upd H p o) := r.newK (r.notin hp) (Ext.new hp).kp n
theorem VR.newRef {p : Addr} {o : HO} (r : RelH N K ρ h H) : VR N K (ρ ++ [p]) (upd H p o) (.ref h.length) (.ref p) := by
  simp only [VR]
  refine ⟨p, ?_, rfl⟩
  rw [← r.len, List.getElem?_append_right (Nat.le_refl _), Nat.sub_self]
  rfl
/-- an object changes -/
theorem Ext.put {i : Nat} {a : Addr} {o : HO} (e : ρ[i]? = some a) : Ext ρ H ρ (upd H a o) := by
  have hm : a ∈ ρ := List.mem_of_getElem? e
  refine ⟨⟨[], by simp, by simp⟩, fun b u e n _ => ?_, fun b q => ?_⟩
  · rw [upd_ne (fun z => n (by rw [z]; exact hm))]
    exact e
  · by_cases z : b = a
    · rw [z, upd_same] at q
      cases q
    · rw [upd_ne z] at q
      exact q
theorem RelH.put {i : Nat} {a : Addr} {o : HO} {ob : Obj} (r : RelH N K ρ h H) (e : ρ[i]? = some a) (n : OR N K ρ (upd H a o) a ob) : RelH N K ρ (h.set i ob) (upd H a o) := by
  refine ⟨by rw [List.length_set]; exact r.len, r.nd, fun j b u e1 e2 => ?_⟩
  by_cases hj : i = j
  · subst hj
    rw [e] at e1
    cases e1
    have hi : i < h.length := by
      rw [← r.len]
      exact (List.getElem?_eq_some_iff.mp e).1
    rw [List.getElem?_set_self hi] at e2
    cases e2
    exact n
  · rw [List.getElem?_set_ne hj] at e2
    have q := r.obj j b u e1 e2
    have nb : b ≠ a := fun z => by
      subst z
      have h1 := (List.getElem?_eq_some_iff.mp e)
      have h2 := (List.getElem?_eq_some_iff.mp e1)
      obtain ⟨l1, g1⟩ := h1
      obtain ⟨l2, g2⟩ := h2
      exact hj ((List.getElem_inj r.nd).mp (g1.trans g2.symm))
    exact q.mono (Ext.put e) (upd_ne nb)

/-! ### what is read -/
theorem isList_sq (r : RelH N K ρ h H) {x : Val} {v : V} (rv : VR N K ρ H x v) {xs : List Val} (e : isList h x = some xs) : ∃ (a : Addr) (vs : List V), v = .ref a ∧ SqL K H a vs ∧ VRs N K ρ H xs vs ∧ xs.all dat = true := by
  cases x with
  | fl ys =>
    simp only [isList, Option.some.injEq] at e
    subst e
    simp only [VR] at rv
    obtain ⟨a, vs, e1, t, q, dd⟩ := rv
    exact ⟨a, vs, e1, t.sq, q, dd⟩
  | ref i =>
    simp only [isList] at e
    simp only [VR] at rv
    obtain ⟨a, e1, e2⟩ := rv
    obtain ⟨o, e3, q⟩ := r.some_ e1
    rw [e3] at e
    cases o with
    | lst ys =>
      simp only [Option.some.injEq] at e
      subst e
      simp only [OR] at q
      obtain ⟨vs, h1, h2, dd⟩ := q
      exact ⟨a, vs, e2, SqL.of h1, h2, dd⟩
    | _ => cases e
  | _ => cases e
end
end Mini
set_option Elab.async false
set_option linter.all false
set_option maxRecDepth 100000
set_option maxHeartbeats 2000000
/-! Mini against the model: operations by their rules. -/
namespace Mini
open PySem PySem.Spec PyProof.Rows L2

/-- what is fixed through the whole law -/
structure Base (X : Cx) : Prop where
  guards : X.A.guards = some []
  un : X.A.units + 200 < cLine
  sysm : ∃ o es ep, X.base.get? sysModules = some o ∧ o.data = .dict es ep

section
variable {N : Nm} {X : Cx} {ρ : List Addr} {H : L2.Hp} {h : MH} {Q : VK}
abbrev NoW : Value → Option Addr → L2.Hp → Prop := fun _ _ _ => False
theorem Post.val {w : Val} {v : V} (p : Post N X.K ρ H NoW (VR N X.K) (.ok w h) Q) (rh : RelH N X.K ρ h H) (rv : VR N X.K ρ H w v) : Q v H := p ρ H v Ext.refl rh rv
theorem Post.newTup {ws : List Val} {vs : List V} {a : Addr} (p : Post N X.K ρ H NoW (VR N X.K) (.ok (.tup ws) h) Q) (rh : RelH N X.K ρ h H) (hp : H a = none) (r : VRs N X.K ρ H ws vs) (dd : ws.all dat = true) : Q (.ref a) (upd H a (.tup vs)) := by
  refine p ρ _ _ (Ext.newT hp) (rh.newT hp) ?_
  simp only [VR]
  exact ⟨a, vs, rfl, .inl ⟨upd_same, rh.notin hp⟩, r.mono (Ext.newT hp), dd⟩
theorem Post.newLst {ws : List Val} {vs : List V} {a : Addr} {w : Val} {h' : MH} (p : Post N X.K ρ H NoW (VR N X.K) (.ok w h') Q) (e : alloc h (.lst ws) = some (w, h')) (rh : RelH N X.K ρ h H) (hp : H a = none) (r : VRs N X.K ρ H ws vs) (dd : ws.all dat = true) : Q (.ref a) (upd H a (.lst vs)) := by
  cases e
  refine p (ρ ++ [a]) _ _ (Ext.new hp) (rh.new hp ?_) (VR.newRef rh)
  simp only [OR]
  exact ⟨vs, upd_same, r.mono (Ext.new hp), dd⟩
theorem guardO_some {α : Type} {c : Bool} {r : Option α} {x : α} (e : guardO c r = some x) : c = true ∧ r = some x := by
  unfold guardO at e
  split at e
  · rename_i z
    exact ⟨z, e⟩
  · cases e
/-- an operation's outcome that is one -/
theorem ofOpt_ok {r : Opt} (p : Post N X.K ρ H NoW (VR N X.K) (ofOpt r) Q) : ∃ w h', r = some (w, h') ∧ Post N X.K ρ H NoW (VR N X.K) (.ok w h') Q := by
  cases r with
  | none => exact p.elim
  | some q => exact ⟨q.1, q.2, rfl, p⟩
theorem guard_post {c : Bool} {r : Opt} (p : Post N X.K ρ H NoW (VR N X.K) (ofOpt (guardO c r)) Q) : c = true ∧ Post N X.K ρ H NoW (VR N X.K) (ofOpt r) Q := by
  unfold guardO at p
  split at p
  · rename_i z
    exact ⟨z, p⟩
  · exact p.elim
theorem fits_le {n : Nat} (h : fits n = true) : n ≤ sizeLine := of_decide_eq_true h

theorem guard_inv {α : Type} {c : Bool} {r : Option α} {x : α} (e : guardO c r = some x) : c = true ∧ r = some x := guardO_some e

theorem o_add : OpR X (binaryOp .Add) (sO2 N X.K fun h a b => ofOpt (opAdd h a b)) := by
  intro pins s σ H x y v u Q I rx ry q
  obtain ⟨ρ, h, wx, wy, rh, r1, r2, p0⟩ := q
  obtain ⟨w, h', e, p⟩ := ofOpt_ok p0
  clear p0
  unfold opAdd at e
  split at e
  · simp only [VR] at r1 r2
    subst r1 r2
    cases e
    exact op_add pins s σ H _ _ v u Q I rx ry ⟨_, _, rfl, rfl, p.val rh (by simp only [VR])⟩
  · simp only [VR] at r1 r2
    subst r1 r2
    obtain ⟨z, e⟩ := guardO_some e
    cases e
    exact op_add_str pins s σ H _ _ v u Q I rx ry ⟨_, _, rfl, rfl, fits_le z, p.val rh (by simp only [VR])⟩
  · simp only [VR] at r1 r2
    obtain ⟨a, vs, e1, t1, q1, d1⟩ := r1
    obtain ⟨b, us, e2, t2, q2, d2⟩ := r2
    obtain ⟨z, e⟩ := guardO_some e
    cases e
    refine op_catA pins s σ H x y v u Q I rx ry ⟨a, b, vs, us, e1, e2, t1.sq, t2.sq, by rw [q1.length, q2.length]; exact fits_le z, fun e => ?_, fun _ e => ?_, fun _ _ l hl => ?_⟩
    · subst e
      have := q1.length
      obtain rfl := List.eq_nil_of_length_eq_zero this.symm
      refine p.val rh ?_
      simp only [VR]
      exact ⟨b, us, rfl, t2, q2, d2⟩
    · subst e
      have := q2.length
      obtain rfl := List.eq_nil_of_length_eq_zero this.symm
      refine p.val rh ?_
      simp only [VR, List.append_nil]
      exact ⟨a, vs, rfl, t1, q1, d1⟩
    · exact p.newTup rh hl (q1.append q2) (by rw [List.all_append, d1, d2]; rfl)
  · rename_i i j
    split at e
    · rename_i xs ys e1 e2
      obtain ⟨z, e⟩ := guardO_some e
      simp only [VR] at r1 r2
      obtain ⟨a, a1, a2⟩ := r1
      obtain ⟨b, b1, b2⟩ := r2
      obtain ⟨a', a3, q1⟩ := rh.at_ e1
      obtain ⟨b', b3, q2⟩ := rh.at_ e2
      rw [a1] at a3
      rw [b1] at b3
      cases a3
      cases b3
      simp only [OR] at q1 q2
      obtain ⟨vs, h1, g1, d1⟩ := q1
      obtain ⟨us, h2, g2, d2⟩ := q2
      exact op_cat pins s σ H x y v u Q I rx ry ⟨a, b, vs, us, a2, b2, h1, h2, by rw [g1.length, g2.length]; exact fits_le z, fun l hl => p.newLst e rh hl (g1.append g2) (by rw [List.all_append, d1, d2]; rfl)⟩
    · cases e
  · cases e
/-- two ints in -/
theorem o_int {f : Value → Value → Sem Value} {Cd : Int → Int → Prop} {g : Int → Int → V} {g' : Int → Int → Val} {op : MH → Val → Val → Opt} (rule : OpR X f (rI Cd g))
    (inv : ∀ h a b w h', op h a b = some (w, h') → ∃ i j, a = .int i ∧ b = .int j ∧ Cd i j ∧ w = g' i j ∧ h' = h) (hg : ∀ i j ρ H, VR N X.K ρ H (g' i j) (g i j)) : OpR X f (sO2 N X.K fun h a b => ofOpt (op h a b)) := by
  intro pins s σ H x y v u Q I rx ry q
  obtain ⟨ρ, h, wx, wy, rh, r1, r2, p0⟩ := q
  obtain ⟨w, h', e, p⟩ := ofOpt_ok p0
  clear p0
  obtain ⟨i, j, rfl, rfl, c, rfl, rfl⟩ := inv _ _ _ _ _ e
  simp only [VR] at r1 r2
  subst r1 r2
  exact rule pins s σ H _ _ v u Q I rx ry ⟨i, j, rfl, rfl, c, p.val rh (hg _ _ _ _)⟩
theorem rI_of {f : Value → Value → Sem Value} {g : Int → Int → V} (r : OpR X f (rI0 g)) : OpR X f (rI (fun _ _ => True) g) := fun pins s σ H x y v u Q I rx ry ⟨i, j, e1, e2, _, q⟩ => r pins s σ H x y v u Q I rx ry ⟨i, j, e1, e2, q⟩
theorem o_sub : OpR X (binaryOp .Sub) (sO2 N X.K fun h a b => ofOpt (opSub h a b)) := by
  refine o_int (g' := fun i j => .int (i - j)) (rI_of op_sub) (fun h a b w h' e => ?_) fun i j ρ H => by simp only [VR]
  unfold opSub at e
  split at e
  · cases e
    exact ⟨_, _, rfl, rfl, trivial, rfl, rfl⟩
  · cases e
theorem o_mul : OpR X (binaryOp .Mult) (sO2 N X.K fun h a b => ofOpt (opMul h a b)) := by
  refine o_int (g' := fun i j => .int (i * j)) op_mul (fun h a b w h' e => ?_) fun i j ρ H => by simp only [VR]
  unfold opMul at e
  split at e
  · obtain ⟨z, e⟩ := guardO_some e
    cases e
    refine ⟨_, _, rfl, rfl, ?_, rfl, rfl⟩
    simp only [lim64, Bool.or_eq_true, Bool.and_eq_true, decide_eq_true_eq] at z
    exact z
  · cases e
theorem o_fdiv : OpR X (binaryOp .FloorDiv) (sO2 N X.K fun h a b => ofOpt (opFdiv h a b)) := by
  refine o_int (g' := fun i j => .int (i / j)) op_fdiv (fun h a b w h' e => ?_) fun i j ρ H => by simp only [VR]
  unfold opFdiv at e
  split at e
  · obtain ⟨z, e⟩ := guardO_some e
    cases e
    refine ⟨_, _, rfl, rfl, ?_, rfl, rfl⟩
    simp only [Bool.and_eq_true, decide_eq_true_eq] at z
    exact z
  · cases e
theorem o_mod : OpR X (binaryOp .Mod) (sO2 N X.K fun h a b => ofOpt (opMod h a b)) := by
  refine o_int (g' := fun i j => .int (i % j)) op_mod (fun h a b w h' e => ?_) fun i j ρ H => by simp only [VR]
  unfold opMod at e
  split at e
  · obtain ⟨z, e⟩ := guardO_some e
    cases e
    exact ⟨_, _, rfl, rfl, of_decide_eq_true z, rfl, rfl⟩
  · cases e
theorem o_pow : OpR X (binaryOp .Pow) (sO2 N X.K fun h a b => ofOpt (opPow h a b)) := by
  refine o_int (g' := fun i j => .int (i ^ j.toNat)) op_pow (fun h a b w h' e => ?_) fun i j ρ H => by simp only [VR]
  unfold opPow at e
  split at e
  · obtain ⟨z, e⟩ := guardO_some e
    cases e
    refine ⟨_, _, rfl, rfl, ?_, rfl, rfl⟩
    simp only [Bool.and_eq_true, decide_eq_true_eq] at z
    exact z
  · cases e
def bopOf : BOp → Operator
  | .add => .Add
  | .sub => .Sub
  | .mul => .Mult
  | .fdiv => .FloorDiv
  | .mod => .Mod
  | .pow => .Pow
theorem o_bop : ∀ o : BOp, OpR X (binaryOp (bopOf o)) (sO2 N X.K fun h a b => ofOpt (bop o h a b))
  | .add => o_add
  | .sub => o_sub
  | .mul => o_mul
  | .fdiv => o_fdiv
  | .mod => o_mod
  | .pow => o_pow

/-! ### plain data -/
theorem Post.noexc {r : Option (Val × MH)} (p : Post N X.K ρ H NoW (VR N X.K) (ofOpt r) Q) : ∃ q, r = some q := by
  cases r with
  | none => exact p.elim
  | some q => exact ⟨q, rfl⟩
theorem depthAll_le {n : Nat} : ∀ {ds : List PyData}, (∀ d ∈ ds, d.depth ≤ n) → PyData.depthAll ds ≤ n
  | [], _ => by simp [PyData.depthAll]
  | d :: ds, hd => by
    have h1 := hd d List.mem_cons_self
    have h2 := depthAll_le (n := n) (ds := ds) fun e he => hd e (List.mem_cons_of_mem _ he)
    simp only [PyData.depthAll]
    omega
section
variable {pins : List (Addr × PySem.Obj)} {σ : L2.St} {s : Shared}
theorem trk_nosys (B : Base X) (I : Inv X pins σ H s) {a : Addr} {o : HO} (e : H a = some o) : a ≠ sysModules := fun z => by
  obtain ⟨ob, es, ep, h1, _⟩ := B.sysm
  have h2 := (I.bs _ _ h1).2
  rw [← z, e] at h2
  cases h2
theorem list_nosys (B : Base X) (I : Inv X pins σ H s) {a : Addr} {o : PySem.Obj} {its : Array Value} {n : Nat} (e : s.heap.get? a = some o) (d : o.data = .seq its n) : a ≠ sysModules := fun z => by
  obtain ⟨ob, es, ep, h1, h2⟩ := B.sysm
  have h3 := (I.bs _ _ h1).1
  rw [← z, e] at h3
  cases h3
  rw [h2] at d
  cases d
/-- a list of values reads as data, if each item does -/
theorem reads_all (P : Val → PyData → Prop) {n : Nat} {f : Val → Option PyData} (hP : ∀ x d, f x = some d → ∀ v u, VR N X.K ρ H x v → RelV v u → ∃ as, Reads s.heap u d as ∧ sysModules ∉ as ∧ d.depth ≤ n) :
    ∀ (xs : List Val) (ds : List PyData), xs.mapM f = some ds → ∀ (vs : List V) (us : List Value), VRs N X.K ρ H xs vs → Vals vs us → ∃ as, ReadsAll s.heap us ds as ∧ sysModules ∉ as ∧ ∀ d ∈ ds, d.depth ≤ n
  | [], ds, e, vs, us, r, q => by
    simp at e
    subst e
    simp only [VRs] at r
    subst r
    cases q
    exact ⟨[], .nil, by simp, by simp⟩
  | x :: xs, ds, e, vs, us, r, q => by
    simp only [VRs] at r
    obtain ⟨v, r', rfl, h1, h2⟩ := r
    cases q with
    | cons q1 q2 =>
      rw [List.mapM_cons] at e
      cases hx : f x with
      | none =>
        rw [hx] at e
        cases e
      | some d =>
        rw [hx] at e
        cases hxs : xs.mapM f with
        | none =>
          rw [hxs] at e
          cases e
        | some ds' =>
          rw [hxs] at e
          cases e
          obtain ⟨as, a1, a2, a3⟩ := hP x d hx _ _ h1 q1
          obtain ⟨bs, b1, b2, b3⟩ := reads_all P hP xs ds' hxs _ _ h2 q2
          refine ⟨as ++ bs, .cons a1 b1, fun hm => ?_, fun e he => ?_⟩
          · rcases List.mem_append.mp hm with z | z
            · exact a2 z
            · exact b2 z
          · rcases List.mem_cons.mp he with z | z
            · rw [z]
              exact a3
            · exact b3 e z
end
end
end Mini
set_option Elab.async false
set_option linter.all false
set_option maxRecDepth 100000
set_option maxHeartbeats 2000000
/-! Mini against the model: comparisons, items, built-ins. -/
namespace Mini
open PySem PySem.Spec PyProof.Rows L2
section
variable {N : Nm} {X : Cx} {ρ : List Addr} {H : L2.Hp} {h : MH} {Q : VK}
section
variable {pins : List (Addr × PySem.Obj)} {σ : L2.St} {s : Shared}
theorem map_some {α β : Type} {o : Option α} {f : α → β} {y : β} (e : o.map f = some y) : ∃ x, o = some x ∧ f x = y := by
  cases o with
  | none => cases e
  | some x => exact ⟨x, rfl, Option.some.inj e⟩
theorem bind_some {α β : Type} {o : Option α} {f : α → Option β} {y : β} (e : o.bind f = some y) : ∃ x, o = some x ∧ f x = some y := by
  cases o with
  | none => cases e
  | some x => exact ⟨x, rfl, e⟩
theorem key_reads {k : Key} {x : Val} {u : Value} {n : Nat} {d : PyData} (kr : KR x k) (ku : keyIs k u = true) (e : toD h n x = some d) : Reads s.heap u d [] ∧ d.depth = 0 := by
  rcases keyIs_shape ku with ⟨i, t, rfl, rfl⟩ | ⟨z, t, rfl, rfl⟩
  · cases x with
    | int j =>
      simp only [KR] at kr
      cases kr
      cases n with
      | zero => cases e
      | succ n =>
        cases e
        exact ⟨.int _ _, by simp [PyData.depth]⟩
    | str z =>
      simp only [KR] at kr
      cases kr
    | _ => simp only [KR] at kr
  · cases x with
    | int j =>
      simp only [KR] at kr
      cases kr
    | str z =>
      simp only [KR] at kr
      cases kr
      cases n with
      | zero => cases e
      | succ n =>
        cases e
        exact ⟨.str _ _, by simp [PyData.depth]⟩
    | _ => simp only [KR] at kr
theorem keys_reads {n : Nat} : ∀ (kvs : List (Val × Val)) (kv : List (Key × V)) (vs : List (Key × Value)) (es : List DictEntry) (ks : List PyData), DR N X.K ρ H kvs kv → KV kv vs → Pairs (mixKind X.prog X.w) es vs →
    (kvs.map (·.1)).mapM (toD h n) = some ks → ReadsAll s.heap (es.map (·.key)) ks [] ∧ (∀ d ∈ ks, d.depth = 0) ∧ VRs N X.K ρ H (kvs.map (·.2)) (kv.map (·.2)) ∧ Vals (kv.map (·.2)) (es.map (·.val)) ∧ ks.length = kvs.length
  | [], kv, vs, es, ks, r, q, p, e => by
    simp only [DR] at r
    subst r
    cases q
    cases p
    simp at e
    subst e
    exact ⟨.nil, by simp, by simp [VRs], .nil, rfl⟩
  | z :: kvs, kv, vs, es, ks, r, q, p, e => by
    simp only [DR] at r
    obtain ⟨k, v, r', rfl, h1, h2, dd, h3⟩ := r
    cases q with
    | cons q1 q2 =>
      cases p with
      | cons p1 p2 p3 =>
        rw [List.map_cons, List.mapM_cons] at e
        cases hx : toD h n z.1 with
        | none =>
          rw [hx] at e
          cases e
        | some d =>
          rw [hx] at e
          cases hxs : (kvs.map (·.1)).mapM (toD h n) with
          | none =>
            rw [hxs] at e
            cases e
          | some ds =>
            rw [hxs] at e
            cases e
            obtain ⟨a1, a2, a3, a4, a5⟩ := keys_reads kvs r' _ _ ds h3 q2 p3 hxs
            have q1' : k = _ ∧ RelV v _ := q1
            obtain ⟨b1, b2⟩ := key_reads (s := s) h1 (by rw [q1'.1]; exact p1) hx
            refine ⟨.cons b1 a1, fun d' hd => ?_, ?_, ?_, by rw [List.length_cons, List.length_cons, a5]⟩
            · rcases List.mem_cons.mp hd with y | y
              · rw [y]
                exact b2
              · exact a2 d' y
            · show VRs N X.K ρ H (z.2 :: kvs.map (·.2)) (v :: r'.map (·.2))
              simp only [VRs]
              exact ⟨v, _, rfl, h2, a3⟩
            · refine .cons ?_ a4
              show L2.RelV v (DictEntry.val _)
              rw [p2]
              exact q1'.2
theorem zip_fst : ∀ {α β : Type} {a : List α} {b : List β}, a.length = b.length → (a.zip b).map (·.1) = a
  | _, _, [], [], _ => rfl
  | _, _, x :: a, y :: b, e => by
    show x :: (a.zip b).map (·.1) = x :: a
    rw [zip_fst (by simpa using e)]
theorem zip_snd : ∀ {α β : Type} {a : List α} {b : List β}, a.length = b.length → (a.zip b).map (·.2) = b
  | _, _, [], [], _ => rfl
  | _, _, x :: a, y :: b, e => by
    show y :: (a.zip b).map (·.2) = y :: b
    rw [zip_snd (by simpa using e)]
theorem mapM_len {α β : Type} {f : α → Option β} : ∀ {xs : List α} {ys : List β}, xs.mapM f = some ys → ys.length = xs.length
  | [], ys, e => by
    simp at e
    subst e
    rfl
  | x :: xs, ys, e => by
    rw [List.mapM_cons] at e
    cases hx : f x with
    | none =>
      rw [hx] at e
      cases e
    | some d =>
      rw [hx] at e
      cases hxs : xs.mapM f with
      | none =>
        rw [hxs] at e
        cases e
      | some ds =>
        rw [hxs] at e
        cases e
        rw [List.length_cons, List.length_cons, mapM_len hxs]
theorem depthKv_le {n : Nat} : ∀ (ks vs : List PyData), ks.length = vs.length → (∀ d ∈ ks, d.depth ≤ n) → (∀ d ∈ vs, d.depth ≤ n) → PyData.depthKv (ks.zip vs) ≤ n
  | [], [], _, _, _ => by simp [PyData.depthKv]
  | k :: ks, v :: vs, e, a, b => by
    have h1 := a k List.mem_cons_self
    have h2 := b v List.mem_cons_self
    have h3 := depthKv_le (n := n) ks vs (by simpa using e) (fun d hd => a d (List.mem_cons_of_mem _ hd)) fun d hd => b d (List.mem_cons_of_mem _ hd)
    show PyData.depthKv ((k, v) :: ks.zip vs) ≤ n
    simp only [PyData.depthKv]
    omega
/-- a value reads as its data -/
theorem toD_reads (B : Base X) (I : Inv X pins σ H s) (rh : RelH N X.K ρ h H) : ∀ (n : Nat) (x : Val) (d : PyData), toD h n x = some d → ∀ v u, VR N X.K ρ H x v → RelV v u → ∃ as, Reads s.heap u d as ∧ sysModules ∉ as ∧ d.depth ≤ n
  | 0, x, d, e, v, u, rv, ru => by cases e
  | n + 1, x, d, e, v, u, rv, ru => by
    have ih := toD_reads B I rh n
    cases x with
    | non =>
      cases e
      simp only [VR] at rv
      subst rv
      cases ru
      exact ⟨[], .none, by simp, by simp [PyData.depth]⟩
    | bl b =>
      cases e
      simp only [VR] at rv
      subst rv
      cases ru
      exact ⟨[], .bool _, by simp, by simp [PyData.depth]⟩
    | int i =>
      cases e
      simp only [VR] at rv
      subst rv
      obtain ⟨t, rfl⟩ := ru
      exact ⟨[], .int _ _, by simp, by simp [PyData.depth]⟩
    | str z =>
      cases e
      simp only [VR] at rv
      subst rv
      obtain ⟨t, rfl⟩ := ru
      exact ⟨[], .str _ _, by simp, by simp [PyData.depth]⟩
    | tup xs =>
      simp only [VR] at rv
      obtain ⟨a, vs, rfl, t, r, dd⟩ := rv
      cases ru
      obtain ⟨ds, e1, rfl⟩ := map_some e
      obtain ⟨its, q, ⟨o, g1, g2, m, g3⟩, _⟩ := I.tuple t.sq
      obtain ⟨as, b1, b2, b3⟩ := reads_all (fun _ _ => True) (fun y c hc v u r1 r2 => ih y c hc v u r1 r2) xs ds e1 vs its r q
      refine ⟨as, .tuple g1 g2 g3 (by simpa using b1), b2, ?_⟩
      have := depthAll_le b3
      simp only [PyData.depth]
      omega
    | fl xs =>
      simp only [VR] at rv
      obtain ⟨a, vs, rfl, t, r, dd⟩ := rv
      cases ru
      obtain ⟨ds, e1, rfl⟩ := map_some e
      obtain ⟨its, q, ⟨o, m, g1, g2, _, g3⟩, _⟩ := I.list t.sq
      obtain ⟨as, b1, b2, b3⟩ := reads_all (fun _ _ => True) (fun y c hc v u r1 r2 => ih y c hc v u r1 r2) xs ds e1 vs its r q
      refine ⟨a :: as, .list g1 g2 g3 (by simpa using b1), fun hm => ?_, ?_⟩
      · rcases List.mem_cons.mp hm with z | z
        · exact list_nosys B I g1 g3 z.symm
        · exact b2 z
      · have := depthAll_le b3
        simp only [PyData.depth]
        omega
    | ref i =>
      simp only [VR] at rv
      obtain ⟨a, e0, rfl⟩ := rv
      cases ru
      obtain ⟨o, e3, q⟩ := rh.some_ e0
      simp only [toD, e3] at e
      cases o with
      | lst xs =>
        obtain ⟨ds, e1, rfl⟩ := map_some e
        simp only [OR] at q
        obtain ⟨vs, h1, r, dd⟩ := q
        obtain ⟨its, q, ⟨o, m, g1, g2, _, g3⟩, _⟩ := I.list (SqL.of h1)
        obtain ⟨as, b1, b2, b3⟩ := reads_all (fun _ _ => True) (fun y c hc v u r1 r2 => ih y c hc v u r1 r2) xs ds e1 vs its r q
        refine ⟨a :: as, .list g1 g2 g3 (by simpa using b1), fun hm => ?_, ?_⟩
        · rcases List.mem_cons.mp hm with z | z
          · exact trk_nosys B I h1 z.symm
          · exact b2 z
        · have := depthAll_le b3
          simp only [PyData.depth]
          omega
      | dic kvs =>
        obtain ⟨ks, e1, e2⟩ := bind_some e
        obtain ⟨ds, e4, rfl⟩ := map_some e2
        simp only [OR] at q
        obtain ⟨kv, h1, r⟩ := q
        obtain ⟨_, _, vs, q1, o, es, ep, g1, g2, g3, _, g4, _⟩ := dk_of I.hok h1
        obtain ⟨a1, a2, a3, a4, a5⟩ := keys_reads (s := s) kvs kv vs es.toList ks r q1 g4 e1
        obtain ⟨as, b1, b2, b3⟩ := reads_all (fun _ _ => True) (fun y c hc v u r1 r2 => ih y c hc v u r1 r2) _ ds e4 _ _ a3 a4
        have hl : ks.length = ds.length := by rw [a5, mapM_len e4, List.length_map]
        refine ⟨a :: [] ++ as, .dict g1 g2.1 g3 (by rw [zip_fst hl]; exact a1) (by rw [zip_snd hl]; exact b1), fun hm => ?_, ?_⟩
        · rcases List.mem_cons.mp hm with z | z
          · exact trk_nosys B I h1 z.symm
          · exact b2 z
        · have := depthKv_le (n := n) ks ds hl (fun d hd => by rw [a2 d hd]; exact Nat.zero_le _) b3
          simp only [PyData.depth]
          omega
      | _ => cases e
    | _ => cases e
end

/-! ### comparisons -/
theorem eqV_inv {a b : Val} {r : Bool} (e : eqV h a b = some r) : ∃ d f, toD h 60 a = some d ∧ toD h 60 b = some f ∧ SeqAt.shaped d = true ∧ SeqAt.shaped f = true ∧ r = PyData.eqv d f := by
  unfold eqV at e
  obtain ⟨d, e1, e⟩ := bind_some e
  obtain ⟨f, e2, e⟩ := bind_some e
  obtain ⟨z, e⟩ := guardO_some e
  rw [Bool.and_eq_true] at z
  exact ⟨d, f, e1, e2, z.1, z.2, (Option.some.inj e).symm⟩
theorem ofVal_ok {α : Type} {r : Option α} {rel : List Addr → L2.Hp → α → V → Prop} (p : Post N X.K ρ H NoW rel (ofVal r h) Q) : ∃ w, r = some w ∧ Post N X.K ρ H NoW rel (.ok w h) Q := by
  cases r with
  | none => exact p.elim
  | some q => exact ⟨q, rfl, p⟩
/-- a comparison's outcome -/
theorem o_cmp {f : Value → Value → Sem Value} {c : MH → Val → Val → Option Bool}
    (rule : ∀ (pins : List (Addr × PySem.Obj)) (s : Shared) (σ : L2.St) (H : L2.Hp) (ρ : List Addr) (h : MH) (wx wy : Val) (x y : V) (v u : Value) (r : Bool) (Q : Value → Shared → Prop), Inv X pins σ H s → RelH N X.K ρ h H → VR N X.K ρ H wx x → VR N X.K ρ H wy y →
      L2.RelV x v → L2.RelV y u → c h wx wy = some r → Q (.bool r) s → wpAny (model X.prog X.w) X.A (f v u) Q X.xe s) : OpR X f (sO2 N X.K fun h a b => ofVal ((c h a b).map .bl) h) := by
  intro pins s σ H x y v u Q I rx ry q
  obtain ⟨ρ, h, wx, wy, rh, r1, r2, p0⟩ := q
  obtain ⟨w, e, p⟩ := ofVal_ok p0
  obtain ⟨r, e1, rfl⟩ := map_some e
  exact rule pins s σ H ρ h wx wy x y v u r _ I rh r1 r2 rx ry e1 ⟨.bl r, H, I, rfl, p.val rh (by simp only [VR])⟩
theorem o_eq (B : Base X) : OpR X (compareOp .Eq) (sO2 N X.K fun h a b => ofVal ((eqV h a b).map .bl) h) := by
  refine o_cmp fun pins s σ H ρ h wx wy x y v u r Q I rh r1 r2 rx ry e q => ?_
  obtain ⟨d, f, e1, e2, s1, s2, rfl⟩ := eqV_inv e
  obtain ⟨as, a1, _, _⟩ := toD_reads B I rh 60 wx d e1 x v r1 rx
  obtain ⟨bs, b1, _, _⟩ := toD_reads B I rh 60 wy f e2 y u r2 ry
  exact SeqAt.compareEq_shaped a1 b1 s1 s2 (by have := B.un; omega) q
theorem o_ne (B : Base X) : OpR X (compareOp .NotEq) (sO2 N X.K fun h a b => ofVal (((eqV h a b).map (!·)).map .bl) h) := by
  refine o_cmp fun pins s σ H ρ h wx wy x y v u r Q I rh r1 r2 rx ry e q => ?_
  obtain ⟨b, e0, rfl⟩ := map_some e
  obtain ⟨d, f, e1, e2, s1, s2, rfl⟩ := eqV_inv e0
  obtain ⟨as, a1, _, _⟩ := toD_reads B I rh 60 wx d e1 x v r1 rx
  obtain ⟨bs, b1, _, _⟩ := toD_reads B I rh 60 wy f e2 y u r2 ry
  exact SeqAt.compareNe_shaped a1 b1 s1 s2 (by have := B.un; omega) q
theorem ltV_rule {pins : List (Addr × PySem.Obj)} {s : Shared} {σ : L2.St} {wx wy : Val} {x y : V} {v u : Value} {r : Bool} {Q : Value → Shared → Prop} (I : Inv X pins σ H s) (rh : RelH N X.K ρ h H) (r1 : VR N X.K ρ H wx x) (r2 : VR N X.K ρ H wy y)
    (rx : L2.RelV x v) (ry : L2.RelV y u) (e : ltV h wx wy = some r) (q : Q (.bool r) s) : wpAny (model X.prog X.w) X.A (compareOp .Lt v u) Q X.xe s ∧ wpAny (model X.prog X.w) X.A (compareOp .Gt u v) Q X.xe s := by
  unfold ltV at e
  split at e
  · simp only [VR] at r1 r2
    subst r1 r2
    obtain ⟨t, rfl⟩ := rx
    obtain ⟨t', rfl⟩ := ry
    cases e
    exact ⟨lt_int q, gt_int q⟩
  · cases e
theorem leV_rule {pins : List (Addr × PySem.Obj)} {s : Shared} {σ : L2.St} {wx wy : Val} {x y : V} {v u : Value} {r : Bool} {Q : Value → Shared → Prop} (I : Inv X pins σ H s) (rh : RelH N X.K ρ h H) (r1 : VR N X.K ρ H wx x) (r2 : VR N X.K ρ H wy y)
    (rx : L2.RelV x v) (ry : L2.RelV y u) (e : leV h wx wy = some r) (q : Q (.bool r) s) : wpAny (model X.prog X.w) X.A (compareOp .LtE v u) Q X.xe s ∧ wpAny (model X.prog X.w) X.A (compareOp .GtE u v) Q X.xe s := by
  unfold leV at e
  split at e
  · simp only [VR] at r1 r2
    subst r1 r2
    obtain ⟨t, rfl⟩ := rx
    obtain ⟨t', rfl⟩ := ry
    cases e
    exact ⟨le_int q, ge_int q⟩
  · cases e
theorem o_lt : OpR X (compareOp .Lt) (sO2 N X.K fun h a b => ofVal ((ltV h a b).map .bl) h) := o_cmp fun _ _ _ _ _ _ _ _ _ _ _ _ _ _ I rh r1 r2 rx ry e q => (ltV_rule I rh r1 r2 rx ry e q).1
theorem o_gt : OpR X (compareOp .Gt) (sO2 N X.K fun h a b => ofVal ((ltV h b a).map .bl) h) := o_cmp fun _ _ _ _ _ _ _ _ _ _ _ _ _ _ I rh r1 r2 rx ry e q => (ltV_rule I rh r2 r1 ry rx e q).2
theorem o_le : OpR X (compareOp .LtE) (sO2 N X.K fun h a b => ofVal ((leV h a b).map .bl) h) := o_cmp fun _ _ _ _ _ _ _ _ _ _ _ _ _ _ I rh r1 r2 rx ry e q => (leV_rule I rh r1 r2 rx ry e q).1
theorem o_ge : OpR X (compareOp .GtE) (sO2 N X.K fun h a b => ofVal ((leV h b a).map .bl) h) := o_cmp fun _ _ _ _ _ _ _ _ _ _ _ _ _ _ I rh r1 r2 rx ry e q => (leV_rule I rh r2 r1 ry rx e q).2
theorem isV_rule {pins : List (Addr × PySem.Obj)} {s : Shared} {σ : L2.St} {wx wy : Val} {x y : V} {v u : Value} {r : Bool} {Q Q' : Value → Shared → Prop} (I : Inv X pins σ H s) (r1 : VR N X.K ρ H wx x) (r2 : VR N X.K ρ H wy y)
    (rx : L2.RelV x v) (ry : L2.RelV y u) (e : isV h wx wy = some r) (q : Q (.bool r) s) (q' : Q' (.bool (!r)) s) : wpAny (model X.prog X.w) X.A (compareOp .Is v u) Q X.xe s ∧ wpAny (model X.prog X.w) X.A (compareOp .IsNot v u) Q' X.xe s := by
  cases wy with
  | non =>
    simp only [VR] at r2
    subst r2
    cases ry
    have er : r = (v == Value.none) := by
      rw [rx.none_iff]
      cases wx with
      | non =>
        simp only [VR] at r1
        subst r1
        cases e
        rfl
      | tup xs =>
        simp only [VR] at r1
        obtain ⟨a, vs, rfl, _⟩ := r1
        cases e
        rfl
      | fl xs =>
        simp only [VR] at r1
        obtain ⟨a, vs, rfl, _⟩ := r1
        cases e
        rfl
      | ref i =>
        simp only [VR] at r1
        obtain ⟨a, _, rfl⟩ := r1
        cases e
        rfl
      | exn c fs =>
        simp only [VR] at r1
        obtain ⟨a, d, vs, _, rfl, _⟩ := r1
        cases e
        rfl
      | clo _ _ => simp only [VR] at r1
      | own _ => simp only [VR] at r1
      | _ =>
        simp only [VR] at r1
        subst r1
        cases e
        rfl
    rw [er] at q q'
    exact ⟨is_none_gen q, isnot_none_gen q'⟩
  | bl b =>
    simp only [VR] at r2
    subst r2
    cases ry
    cases wx with
    | bl c =>
      simp only [VR] at r1
      subst r1
      cases rx
      have er : r = (c == b) := by
        cases b <;> cases c <;> (cases e; rfl)
      cases b <;> cases c <;> (subst er; exact ⟨wpAny_pure q, wpAny_pure q'⟩)
    | tup xs =>
      simp only [VR] at r1
      obtain ⟨a, vs, rfl, _⟩ := r1
      cases rx
      cases b <;> (cases e; exact ⟨wpAny_pure q, wpAny_pure q'⟩)
    | fl xs =>
      simp only [VR] at r1
      obtain ⟨a, vs, rfl, _⟩ := r1
      cases rx
      cases b <;> (cases e; exact ⟨wpAny_pure q, wpAny_pure q'⟩)
    | ref i =>
      simp only [VR] at r1
      obtain ⟨a, _, rfl⟩ := r1
      cases rx
      cases b <;> (cases e; exact ⟨wpAny_pure q, wpAny_pure q'⟩)
    | exn c fs =>
      simp only [VR] at r1
      obtain ⟨a, d, vs, _, rfl, _⟩ := r1
      cases rx
      cases b <;> (cases e; exact ⟨wpAny_pure q, wpAny_pure q'⟩)
    | clo _ _ => simp only [VR] at r1
    | own _ => simp only [VR] at r1
    | int i =>
      simp only [VR] at r1
      subst r1
      obtain ⟨t, rfl⟩ := rx
      cases b <;> (cases e; exact ⟨wpAny_pure q, wpAny_pure q'⟩)
    | str z =>
      simp only [VR] at r1
      subst r1
      obtain ⟨t, rfl⟩ := rx
      cases b <;> (cases e; exact ⟨wpAny_pure q, wpAny_pure q'⟩)
    | _ =>
      simp only [VR] at r1
      subst r1
      cases rx
      cases b <;> (cases e; exact ⟨wpAny_pure q, wpAny_pure q'⟩)
  | _ => cases e
theorem o_is : OpR X (compareOp .Is) (sO2 N X.K fun h a b => ofVal ((isV h a b).map .bl) h) := o_cmp fun _ _ _ _ _ _ _ _ _ _ _ _ _ _ I rh r1 r2 rx ry e q => (isV_rule (Q' := fun _ _ => True) I r1 r2 rx ry e q trivial).1
theorem o_isnot : OpR X (compareOp .IsNot) (sO2 N X.K fun h a b => ofVal (((isV h a b).map (!·)).map .bl) h) := o_cmp fun _ _ _ _ _ _ _ _ _ _ _ _ _ _ I rh r1 r2 rx ry e q => by
  obtain ⟨b, e0, rfl⟩ := map_some e
  exact (isV_rule (Q := fun _ _ => True) I r1 r2 rx ry e0 trivial q).2

/-! ### items -/
/-- a[i] at a built-in's own type -/
theorem tail_of {prog : Program} {w : World} {A : Around} {E : Value → Shared → Prop} {s : Shared} {value slice : Expr} {o i : Value} {T id : String} {R : Value → Shared → Prop} (hT : s.TypeIs o T)
    (hl : typeLookup (.type T) "__getitem__" = pure (some (.builtin id))) (hs : subscripted slice false o i = operate [o, i] (getItem o i)) (g : wpAny (model prog w) A (getItem o i) R E s) :
    wpAny (model prog w) A (subscriptTail value slice o i) R E s := by
  unfold subscriptTail
  rw [getitemInPython_of_ne hT.not_modules]
  refine wpAny_bind (wpAny_bind (wpAny_specialOf hT hl ?_))
  have last : wpAny (model prog w) A (subscripted slice false o i) (fun r s2 => wpAny (model prog w) A (letTemporaryGo value o r >>= fun _ => pure r) R E s2) E s := by
    rw [hs]
    exact wpAny_operating (thn g fun r s2 q => wpAny_bind (wpAny_letTemporaryGo (wpAny_pure q)))
  first
    | exact wpAny_pure (wpAny_bind last)
    | exact wpAny_bind (wpAny_pure (wpAny_bind last))
    | exact wpAny_bind last
/-! ### dicts -/
theorem key_eq {x y : Val} {k l : Key} (a : KR x k) (b : KR y l) : keyEq x y = decide (k = l) := by
  cases x with
  | int i =>
    simp only [KR] at a
    subst a
    cases y with
    | int j =>
      simp only [KR] at b
      subst b
      simp [keyEq]
    | str z =>
      simp only [KR] at b
      subst b
      simp [keyEq]
    | _ => simp only [KR] at b
  | str z =>
    simp only [KR] at a
    subst a
    cases y with
    | int j =>
      simp only [KR] at b
      subst b
      simp [keyEq]
    | str z =>
      simp only [KR] at b
      subst b
      simp [keyEq]
    | _ => simp only [KR] at b
  | _ => simp only [KR] at a
theorem key_of {x : Val} {v : V} (k : keyOk x = true) (r : VR N X.K ρ H x v) : ∃ c, KR x c ∧ v = kV c := by
  cases x with
  | int i =>
    simp only [VR] at r
    exact ⟨.inl i, rfl, r⟩
  | str z =>
    simp only [VR] at r
    exact ⟨.inr z, rfl, r⟩
  | _ => cases k
theorem dget_rel {y : Val} {c : Key} (kr : KR y c) : ∀ {kvs : List (Val × Val)} {kv : List (Key × V)}, DR N X.K ρ H kvs kv → (∀ w, dGet kvs y = some w → ∃ v, valV kv c = some v ∧ VR N X.K ρ H w v) ∧ (dGet kvs y = none → valV kv c = none)
  | [], kv, r => by
    simp only [DR] at r
    subst r
    refine ⟨fun w e => ?_, fun _ => rfl⟩
    cases e
  | p :: kvs, kv, r => by
    simp only [DR] at r
    obtain ⟨k, v, r', rfl, h1, h2, dd, h3⟩ := r
    have ih := dget_rel kr h3
    have q := key_eq h1 kr
    by_cases e : k = c
    · rw [decide_eq_true e] at q
      refine ⟨fun w z => ?_, fun z => ?_⟩
      · simp only [dGet, List.find?_cons, q] at z
        cases z
        exact ⟨v, by simp [valV, e], h2⟩
      · simp only [dGet, List.find?_cons, q] at z
        cases z
    · rw [decide_eq_false e] at q
      have e1 : dGet (p :: kvs) y = dGet kvs y := by simp only [dGet, List.find?_cons, q]
      have e2 : valV ((k, v) :: r') c = valV r' c := by simp [valV, e]
      rw [e1, e2]
      exact ih
theorem dany_rel {y : Val} {c : Key} (kr : KR y c) : ∀ {kvs : List (Val × Val)} {kv : List (Key × V)}, DR N X.K ρ H kvs kv → (kvs.any fun p => keyEq p.1 y) = kv.any fun q => decide (q.1 = c)
  | [], kv, r => by
    simp only [DR] at r
    subst r
    rfl
  | p :: kvs, kv, r => by
    simp only [DR] at r
    obtain ⟨k, v, r', rfl, h1, h2, dd, h3⟩ := r
    rw [List.any_cons, List.any_cons, dany_rel kr h3, key_eq h1 kr]
theorem dmap_rel {y w : Val} {c : Key} {z : V} (kr : KR y c) (rz : VR N X.K ρ H w z) (dw : dat w = true) : ∀ {kvs : List (Val × Val)} {kv : List (Key × V)}, DR N X.K ρ H kvs kv →
    DR N X.K ρ H (kvs.map fun p => if keyEq p.1 y then (p.1, w) else p) (kv.map fun q => if q.1 = c then (q.1, z) else q)
  | [], kv, r => by
    simp only [DR] at r
    subst r
    rfl
  | p :: kvs, kv, r => by
    simp only [DR] at r
    obtain ⟨k, v, r', rfl, h1, h2, dd, h3⟩ := r
    have ih := dmap_rel (w := w) kr rz dw h3
    rw [List.map_cons, List.map_cons, key_eq h1 kr]
    by_cases e : k = c
    · rw [decide_eq_true e, if_pos rfl, if_pos (show (k, v).1 = c from e)]
      simp only [DR]
      exact ⟨k, z, _, rfl, h1, rz, dw, ih⟩
    · rw [decide_eq_false e, if_neg Bool.false_ne_true, if_neg (show ¬ (k, v).1 = c from e)]
      simp only [DR]
      exact ⟨k, v, _, rfl, h1, h2, dd, ih⟩
theorem dapp_rel {y w : Val} {c : Key} {z : V} (kr : KR y c) (rz : VR N X.K ρ H w z) (dw : dat w = true) : ∀ {kvs : List (Val × Val)} {kv : List (Key × V)}, DR N X.K ρ H kvs kv → DR N X.K ρ H (kvs ++ [(y, w)]) (kv ++ [(c, z)])
  | [], kv, r => by
    simp only [DR] at r
    subst r
    show DR N X.K ρ H [(y, w)] [(c, z)]
    simp only [DR]
    exact ⟨c, z, [], rfl, kr, rz, dw, rfl⟩
  | p :: kvs, kv, r => by
    simp only [DR] at r
    obtain ⟨k, v, r', rfl, h1, h2, dd, h3⟩ := r
    show DR N X.K ρ H (p :: (kvs ++ [(y, w)])) ((k, v) :: (r' ++ [(c, z)]))
    simp only [DR]
    exact ⟨k, v, _, rfl, h1, h2, dd, dapp_rel kr rz dw h3⟩
theorem DR.length : ∀ {kvs : List (Val × Val)} {kv : List (Key × V)}, DR N X.K ρ H kvs kv → kv.length = kvs.length
  | [], kv, r => by
    simp only [DR] at r
    subst r
    rfl
  | p :: kvs, kv, r => by
    simp only [DR] at r
    obtain ⟨k, v, r', rfl, h1, h2, dd, h3⟩ := r
    rw [List.length_cons, List.length_cons, DR.length h3]
theorem dput_rel {y w : Val} {c : Key} {z : V} (kr : KR y c) (rz : VR N X.K ρ H w z) (dw : dat w = true) {kvs : List (Val × Val)} {kv : List (Key × V)} (r : DR N X.K ρ H kvs kv) : DR N X.K ρ H (dPut kvs y w) (putK kv c z) := by
  unfold dPut putK
  rw [dany_rel kr r]
  split
  · exact dmap_rel kr rz dw r
  · exact dapp_rel kr rz dw r
theorem dic_at (rh : RelH N X.K ρ h H) {r : Nat} {v : V} (rv : VR N X.K ρ H (.ref r) v) {o : Obj} (e : h[r]? = some o) : ∃ a, ρ[r]? = some a ∧ v = .ref a ∧ OR N X.K ρ H a o := by
  simp only [VR] at rv
  obtain ⟨a, e0, rfl⟩ := rv
  exact ⟨a, e0, rfl, rh.obj r a o e0 e⟩
theorem place_ix (n : Nat) (i : Int) : place n i = ixN n i := rfl
theorem at_rel {xs : List Val} {vs : List V} (r : VRs N X.K ρ H xs vs) {i : Int} {w : Val} (e : ((place xs.length i).bind fun n => xs[n]?) = some w) : ∃ v, atI vs i = some v ∧ VR N X.K ρ H w v := by
  obtain ⟨n, e1, e2⟩ := bind_some e
  obtain ⟨v, g1, g2⟩ := r.get e2
  refine ⟨v, ?_, g2⟩
  unfold atI
  rw [r.length, ← place_ix, e1]
  exact g1
theorem o_ix (B : Base X) : IxR X (sO2 N X.K fun h a b => ofVal (getIx h a b) h) := by
  intro value slice pins s σ H x y v u Q I rx ry q hs
  obtain ⟨ρ, h, wx, wy, rh, r1, r2, p0⟩ := q
  obtain ⟨w, e, p⟩ := ofVal_ok p0
  clear p0
  have seqL : ∀ (xs : List Val) (i : Int) (a : Addr) (vs : List V), x = .ref a → SqL X.K H a vs → VRs N X.K ρ H xs vs → wy = .int i → ((place xs.length i).bind fun n => xs[n]?) = some w → wpAny (model X.prog X.w) X.A (subscriptTail value slice v u) (EP X pins σ Q) X.xe s := by
    intro xs i a vs e1 e2 e3 e4 e5
    subst e4
    obtain ⟨z, g1, g2⟩ := at_rel e3 e5
    simp only [VR] at r2
    exact ix_list value slice pins s σ H x y v u Q I rx ry ⟨a, vs, i, z, e1, r2, e2, g1, p.val rh g2⟩ hs
  cases wx with
  | ref r =>
    cases ho : h[r]? with
    | none =>
      simp only [getIx, ho] at e
      cases e
    | some o =>
      simp only [getIx, ho] at e
      obtain ⟨a, e0, e1, oq⟩ := dic_at rh r1 ho
      cases o with
      | dic kvs =>
        obtain ⟨z, e⟩ := guardO_some e
        simp only [OR] at oq
        obtain ⟨kv, h1, dr⟩ := oq
        obtain ⟨c, kr, ey⟩ := key_of z r2
        obtain ⟨zv, g1, g2⟩ := (dget_rel kr dr).1 w e
        subst e1
        cases rx
        have g : DGet H a y (some zv) := by
          rw [ey, ← g1]
          exact DGet.k h1
        exact tail_of (dict_typeIs I g) PySem.F.slot_dict_getitem.lookup hs (d_getItem (by have := B.un; omega) I g ry fun w' s3 I3 rw' => ⟨zv, H, I3, rw', p.val rh g2⟩)
      | lst xs =>
        simp only [OR] at oq
        obtain ⟨vs, h1, g, dd⟩ := oq
        cases wy with
        | int i => exact seqL xs i a vs e1 (SqL.of h1) g rfl e
        | _ => cases e
      | _ => cases e
  | tup xs =>
    simp only [VR] at r1
    obtain ⟨a, vs, e1, t, g, dd⟩ := r1
    cases wy with
    | int i =>
      obtain ⟨z, g1, g2⟩ := at_rel g e
      simp only [VR] at r2
      exact ix_tup value slice pins s σ H x y v u Q I rx ry ⟨a, vs, i, z, e1, r2, t.sq, g1, p.val rh g2⟩ hs
    | _ => cases e
  | fl xs =>
    simp only [VR] at r1
    obtain ⟨a, vs, e1, t, g, dd⟩ := r1
    cases wy with
    | int i => exact seqL xs i a vs e1 t.sq g rfl e
    | _ => cases e
  | _ => cases e
theorem all_set {x : Val} (dx : dat x = true) : ∀ {xs : List Val} {n : Nat}, xs.all dat = true → (xs.set n x).all dat = true
  | [], n, h => h
  | y :: xs, 0, h => by
    rw [List.all_cons, Bool.and_eq_true] at h
    show (x :: xs).all dat = true
    rw [List.all_cons, dx, h.2]
    rfl
  | y :: xs, n + 1, h => by
    rw [List.all_cons, Bool.and_eq_true] at h
    show (y :: xs.set n x).all dat = true
    rw [List.all_cons, h.1, all_set dx h.2]
    rfl
/-- a[i] = x -/
def sPut (N : Nm) (K : PySem.W.Frag) : TSet := fun o i x H Q => ∃ ρ h wo wi wx h', RelH N K ρ h H ∧ VR N K ρ H wo o ∧ VR N K ρ H wi i ∧ VR N K ρ H wx x ∧ putIx h wo wi wx = some h' ∧ ∀ H', Ext ρ H ρ H' → RelH N K ρ h' H' → Q H'
theorem o_put (B : Base X) : PSet X (sPut N X.K) := by
  intro pins s σ H o i x ov iv u Q I ro ri rx q
  obtain ⟨ρ, h, wo, wi, wx, h', rh, r1, r2, r3, e, k⟩ := q
  cases wo with
  | ref r =>
    cases ho : h[r]? with
    | none =>
      simp only [putIx, ho] at e
      cases e
    | some ob =>
      simp only [putIx, ho] at e
      obtain ⟨a, e0, e1, oq⟩ := dic_at rh r1 ho
      subst e1
      cases ro
      cases ob with
      | dic kvs =>
        obtain ⟨z, e⟩ := guardO_some e
        cases e
        rw [Bool.and_eq_true, Bool.and_eq_true] at z
        simp only [OR] at oq
        obtain ⟨kv, h1, dr⟩ := oq
        obtain ⟨c, kr, ey⟩ := key_of z.1 r2
        have hl : kv.length < sizeLine := by
          have := fits_le z.2.1
          rw [dr.length]
          omega
        have g : DPut H a i x (upd H a (.dK (putK kv c x))) := by
          rw [ey]
          exact DPut.k h1 hl
        refine d_setItem (by have := B.un; omega) I g ri rx fun s2 I2 => ⟨_, I2, k _ (Ext.put e0) (rh.put e0 ?_)⟩
        simp only [OR]
        exact ⟨_, upd_same, (dput_rel kr r3 z.2.2 dr).mono (Ext.put e0)⟩
      | lst xs =>
        simp only [OR] at oq
        obtain ⟨vs, h1, g, dd⟩ := oq
        cases wi with
        | int j =>
          obtain ⟨dx, e⟩ := guardO_some e
          obtain ⟨n, e2, e3⟩ := map_some e
          cases e3
          simp only [VR] at r2
          refine set_list pins s σ H (.ref a) i x _ iv u Q I rfl ri rx ⟨a, vs, j, n, rfl, r2, h1, by rw [g.length, ← place_ix]; exact e2, k _ (Ext.put e0) (rh.put e0 ?_)⟩
          simp only [OR]
          exact ⟨_, upd_same, (g.set n r3).mono (Ext.put e0), all_set dx dd⟩
        | _ => cases e
      | _ => cases e
  | _ => cases e

/-! ### built-ins -/
theorem LenV.seq {x : Val} {v : V} {ys : List Val} (rh : RelH N X.K ρ h H) (r : VR N X.K ρ H x v) (e : isSeq h x = some ys) : LenV X.K v H ys.length := by
  cases x with
  | tup xs =>
    simp only [isSeq, Option.some.injEq] at e
    subst e
    simp only [VR] at r
    obtain ⟨a, vs, rfl, t, g, dd⟩ := r
    exact .inr ⟨vs, t.sq, g.length.symm⟩
  | fl xs =>
    obtain ⟨a, vs, rfl, t, g, dd⟩ := isList_sq rh r (by simpa [isSeq] using e)
    exact .inl ⟨vs, t, g.length.symm⟩
  | ref i =>
    obtain ⟨a, vs, rfl, t, g, dd⟩ := isList_sq rh r (by simpa [isSeq] using e)
    exact .inl ⟨vs, t, g.length.symm⟩
  | _ => cases e
theorem VRs.inv1 {x : Val} {vs : List V} (r : VRs N X.K ρ H [x] vs) : ∃ v, vs = [v] ∧ VR N X.K ρ H x v := by
  simp only [VRs] at r
  obtain ⟨v, r', rfl, h1, h2⟩ := r
  rw [h2]
  exact ⟨v, rfl, h1⟩
theorem VRs.inv2 {x y : Val} {vs : List V} (r : VRs N X.K ρ H [x, y] vs) : ∃ v u, vs = [v, u] ∧ VR N X.K ρ H x v ∧ VR N X.K ρ H y u := by
  simp only [VRs] at r
  obtain ⟨v, r', rfl, h1, u, r'', rfl, h2, h3⟩ := r
  rw [h3]
  exact ⟨v, u, rfl, h1, h2⟩
theorem Vals.one {v : V} {us : List Value} (r : Vals [v] us) : ∃ u, us = [u] ∧ L2.RelV v u := by
  cases r with
  | cons a b =>
    cases b
    exact ⟨_, rfl, a⟩
/-- a call of a built-in by its Mini meaning -/
abbrev sBi (N : Nm) (K : PySem.W.Frag) (f : MH → List Val → Opt) : List V → L2.Hp → VK → Prop := sOs N K fun h xs => ofOpt (f h xs)
theorem b_len : CallR X (.builtin "len") (sBi N X.K biLen) := by
  intro pins s σ H xs us Q I r q
  obtain ⟨ρ, h, ws, rh, rw_, p0⟩ := q
  obtain ⟨w, h', e, p⟩ := ofOpt_ok p0
  clear p0
  unfold biLen at e
  split at e
  · rename_i x
    obtain ⟨v, rfl, rv⟩ := rw_.inv1
    split at e
    · rename_i ys hy
      cases e
      exact call_len pins s σ H _ us Q I r ⟨v, ys.length, rfl, LenV.seq rh rv hy, p.val rh (by simp only [VR])⟩
    · split at e
      · rename_i z _
        obtain ⟨g, e⟩ := guardO_some e
        cases e
        simp only [VR] at rv
        subst rv
        exact call_len pins s σ H _ us Q I r ⟨_, z.length, rfl, ⟨fits_le g, rfl⟩, p.val rh (by simp only [VR])⟩
      · cases e
  · cases e
theorem b_int : CallR X (.type "int") (sBi N X.K biInt) := by
  intro pins s σ H xs us Q I r q
  obtain ⟨ρ, h, ws, rh, rw_, p0⟩ := q
  obtain ⟨w, h', e, p⟩ := ofOpt_ok p0
  clear p0
  unfold biInt at e
  split at e
  · obtain ⟨v, rfl, rv⟩ := rw_.inv1
    simp only [VR] at rv
    subst rv
    cases e
    exact call_int1 pins s σ H _ us Q I r (.inl ⟨_, rfl, p.val rh (by simp only [VR])⟩)
  · obtain ⟨v, rfl, rv⟩ := rw_.inv1
    simp only [VR] at rv
    subst rv
    cases e
    exact call_int1 pins s σ H _ us Q I r (.inr ⟨_, rfl, p.val rh (by simp only [VR])⟩)
  · cases e
theorem isSeq_sq (rh : RelH N X.K ρ h H) {x : Val} {v : V} (r : VR N X.K ρ H x v) {ys : List Val} (e : isSeq h x = some ys) : ∃ a vs, v = .ref a ∧ (SqL X.K H a vs ∨ SqT X.K H a vs) ∧ VRs N X.K ρ H ys vs ∧ ys.all dat = true := by
  cases x with
  | tup xs =>
    simp only [isSeq, Option.some.injEq] at e
    subst e
    simp only [VR] at r
    obtain ⟨a, vs, rfl, t, g, dd⟩ := r
    exact ⟨a, vs, rfl, .inr t.sq, g, dd⟩
  | fl xs =>
    obtain ⟨a, vs, rfl, t, g, dd⟩ := isList_sq rh r (by simpa [isSeq] using e)
    exact ⟨a, vs, rfl, .inl t, g, dd⟩
  | ref i =>
    obtain ⟨a, vs, rfl, t, g, dd⟩ := isList_sq rh r (by simpa [isSeq] using e)
    exact ⟨a, vs, rfl, .inl t, g, dd⟩
  | _ => cases e
theorem b_list : CallR X (.type "list") (sBi N X.K biList) := by
  intro pins s σ H xs us Q I r q
  obtain ⟨ρ, h, ws, rh, rw_, p0⟩ := q
  obtain ⟨w, h', e, p⟩ := ofOpt_ok p0
  clear p0
  unfold biList at e
  split at e
  · obtain ⟨v, rfl, rv⟩ := rw_.inv1
    obtain ⟨ys, hy, e⟩ := bind_some e
    obtain ⟨a, vs, rfl, sq, g, dd⟩ := isSeq_sq rh rv hy
    exact call_list_of pins s σ H _ us Q I r ⟨a, vs, rfl, sq, fun l hl => p.newLst e rh hl g dd⟩
  · cases e
theorem b_repr (B : Base X) : CallR X (.builtin "repr") (sBi N X.K biRepr) := by
  intro pins s σ H xs us Q I r q
  obtain ⟨ρ, h, ws, rh, rw_, p0⟩ := q
  obtain ⟨w, h', e, p⟩ := ofOpt_ok p0
  clear p0
  unfold biRepr at e
  split at e
  · rename_i x
    obtain ⟨v, rfl, rv⟩ := rw_.inv1
    obtain ⟨d, hd, e⟩ := bind_some e
    obtain ⟨z, e⟩ := guardO_some e
    cases e
    rw [Bool.and_eq_true, decide_eq_true_eq] at z
    obtain ⟨u, rfl, ru⟩ := Vals.one r
    obtain ⟨as, rd, na, dp⟩ := toD_reads B I rh 60 x d hd v u rv ru
    have un := B.un
    have fin : ∀ (h' : Heap) (t : Tok) (tk : Nat), (∀ b o, s.heap.get? b = some o → h'.get? b = some o) → EP X pins σ Q (.str d.shown t) { s with heap := h', toks := tk } := fun h' t tk k =>
      ⟨.str d.shown, H, I.kept k, ⟨t, rfl⟩, p.val rh (by simp only [VR])⟩
    cases rd with
    | none => exact P.repr_of_none (fin s.heap _ _ fun _ _ e => e)
    | bool b => exact P.repr_of_bool (fin s.heap _ _ fun _ _ e => e)
    | int i t => exact P.repr_of_int (by simpa [PyData.showable] using z.1) (fin s.heap _ _ fun _ _ e => e)
    | str y t => exact P.repr_of_str (fin s.heap _ _ fun _ _ e => e) (by simpa [PyData.shown] using z.2)
    | list g1 g2 g3 g4 => exact repr_of_reads' (.list g1 g2 g3 g4) z.1 (fun _ => na) B.guards (by omega) (fun _ _ e => e) (fun h' t tk k => fin h' t tk k) z.2
    | tuple g1 g2 g3 g4 => exact repr_of_reads' (.tuple g1 g2 g3 g4) z.1 (fun _ => na) B.guards (by omega) (fun _ _ e => e) (fun h' t tk k => fin h' t tk k) z.2
    | dict g1 g2 g3 g4 g5 => exact repr_of_reads' (.dict g1 g2 g3 g4 g5) z.1 (fun _ => na) B.guards (by omega) (fun _ _ e => e) (fun h' t tk k => fin h' t tk k) z.2
  · cases e
theorem m_append : MtR X "list.append" (fun x xs H Q => ∃ ρ h wo ws, RelH N X.K ρ h H ∧ VR N X.K ρ H wo x ∧ VRs N X.K ρ H ws xs ∧ Post N X.K ρ H NoW (VR N X.K) (ofOpt (mtAppend h wo ws)) Q) := by
  intro pins s σ H x xs v us Q I rx r q
  obtain ⟨ρ, h, wo, ws, rh, ro, rw_, p0⟩ := q
  obtain ⟨w, h', e, p⟩ := ofOpt_ok p0
  clear p0
  unfold mtAppend at e
  split at e
  · rename_i y
    obtain ⟨z, rfl, rz⟩ := rw_.inv1
    split at e
    · rename_i rr
      split at e
      · rename_i ys ho
        obtain ⟨g, e⟩ := guardO_some e
        cases e
        obtain ⟨a, e0, rfl, oq⟩ := dic_at rh ro ho
        simp only [OR] at oq
        obtain ⟨vs, h1, g1, dd⟩ := oq
        rw [Bool.and_eq_true] at g
        refine mt_append pins s σ H _ _ v us Q I rx r ⟨a, vs, z, rfl, rfl, h1, by rw [g1.length]; exact of_decide_eq_true g.1, ?_⟩
        refine p ρ _ _ (Ext.put e0) (rh.put e0 ?_) (by simp only [VR])
        simp only [OR]
        exact ⟨_, upd_same, (g1.append (VRs.one rz)).mono (Ext.put e0), by rw [List.all_append, dd]; simp [g.2]⟩
      · cases e
    · cases e
  · cases e
end
end Mini
set_option Elab.async false
set_option linter.all false
set_option maxRecDepth 100000
set_option maxHeartbeats 2000000
/-! Mini against the model: expressions. -/
namespace Mini
open PySem PySem.Spec PyProof.Rows L2
section
variable {N : Nm} {X : Cx} {W : WX} {Γ : Sys} {σ : L2.St} {H : L2.Hp} {Q : VK} {Q' : Bool → L2.Hp → Prop}
/-- in the middle: values at hand, what is still to come -/
def sM {α β : Type} (N : Nm) (K : PySem.W.Frag) (W : WX) (vs : List V) (rel : List Addr → L2.Hp → α → β → Prop) (g : List Val → MF → MH → Res α) (σ : L2.St) (H : L2.Hp) (Q : β → L2.Hp → Prop) : Prop :=
  ∃ ρ h τ ws, RelH N K ρ h H ∧ FR N K ρ H τ σ ∧ VRs N K ρ H ws vs ∧ Post N K ρ H (fun c d H' => W c d σ H') rel (g ws τ h) Q
theorem sE_sM {m : MF → MH → Res Val} {g : List Val → MF → MH → Res Val} (hg : ∀ τ h, g [] τ h = m τ h) (q : sE N X.K W m σ H Q) : sM N X.K W [] (VR N X.K) g σ H Q := by
  obtain ⟨ρ, h, τ, rh, fr, p⟩ := q
  exact ⟨ρ, h, τ, [], rh, fr, by simp only [VRs], by rw [hg]; exact p⟩
theorem sM_bind {α β : Type} {rel : List Addr → L2.Hp → α → β → Prop} {Q : β → L2.Hp → Prop} {vs : List V} {ma : MF → MH → Res Val} {g : List Val → MF → MH → Res α} (q : sM N X.K W vs rel (fun ws τ h => (ma τ h).bind fun x h1 => g (x :: ws) τ h1) σ H Q) :
    sE N X.K W ma σ H fun v H1 => sM N X.K W (v :: vs) rel g σ H1 Q := by
  obtain ⟨ρ, h, τ, ws, rh, fr, rw_, p⟩ := q
  refine ⟨ρ, h, τ, rh, fr, p.bind.imp ?_⟩
  rintro v H1 ⟨ρ1, h1, x, e, rh1, rv, p1⟩
  refine ⟨ρ1, h1, τ, x :: ws, rh1, fr.mono e, ?_, p1⟩
  simp only [VRs]
  exact ⟨v, vs, rfl, rv, rw_.mono e⟩
theorem sM_binds {α β : Type} {rel : List Addr → L2.Hp → α → β → Prop} {Q : β → L2.Hp → Prop} {vs : List V} {ma : MF → MH → Res (List Val)} {g : List Val → List Val → MF → MH → Res α} (q : sM N X.K W vs rel (fun ws τ h => (ma τ h).bind fun x h1 => g x ws τ h1) σ H Q) :
    sA N X.K W ma σ H fun us H1 => ∃ ρ h τ ws xs, RelH N X.K ρ h H1 ∧ FR N X.K ρ H1 τ σ ∧ VRs N X.K ρ H1 ws vs ∧ VRs N X.K ρ H1 xs us ∧ Post N X.K ρ H1 (fun c d H' => W c d σ H') rel (g xs ws τ h) Q := by
  obtain ⟨ρ, h, τ, ws, rh, fr, rw_, p⟩ := q
  refine ⟨ρ, h, τ, rh, fr, p.bind.imp ?_⟩
  rintro us H1 ⟨ρ1, h1, xs, e, rh1, rv, p1⟩
  exact ⟨ρ1, h1, τ, ws, xs, rh1, fr.mono e, rw_.mono e, rv, p1⟩
/-- what raises nothing -/
theorem Post.nowish {Wx : Value → Option Addr → L2.Hp → Prop} {ρ : List Addr} {K : PySem.W.Frag} {r : Opt} (p : Post N K ρ H Wx (VR N K) (ofOpt r) Q) : Post N K ρ H NoW (VR N K) (ofOpt r) Q := by
  cases r with
  | none => exact p
  | some q => exact p
theorem Post.nowishV {Wx : Value → Option Addr → L2.Hp → Prop} {ρ : List Addr} {K : PySem.W.Frag} {h : MH} {α β : Type} {rel : List Addr → L2.Hp → α → β → Prop} {Q : β → L2.Hp → Prop} {r : Option α} (p : Post N K ρ H Wx rel (ofVal r h) Q) : Post N K ρ H NoW rel (ofVal r h) Q := by
  cases r with
  | none => exact p
  | some q => exact p

theorem x_var {i : Nat} {x : Str} {pos : Pos} (hN : X.N[i]? = some x) (hv : Vis X.env.scope x) (hd : (x == ("__debug__" : Str)) = false) (hcd : (x == ("__classdict__" : Str)) = false) : PE X (.Name x pos) (sE N X.K W (evE Γ (.v i))) :=
  (pe_var hN hv hd hcd).weak fun σ H Q ⟨ρ, h, τ, rh, fr, p⟩ => by
    unfold evE at p
    split at p
    · rename_i w e
      obtain ⟨v, h1, h2⟩ := fr.at_ i w e
      exact ⟨v, h1, p.ok rh h2⟩
    · exact p.elim
theorem x_int {i : Int} {j : Nat} {pos : Pos} : PE X (.Constant (.int i) j pos) (sE N X.K W (evE Γ (.ki i))) :=
  pe_int.weak fun σ H Q ⟨ρ, h, τ, rh, fr, p⟩ => by
    unfold evE at p
    exact p.ok rh (by simp only [VR])
theorem x_bl {b : Bool} {j : Nat} {pos : Pos} : PE X (.Constant (.bool b) j pos) (sE N X.K W (evE Γ (.kb b))) :=
  pe_bl.weak fun σ H Q ⟨ρ, h, τ, rh, fr, p⟩ => by
    unfold evE at p
    exact p.ok rh (by simp only [VR])
theorem x_non {j : Nat} {pos : Pos} : PE X (.Constant .none j pos) (sE N X.K W (evE Γ .kn)) :=
  pe_non.weak fun σ H Q ⟨ρ, h, τ, rh, fr, p⟩ => by
    unfold evE at p
    exact p.ok rh (by simp only [VR])
theorem x_str {z : Str} {j : Nat} {pos : Pos} : PE X (.Constant (.str z) j pos) (sE N X.K W (evE Γ (.ks z))) :=
  pe_str.weak fun σ H Q ⟨ρ, h, τ, rh, fr, p⟩ => by
    unfold evE at p
    exact p.ok rh (by simp only [VR])
/-- a global name that stands for a value -/
theorem x_glob {x : Str} {w : Val} {v : V} {u : Value} {pos : Pos} (hg : Gl X x) (hm : X.mg x = some u) (r : L2.RelV v u) (hr : ∀ ρ H, VR N X.K ρ H w v) (hd : (x == ("__debug__" : Str)) = false) : PE X (.Name x pos) (sE N X.K W (evE Γ (.gv w))) :=
  (pe_glob hg hm r hd).weak fun σ H Q ⟨ρ, h, τ, rh, fr, p⟩ => by
    unfold evE at p
    exact p.ok rh (hr _ _)
theorem x_bltn {x : Str} {w : Val} {v : V} {u : Value} {pos : Pos} (hg : Gl X x) (hm : X.mg x = none) (hv : bootBuiltins x = some u) (r : L2.RelV v u) (hr : ∀ ρ H, VR N X.K ρ H w v) (hn : x ≠ "__name__") (hd : (x == ("__debug__" : Str)) = false) : PE X (.Name x pos) (sE N X.K W (evE Γ (.gv w))) :=
  (pe_bltn hg hm hv r hn hd).weak fun σ H Q ⟨ρ, h, τ, rh, fr, p⟩ => by
    unfold evE at p
    exact p.ok rh (hr _ _)
section
variable {a b c e : Expr} {es : List Expr} {ca cb cc ces : C} {pos : Pos}
/-- two values, then an operation -/
theorem sM_two {f : MH → Val → Val → Res Val} (hf : ∀ {σ : L2.St} {H : L2.Hp} {Q : VK} {ρ : List Addr} {h : MH} {x y : Val}, Post N X.K ρ H (fun c d H' => W c d σ H') (VR N X.K) (f h x y) Q → Post N X.K ρ H NoW (VR N X.K) (f h x y) Q) {x y : V}
    (q : sM N X.K W [y, x] (VR N X.K) (fun ws _ h => match ws with | [wy, wx] => f h wx wy | _ => .bad) σ H Q) : sO2 N X.K f x y H Q := by
  obtain ⟨ρ, h, τ, ws, rh, fr, r, p⟩ := q
  cases ws with
  | nil => exact p.elim
  | cons w1 ws =>
    cases ws with
    | nil => exact p.elim
    | cons w2 ws =>
      cases ws with
      | cons _ _ => exact p.elim
      | nil =>
        obtain ⟨v, u, e, h1, h2⟩ := r.inv2
        cases e
        exact ⟨ρ, h, w2, w1, rh, h2, h1, hf p⟩
theorem bind_two {f : MH → Val → Val → Res Val} {ma mb : MF → MH → Res Val} (q : sE N X.K W (fun τ h => (ma τ h).bind fun x h1 => (mb τ h1).bind fun y h2 => f h2 x y) σ H Q) :
    sE N X.K W ma σ H fun x H1 => sE N X.K W mb σ H1 fun y H2 => sM N X.K W [y, x] (VR N X.K) (fun ws _ h => match ws with | [wy, wx] => f h wx wy | _ => .bad) σ H2 Q := by
  have q1 := sM_bind (g := fun ws τ h1 => match ws with | [x] => (mb τ h1).bind fun y h2 => f h2 x y | _ => .bad) (sE_sM (fun _ _ => rfl) q)
  obtain ⟨ρ, h, τ, rh, fr, p⟩ := q1
  refine ⟨ρ, h, τ, rh, fr, p.imp fun x H1 q2 => ?_⟩
  obtain ⟨ρ1, h1, τ1, ws, rh1, fr1, r1, p1⟩ := q2
  cases ws with
  | nil => exact p1.elim
  | cons w1 ws =>
    cases ws with
    | cons _ _ => exact p1.elim
    | nil => exact sM_bind (g := fun ws _ h => match ws with | [wy, wx] => f h wx wy | _ => .bad) ⟨ρ1, h1, τ1, [w1], rh1, fr1, r1, p1⟩
theorem x_bop (o : BOp) (ha : PE X a (sE N X.K W (evE Γ ca))) (hb : PE X b (sE N X.K W (evE Γ cb))) : PE X (.BinOp a (bopOf o) b pos) (sE N X.K W (evE Γ (.op o ca cb))) :=
  (pe_op (o_bop (N := N) o) ha hb).weak fun σ H Q q => by
    have q1 : sE N X.K W (fun τ h => (evE Γ ca τ h).bind fun x h1 => (evE Γ cb τ h1).bind fun y h2 => (fun h x y => ofOpt (bop o h x y)) h2 x y) σ H Q := by
      obtain ⟨ρ, h, τ, rh, fr, p⟩ := q
      unfold evE at p
      exact ⟨ρ, h, τ, rh, fr, p⟩
    obtain ⟨ρ, h, τ, rh, fr, p⟩ := bind_two q1
    refine ⟨ρ, h, τ, rh, fr, p.imp fun x H1 q2 => ?_⟩
    obtain ⟨ρ, h, τ, rh, fr, p⟩ := q2
    exact ⟨ρ, h, τ, rh, fr, p.imp fun y H2 q3 => sM_two (fun p => p.nowish) q3⟩

def copOf : COp → CmpOp
  | .eq => .Eq
  | .ne => .NotEq
  | .lt => .Lt
  | .le => .LtE
  | .gt => .Gt
  | .ge => .GtE
  | .is => .Is
  | .isnot => .IsNot
  | .isin => .In
  | .notin => .NotIn
theorem o_none {f : Value → Value → Sem Value} {c : MH → Val → Val → Option Bool} (hc : ∀ h x y, c h x y = none) : OpR X f (sO2 N X.K fun h a b => ofVal ((c h a b).map .bl) h) := by
  intro pins s σ H x y v u Q I rx ry q
  obtain ⟨ρ, h, wx, wy, rh, r1, r2, p0⟩ := q
  dsimp only at p0
  rw [hc] at p0
  exact p0.elim
theorem o_cop (B : Base X) : ∀ o : COp, OpR X (compareOp (copOf o)) (sO2 N X.K fun h a b => ofVal ((cop o h a b).map .bl) h)
  | .eq => o_eq B
  | .ne => o_ne B
  | .lt => o_lt
  | .le => o_le
  | .gt => o_gt
  | .ge => o_ge
  | .is => o_is
  | .isnot => o_isnot
  | .isin => o_none fun _ _ _ => rfl
  | .notin => o_none fun _ _ _ => rfl
theorem imp_cm (o : COp) (q : sE N X.K W (evE Γ (.cm o ca cb)) σ H Q) : tOp (sO2 N X.K fun h a b => ofVal ((cop o h a b).map .bl) h) (sE N X.K W (evE Γ ca)) (sE N X.K W (evE Γ cb)) σ H Q := by
  have q1 : sE N X.K W (fun τ h => (evE Γ ca τ h).bind fun x h1 => (evE Γ cb τ h1).bind fun y h2 => (fun h x y => ofVal ((cop o h x y).map .bl) h) h2 x y) σ H Q := by
    obtain ⟨ρ, h, τ, rh, fr, p⟩ := q
    unfold evE at p
    exact ⟨ρ, h, τ, rh, fr, p⟩
  obtain ⟨ρ, h, τ, rh, fr, p⟩ := bind_two q1
  refine ⟨ρ, h, τ, rh, fr, p.imp fun x H1 q2 => ?_⟩
  obtain ⟨ρ, h, τ, rh, fr, p⟩ := q2
  exact ⟨ρ, h, τ, rh, fr, p.imp fun y H2 q3 => sM_two (fun p => p.nowishV) q3⟩
theorem x_cm (B : Base X) (o : COp) (ha : PE X a (sE N X.K W (evE Γ ca))) (hb : PE X b (sE N X.K W (evE Γ cb))) (hm : behindInMarks (copOf o) b = false) : PE X (.Compare a [copOf o] [b] pos) (sE N X.K W (evE Γ (.cm o ca cb))) :=
  (pe_cmpR (o_cop (N := N) B o) ha hb hm).weak fun σ H Q q => imp_cm o q
/-- a test's reading from its value's -/
theorem sT_sE {m : MF → MH → Res Val} (q : sT N X.K W (fun τ h => (m τ h).bind fun x h1 => ofVal (tru h1 x) h1) σ H Q') : sE N X.K W m σ H fun v H1 => ∃ ρ h x b, RelH N X.K ρ h H1 ∧ VR N X.K ρ H1 x v ∧ tru h x = some b ∧ Q' b H1 := by
  obtain ⟨ρ, h, τ, rh, fr, p⟩ := q
  refine ⟨ρ, h, τ, rh, fr, p.bind.imp ?_⟩
  rintro v H1 ⟨ρ1, h1, x, e, rh1, rv, p1⟩
  cases ht : tru h1 x with
  | none =>
    rw [ht] at p1
    exact p1.elim
  | some b =>
    rw [ht] at p1
    exact ⟨ρ1, h1, x, b, rh1, rv, ht, p1.ok rh1 rfl⟩
theorem tru_rel {ρ : List Addr} {h : MH} (rh : RelH N X.K ρ h H) {x : Val} {v : V} {b : Bool} (r : VR N X.K ρ H x v) (e : tru h x = some b) : TruV X.K v H b := by
  cases x with
  | non =>
    simp only [VR] at r
    subst r
    cases e
    rfl
  | bl c =>
    simp only [VR] at r
    subst r
    cases e
    rfl
  | int i =>
    simp only [VR] at r
    subst r
    cases e
    rfl
  | _ => cases e
theorem x_tru (ha : PE X a (sE N X.K W (evE Γ ca))) (ht : ∀ whole, isTrue a X.env whole = (do let v ← whole; standAt a.pos; holding [v] (truthy v))) : PT X a (sT N X.K W (evT Γ ca)) :=
  (pt_truth ha ht).weak fun σ H Q q => by
    obtain ⟨ρ, h, τ, rh, fr, p⟩ := sT_sE q
    refine ⟨ρ, h, τ, rh, fr, p.imp ?_⟩
    rintro v H1 ⟨ρ1, h1, x, b, rh1, rv, ht, q1⟩
    exact ⟨b, tru_rel rh1 rv ht, q1⟩
theorem bind_ok {α β : Type} {r : Res α} {f : α → MH → Res β} {y : β} {h' : MH} (e : r.bind f = .ok y h') : ∃ x h, r = .ok x h ∧ f x h = .ok y h' := by
  cases r with
  | ok x h => exact ⟨x, h, rfl, e⟩
  | exc c fs h => cases e
  | bad => cases e
theorem cm_bl {o : COp} {τ : MF} {h h' : MH} {x : Val} (e : evE Γ (.cm o ca cb) τ h = .ok x h') : ∃ b, x = .bl b := by
  unfold evE at e
  obtain ⟨_, _, _, e⟩ := bind_ok e
  obtain ⟨_, _, _, e⟩ := bind_ok e
  cases hc : cop o _ _ _ with
  | none =>
    rw [hc] at e
    cases e
  | some b =>
    rw [hc] at e
    cases e
    exact ⟨b, rfl⟩
/-- a test whose value is a bool -/
theorem sT_bl {m : MF → MH → Res Val} (hb : ∀ τ h x h', m τ h = .ok x h' → ∃ b, x = .bl b) (q : sT N X.K W (fun τ h => (m τ h).bind fun x h1 => ofVal (tru h1 x) h1) σ H Q') : sE N X.K W m σ H fun v H1 => ∃ b, v = .bl b ∧ Q' b H1 := by
  obtain ⟨ρ, h, τ, rh, fr, p⟩ := q
  dsimp only at p
  refine ⟨ρ, h, τ, rh, fr, ?_⟩
  cases hm : m τ h with
  | bad =>
    rw [hm] at p
    exact p.elim
  | exc c fs h1 =>
    rw [hm] at p
    exact p
  | ok x h1 =>
    obtain ⟨b, rfl⟩ := hb _ _ _ _ hm
    rw [hm] at p
    intro ρ1 H1 v e rh1 rv
    simp only [VR] at rv
    exact ⟨b, rv, p ρ1 H1 b e rh1 rfl⟩
theorem x_cmT (B : Base X) (o : COp) (ha : PE X a (sE N X.K W (evE Γ ca))) (hb : PE X b (sE N X.K W (evE Γ cb))) (hm : behindInMarks (copOf o) b = false) : PT X (.Compare a [copOf o] [b] pos) (sT N X.K W (evT Γ (.cm o ca cb))) :=
  (pt_cmpR (o_cop (N := N) B o) ha hb hm).weak fun σ H Q q => imp_cm o (sT_bl (fun _ _ _ _ e => cm_bl e) q)
/-- and, or, not -/
theorem x_andV {rest : List Expr} (ha : PE X a (sE N X.K W (evE Γ ca))) (hb : PE X (.BoolOp .And (b :: rest) pos) (sE N X.K W (evE Γ cb))) : PE X (.BoolOp .And (a :: b :: rest) pos) (sE N X.K W (evE Γ (.and ca cb))) :=
  (pe_and ha hb).weak fun σ H Q ⟨ρ, h, τ, rh, fr, p⟩ => by
    unfold evE at p
    refine ⟨ρ, h, τ, rh, fr, p.bind.imp ?_⟩
    rintro v H1 ⟨ρ1, h1, x, e, rh1, rv, p1⟩
    split at p1
    · simp only [VR] at rv
      exact ⟨true, rv, ρ1, h1, τ, rh1, fr.mono e, p1⟩
    · simp only [VR] at rv
      exact ⟨false, rv, p1.ok rh1 (by simp only [VR])⟩
    · exact p1.elim
theorem x_orV {rest : List Expr} (ha : PE X a (sE N X.K W (evE Γ ca))) (hb : PE X (.BoolOp .Or (b :: rest) pos) (sE N X.K W (evE Γ cb))) : PE X (.BoolOp .Or (a :: b :: rest) pos) (sE N X.K W (evE Γ (.or ca cb))) :=
  (pe_or ha hb).weak fun σ H Q ⟨ρ, h, τ, rh, fr, p⟩ => by
    unfold evE at p
    refine ⟨ρ, h, τ, rh, fr, p.bind.imp ?_⟩
    rintro v H1 ⟨ρ1, h1, x, e, rh1, rv, p1⟩
    split at p1
    · simp only [VR] at rv
      exact ⟨true, rv, p1.ok rh1 (by simp only [VR])⟩
    · simp only [VR] at rv
      exact ⟨false, rv, ρ1, h1, τ, rh1, fr.mono e, p1⟩
    · exact p1.elim
theorem x_notV (ha : PE X a (sE N X.K W (evE Γ ca))) : PE X (.UnaryOp .Not a pos) (sE N X.K W (evE Γ (.not ca))) :=
  (pe_not ha).weak fun σ H Q ⟨ρ, h, τ, rh, fr, p⟩ => by
    unfold evE at p
    refine ⟨ρ, h, τ, rh, fr, p.bind.imp ?_⟩
    rintro v H1 ⟨ρ1, h1, x, e, rh1, rv, p1⟩
    split at p1
    · simp only [VR] at rv
      exact ⟨_, rv, p1.ok rh1 (by simp only [VR])⟩
    · exact p1.elim
theorem x_neg (ha : PE X a (sE N X.K W (evE Γ ca))) : PE X (.UnaryOp .USub a pos) (sE N X.K W (evE Γ (.neg ca))) :=
  (pe_un un_neg ha).weak fun σ H Q ⟨ρ, h, τ, rh, fr, p⟩ => by
    unfold evE at p
    refine ⟨ρ, h, τ, rh, fr, p.bind.imp ?_⟩
    rintro v H1 ⟨ρ1, h1, x, e, rh1, rv, p1⟩
    split at p1
    · simp only [VR] at rv
      exact ⟨_, rv, p1.ok rh1 (by simp only [VR])⟩
    · exact p1.elim
theorem x_andT {rest : List Expr} (ha : PT X a (sT N X.K W (evT Γ ca))) (hb : PW X (.BoolOp .And (b :: rest) pos) (sT N X.K W (evT Γ cb))) : PW X (.BoolOp .And (a :: b :: rest) pos) (sT N X.K W (evT Γ (.and ca cb))) := by
  refine ⟨fun whole pins s σ H Q I q => (pw_and ha hb).run whole pins s σ H Q I ?_⟩
  obtain ⟨ρ, h, τ, rh, fr, p⟩ := q
  unfold evT at p
  unfold evE at p
  refine ⟨ρ, h, τ, rh, fr, ?_⟩
  unfold evT
  cases hm : evE Γ ca τ h with
  | bad =>
    rw [hm] at p
    exact p.elim
  | exc c fs h1 =>
    rw [hm] at p
    exact p
  | ok x h1 =>
    rw [hm] at p
    cases x with
    | bl c =>
      intro ρ1 H1 v e rh1 rv
      have rv : v = c := rv
      rw [rv]
      cases c with
      | true => exact ⟨ρ1, h1, τ, rh1, fr.mono e, Post.later e p⟩
      | false => exact p ρ1 H1 false e rh1 rfl
    | _ => exact p.elim
theorem x_orT {rest : List Expr} (ha : PT X a (sT N X.K W (evT Γ ca))) (hb : PW X (.BoolOp .Or (b :: rest) pos) (sT N X.K W (evT Γ cb))) : PW X (.BoolOp .Or (a :: b :: rest) pos) (sT N X.K W (evT Γ (.or ca cb))) := by
  refine ⟨fun whole pins s σ H Q I q => (pw_or ha hb).run whole pins s σ H Q I ?_⟩
  obtain ⟨ρ, h, τ, rh, fr, p⟩ := q
  unfold evT at p
  unfold evE at p
  refine ⟨ρ, h, τ, rh, fr, ?_⟩
  unfold evT
  cases hm : evE Γ ca τ h with
  | bad =>
    rw [hm] at p
    exact p.elim
  | exc c fs h1 =>
    rw [hm] at p
    exact p
  | ok x h1 =>
    rw [hm] at p
    cases x with
    | bl c =>
      intro ρ1 H1 v e rh1 rv
      have rv : v = c := rv
      rw [rv]
      cases c with
      | false => exact ⟨ρ1, h1, τ, rh1, fr.mono e, Post.later e p⟩
      | true => exact p ρ1 H1 true e rh1 rfl
    | _ => exact p.elim
theorem x_notT (ha : PT X a (sT N X.K W (evT Γ ca))) : PT X (.UnaryOp .Not a pos) (sT N X.K W (evT Γ (.not ca))) :=
  (pt_not ha).weak fun σ H Q ⟨ρ, h, τ, rh, fr, p⟩ => by
    unfold evT at p
    unfold evE at p
    refine ⟨ρ, h, τ, rh, fr, ?_⟩
    unfold evT
    cases hm : evE Γ ca τ h with
    | bad =>
      rw [hm] at p
      exact p.elim
    | exc c fs h1 =>
      rw [hm] at p
      exact p
    | ok x h1 =>
      rw [hm] at p
      cases x with
      | bl c =>
        intro ρ1 H1 v e rh1 rv
        have rv : v = c := rv
        rw [rv]
        exact p ρ1 H1 _ e rh1 rfl
      | _ => exact p.elim
theorem x_ifx {c : Expr} (hc : PT X c (sT N X.K W (evT Γ cc))) (ha : PE X a (sE N X.K W (evE Γ ca))) (hb : PE X b (sE N X.K W (evE Γ cb))) : PE X (.IfExp c a b pos) (sE N X.K W (evE Γ (.ifx cc ca cb))) :=
  (pe_ifExp hc ha hb).weak fun σ H Q ⟨ρ, h, τ, rh, fr, p⟩ => by
    unfold evE at p
    refine ⟨ρ, h, τ, rh, fr, ?_⟩
    unfold evT
    cases hm : evE Γ cc τ h with
    | bad =>
      rw [hm] at p
      exact p.elim
    | exc c fs h1 =>
      rw [hm] at p
      exact p
    | ok x h1 =>
      rw [hm] at p
      cases ht : tru h1 x with
      | none =>
        have p' : Post N X.K ρ H (fun c d H' => W c d σ H') (VR N X.K) (match tru h1 x with | some true => evE Γ ca τ h1 | some false => evE Γ cb τ h1 | none => .bad) Q := p
        rw [ht] at p'
        exact p'.elim
      | some t =>
        have p' : Post N X.K ρ H (fun c d H' => W c d σ H') (VR N X.K) (match tru h1 x with | some true => evE Γ ca τ h1 | some false => evE Γ cb τ h1 | none => .bad) Q := p
        rw [ht] at p'
        show Post N X.K ρ H _ _ (ofVal (tru h1 x) h1) _
        rw [ht]
        intro ρ1 H1 v e rh1 rv
        have rv : v = t := rv
        rw [rv]
        cases t with
        | true => exact ⟨ρ1, h1, τ, rh1, fr.mono e, Post.later e p'⟩
        | false => exact ⟨ρ1, h1, τ, rh1, fr.mono e, Post.later e p'⟩
end
end
end Mini
set_option Elab.async false
set_option linter.all false
set_option maxRecDepth 100000
set_option maxHeartbeats 2000000
/-! Mini against the model: argument lists, displays, items, calls. -/
namespace Mini
open PySem PySem.Spec PyProof.Rows L2
open L2H (RoomH Hot1 PinOk HotC)
section
variable {N : Nm} {X : Cx} {W : WX} {Γ : Sys} {σ : L2.St} {H : L2.Hp} {Q : VK}
variable {a b c e : Expr} {es : List Expr} {ca cb cc ces : C} {pos : Pos}
def notStar : Expr → Bool
  | .Starred _ _ => false
  | _ => true
theorem star_of {env : PySem.Env} (h : notStar e = true) : starEach (e :: es) env = (false, eval e env) :: starEach es env := by
  cases e <;> first | rfl | cases h
theorem noStars {env : PySem.Env} {p : Pos} : ∀ {es : List Expr}, es.all notStar = true → (backTo p (starEach es env)).any (·.1) = false
  | [], _ => rfl
  | e :: es, h => by
    rw [List.all_cons, Bool.and_eq_true] at h
    rw [star_of h.1]
    show (false || (backTo p (starEach es env)).any (·.1)) = false
    rw [noStars h.2]
    rfl
theorem x_nil : PA X [] (sA N X.K W (evEs Γ .nil)) :=
  pa_nil.weak fun σ H Q ⟨ρ, h, τ, rh, fr, p⟩ => by
    unfold evEs at p
    exact p.ok rh (by simp only [VRs])
theorem x_cons (ha : PE X e (sE N X.K W (evE Γ ca))) (hb : PA X es (sA N X.K W (evEs Γ ces))) (hs : notStar e = true) : PA X (e :: es) (sA N X.K W (evEs Γ (.cons ca ces))) :=
  (pa_cons ha hb (star_of hs)).weak fun σ H Q ⟨ρ, h, τ, rh, fr, p⟩ => by
    unfold evEs at p
    refine ⟨ρ, h, τ, rh, fr, p.bind.imp ?_⟩
    rintro v H1 ⟨ρ1, h1, x, e, rh1, rv, p1⟩
    refine ⟨ρ1, h1, τ, rh1, fr.mono e, p1.bind.imp ?_⟩
    rintro us H2 ⟨ρ2, h2, xs, e2, rh2, r2, p2⟩
    refine p2.ok rh2 ?_
    simp only [VRs]
    exact ⟨v, us, rfl, rv.mono e2, r2⟩
theorem x_tup {k : Nat} (hb : PA X es (sA N X.K W (evEs Γ ces))) : PE X (.Tuple es k pos) (sE N X.K W (evE Γ (.tup ces))) :=
  (pe_tup hb).weak fun σ H Q ⟨ρ, h, τ, rh, fr, p⟩ => by
    unfold evE at p
    refine ⟨ρ, h, τ, rh, fr, p.bind.imp ?_⟩
    rintro us H1 ⟨ρ1, h1, xs, e, rh1, r1, p1⟩
    split at p1
    · rename_i z
      rw [Bool.and_eq_true] at z
      refine ⟨by rw [r1.length]; exact fits_le z.1, fun l hl => p1 ρ1 _ _ (Ext.newT hl) (rh1.newT hl) ?_⟩
      simp only [VR]
      exact ⟨l, us, rfl, .inl ⟨upd_same, rh1.notin hl⟩, r1.mono (Ext.newT hl), z.2⟩
    · exact p1.elim
theorem x_lst (hb : PA X es (sA N X.K W (evEs Γ ces))) : PE X (.List es pos) (sE N X.K W (evE Γ (.lst ces))) :=
  (pe_lst hb).weak fun σ H Q ⟨ρ, h, τ, rh, fr, p⟩ => by
    unfold evE at p
    refine ⟨ρ, h, τ, rh, fr, p.bind.imp ?_⟩
    rintro us H1 ⟨ρ1, h1, xs, e, rh1, r1, p1⟩
    split at p1
    · rename_i z
      rw [Bool.and_eq_true] at z
      exact ⟨by rw [r1.length]; exact fits_le z.1, fun l hl => p1.nowish.newLst rfl rh1 hl r1 z.2⟩
    · exact p1.elim
theorem x_ix (B : Base X) (ha : PE X a (sE N X.K W (evE Γ ca))) (hb : PE X b (sE N X.K W (evE Γ cb))) (hs : PlainIx b) : PE X (.Subscript a b pos) (sE N X.K W (evE Γ (.ix ca cb))) :=
  (pe_ix (o_ix (N := N) B) ha hb hs).weak fun σ H Q q => by
    have q1 : sE N X.K W (fun τ h => (evE Γ ca τ h).bind fun x h1 => (evE Γ cb τ h1).bind fun y h2 => (fun h x y => ofVal (getIx h x y) h) h2 x y) σ H Q := by
      obtain ⟨ρ, h, τ, rh, fr, p⟩ := q
      unfold evE at p
      exact ⟨ρ, h, τ, rh, fr, p⟩
    obtain ⟨ρ, h, τ, rh, fr, p⟩ := bind_two q1
    refine ⟨ρ, h, τ, rh, fr, p.imp fun x H1 q2 => ?_⟩
    obtain ⟨ρ, h, τ, rh, fr, p⟩ := q2
    exact ⟨ρ, h, τ, rh, fr, p.imp fun y H2 q3 => sM_two (fun p => p.nowishV) q3⟩
/-- a call's reading by its Mini meaning -/
def sC (N : Nm) (K : PySem.W.Frag) (W : WX) (m : List Val → MH → Res Val) (σ : L2.St) (vs : List V) (H : L2.Hp) (Q : VK) : Prop := ∃ ρ h ws, RelH N K ρ h H ∧ VRs N K ρ H ws vs ∧ Post N K ρ H (fun c d H' => W c d σ H') (VR N K) (m ws h) Q
/-- the def at f may be called here, by the meaning m -/
def CallOk (N : Nm) (X : Cx) (W : WX) (f : Addr) (m : List Val → MH → Res Val) : Prop :=
  ∀ (pins : List (Addr × PySem.Obj)) (s : Shared) (σ : L2.St) (H : L2.Hp) (us : List Value) (vs : List V) (Q : VK), Inv X pins σ H s → Vals vs us → sC N X.K W m σ vs H Q → wpAny (model X.prog X.w) X.A (call (.ref f) us) (EP X pins σ Q) X.xe s
theorem imp_args {m : List Val → MH → Res Val} (q : sE N X.K W (fun τ h => (evEs Γ ces τ h).bind fun xs h1 => m xs h1) σ H Q) : sA N X.K W (evEs Γ ces) σ H fun vs H1 => sC N X.K W m σ vs H1 Q := by
  obtain ⟨ρ, h, τ, rh, fr, p⟩ := q
  refine ⟨ρ, h, τ, rh, fr, p.bind.imp ?_⟩
  rintro us H1 ⟨ρ1, h1, xs, e, rh1, r1, p1⟩
  exact ⟨ρ1, h1, xs, rh1, r1, p1⟩
theorem x_call {x : Str} {f : Addr} {i : Nat} {p : Pos} (hg : Gl X x) (hm : X.mg x = some (.ref f)) (hk : PySem.W.keepIn X.K (.ref f) = true) (ok : CallOk N X W f (Γ.call i)) (ha : PA X (e :: es) (sA N X.K W (evEs Γ ces)))
    (hd : (x == ("__debug__" : Str)) = false) (hs : notStar e = true) (hss : es.all notStar = true) : PE X (.Call (.Name x p) (e :: es) [] pos) (sE N X.K W (evE Γ (.call i ces))) := by
  refine ⟨fun pins s σ H Q I q => ?_⟩
  have q1 : sE N X.K W (fun τ h => (evEs Γ ces τ h).bind fun xs h1 => Γ.call i xs h1) σ H Q := by
    obtain ⟨ρ, h, τ, rh, fr, p⟩ := q
    unfold evE at p
    exact ⟨ρ, h, τ, rh, fr, p⟩
  refine wpAny_Call_Name_kw (ld_glob I hg hm ?_ hd)
  refine PySem.W.callWith_K (h₀ := X.base) I.ok.mod.kin hk (thn (ha.run pos pins s σ H _ I (imp_args q1)) fun us s1 ⟨vs, H1, I1, r, q2⟩ => ⟨I1.kIn, ok pins s1 σ H1 us vs Q I1 r q2⟩) (star_of hs) (noStars hss)
theorem x_call0 {x : Str} {f : Addr} {i : Nat} {p : Pos} (hg : Gl X x) (hm : X.mg x = some (.ref f)) (hk : PySem.W.keepIn X.K (.ref f) = true) (ok : CallOk N X W f (Γ.call i))
    (hd : (x == ("__debug__" : Str)) = false) : PE X (.Call (.Name x p) [] [] pos) (sE N X.K W (evE Γ (.call i .nil))) := by
  refine ⟨fun pins s σ H Q I q => ?_⟩
  have q1 : sE N X.K W (fun τ h => (evEs Γ .nil τ h).bind fun xs h1 => Γ.call i xs h1) σ H Q := by
    obtain ⟨ρ, h, τ, rh, fr, p⟩ := q
    unfold evE at p
    exact ⟨ρ, h, τ, rh, fr, p⟩
  have q2 : sC N X.K W (Γ.call i) σ [] H Q := by
    obtain ⟨ρ, h, τ, rh, fr, p⟩ := q1
    unfold evEs at p
    exact ⟨ρ, h, [], rh, by simp only [VRs], p⟩
  exact wpAny_Call_Name_kw (ld_glob I hg hm (PySem.W.callWith_K0 I.kIn hk (ok pins s σ H [] [] Q I .nil q2)) hd)

/-! ### built-ins, methods -/
theorem imp_bi {f : MH → List Val → Opt} (q : sE N X.K W (fun τ h => (evEs Γ ces τ h).bind fun xs h1 => ofOpt (f h1 xs)) σ H Q) : tCB (sBi N X.K f) (sA N X.K W (evEs Γ ces)) σ H Q := by
  obtain ⟨ρ, h, τ, rh, fr, p⟩ := q
  refine ⟨ρ, h, τ, rh, fr, p.bind.imp ?_⟩
  rintro us H1 ⟨ρ1, h1, xs, e, rh1, r1, p1⟩
  exact ⟨ρ1, h1, xs, rh1, r1, p1.nowish⟩
theorem x_bB {id : String} {x : Str} {p : Pos} {bi : Bi} (rule : CallR X (.builtin id) (sBi N X.K fun h xs => biV Γ bi h xs)) (hg : Gl X x) (hm : X.mg x = none) (hv : bootBuiltins x = some (.builtin id)) (ha : PA X (e :: es) (sA N X.K W (evEs Γ ces)))
    (hn : x ≠ "__name__") (hd : (x == ("__debug__" : Str)) = false) (hs : notStar e = true) (hss : es.all notStar = true) : PE X (.Call (.Name x p) (e :: es) [] pos) (sE N X.K W (evE Γ (.blt bi ces))) :=
  (pe_callB rule hg hm hv ha hn hd (star_of hs) (noStars hss)).weak fun σ H Q q => imp_bi (f := fun h xs => biV Γ bi h xs) (by
    obtain ⟨ρ, h, τ, rh, fr, p⟩ := q
    unfold evE at p
    exact ⟨ρ, h, τ, rh, fr, p⟩)
theorem x_bT {T : String} {x : Str} {p : Pos} {bi : Bi} (rule : CallR X (.type T) (sBi N X.K fun h xs => biV Γ bi h xs)) (hg : Gl X x) (hm : X.mg x = none) (hv : bootBuiltins x = some (.type T)) (ha : PA X (e :: es) (sA N X.K W (evEs Γ ces)))
    (hn : x ≠ "__name__") (hd : (x == ("__debug__" : Str)) = false) (hs : notStar e = true) (hss : es.all notStar = true) : PE X (.Call (.Name x p) (e :: es) [] pos) (sE N X.K W (evE Γ (.blt bi ces))) :=
  (pe_callTy rule hg hm hv ha hn hd (star_of hs) (noStars hss)).weak fun σ H Q q => imp_bi (f := fun h xs => biV Γ bi h xs) (by
    obtain ⟨ρ, h, τ, rh, fr, p⟩ := q
    unfold evE at p
    exact ⟨ρ, h, τ, rh, fr, p⟩)
/-- nothing can be shown of it -/
theorem b_never {f : Value} {g : MH → List Val → Opt} (hg : ∀ h xs, g h xs = none) : CallR X f (sBi N X.K g) := by
  intro pins s σ H xs us Q I r q
  obtain ⟨ρ, h, ws, rh, rw_, p0⟩ := q
  dsimp only at p0
  rw [hg] at p0
  exact p0.elim

/-! ### a caught error -/
/-- what the classes of errors say -/
structure XF (N : Nm) (K : PySem.W.Frag) (Γ : Sys) : Prop where
  hcl : ∀ c, Γ.isx c = true → (PySem.W.clsIn K (He.ga K (N.cls c))).isSome = true
  hga : ∀ c, Γ.isx c = true → PySem.W.findIn K (.ref (He.ga K (N.cls c))) "__getattribute__" = some (some (.builtin "BaseException.__getattribute__"))
  hgt : ∀ c, Γ.isx c = true → PySem.W.findIn K (.ref (He.ga K (N.cls c))) "__getattr__" = some none
  hsub : ∀ c, Γ.isx c = true → PySem.W.subIn K (.ref (He.ga K (N.cls c))) (.type "BaseException") = some true
  hdi : ∀ c, Γ.isx c = true → PySem.W.hasDictIn K (He.ga K (N.cls c)) = true
  ha : ∀ c, Γ.isx c = true → PySem.W.findIn K (.ref (He.ga K (N.cls c))) "__class__" = some (some (.builtin "object.__class__"))
  hm : ∀ c, Γ.isx c = true → PySem.W.mroIn K (He.ga K (N.cls c)) (.type "object") = some true
  hn : PySem.W.specialIn K (.builtin "object.__class__") "__get__" = some (some (.builtin "getset_descriptor.__get__"))
  htk : PySem.W.takesIn K (.builtin "object.__class__") = some true
  kit : ∀ c d, Γ.isx c = true → Γ.isx d = true → PySem.W.kitOne K (.ref (He.ga K (N.cls c))) (.ref (He.ga K (N.cls d))) = some (Γ.sub c d)
  kitT : ∀ c n, Γ.isx c = true → excTypes.contains n = true → PySem.W.kitOne K (.ref (He.ga K (N.cls c))) (.type n) = some true
  fld : ∀ c f, Γ.isx c = true → f ∈ N.flds c → PySem.W.findIn K (.ref (He.ga K (N.cls c))) f = some none
  flds : Γ.flds = N.flds
  ndf : ∀ c, (N.flds c).Nodup
/-- the caught error stands, pinned -/
def HotE (N : Nm) (X : Cx) (Γ : Sys) : Prop := ∀ c a d, N.ex = some (c, a, d) → Γ.isx c = true ∧ ∃ oe, (a, oe) ∈ X.pn ∧ Zc (.ref (He.ga X.K (N.cls c))) d oe ∧ (∃ vs, oe.data = .fields vs) ∧ Hot1 X.A (a, oe)
theorem exn_pin (E : HotE N X Γ) {ρ : List Addr} {c : Nat} {fs : List Val} {v : V} (r : VR N X.K ρ H (.exn c fs) v) {pins : List (Addr × PySem.Obj)} {s : Shared} (I : Inv X pins σ H s) :
    Γ.isx c = true ∧ ∃ (a : Addr) (d : Option Addr) (oe : PySem.Obj) (ox : Option PySem.Obj) (vs : List V), v = .ref a ∧ Zc (.ref (He.ga X.K (N.cls c))) d oe ∧ PySem.W.InstAt s.heap a oe (He.ga X.K (N.cls c)) ox ∧ VRs N X.K ρ H fs vs ∧
      ((N.flds c = [] ∧ d = none) ∨ (N.flds c ≠ [] ∧ ∃ dd od, d = some dd ∧ H dd = some (.xd ((N.flds c).zip vs)) ∧ ox = some od ∧ s.heap.get? dd = some od)) := by
  simp only [VR] at r
  obtain ⟨a, d, vs, e1, rfl, rs, _, z⟩ := r
  obtain ⟨ix, oe, hp, hz, ⟨ws, hv⟩, _⟩ := E c a d e1
  obtain ⟨hget, _⟩ := I.pin (a, oe) (List.mem_append.mpr (.inl hp))
  have hget' : s.heap.get? a = some oe := hget
  rcases z with ⟨z1, z2⟩ | ⟨z1, dd, z2, z3, z4⟩
  · refine ⟨ix, a, d, oe, none, vs, rfl, hz, ⟨hget', hz.1, by unfold PySem.W.notCls; rw [hv], ?_⟩, rs, .inl ⟨z1, z2⟩⟩
    rw [hz.2, z2]
    trivial
  · obtain ⟨mA, hns, hr⟩ := show ObjOk X.prog X.w H s.heap dd (.xd _) from I.hok dd _ z3
    obtain ⟨od, ho, hl⟩ := lookIn_ns hns
    refine ⟨ix, a, d, oe, some od, vs, rfl, hz, ⟨hget', hz.1, by unfold PySem.W.notCls; rw [hv], by rw [hz.2, z2]; exact ho⟩, rs, .inr ⟨z1, dd, od, z2, z3, rfl, ho⟩⟩
theorem b_isi (F : XF N X.K Γ) (E : HotE N X Γ) : CallR X (.builtin "isinstance") (sBi N X.K fun h xs => biIsi Γ h xs) := by
  intro pins s σ H xs us Q I r q
  obtain ⟨ρ, h, ws, rh, rw_, p0⟩ := q
  obtain ⟨w, h', e, p⟩ := ofOpt_ok p0
  clear p0
  unfold biIsi at e
  dsimp only at e
  split at e
  · rename_i x c
    obtain ⟨b, e1, e2⟩ := map_some e
    cases e2
    obtain ⟨v, u, rfl, rv, rc⟩ := rw_.inv2
    cases r with
    | cons q1 q2 =>
      cases q2 with
      | cons q3 q4 =>
        cases q4
        have go : ∀ {k : Nat} {fs : List Val} {cv : Value}, VR N X.K ρ H (.exn k fs) v → ∀ {ux uc : Value}, L2.RelV v ux → uc = cv → PySem.W.kitOne X.K (.ref (He.ga X.K (N.cls k))) cv = some b → wpAny (model X.prog X.w) X.A (call (.builtin "isinstance") [ux, uc]) (EP X pins σ Q) X.xe s := by
          intro k fs cv rk ux uc rx ec kit
          obtain ⟨ix, a, d, oe, ox, vs, rfl, hz, J, _, _⟩ := exn_pin E rk I
          cases rx
          rw [ec]
          exact PySem.W.kia_one (PySem.W.kitx_exc (F.hcl k ix) (F.hga k ix) (F.hgt k ix) (F.hsub k ix) (F.ha k ix) F.hn F.htk (F.hm k ix)) I.kIn J kit (fun z => nomatch z) fun tk => ⟨.bl b, H, I.kept (t' := tk) fun _ _ z => z, rfl, p.val rh (by simp only [VR])⟩
        unfold isInst at e1
        split at e1
        · split at e1
          · obtain ⟨z, e1⟩ := guardO_some e1
            cases e1
            simp only [VR] at rc
            subst rc
            obtain ⟨ix, _⟩ := exn_pin E rv I
            exact go rv q1 q3 (F.kit _ _ ix z)
          · cases e1
        · split at e1
          · obtain ⟨z, e1⟩ := guardO_some e1
            cases e1
            simp only [VR] at rc
            subst rc
            obtain ⟨ix, _⟩ := exn_pin E rv I
            exact go rv q1 q3 (F.kitT _ _ ix z)
          · cases e1
        · cases e1
  · cases e
theorem zip_look {ρ : List Addr} {f : Str} {w : Val} : ∀ {fl : List Str} {fs : List Val} {vs : List V}, VRs N X.K ρ H fs vs → (fl.idxOf? f |>.bind fun i => fs[i]?) = some w → ∃ v, (fl.zip vs).lookup f = some v ∧ VR N X.K ρ H w v
  | [], fs, vs, r, e => by
    simp [List.idxOf?] at e
  | g :: fl, [], vs, r, e => by
    cases hq : (g :: fl).idxOf? f with
    | none =>
      rw [hq] at e
      cases e
    | some i =>
      rw [hq] at e
      simp at e
  | g :: fl, y :: fs, vs, r, e => by
    simp only [VRs] at r
    obtain ⟨v, r', rfl, h1, h2⟩ := r
    by_cases hgf : g = f
    · subst hgf
      have e1 : (g :: fl).idxOf? g = some 0 := by simp [List.idxOf?, List.findIdx?_cons]
      rw [e1] at e
      simp at e
      subst e
      exact ⟨v, by simp [List.zip_cons_cons, List.lookup_cons], h1⟩
    · have e1 : (g :: fl).idxOf? f = (fl.idxOf? f).map (· + 1) := by
        simp [List.idxOf?, List.findIdx?_cons, hgf]
      rw [e1] at e
      have e2 : (fl.idxOf? f |>.bind fun i => fs[i]?) = some w := by
        cases hq : fl.idxOf? f with
        | none =>
          rw [hq] at e
          cases e
        | some i =>
          rw [hq] at e
          simpa using e
      obtain ⟨v', a1, a2⟩ := zip_look h2 e2
      refine ⟨v', ?_, a2⟩
      have hfg : (f == g) = false := beq_eq_false_iff_ne.mpr fun z => hgf z.symm
      rw [List.zip_cons_cons, List.lookup_cons, hfg]
      exact a1
theorem x_fld (F : XF N X.K Γ) (E : HotE N X Γ) {f : Str} (ha : PE X a (sE N X.K W (evE Γ ca))) (hb : attributeBase a f X.env (eval a X.env) = eval a X.env) : PE X (.Attribute a f pos) (sE N X.K W (evE Γ (.fld ca f))) := by
  refine ⟨fun pins s σ H Q I q => ?_⟩
  obtain ⟨ρ, h, τ, rh, fr, p⟩ := q
  unfold evE at p
  refine attr_of hb (thn (ha.run pins s σ H _ I ⟨ρ, h, τ, rh, fr, p.bind⟩) ?_)
  rintro u s1 ⟨v, H1, I1, rx, ρ1, h1, x, e, rh1, rv, p1⟩
  cases hg : getFld Γ.flds h1 x f with
  | none =>
    rw [hg] at p1
    exact p1.elim
  | some w =>
    rw [hg] at p1
    cases x with
    | exn c fs =>
      have hg' : ((Γ.flds c).idxOf? f |>.bind fun i => fs[i]?) = some w := hg
      rw [F.flds] at hg'
      obtain ⟨ix, a', d, oe, ox, vs, rfl, hz, J, rs, z⟩ := exn_pin E rv I1
      cases rx
      obtain ⟨v', l1, l2⟩ := zip_look rs hg'
      have hf : f ∈ N.flds c := by
        cases hq : (N.flds c).idxOf? f with
        | none =>
          rw [hq] at hg'
          cases hg'
        | some i =>
          unfold List.idxOf? at hq
          obtain ⟨hi, hp, _⟩ := List.findIdx?_eq_some_iff_getElem.mp hq
          have := beq_iff_eq.mp hp
          rw [← this]
          exact List.getElem_mem _
      rcases z with ⟨z1, _⟩ | ⟨z1, dd, od, z2, z3, z4, z5⟩
      · rw [z1] at hf
        cases hf
      · obtain ⟨mA, hns, hr⟩ := show ObjOk X.prog X.w H1 s1.heap dd (.xd _) from I1.hok dd _ z3
        obtain ⟨od', ho, hl⟩ := lookIn_ns hns
        rw [z5] at ho
        cases ho
        obtain ⟨u', hu, ru⟩ := RelO.some_of (v := v') (o := mA f) (by rw [← l1]; exact hr f)
        rw [z4] at J
        exact HandSPX.exc_get I1.kIn J (F.hga c ix) (F.hgt c ix) (F.hsub c ix) (PySem.W.findObj_own (F.hdi c ix) (F.fld c f ix hf) rfl (by rw [hl, hu])) (handed_of ru) ⟨v', H1, I1.tok _, ru, p1.ok rh1 l2⟩
    | ref r =>
      cases ho : h1[r]? with
      | none =>
        simp only [getFld, ho] at hg
        cases hg
      | some o =>
        simp only [getFld, ho] at hg
        obtain ⟨a', e0, e1, oq⟩ := dic_at rh1 rv ho
        cases o with
        | ins c fs => simp only [OR] at oq
        | _ => cases hg
    | _ => cases hg
end
end Mini
set_option Elab.async false
set_option linter.all false
set_option maxRecDepth 100000
set_option maxHeartbeats 2000000
/-! Mini against the model: displays of dicts, methods, targets, statements. -/
namespace Mini
open PySem PySem.Spec PyProof.Rows L2
/-! ### what holds of every text of a form -/
def isLC : Expr → Bool
  | .ListComp _ _ _ _ => true
  | .DictComp _ _ _ _ _ => true
  | .SetComp _ _ _ _ => true
  | _ => false
theorem noswap {e : Expr} {t : Option Expr} {n : Nat} {env : PySem.Env} (h : isLC e = false) : swapsWith e t n env = pure false := by
  cases e <;> first | rfl | cases h
theorem noswapS {tg e : Expr} {n : Nat} {env : PySem.Env} (h : isLC e = false) : swapsWithSole [tg] e n env = pure false := by
  cases e <;> first | rfl | cases h | (cases tg <;> rfl)
theorem asg1 {tg : Expr} {env : PySem.Env} (h : notStar tg = true) : (assignEach [tg] env).map (·.2) = [assign tg env] := by
  cases tg <;> first | rfl | cases h
theorem asgc {tg : Expr} {es : List Expr} {env : PySem.Env} (h : notStar tg = true) : (assignEach (tg :: es) env).map (·.2) = assign tg env :: (assignEach es env).map (·.2) := by
  cases tg <;> first | rfl | cases h
theorem asg_len {env : PySem.Env} : ∀ {es : List Expr}, es.all notStar = true → (assignEach es env).length = es.length ∧ (assignEach es env).findIdx? (·.1) = none
  | [], _ => ⟨rfl, rfl⟩
  | e :: es, h => by
    rw [List.all_cons, Bool.and_eq_true] at h
    obtain ⟨h1, h2⟩ := asg_len (env := env) h.2
    have hq : ∃ p : Value → Sem Unit, assignEach (e :: es) env = (false, p) :: assignEach es env := by
      cases e <;> first | exact ⟨_, rfl⟩ | cases h.1
    obtain ⟨p, hq⟩ := hq
    rw [hq]
    refine ⟨by rw [List.length_cons, h1, List.length_cons], ?_⟩
    rw [List.findIdx?_cons, h2]
    rfl
def plainTg : Expr → Bool
  | .Name _ _ => true
  | .Subscript _ _ _ => true
  | .Tuple _ _ _ => true
  | _ => false
def pairedValue : Expr → Bool
  | .Tuple _ _ _ => true
  | _ => false
def attrOk : Expr → Bool
  | .Name _ _ => true
  | .Subscript _ _ _ => true
  | .Attribute _ _ _ => true
  | _ => false
theorem attrb {e : Expr} {f : Str} {env : PySem.Env} (h : attrOk e = true) : attributeBase e f env (eval e env) = eval e env := by
  cases e <;> first | rfl | cases h
def isSlice : Expr → Bool
  | .Slice _ _ _ _ => true
  | _ => false
theorem plainix {b : Expr} (h : isSlice b = false) : PlainIx b := by
  cases b <;> first | (intro o i; rfl) | cases h
def isSetD : Expr → Bool
  | .Set _ _ _ => true
  | .List _ _ => true
  | .Tuple _ _ _ => true
  | _ => false
def markOk : CmpOp → Expr → Bool
  | .In, b => !isSetD b
  | .NotIn, b => !isSetD b
  | _, .Set _ _ _ => false
  | _, _ => true
theorem behind {op : CmpOp} {b : Expr} (h : markOk op b = true) : behindInMarks op b = false := by
  cases op <;> cases b <;> first | rfl | cases h
def plainT : Expr → Bool
  | .BoolOp .. => false
  | .UnaryOp .. => false
  | .Compare .. => false
  | .IfExp .. => false
  | _ => true
theorem ist {e : Expr} {env : PySem.Env} (h : plainT e = true) : ∀ whole, isTrue e env whole = (do let v ← whole; standAt e.pos; holding [v] (truthy v)) := by
  cases e <;> first | (intro w; rfl) | cases h
section
variable {N : Nm} {X : Cx} {W : WX} {Γ : Sys} {σ : L2.St} {H H' : L2.Hp} {Q : VK} {ρ ρ' : List Addr} {h : MH}
variable {a b c e o : Expr} {es : List Expr} {ca cb cc ces : C} {pos apos : Pos}

/-! ### o.append(x) -/
theorem tyV_list {x : Val} {v : V} (rh : RelH N X.K ρ h H) (r : VR N X.K ρ H x v) (t : mtTy .append h x = true) : tyV X.K "list" v H := by
  cases x with
  | ref i =>
    have t' : (match h[i]? with
      | some (.lst _) => true
      | _ => false) = true := t
    cases e : h[i]? with
    | none =>
      rw [e] at t'
      cases t'
    | some ob =>
      rw [e] at t'
      obtain ⟨a, e0, rfl, oq⟩ := dic_at rh r e
      cases ob with
      | lst xs =>
        simp only [OR] at oq
        obtain ⟨vs, q, _⟩ := oq
        exact .inl ⟨rfl, vs, .inl (.inl q)⟩
      | _ => cases t'
  | _ => cases t
theorem few1 {cpos : Pos} {env : PySem.Env} (hs : notStar e = true) : ((backTo cpos (starEach [e] env)).all (fun x => !x.1) && (backToKw cpos (keywordEach [] env)).all (fun x => x.1.isSome)
      && decide (([e] : List Expr).length + ([] : List Keyword).length + (if ([] : List Keyword).isEmpty then 0 else 1) < 30)) = true := by
  cases e <;> first | rfl | cases hs
/-- a method of a built-in type, one argument -/
theorem x_mth1 {m : Mt} {T id : String} {name : Str} (pa : PlainAttrs T) (slot : Slot T name id) (hty : typeOf (.builtin id) = pure (.type "method_descriptor"))
    (hm : MtR X id (fun x xs H Q => ∃ ρ h wo ws, RelH N X.K ρ h H ∧ VR N X.K ρ H wo x ∧ VRs N X.K ρ H ws xs ∧ Post N X.K ρ H NoW (VR N X.K) (ofOpt (mtV m h wo ws)) Q))
    (ht : ∀ {ρ : List Addr} {h : MH} {H : L2.Hp} {x : Val} {v : V}, RelH N X.K ρ h H → VR N X.K ρ H x v → mtTy m h x = true → tyV X.K T v H)
    (ho : PE X o (sE N X.K W (evE Γ ca))) (ha : PA X [e] (sA N X.K W (evEs Γ ces))) (hb : attrOk o = true) (hl : (apos.endLine == pos.line) = true) (hs : notStar e = true) :
    PE X (.Call (.Attribute o name apos) [e] [] pos) (sE N X.K W (evE Γ (.mth m ca ces))) :=
  (pe_bm pa slot hty hm ho ha (attrb hb) (few1 hs) hl (star_of hs) (noStars (by rfl))).weak fun σ H Q ⟨ρ, h, τ, rh, fr, p⟩ => by
    unfold evE at p
    refine ⟨ρ, h, τ, rh, fr, p.bind.imp ?_⟩
    rintro v H1 ⟨ρ1, h1, x, e1, rh1, rv, p1⟩
    split at p1
    · rename_i t
      refine ⟨ht rh1 rv t, ρ1, h1, τ, rh1, fr.mono e1, p1.bind.imp ?_⟩
      rintro us H2 ⟨ρ2, h2, xs, e2, rh2, rv2, p2⟩
      exact ⟨ρ2, h2, x, xs, rh2, rv.mono e2, rv2, p2.nowish⟩
    · exact p1.elim

/-! ### {k: v, ..} -/
def trsOf (N : Nm) (K : PySem.W.Frag) (W : WX) (Γ : Sys) : C → List (TE × TE)
  | .cons k (.cons v r) => (sE N K W (evE Γ k), sE N K W (evE Γ v)) :: trsOf N K W Γ r
  | _ => []
def evenC : C → Bool
  | .nil => true
  | .cons _ (.cons _ r) => evenC r
  | _ => false
def flatV : List (V × V) → List V
  | [] => []
  | p :: r => p.1 :: p.2 :: flatV r
theorem tPairs_of {Q : List V → L2.Hp → Prop} : ∀ {c : C}, evenC c = true → ∀ {σ : L2.St} {H : L2.Hp}, sA N X.K W (evEs Γ c) σ H Q → tPairs (trsOf N X.K W Γ c) σ H fun ps H' => Q (flatV ps) H'
  | .nil, _, σ, H, ⟨ρ, h, τ, rh, fr, p⟩ => by
    unfold evEs at p
    exact p.ok rh (by simp only [VRs, flatV])
  | .cons k (.cons v r), he, σ, H, ⟨ρ, h, τ, rh, fr, p⟩ => by
    unfold evEs at p
    refine ⟨ρ, h, τ, rh, fr, p.bind.imp ?_⟩
    rintro x H1 ⟨ρ1, h1, wx, e1, rh1, r1, p1⟩
    unfold evEs at p1
    cases hv : evE Γ v τ h1 with
    | bad =>
      rw [hv] at p1
      exact p1.elim
    | exc c fs h2 =>
      rw [hv] at p1
      refine ⟨ρ1, h1, τ, rh1, fr.mono e1, ?_⟩
      rw [hv]
      exact p1
    | ok wy h2 =>
      rw [hv] at p1
      refine ⟨ρ1, h1, τ, rh1, fr.mono e1, ?_⟩
      rw [hv]
      intro ρ2 H2 y e2 rh2 r2
      refine tPairs_of (c := r) (Q := fun l H' => Q (x :: y :: l) H') he ⟨ρ2, h2, τ, rh2, fr.mono (e1.trans e2), ?_⟩
      have p2 : Post N X.K ρ2 H2 (fun c d H' => W c d σ H') (VRs N X.K) ((evEs Γ r τ h2).bind fun zs h3 => .ok (wx :: wy :: zs) h3) Q := by
        have p3 := Post.later e2 (r := _) p1
        cases hr : evEs Γ r τ h2 with
        | bad =>
          simp only [Res.bind, hr] at p3 ⊢
          exact p3
        | exc c fs h3 =>
          simp only [Res.bind, hr] at p3 ⊢
          exact p3
        | ok zs h3 =>
          simp only [Res.bind, hr] at p3 ⊢
          exact p3
      refine p2.bind.imp ?_
      rintro zs H3 ⟨ρ3, h3, ws, e3, rh3, r3, p3⟩
      refine p3.ok rh3 ?_
      simp only [VRs]
      exact ⟨x, _, rfl, r1.mono (e2.trans e3), y, _, rfl, r2.mono e3, r3⟩
  | .cons k .nil, he, _, _, _ => by cases he
theorem pair_rel : ∀ {ps : List (V × V)} {ws : List Val} {kvs : List (Val × Val)}, pairUp ws = some kvs → VRs N X.K ρ H ws (flatV ps) → kvs.all (fun p => keyOk p.1 && dat p.2) = true →
    ∃ kv : List (Key × V), ps = kv.map (fun q => (kV q.1, q.2)) ∧ DR N X.K ρ H kvs kv
  | [], ws, kvs, e, r, _ => by
    cases ws with
    | nil =>
      cases e
      exact ⟨[], rfl, by simp only [DR]⟩
    | cons w ws =>
      simp only [VRs, flatV] at r
      obtain ⟨_, _, z, _⟩ := r
      cases z
  | p :: ps, ws, kvs, e, r, g => by
    cases ws with
    | nil =>
      simp only [VRs, flatV] at r
      cases r
    | cons k ws =>
      cases ws with
      | nil => cases e
      | cons v ws =>
        simp only [VRs, flatV] at r
        obtain ⟨v1, r1, z1, h1, v2, r2, z2, h2, h3⟩ := r
        injection z1 with z1 z3
        subst z1 z3
        injection z2 with z2 z4
        subst z2 z4
        simp only [pairUp] at e
        obtain ⟨kvs', e1, rfl⟩ := map_some e
        rw [List.all_cons, Bool.and_eq_true, Bool.and_eq_true] at g
        obtain ⟨kv, rfl, d⟩ := pair_rel e1 h3 g.2
        obtain ⟨c, kr, hk⟩ := key_of g.1.1 h1
        refine ⟨(c, p.2) :: kv, ?_, ?_⟩
        · rw [List.map_cons, ← hk]
        · simp only [DR]
          exact ⟨c, p.2, kv, rfl, kr, h2, g.1.2, d⟩
theorem merge_rel : ∀ {kvs : List (Val × Val)} {kv : List (Key × V)} {d : List (Val × Val)} {dv : List (Key × V)}, DR N X.K ρ H kvs kv → DR N X.K ρ H d dv → DR N X.K ρ H (kvs.foldl (fun d p => dPut d p.1 p.2) d) (mergeK dv kv)
  | [], kv, d, dv, r, q => by
    simp only [DR] at r
    subst r
    exact q
  | p :: kvs, kv, d, dv, r, q => by
    simp only [DR] at r
    obtain ⟨k, v, r', rfl, h1, h2, h3, h4⟩ := r
    exact merge_rel (kvs := kvs) (kv := r') (dv := putK dv k v) h4 (dput_rel h1 h2 h3 q)
theorem trs_cons {k v r : C} : trsOf N X.K W Γ (.cons k (.cons v r)) = (sE N X.K W (evE Γ k), sE N X.K W (evE Γ v)) :: trsOf N X.K W Γ r := rfl
def goodTr (N : Nm) (K : PySem.W.Frag) (W : WX) (l : List (TE × TE)) : Prop := ∀ p ∈ l, ∃ m1 m2, p = (sE N K W m1, sE N K W m2)
theorem trs_good : ∀ {c : C}, evenC c = true → goodTr N X.K W (trsOf N X.K W Γ c)
  | .nil, _ => fun _ h => by cases h
  | .cons k (.cons v r), he => fun p h => by
    rcases List.mem_cons.mp h with z | z
    · exact ⟨_, _, z⟩
    · exact trs_good (c := r) he p z
  | .cons k .nil, he => by cases he
theorem tPairs_imp {Q Q' : List (V × V) → L2.Hp → Prop} : ∀ {l : List (TE × TE)} {σ : L2.St} {H : L2.Hp}, goodTr N X.K W l → (∀ ps H', Q ps H' → Q' ps H') → tPairs l σ H Q → tPairs l σ H Q'
  | [], σ, H, _, hq, q => hq _ _ q
  | (a, b) :: r, σ, H, g, hq, q => by
    obtain ⟨m1, m2, e⟩ := g _ List.mem_cons_self
    cases e
    obtain ⟨ρ, h, τ, rh, fr, p⟩ := q
    refine ⟨ρ, h, τ, rh, fr, p.imp ?_⟩
    rintro x H1 ⟨ρ, h, τ, rh, fr, p⟩
    exact ⟨ρ, h, τ, rh, fr, p.imp fun y H2 q => tPairs_imp (l := r) (fun p hp => g p (List.mem_cons_of_mem _ hp)) (fun ps H' z => hq _ _ z) q⟩
theorem x_dct {keys : List (Option Expr)} {values : List Expr} (hp : PPs X pos keys values (trsOf N X.K W Γ ces)) (he : evenC ces = true) (hall : keys.all (·.isSome) = true) (hl : keys.length = values.length) (h0 : keys ≠ []) (h15 : keys.length ≤ 15) :
    PE X (.Dict keys values pos) (sE N X.K W (evE Γ (.dct ces))) :=
  (pe_disp hp hall hl h0 h15).weak fun σ H Q ⟨ρ, h, τ, rh, fr, p⟩ => by
    unfold evE at p
    intro a ha
    have e0 : Ext ρ H ρ (upd H a (.dK [])) := Ext.newT ha
    have na : a ∉ ρ := rh.notin ha
    have z := tPairs_of (N := N) (X := X) (W := W) (Γ := Γ) (c := ces) (σ := σ) (H := upd H a (.dK [])) (Q := fun l H2 => ∀ ps : List (V × V), l = flatV ps → H2 a = some (.dK []) ∧ ∃ kvs : List (Key × V), ps = kvs.map (fun kv => (kV kv.1, kv.2)) ∧ kvs.length ≤ 15 ∧ Q (.ref a) (upd H2 a (.dK (mergeK [] kvs)))) he ?_
    · exact tPairs_imp (trs_good he) (fun ps H2 q => q ps rfl) z
    · refine ⟨ρ, h, τ, rh.newT ha, fr.mono e0, ?_⟩
      cases hr : evEs Γ ces τ h with
      | bad =>
        rw [hr] at p
        exact p.elim
      | exc c fs h2 =>
        rw [hr] at p
        intro ρ2 H2 vs d e2
        exact p ρ2 H2 vs d (e0.trans e2)
      | ok xs h2 =>
        rw [hr] at p
        intro ρ2 H2 l e2 rh2 r2 ps hl
        subst hl
        have ea : H2 a = some (.dK []) := e2.keep a _ upd_same na (fun ps z => by cases z)
        refine ⟨ea, ?_⟩
        have p' : Post N X.K ρ H (fun c d H' => W c d σ H') (VR N X.K) (ofOpt (newDic h2 xs)) Q := p
        cases hn : newDic h2 xs with
        | none =>
          rw [hn] at p'
          exact p'.elim
        | some q =>
          rw [hn] at p'
          unfold newDic at hn
          obtain ⟨kvs, hk, hn⟩ := bind_some hn
          obtain ⟨g, hn⟩ := guardO_some hn
          rw [Bool.and_eq_true] at g
          obtain ⟨kv, hps, dr⟩ := pair_rel hk r2 g.1
          refine ⟨kv, hps, by rw [DR.length dr]; exact of_decide_eq_true g.2, ?_⟩
          cases hn
          have na2 : a ∉ ρ2 := e2.notin upd_same na
          have eN : Ext ρ H (ρ2 ++ [a]) (upd H2 a (.dK (mergeK [] kv))) := by
            obtain ⟨m1, q1, q2⟩ := e2.pre
            refine ⟨⟨m1 ++ [a], by rw [q1, List.append_assoc], fun b hb => ?_⟩, fun b o hb nb nt => ?_, fun b hb => ?_⟩
            · rcases List.mem_append.mp hb with z | z
              · exact e0.dom b (q2 b z)
              · rw [List.mem_singleton] at z
                rw [z]
                exact ha
            · have nba : b ≠ a := fun z => by
                rw [z, ha] at hb
                cases hb
              rw [upd_ne nba]
              exact e2.keep b o (by rw [upd_ne nba]; exact hb) nb nt
            · have nba : b ≠ a := fun z => by
                rw [z, upd_same] at hb
                cases hb
              rw [upd_ne nba] at hb
              exact e0.dom b (e2.dom b hb)
          have kN : Kp ρ2 H2 (ρ2 ++ [a]) (upd H2 a (.dK (mergeK [] kv))) := by
            refine ⟨fun i b hb => by rw [List.getElem?_append_left (List.getElem?_eq_some_iff.mp hb).1]; exact hb, fun b o hb nb im => ?_⟩
            have nba : b ≠ a := fun z => by
              rw [z, ea] at hb
              cases hb
              exact im
            refine ⟨by rw [upd_ne nba]; exact hb, fun hm => ?_⟩
            rcases List.mem_append.mp hm with z | z
            · exact nb z
            · exact nba (List.mem_singleton.mp z)
          refine p' _ _ _ eN (rh2.newK na2 kN ?_) (VR.newRef rh2)
          simp only [OR]
          exact ⟨_, upd_same, merge_rel (dr.kp kN) (by simp only [DR])⟩
theorem x_dct0 : PE X (.Dict [] [] pos) (sE N X.K W (evE Γ (.dct .nil))) :=
  pe_dnewK.weak fun σ H Q ⟨ρ, h, τ, rh, fr, p⟩ => by
    unfold evE evEs at p
    intro a ha
    refine p _ _ _ (Ext.new ha) (rh.new ha ?_) (VR.newRef rh)
    simp only [OR]
    exact ⟨_, upd_same, by simp [DR, mkDic]⟩
end
end Mini
set_option Elab.async false
set_option linter.all false
set_option maxRecDepth 100000
set_option maxHeartbeats 2000000
/-! Mini against the model: targets, statements. -/
namespace Mini
open PySem PySem.Spec PyProof.Rows L2
theorem _root_.L2.PG.weak {X : Cx} {e : Expr} {t t' : TG} (p : PG X e t) (h : ∀ v σ H Q, t' v σ H Q → t v σ H Q) : PG X e t' := ⟨fun pins s σ H v u Q I r q => p.run pins s σ H v u Q I r (h v σ H Q q)⟩
theorem _root_.L2.PGs.weak {X : Cx} {e : List Expr} {t t' : TGs} (p : PGs X e t) (h : ∀ v σ H Q, t' v σ H Q → t v σ H Q) : PGs X e t' := ⟨fun pins s σ H v u Q I r q => p.run pins s σ H v u Q I r (h v σ H Q q)⟩
def nxO (f : L2.St → L2.Hp → Prop) : Ends := { nx := f, rt := fun _ _ => False }
section
variable (N : Nm) (K : PySem.W.Frag) (W : WX)
def sG (m : Val → MF → MH → Out) : TG := fun v σ H Q => ∃ ρ h τ x, RelH N K ρ h H ∧ FR N K ρ H τ σ ∧ VR N K ρ H x v ∧ PostS N K ρ H W (nxO Q) (m x τ h)
def sGs (m : List Val → MF → MH → Out) : TGs := fun v σ H Q => ∃ ρ h τ x, RelH N K ρ h H ∧ FR N K ρ H τ σ ∧ VRs N K ρ H x v ∧ PostS N K ρ H W (nxO Q) (m x τ h)
end
section
variable {N : Nm} {X : Cx} {W : WX} {Γ : Sys} {σ : L2.St} {H H' : L2.Hp} {Q : VK} {ρ ρ' : List Addr} {h : MH} {D : Ends}
variable {a b c e o : Expr} {es : List Expr} {ca cb cc ces ct cts : C} {pos apos : Pos} {st : Stmt} {sts : List Stmt}
theorem PostS.go {K : PySem.W.Frag} {α β : Type} {rel : List Addr → L2.Hp → α → β → Prop} {r : Res α} {f : α → MH → Out} {τ : MF} (fr : FR N K ρ H τ σ) (p : PostS N K ρ H W D (r.go τ f)) :
    Post N K ρ H (fun c d H' => W c d σ H') rel r fun v H1 => ∃ ρ1 h1 x, Ext ρ H ρ1 H1 ∧ RelH N K ρ1 h1 H1 ∧ rel ρ1 H1 x v ∧ PostS N K ρ1 H1 W D (f x h1) := by
  cases r with
  | ok x h => exact fun ρ1 H1 v e rh rv => ⟨ρ1, h, x, e, rh, rv, PostS.later (r := f x h) e p⟩
  | exc c fs h => exact fun ρ1 H1 vs d e rh rv hd xd => p ρ1 H1 σ vs d e rh (fr.mono e) rv hd xd
  | bad => exact p
theorem PostS.nx {K : PySem.W.Frag} {τ : MF} (fr : FR N K ρ H τ σ) (rh : RelH N K ρ h H) (p : PostS N K ρ H W D (.nx τ h)) : D.nx σ H := p ρ H σ Ext.refl rh fr

/-! ### targets -/
theorem g_tv {i : Nat} {x : Str} (hN : X.N.Nodup) (hi : X.N[i]? = some x) (hx : Loc X.env.scope x) (hf : X.fn x = true ∨ X.env.scope.names.lookup x = some .local) : PG X (.Name x pos) (sG N X.K W (asg Γ (.tv i))) :=
  (pg_name hN hi hx hf).weak fun v σ H Q ⟨ρ, h, τ, x, rh, fr, rv, p⟩ => by
    unfold asg at p
    exact p ρ H _ Ext.refl rh (fr.set i rv)
theorem gs_nil : PGs X [] (sGs N X.K W (asgs Γ .nil)) :=
  pgs_nil.weak fun v σ H Q ⟨ρ, h, τ, x, rh, fr, rv, p⟩ => by
    cases x with
    | nil =>
      unfold asgs at p
      simp only [VRs] at rv
      exact ⟨rv, p ρ H _ Ext.refl rh fr⟩
    | cons y ys =>
      unfold asgs at p
      exact p.elim
theorem gs_cons (h1 : PG X e (sG N X.K W (asg Γ ct))) (h2 : PGs X es (sGs N X.K W (asgs Γ cts))) (hs : notStar e = true) : PGs X (e :: es) (sGs N X.K W (asgs Γ (.cons ct cts))) :=
  (pgs_cons h1 h2 (asgc hs)).weak fun v σ H Q ⟨ρ, h, τ, x, rh, fr, rv, p⟩ => by
    cases x with
    | nil =>
      unfold asgs at p
      exact p.elim
    | cons y ys =>
      unfold asgs at p
      simp only [VRs] at rv
      obtain ⟨v1, r1, rfl, ry, rys⟩ := rv
      refine ⟨v1, r1, rfl, ρ, h, τ, y, rh, fr, ry, ?_⟩
      cases ha : asg Γ ct y τ h with
      | nx τ1 h1 =>
        rw [ha] at p
        intro ρ1 H1 σ1 e1 rh1 fr1
        exact ⟨ρ1, h1, τ1, ys, rh1, fr1, rys.mono e1, PostS.later (r := asgs Γ cts ys τ1 h1) e1 p⟩
      | rt w h1 =>
        rw [ha] at p
        exact p
      | bk τ1 h1 =>
        rw [ha] at p
        exact p
      | ct τ1 h1 =>
        rw [ha] at p
        exact p
      | ex c fs τ1 h1 =>
        rw [ha] at p
        exact p
      | bad =>
        rw [ha] at p
        exact p
theorem g_tt {k : Nat} (hc : X.calm = true) (hg : PGs X es (sGs N X.K W (asgs Γ cts))) (hl : es.length = lenC cts) (hs : es.all notStar = true) : PG X (.Tuple es k pos) (sG N X.K W (asg Γ (.tt cts))) :=
  (pg_tup (n := es.length) hc hg (asg_len hs).1 (asg_len hs).2).weak fun v σ H Q ⟨ρ, h, τ, x, rh, fr, rv, p⟩ => by
    cases x with
    | tup xs =>
      unfold asg at p
      dsimp only at p
      split at p
      · rename_i hx
        simp only [VR] at rv
        obtain ⟨a, vs, rfl, t, rs, _⟩ := rv
        exact ⟨a, vs, rfl, t.sq, by rw [rs.length, hx, hl], ρ, h, τ, xs, rh, fr, rs, p⟩
      · exact p.elim
    | _ =>
      unfold asg at p
      exact p.elim
theorem g_tix (B : Base X) (ha : PE X a (sE N X.K W (evE Γ ca))) (hb : PE X b (sE N X.K W (evE Γ cb))) (hs : isSlice b = false) : PG X (.Subscript a b pos) (sG N X.K W (asg Γ (.tix ca cb))) := by
  refine (pg_sub ha hb (o_put (N := N) B) ?_).weak fun v σ H Q ⟨ρ, h, τ, x, rh, fr, rv, p⟩ => ?_
  · intro w
    cases b <;> first | rfl | cases hs
  · unfold asg at p
    refine ⟨ρ, h, τ, rh, fr, (PostS.go (rel := VR N X.K) fr p).imp ?_⟩
    rintro y H1 ⟨ρ1, h1, wy, e1, rh1, r1, p1⟩
    refine ⟨ρ1, h1, τ, rh1, fr.mono e1, (PostS.go (rel := VR N X.K) (fr.mono e1) p1).imp ?_⟩
    rintro z H2 ⟨ρ2, h2, wz, e2, rh2, r2, p2⟩
    cases hp : putIx h2 wy wz x with
    | none =>
      rw [hp] at p2
      exact p2.elim
    | some h3 =>
      rw [hp] at p2
      exact ⟨ρ2, h2, wy, wz, x, h3, rh2, r1.mono e2, r2, rv.mono (e1.trans e2), hp, fun H3 e3 rh3 => p2 ρ2 H3 σ e3 rh3 (fr.mono (e1.trans (e2.trans e3)))⟩
def simple : Out → Bool
  | .nx _ _ => true
  | .ex _ _ _ _ => true
  | .bad => true
  | _ => false
theorem simple_go {α : Type} {r : Res α} {τ : MF} {f : α → MH → Out} (hf : ∀ x h, simple (f x h) = true) : simple (r.go τ f) = true := by
  cases r with
  | ok x h => exact hf x h
  | exc c fs h => rfl
  | bad => rfl
mutual
theorem asg_simple : ∀ (t : C) (x : Val) (τ : MF) (h : MH), simple (asg Γ t x τ h) = true := by
  intro t x τ h
  cases t with
  | tv i =>
    unfold asg
    rfl
  | tt ts =>
    cases x with
    | tup xs =>
      unfold asg
      dsimp only
      split
      · exact asgs_simple ts xs τ h
      · rfl
    | _ =>
      unfold asg
      rfl
  | tix o i =>
    unfold asg
    refine simple_go fun y h1 => simple_go fun z h2 => ?_
    cases putIx h2 y z x <;> rfl
  | _ =>
    unfold asg
    rfl
theorem asgs_simple : ∀ (t : C) (x : List Val) (τ : MF) (h : MH), simple (asgs Γ t x τ h) = true := by
  intro t x τ h
  cases t with
  | nil => cases x <;> (unfold asgs; rfl)
  | cons t ts =>
    cases x with
    | nil =>
      unfold asgs
      rfl
    | cons y ys =>
      unfold asgs
      have q := asg_simple t y τ h
      cases ha : asg Γ t y τ h with
      | nx τ1 h1 => exact asgs_simple ts ys τ1 h1
      | _ =>
        rw [ha] at q
        exact q
  | _ =>
    unfold asgs
    rfl
end
theorem PostS.nxO {r : Out} {K : PySem.W.Frag} (s : simple r = true) (p : PostS N K ρ H W D r) : PostS N K ρ H W (nxO D.nx) r := by
  cases r with
  | nx τ h => exact p
  | ex c fs τ h => exact p
  | bad => exact p
  | _ => cases s

/-! ### plain statements -/
theorem x_set (he : PE X e (sE N X.K W (evE Γ ca))) {tg : Expr} (hg : PG X tg (sG N X.K W (asg Γ ct))) (hl : isLC e = false) (hs : notStar tg = true) (hw : swappedStores [tg] e X.env = pure none) : PS X (.Assign [tg] e pos) (sS N X.K W (evS Γ (.set ct ca))) :=
  (ps_asg he hg (noswapS hl) hw (asg1 hs)).weak fun D σ H ⟨ρ, h, τ, rh, fr, p⟩ => by
    unfold evS at p
    refine ⟨ρ, h, τ, rh, fr, (PostS.go (rel := VR N X.K) fr p).imp ?_⟩
    rintro y H1 ⟨ρ1, h1, wy, e1, rh1, r1, p1⟩
    exact ⟨ρ1, h1, τ, wy, rh1, fr.mono e1, r1, p1.nxO (asg_simple ct wy τ h1)⟩
theorem x_ex (he : PE X e (sE N X.K W (evE Γ ca))) (hl : isLC e = false) : PS X (.Expr e pos) (sS N X.K W (evS Γ (.ex ca))) :=
  (ps_expr he (noswap hl)).weak fun D σ H ⟨ρ, h, τ, rh, fr, p⟩ => by
    unfold evS at p
    refine ⟨ρ, h, τ, rh, fr, (PostS.go (rel := VR N X.K) fr p).imp ?_⟩
    rintro y H1 ⟨ρ1, h1, wy, e1, rh1, r1, p1⟩
    exact p1.nx (fr.mono e1) rh1
theorem x_ret (he : PE X e (sE N X.K W (evE Γ ca))) : PS X (.Return (some e) pos) (sS N X.K W (evS Γ (.ret ca))) :=
  (ps_ret he).weak fun D σ H ⟨ρ, h, τ, rh, fr, p⟩ => by
    unfold evS at p
    refine ⟨ρ, h, τ, rh, fr, (PostS.go (rel := VR N X.K) fr p).imp ?_⟩
    rintro y H1 ⟨ρ1, h1, wy, e1, rh1, r1, p1⟩
    exact p1 _ _ _ Ext.refl rh1 r1
theorem x_retn : PS X (.Return none pos) (sS N X.K W (evS Γ .retn)) :=
  ps_retN.weak fun D σ H ⟨ρ, h, τ, rh, fr, p⟩ => by
    unfold evS at p
    exact p _ _ _ Ext.refl rh (by simp only [VR])
theorem x_pass : PS X (.Pass pos) (sS N X.K W (evS Γ .pass)) :=
  ps_pass.weak fun D σ H ⟨ρ, h, τ, rh, fr, p⟩ => by
    unfold evS at p
    exact p.nx fr rh
theorem x_brk : PS X (.Break pos) (sS N X.K W (evS Γ .brk)) :=
  ps_break.weak fun D σ H ⟨ρ, h, τ, rh, fr, p⟩ => by
    unfold evS at p
    exact p _ _ _ Ext.refl rh fr
theorem x_cnt : PS X (.Continue pos) (sS N X.K W (evS Γ .cnt)) :=
  ps_continue.weak fun D σ H ⟨ρ, h, τ, rh, fr, p⟩ => by
    unfold evS at p
    exact p _ _ _ Ext.refl rh fr
theorem x_snil : PSs X [] (sS N X.K W (evSs Γ .nil)) :=
  pss_nil.weak fun D σ H ⟨ρ, h, τ, rh, fr, p⟩ => by
    unfold evSs at p
    exact p.nx fr rh
theorem PostS.seq {r : Out} {f : MF → MH → Out} (p : PostS N X.K ρ H W D (r.seq f)) : PostS N X.K ρ H W { D with nx := fun σ1 H1 => sS N X.K W f D σ1 H1 } r := by
  cases r with
  | nx τ1 h1 => exact fun ρ1 H1 σ1 e1 rh1 fr1 => ⟨ρ1, h1, τ1, rh1, fr1, PostS.later (r := f τ1 h1) e1 p⟩
  | rt v h1 => exact p
  | bk τ1 h1 => exact p
  | ct τ1 h1 => exact p
  | ex c fs τ1 h1 => exact p
  | bad => exact p
theorem x_scons (h1 : PS X st (sS N X.K W (evS Γ ca))) (h2 : PSs X sts (sS N X.K W (evSs Γ cb))) : PSs X (st :: sts) (sS N X.K W (evSs Γ (.cons ca cb))) :=
  (pss_cons h1 h2).weak fun D σ H ⟨ρ, h, τ, rh, fr, p⟩ => by
    unfold evSs at p
    exact ⟨ρ, h, τ, rh, fr, p.seq⟩
theorem x_ite {sa sb : List Stmt} (hc : PT X c (sT N X.K W (evT Γ cc))) (ha : PSs X sa (sS N X.K W (evSs Γ ca))) (hb : PSs X sb (sS N X.K W (evSs Γ cb))) : PS X (.If c sa sb pos) (sS N X.K W (evS Γ (.ite cc ca cb))) :=
  (ps_if hc ha hb).weak fun D σ H ⟨ρ, h, τ, rh, fr, p⟩ => by
    unfold evS at p
    refine ⟨ρ, h, τ, rh, fr, (PostS.go (rel := fun _ _ x v => v = x) fr p).imp ?_⟩
    rintro b H1 ⟨ρ1, h1, x, e1, rh1, rfl, p1⟩
    cases b with
    | true => exact ⟨ρ1, h1, τ, rh1, fr.mono e1, p1⟩
    | false => exact ⟨ρ1, h1, τ, rh1, fr.mono e1, p1⟩
/-- one turn of a loop, then the rest -/
def turnThen (r : Out) (f : MF → MH → Out) : Out := match r with
  | .nx σ' h' => f σ' h'
  | .ct σ' h' => f σ' h'
  | .bk σ' h' => .nx σ' h'
  | r => r
theorem PostS.turn {r : Out} {f : MF → MH → Out} {R : L2.St → L2.Hp → Prop} (hR : ∀ ρ' h τ σ H', Ext ρ H ρ' H' → RelH N X.K ρ' h H' → FR N X.K ρ' H' τ σ → PostS N X.K ρ' H' W D (f τ h) → R σ H')
    (p : PostS N X.K ρ H W D (turnThen r f)) : PostS N X.K ρ H W { D with nx := R, ct := R, bk := D.nx } r := by
  cases r with
  | nx τ1 h1 => exact fun ρ1 H1 σ1 e1 rh1 fr1 => hR ρ1 h1 τ1 σ1 H1 e1 rh1 fr1 (PostS.later (r := f τ1 h1) e1 p)
  | rt v h1 => exact p
  | bk τ1 h1 => exact p
  | ct τ1 h1 => exact fun ρ1 H1 σ1 e1 rh1 fr1 => hR ρ1 h1 τ1 σ1 H1 e1 rh1 fr1 (PostS.later (r := f τ1 h1) e1 p)
  | ex c fs τ1 h1 => exact p
  | bad => exact p
theorem x_whl {sb : List Stmt} (hp : PassesOwn (model X.prog X.w) X.A X.env X.xe) (hc : PT X c (sT N X.K W (evT Γ cc))) (hb : PSs X sb (sS N X.K W (evSs Γ cb))) : PS X (.While c sb [] pos) (sS N X.K W (evS Γ (.whl cc cb))) :=
  (ps_while hp hc hb).weak fun D σ H ⟨ρ, h, τ, rh, fr, p⟩ => by
    unfold evS at p
    refine ⟨fun m σ H => ∃ ρ h τ, RelH N X.K ρ h H ∧ FR N X.K ρ H τ σ ∧ PostS N X.K ρ H W D (whileF (evT Γ cc) (evSs Γ cb) m τ h), ⟨FUEL, ρ, h, τ, rh, fr, p⟩, ?_⟩
    rintro m σ H ⟨ρ, h, τ, rh, fr, p⟩
    cases m with
    | zero =>
      unfold whileF at p
      exact p.elim
    | succ m =>
      unfold whileF at p
      refine ⟨ρ, h, τ, rh, fr, (PostS.go (rel := fun _ _ x v => v = x) fr p).imp ?_⟩
      rintro b H1 ⟨ρ1, h1, x, e1, rh1, rfl, p1⟩
      cases b with
      | true =>
        rw [if_pos rfl]
        refine ⟨fun σ' H' => ∃ ρ h τ, RelH N X.K ρ h H' ∧ FR N X.K ρ H' τ σ' ∧ PostS N X.K ρ H' W D (whileF (evT Γ cc) (evSs Γ cb) m τ h), fun σ' H' q => ⟨m, Nat.lt_succ_self m, q⟩, ρ1, h1, τ, rh1, fr.mono e1, ?_⟩
        rw [if_pos rfl] at p1
        exact PostS.turn (f := whileF (evT Γ cc) (evSs Γ cb) m) (fun ρ h τ σ H _ a b c => ⟨ρ, h, τ, a, b, c⟩) p1
      | false =>
        rw [if_neg Bool.false_ne_true]
        rw [if_neg Bool.false_ne_true] at p1
        exact p1.nx (fr.mono e1) rh1

/-! ### for -/
def iSeq (K : PySem.W.Frag) (tl : TE) : TI := fun σ H R => tl σ H fun x H1 => ∃ a, x = .ref a ∧ (((∃ xs, SqL K H1 a xs) ∧ R (Itl K a) H1) ∨ ((∃ xs, SqT K H1 a xs) ∧ R (Itt K a) H1))
theorem pi_seq {tg l : Expr} {tl : TE} (hl : PE X l tl) : PI X tg l (iSeq X.K tl) := by
  refine ⟨fun pins s σ H R I h => ?_⟩
  refine thn (hl.run pins s σ H _ I h) fun v s1 ⟨x, H1, I1, r1, q1⟩ => ?_
  obtain ⟨a, e, q⟩ := q1
  subst e
  cases r1
  rcases q with ⟨⟨xs, hq⟩, q⟩ | ⟨⟨xs, hq⟩, q⟩
  · obtain ⟨its, rv, p, hz⟩ := I1.list hq
    refine wpAny_pyIter_list p.isList ?_
    refine ⟨s1.heap.objs.size, [s1.heap.objs.size], _, _, H1, rfl, I1.kept (t' := s1.toks) fun b o e => Heap.get?_push_of_some _ e, turn_list a _, ⟨_, Heap.get?_push_size _ rfl, rfl, rfl⟩, fun b hb => ?_, q⟩
    have e : b = s1.heap.objs.size := by simpa using hb
    rw [e]
    exact I1.fpOk (Nat.le_refl _) (I1.hok.fresh (Nat.le_refl _))
  · obtain ⟨its, rv, p, hz⟩ := I1.tuple hq
    refine wpAny_pyIter_tuple (show s1.heap.IsTuple a its.toArray from p) ?_
    refine ⟨s1.heap.objs.size, [s1.heap.objs.size], _, _, H1, rfl, I1.kept (t' := s1.toks) fun b o e => Heap.get?_push_of_some _ e, turn_tuple a _, ⟨_, Heap.get?_push_size _ rfl, rfl, rfl⟩, fun b hb => ?_, q⟩
    have e : b = s1.heap.objs.size := by simpa using hb
    rw [e]
    exact I1.fpOk (Nat.le_refl _) (I1.hok.fresh (Nat.le_refl _))
/-- how an iterator drives a loop of Mini -/
structure Drv (N : Nm) (K : PySem.W.Frag) (turn : Val → MF → MH → Out) (J : It) where
  st : Nat → Nat → (MF → MH → Out) → List Addr → MH → L2.Hp → Prop
  step : ∀ i m rest ρ h H, st i m rest ρ h H → RelH N K ρ h H → (∀ τ, rest τ h = .bad) ∨ (J.stop i H ∧ ∀ τ, rest τ h = .nx τ h) ∨
    (J.go i H ∧ ∃ x rest' m', m' < m ∧ (∀ v H', J.yld i H v H' → H' = H ∧ VR N K ρ H x v) ∧ (∀ τ, rest τ h = turnThen (turn x τ h) rest') ∧ ∀ ρ' h' H', Ext ρ H ρ' H' → RelH N K ρ' h' H' → st (i + 1) m' rest' ρ' h' H')
theorem forL_cons {turn : Val → MF → MH → Out} {x : Val} {xs : List Val} {τ : MF} : forL turn (x :: xs) τ h = turnThen (turn x τ h) (forL turn xs) := by
  unfold forL turnThen
  cases turn x τ h <;> rfl
def drvT {turn : Val → MF → MH → Out} (a : Addr) (xs : List Val) : Drv N X.K turn (Itt X.K a) where
  st := fun i m rest ρ h H => VR N X.K ρ H (.tup xs) (.ref a) ∧ i + m = xs.length ∧ rest = forL turn (xs.drop i)
  step := by
    rintro i m rest ρ h H ⟨rv, hm, rfl⟩ rh
    simp only [VR] at rv
    obtain ⟨a', vs, ea, t, rs, dd⟩ := id rv
    cases ea
    by_cases hi : i < xs.length
    · right; right
      obtain ⟨v, hv, rx⟩ := rs.get (List.getElem?_eq_getElem hi)
      refine ⟨⟨vs, v, t.sq, hv⟩, xs[i], forL turn (xs.drop (i + 1)), m - 1, by omega, fun u H' ⟨e1, e2⟩ => ⟨e1, ?_⟩, fun τ => ?_, fun ρ' h' H' e rh' => ⟨VR.mono e (.tup xs) _ (by simp only [VR]; exact rv), by omega, rfl⟩⟩
      · have := e2 vs t.sq
        rw [hv] at this
        cases this
        exact rx
      · rw [List.drop_eq_getElem_cons hi]
        exact forL_cons
    · right; left
      refine ⟨⟨vs, t.sq, by rw [rs.length]; omega⟩, fun τ => ?_⟩
      rw [List.drop_eq_nil_of_le (by omega)]
      rfl
def drvF {turn : Val → MF → MH → Out} (a : Addr) (xs : List Val) : Drv N X.K turn (Itl X.K a) where
  st := fun i m rest ρ h H => VR N X.K ρ H (.fl xs) (.ref a) ∧ i + m = xs.length ∧ rest = forL turn (xs.drop i)
  step := by
    rintro i m rest ρ h H ⟨rv, hm, rfl⟩ rh
    simp only [VR] at rv
    obtain ⟨a', vs, ea, t, rs, dd⟩ := id rv
    cases ea
    by_cases hi : i < xs.length
    · right; right
      obtain ⟨v, hv, rx⟩ := rs.get (List.getElem?_eq_getElem hi)
      refine ⟨⟨vs, v, t.sq, hv⟩, xs[i], forL turn (xs.drop (i + 1)), m - 1, by omega, fun u H' ⟨e1, e2⟩ => ⟨e1, ?_⟩, fun τ => ?_, fun ρ' h' H' e rh' => ⟨VR.mono e (.fl xs) _ (by simp only [VR]; exact rv), by omega, rfl⟩⟩
      · have := e2 vs t.sq
        rw [hv] at this
        cases this
        exact rx
      · rw [List.drop_eq_getElem_cons hi]
        exact forL_cons
    · right; left
      refine ⟨⟨vs, t.sq, by rw [rs.length]; omega⟩, fun τ => ?_⟩
      rw [List.drop_eq_nil_of_le (by omega)]
      rfl
theorem lst_sq {K : PySem.W.Frag} {a : Addr} {vs : List V} (q : H a = some (.lst vs)) : SqL K H a vs := .inl (.inl q)
def drvR {turn : Val → MF → MH → Out} (a : Addr) (r : Nat) : Drv N X.K turn (Itl X.K a) where
  st := fun i m rest ρ h H => ρ[r]? = some a ∧ rest = forR turn r m i
  step := by
    rintro i m rest ρ h H ⟨ra, rfl⟩ rh
    cases m with
    | zero => exact .inl fun τ => rfl
    | succ m =>
      obtain ⟨o, ho, oq⟩ := rh.some_ ra
      cases o with
      | lst xs =>
        simp only [OR] at oq
        obtain ⟨vs, hq, rs, dd⟩ := oq
        right
        cases hx : xs[i]? with
        | none =>
          left
          refine ⟨⟨vs, lst_sq hq, by rw [rs.length]; exact List.getElem?_eq_none_iff.mp hx⟩, fun τ => ?_⟩
          unfold forR
          simp only [ho, hx]
        | some x =>
          right
          obtain ⟨v, hv, rx⟩ := rs.get hx
          refine ⟨⟨vs, v, lst_sq hq, hv⟩, x, forR turn r m (i + 1), m, Nat.lt_succ_self m, fun u H' ⟨e1, e2⟩ => ⟨e1, ?_⟩, fun τ => ?_, fun ρ' h' H' e rh' => ⟨e.at_ ra, rfl⟩⟩
          · have := e2 vs (lst_sq hq)
            rw [hv] at this
            cases this
            exact rx
          · rw [forR]
            simp only [ho, hx]
            unfold turnThen
            cases turn x τ h <;> rfl
      | _ =>
        left
        intro τ
        unfold forR
        simp only [ho]
def drvN {turn : Val → MF → MH → Out} (n : Nat) : Drv N X.K turn (Itr 0 n) where
  st := fun i m rest ρ h H => i + m = n ∧ rest = forL turn (((List.range n).map fun (k : Nat) => Val.int k).drop i)
  step := by
    rintro i m rest ρ h H ⟨hm, rfl⟩ rh
    by_cases hi : i < n
    · right; right
      refine ⟨hi, .int i, _, m - 1, by omega, fun u H' ⟨e1, e2⟩ => ⟨e1, ?_⟩, fun τ => ?_, fun ρ' h' H' e rh' => ⟨by omega, rfl⟩⟩
      · rw [e2]
        simp [VR]
      · rw [List.drop_eq_getElem_cons (by simpa using hi)]
        simp only [List.getElem_map, List.getElem_range]
        exact forL_cons
    · right; left
      refine ⟨Nat.le_of_not_lt hi, fun τ => ?_⟩
      rw [List.drop_eq_nil_of_le (by simp; omega)]
      rfl
theorem for_drv {J : It} {τ : MF} {rest : MF → MH → Out} {m : Nat} (Dr : Drv N X.K (fun x σ' h' => (asg Γ ct x σ' h').seq (evSs Γ cb)) J) (s : Dr.st 0 m rest ρ h H) (rh : RelH N X.K ρ h H) (fr : FR N X.K ρ H τ σ) (p : PostS N X.K ρ H W D (rest τ h)) :
    ∃ W' : Nat → Nat → L2.St → L2.Hp → Prop, (∃ m, W' 0 m σ H) ∧ ∀ i m σ H, W' i m σ H → (J.stop i H ∧ D.nx σ H) ∨ (J.go i H ∧ ∃ N' : L2.St → L2.Hp → Prop, (∀ σ' H', N' σ' H' → ∃ m', m' < m ∧ W' (i + 1) m' σ' H') ∧
      ∀ x H', J.yld i H x H' → (sG N X.K W (asg Γ ct)) x σ H' fun σ2 H2 => (sS N X.K W (evSs Γ cb)) { D with nx := N', ct := N', bk := D.nx } σ2 H2) := by
  refine ⟨fun i m σ H => ∃ ρ h τ rest, RelH N X.K ρ h H ∧ FR N X.K ρ H τ σ ∧ Dr.st i m rest ρ h H ∧ PostS N X.K ρ H W D (rest τ h), ⟨m, ρ, h, τ, rest, rh, fr, s, p⟩, ?_⟩
  rintro i m σ H ⟨ρ, h, τ, rest, rh, fr, s, p⟩
  rcases Dr.step i m rest ρ h H s rh with z | ⟨z1, z2⟩ | ⟨go, x, rest', m', hm, hy, hr, hs⟩
  · rw [z τ] at p
    exact p.elim
  · rw [z2 τ] at p
    exact .inl ⟨z1, p.nx fr rh⟩
  · refine .inr ⟨go, _, fun σ' H' q => ⟨m', hm, q⟩, fun v H' y => ?_⟩
    obtain ⟨rfl, rv⟩ := hy v H' y
    rw [hr τ] at p
    refine ⟨ρ, h, τ, x, rh, fr, rv, ?_⟩
    exact (PostS.turn (fun ρ' h τ σ H' e rh' fr' p' => ⟨ρ', h, τ, rest', rh', fr', hs ρ' h H' e rh', p'⟩) p).seq.nxO (asg_simple ct x τ h)
theorem fold_set {iter : Expr} {env : PySem.Env} (hs : isSetD iter = false) : ∀ x, foldedSetIterable iter env x = pure x := by
  intro x
  cases iter <;> first | rfl | cases hs
theorem x_for {tg iter : Expr} {sb : List Stmt} (hp : PassesOwn (model X.prog X.w) X.A X.env X.xe) (hc : X.calm = true) (hi : PE X iter (sE N X.K W (evE Γ cc))) (hg : PG X tg (sG N X.K W (asg Γ ct))) (hb : PSs X sb (sS N X.K W (evSs Γ cb)))
    (hs : isSetD iter = false) : PS X (.For tg iter sb [] pos) (sS N X.K W (evS Γ (.for_ ct (.each cc) cb))) :=
  (ps_for hp hc (pi_seq hi) hg hb (fold_set hs)).weak fun D σ H ⟨ρ, h, τ, rh, fr, p⟩ => by
    unfold evS at p
    dsimp only [evI] at p
    have p' : PostS N X.K ρ H W D ((evE Γ cc τ h).go τ fun x h1 => (ofVal (walkOf h1 x) h1).go τ fun w h1 => walkFor (fun x σ' h' => (asg Γ ct x σ' h').seq (evSs Γ cb)) w τ h1) := by
      cases hq : evE Γ cc τ h <;> (rw [hq] at p; exact p)
    refine ⟨ρ, h, τ, rh, fr, (PostS.go (rel := VR N X.K) fr p').imp ?_⟩
    rintro v H1 ⟨ρ1, h1, x, e1, rh1, r1, p1⟩
    cases hw : walkOf h1 x with
    | none =>
      rw [hw] at p1
      exact p1.elim
    | some w =>
      rw [hw] at p1
      have p2 : PostS N X.K ρ1 H1 W D (walkFor (fun x σ' h' => (asg Γ ct x σ' h').seq (evSs Γ cb)) w τ h1) := p1
      cases x with
      | tup xs =>
        cases hw
        obtain ⟨a, vs, rfl, t, rs, dd⟩ := (by simpa only [VR] using r1 : ∃ (a : Addr) (vs : List V), v = .ref a ∧ TupAt X.K ρ1 H1 a vs ∧ VRs N X.K ρ1 H1 xs vs ∧ xs.all dat = true)
        exact ⟨a, rfl, .inr ⟨⟨vs, t.sq⟩, for_drv (drvT (N := N) (X := X) a xs) (m := xs.length) (rest := forL _ xs) ⟨r1, by omega, rfl⟩ rh1 (fr.mono e1) p2⟩⟩
      | fl xs =>
        cases hw
        obtain ⟨a, vs, rfl, t, rs, dd⟩ := (by simpa only [VR] using r1 : ∃ (a : Addr) (vs : List V), v = .ref a ∧ FlAt X.K ρ1 H1 a vs ∧ VRs N X.K ρ1 H1 xs vs ∧ xs.all dat = true)
        exact ⟨a, rfl, .inl ⟨⟨vs, t.sq⟩, for_drv (drvF (N := N) (X := X) a xs) (m := xs.length) (rest := forL _ xs) ⟨r1, by omega, rfl⟩ rh1 (fr.mono e1) p2⟩⟩
      | ref r =>
        have hw' : (match h1[r]? with
          | some (.lst _) => some (Walk.live r)
          | _ => none) = some w := hw
        cases ho : h1[r]? with
        | none =>
          rw [ho] at hw'
          cases hw'
        | some o =>
          rw [ho] at hw'
          obtain ⟨a, ra, rfl, oq⟩ := dic_at rh1 r1 ho
          cases o with
          | lst xs =>
            cases hw'
            simp only [OR] at oq
            obtain ⟨vs, hq, _⟩ := oq
            exact ⟨a, rfl, .inl ⟨⟨vs, lst_sq hq⟩, for_drv (drvR (N := N) (X := X) a r) (m := FUEL) (rest := forR _ r FUEL 0) ⟨ra, rfl⟩ rh1 (fr.mono e1) p2⟩⟩
          | _ => cases hw'
      | _ => cases hw
theorem x_forR {tg e : Expr} {p0 p1 : Pos} {sb : List Stmt} (hp : PassesOwn (model X.prog X.w) X.A X.env X.xe) (hc : X.calm = true) (hG : Gl X "range") (hm : X.mg "range" = none) (hi : PE X e (sE N X.K W (evE Γ cc))) (hg : PG X tg (sG N X.K W (asg Γ ct))) (hb : PSs X sb (sS N X.K W (evSs Γ cb)))
    (hs : notStar e = true) : PS X (.For tg (.Call (.Name "range" p0) [e] [] p1) sb [] pos) (sS N X.K W (evS Γ (.for_ ct (.rng1 cc) cb))) :=
  (ps_for hp hc (pi_range1 hG hm (x_cons (Γ := Γ) (ces := .nil) hi x_nil hs) (star_of hs)) hg hb).weak fun D σ H ⟨ρ, h, τ, rh, fr, p⟩ => by
    unfold evS at p
    dsimp only [evI] at p
    have ee : evEs Γ (.cons cc .nil) τ h = (evE Γ cc τ h).bind fun x h1 => .ok [x] h1 := by
      simp only [evEs]
      rfl
    refine ⟨ρ, h, τ, rh, fr, ?_⟩
    rw [ee]
    cases hq : evE Γ cc τ h with
    | bad =>
      rw [hq] at p
      exact p.elim
    | exc c fs h1 =>
      rw [hq] at p
      exact fun ρ1 H1 vs d e rh rv hd xd => p ρ1 H1 σ vs d e rh (fr.mono e) rv hd xd
    | ok x h1 =>
      rw [hq] at p
      intro ρ1 H1 vs e1 rh1 rv
      simp only [VRs] at rv
      obtain ⟨v, r', rfl, rx, rfl⟩ := rv
      cases x with
      | int n =>
        simp only [VR] at rx
        subst rx
        dsimp only [Res.bind] at p
        split at p
        · rename_i hn
          have p' : PostS N X.K ρ H W D (forL (fun x σ' h' => (asg Γ ct x σ' h').seq (evSs Γ cb)) ((List.range n.toNat).map fun (k : Nat) => Val.int k) τ h1) := p
          exact ⟨n, rfl, hn.1, hn.2, for_drv (drvN (N := N) (X := X) n.toNat) (m := n.toNat) (rest := forL _ _) ⟨by omega, rfl⟩ rh1 (fr.mono e1) (PostS.later e1 p')⟩
        · exact p.elim
      | _ => exact p.elim

/-! ### a, b = x, y -/
end
/-! ### a, b = x, y -/
theorem star_any : ∀ {es : List Expr}, es.all notStar = true → (es.any fun e => !notStar e) = false := by
  intro es h
  induction es with
  | nil => rfl
  | cons e es ih =>
    rw [List.all_cons, Bool.and_eq_true] at h
    rw [List.any_cons, ih h.2, h.1]
    rfl
theorem star_fun : (fun e : Expr => match e with | .Starred .. => true | _ => false) = fun e => !notStar e := by
  funext e
  cases e <;> rfl
def nmF (env : PySem.Env) (line : Nat) : Expr → Option Str
  | .Name id pos => if env.kindOf id == some .local && pos.line == line then some id else none
  | _ => none
theorem swapG {env : PySem.Env} {ts vs : List Expr} {xs : List Str} {pt pt2 : Pos} {kt k2 : Nat} (hn : (ts.length == 2 || ts.length == 3) = true) (hv : vs.length = ts.length) (hk : env.blockKind = .function) (ha : vs.all notStar = true)
    (hfm : ts.filterMap (nmF env ((ts.head?.map (·.pos.line)).getD 0)) = xs) (hd : xs.eraseDups = xs) (hl : xs.length = ts.length) (hf : vs.all (foldedForSure 8) = false) (hc : vs.all (constantsAlone 8) = false) :
    swappedStores [.Tuple ts kt pt] (.Tuple vs k2 pt2) env = pure (some xs) := by
  have fe : (fun e : Expr => match e with
    | .Name id pos => if env.kindOf id == some .local && pos.line == ((ts.head?.map (·.pos.line)).getD 0) then some id else none
    | _ => none) = nmF env ((ts.head?.map (·.pos.line)).getD 0) := by
    funext e
    cases e <;> rfl
  unfold swappedStores
  dsimp only
  refine (if_neg (by rw [hn, hv, hk]; simp)).trans ?_
  refine (if_neg (fun z => ?_)).trans ?_
  · have z2 : (vs.any (fun e : Expr => match e with | .Starred .. => true | _ => false)) = true := z
    rw [star_fun, star_any ha] at z2
    cases z2
  refine (if_neg (fun z => ?_)).trans ?_
  · have z2 : ((ts.filterMap (fun e : Expr => match e with
      | .Name id pos => if env.kindOf id == some .local && pos.line == ((ts.head?.map (·.pos.line)).getD 0) then some id else none
      | _ => none)).length != ts.length || (ts.filterMap (fun e : Expr => match e with
      | .Name id pos => if env.kindOf id == some .local && pos.line == ((ts.head?.map (·.pos.line)).getD 0) then some id else none
      | _ => none)).eraseDups.length != (ts.filterMap (fun e : Expr => match e with
      | .Name id pos => if env.kindOf id == some .local && pos.line == ((ts.head?.map (·.pos.line)).getD 0) then some id else none
      | _ => none)).length) = true := z
    rw [fe, hfm, hd, hl] at z2
    simp at z2
  refine (if_neg (by rw [hf]; decide)).trans ?_
  refine (if_neg (by rw [hc]; decide)).trans ?_
  show pure (some (ts.filterMap (fun e : Expr => match e with
      | .Name id pos => if env.kindOf id == some .local && pos.line == ((ts.head?.map (·.pos.line)).getD 0) then some id else none
      | _ => none))) = _
  rw [fe, hfm]
theorem erase2 {x y : Str} (h : x ≠ y) : [x, y].eraseDups = [x, y] := by
  have e1 : (y == x) = false := beq_eq_false_iff_ne.mpr (Ne.symm h)
  simp [List.eraseDups_cons, e1]
theorem erase3 {x y z : Str} (h : x ≠ y) (h2 : x ≠ z) (h3 : y ≠ z) : [x, y, z].eraseDups = [x, y, z] := by
  have e1 : (y == x) = false := beq_eq_false_iff_ne.mpr (Ne.symm h)
  have e2 : (z == x) = false := beq_eq_false_iff_ne.mpr (Ne.symm h2)
  have e3 : (z == y) = false := beq_eq_false_iff_ne.mpr (Ne.symm h3)
  simp [List.eraseDups_cons, e1, e2, e3]
section
variable {N : Nm} {X : Cx} {W : WX} {Γ : Sys} {σ : L2.St} {H H' : L2.Hp} {Q : VK} {ρ ρ' : List Addr} {h : MH} {D : Ends}
variable {a b c e o : Expr} {es : List Expr} {ca cb cc ces ct cts : C} {pos apos : Pos} {st : Stmt} {sts : List Stmt}
/-- a tuple whose parts are stored at once -/
theorem par_pre {τ : MF} (rh : RelH N X.K ρ h H) (fr : FR N X.K ρ H τ σ) (p : PostS N X.K ρ H W D (evS Γ (.set (.tt cts) (.tup ces)) τ h)) : Post N X.K ρ H (fun c d H' => W c d σ H') (VRs N X.K) (evEs Γ ces τ h) fun vs H1 =>
    ∃ ρ1 h1 xs, RelH N X.K ρ1 h1 H1 ∧ FR N X.K ρ1 H1 τ σ ∧ VRs N X.K ρ1 H1 xs vs ∧ xs.length = lenC cts ∧ PostS N X.K ρ1 H1 W D (asgs Γ cts xs τ h1) := by
  unfold evS at p
  unfold evE at p
  cases hq : evEs Γ ces τ h with
  | bad =>
    rw [hq] at p
    exact p.elim
  | exc c fs h1 =>
    rw [hq] at p
    exact fun ρ1 H1 vs d e rh rv hd xd => p ρ1 H1 σ vs d e rh (fr.mono e) rv hd xd
  | ok xs h1 =>
    rw [hq] at p
    intro ρ1 H1 vs e1 rh1 rv
    have p' : PostS N X.K ρ H W D ((if (fits xs.length && xs.all dat) = true then Res.ok (Val.tup xs) h1 else .bad : Res Val).go τ fun x h1 => asg Γ (.tt cts) x τ h1) := p
    split at p'
    · have p2 : PostS N X.K ρ H W D (asg Γ (.tt cts) (.tup xs) τ h1) := p'
      unfold asg at p2
      dsimp only at p2
      split at p2
      · rename_i hl
        exact ⟨ρ1, h1, xs, rh1, fr.mono e1, rv, hl, PostS.later e1 p2⟩
      · exact p2.elim
    · exact p'.elim
theorem VRs.inv3 {x y z : Val} {vs : List V} (r : VRs N X.K ρ H [x, y, z] vs) : ∃ v u w, vs = [v, u, w] ∧ VR N X.K ρ H x v ∧ VR N X.K ρ H y u ∧ VR N X.K ρ H z w := by
  simp only [VRs] at r
  obtain ⟨v, _, rfl, h1, u, _, rfl, h2, w, _, rfl, h3, rfl⟩ := r
  exact ⟨v, u, w, rfl, h1, h2, h3⟩
theorem x_par2 {i j : Nat} {x y : Str} {px py pt pt2 : Pos} {kt k2 : Nat} (hc : X.calm = true) (hN : X.N.Nodup) (hi : X.N[i]? = some x) (hj : X.N[j]? = some y) (hij : i ≠ j) (hk : X.env.blockKind = .function)
    (hx : X.env.scope.names.lookup x = some .local) (hy : X.env.scope.names.lookup y = some .local) (ha : PA X [a, b] (sA N X.K W (evEs Γ ces))) (hl : (py.line == px.line) = true) (hxy : x ≠ y) (hs : [a, b].all notStar = true)
    (hf : [a, b].all (foldedForSure 8) = false) (hcs : [a, b].all (constantsAlone 8) = false) :
    PS X (.Assign [.Tuple [.Name x px, .Name y py] kt pt] (.Tuple [a, b] k2 pt2) pos) (sS N X.K W (evS Γ (.set (.tt (.cons (.tv i) (.cons (.tv j) .nil))) (.tup ces)))) :=
  (ps_par hc hN hi hj hij hx hy ha (swapG (by rfl) (by rfl) hk hs (by
      have hx' : X.env.kindOf x = some .local := hx
      have hy' : X.env.kindOf y = some .local := hy
      have hl' : (py.line == ((List.head? [Expr.Name x px, .Name y py]).map (·.pos.line)).getD 0) = true := hl
      have hl0 : (px.line == ((List.head? [Expr.Name x px, .Name y py]).map (·.pos.line)).getD 0) = true := beq_self_eq_true _
      simp only [List.filterMap_cons, List.filterMap_nil, nmF, hx', hy', hl', hl0]
      rfl) (erase2 hxy) (by rfl) hf hcs)).weak fun D σ H ⟨ρ, h, τ, rh, fr, p⟩ => by
    refine ⟨ρ, h, τ, rh, fr, (par_pre rh fr p).imp ?_⟩
    rintro vs H1 ⟨ρ1, h1, xs, rh1, fr1, rv, hlen, p1⟩
    match xs, hlen with
    | [u, w], _ =>
      obtain ⟨v1, v2, rfl, r1, r2⟩ := rv.inv2
      have p2 : PostS N X.K ρ1 H1 W D (.nx ((τ.set i (some u)).set j (some w)) h1) := by
        simpa only [asgs, asg, Out.seq] using p1
      exact ⟨v1, v2, rfl, p2.nx ((fr1.set i r1).set j r2) rh1⟩
theorem x_par3 {i j l : Nat} {x y z : Str} {px py pz pt pt2 : Pos} {kt k2 : Nat} (hc : X.calm = true) (hN : X.N.Nodup) (hi : X.N[i]? = some x) (hj : X.N[j]? = some y) (hl : X.N[l]? = some z) (hij : i ≠ j) (hil : i ≠ l) (hjl : j ≠ l) (hk : X.env.blockKind = .function)
    (hx : X.env.scope.names.lookup x = some .local) (hy : X.env.scope.names.lookup y = some .local) (hz : X.env.scope.names.lookup z = some .local) (ha : PA X [a, b, c] (sA N X.K W (evEs Γ ces))) (hl1 : (py.line == px.line) = true) (hl2 : (pz.line == px.line) = true)
    (hxy : x ≠ y) (hxz : x ≠ z) (hyz : y ≠ z) (hs : [a, b, c].all notStar = true) (hf : [a, b, c].all (foldedForSure 8) = false) (hcs : [a, b, c].all (constantsAlone 8) = false) :
    PS X (.Assign [.Tuple [.Name x px, .Name y py, .Name z pz] kt pt] (.Tuple [a, b, c] k2 pt2) pos) (sS N X.K W (evS Γ (.set (.tt (.cons (.tv i) (.cons (.tv j) (.cons (.tv l) .nil)))) (.tup ces)))) :=
  (ps_par3 hc hN hi hj hl hij hil hjl hx hy hz ha (swapG (by rfl) (by rfl) hk hs (by
      have hx' : X.env.kindOf x = some .local := hx
      have hy' : X.env.kindOf y = some .local := hy
      have hz' : X.env.kindOf z = some .local := hz
      have h1' : (py.line == ((List.head? [Expr.Name x px, .Name y py, .Name z pz]).map (·.pos.line)).getD 0) = true := hl1
      have h2' : (pz.line == ((List.head? [Expr.Name x px, .Name y py, .Name z pz]).map (·.pos.line)).getD 0) = true := hl2
      have hl0 : (px.line == ((List.head? [Expr.Name x px, .Name y py, .Name z pz]).map (·.pos.line)).getD 0) = true := beq_self_eq_true _
      simp only [List.filterMap_cons, List.filterMap_nil, nmF, hx', hy', hz', h1', h2', hl0]
      rfl) (erase3 hxy hxz hyz) (by rfl) hf hcs)).weak fun D σ H ⟨ρ, h, τ, rh, fr, p⟩ => by
    refine ⟨ρ, h, τ, rh, fr, (par_pre rh fr p).imp ?_⟩
    rintro vs H1 ⟨ρ1, h1, xs, rh1, fr1, rv, hlen, p1⟩
    match xs, hlen with
    | [u, w, t], _ =>
      obtain ⟨v1, v2, v3, rfl, r1, r2, r3⟩ := rv.inv3
      have p2 : PostS N X.K ρ1 H1 W D (.nx (((τ.set i (some u)).set j (some w)).set l (some t)) h1) := by
        simpa only [asgs, asg, Out.seq] using p1
      exact ⟨v1, v2, v3, rfl, p2.nx (((fr1.set i r1).set j r2).set l r3) rh1⟩
end
end Mini
set_option Elab.async false
set_option linter.all false
set_option maxRecDepth 100000
set_option maxHeartbeats 2000000
/-! Mini against the model: raising, an error's own fields. -/
namespace Mini
open PySem PySem.Spec PyProof.Rows L2
/-! ### an error class with fields: its __init__ -/
/-- self.f = p, field by field, from parameter i on -/
def chkInit (self : Str) : List Str → List Str → List Stmt → Bool
  | [], [], [] => true
  | f :: fs, p :: ps, .Assign [.Attribute (.Name s _) g _] (.Name q _) _ :: r => decide (s = self) && (decide (g = f) && (decide (q = p) && chkInit self fs ps r))
  | _, _, _ => false
theorem chkInit_inv {self f p : Str} {fs ps : List Str} {st : Stmt} {r : List Stmt} (h : chkInit self (f :: fs) (p :: ps) (st :: r) = true) :
    ∃ p1 p2 p3 p4, st = .Assign [.Attribute (.Name self p1) f p2] (.Name p p3) p4 ∧ chkInit self fs ps r = true := by
  unfold chkInit at h
  split at h
  · rename_i h1 h2 h3
    cases h1
  · rename_i h1 h2 h3
    injection h1 with e1 e2
    injection h2 with e3 e4
    injection h3 with e5 e6
    subst e1 e2 e3 e4 e6
    rw [Bool.and_eq_true, Bool.and_eq_true, Bool.and_eq_true] at h
    obtain ⟨a, b, c, d⟩ := h
    have a := of_decide_eq_true a
    have b := of_decide_eq_true b
    have c := of_decide_eq_true c
    subst a b c
    exact ⟨_, _, _, _, e5, d⟩
  · cases h
/-- names of a def's frame that are plain local ones -/
def allLocal (sc : Scope) (ps : List Str) : Bool := ps.all fun x => decide (sc.names.lookup x = some .local) && (!(x == ("__debug__" : Str)) && !(x == ("__classdict__" : Str)))
def fnScopeB (N P : List Str) (sc : Scope) : Bool := decide (sc.kind = .function) && (!sc.isCoroutine && (!sc.isGenerator && (decide N.Nodup && (decide (N.take P.length = P) && (P.all (fun x => decide (sc.names.lookup x = some .local) || decide (sc.names.lookup x = some .cell)) && sc.names.all fun y => decide (y.2 ≠ .free))))))
theorem fnScope_of {N P : List Str} {sc : Scope} (h : fnScopeB N P sc = true) : FnScope N P sc := by
  unfold fnScopeB at h
  simp only [Bool.and_eq_true, Bool.not_eq_true', decide_eq_true_eq, List.all_eq_true, Bool.or_eq_true] at h
  obtain ⟨h1, h2, h3, h4, h5, h6, h7⟩ := h
  exact ⟨h1, h2, h3, h4, h5, h6, h7⟩
section
variable {X : Cx} {C : Addr}
/-- the fields that stand, the ones to come -/
def fieldsOf (done : List (Str × V)) : List Str → List V → List (Str × V)
  | f :: fs, v :: vs => fieldsOf ((f, v) :: done) fs vs
  | _, _ => done
/-- what is left of an __init__ that has stored a field -/
def tRest (C : Addr) (K : PySem.W.Frag) (fs : List Str) (j : Nat) : TS := fun D σ H => ∃ (a dx : Addr) (done : List (Str × V)) (vs : List V), σ[0]? = some (some (.ref a)) ∧ H a = some (exo a C (some dx)) ∧ H dx = some (exd dx done) ∧ a ≠ dx ∧ done.length + fs.length ≤ 900 ∧ vs.length = fs.length ∧
  (∀ i v, vs[i]? = some v → σ[j + i]? = some (some v)) ∧ D.nx σ (upd H dx (exd dx (fieldsOf done fs vs)))
theorem upd_upd {H : L2.Hp} {a : Addr} {o u : HO} : upd (upd H a o) a u = upd H a u := by
  funext b
  by_cases h : b = a
  · rw [h, upd_same, upd_same]
  · rw [upd_ne h, upd_ne h, upd_ne h]
theorem upd_self {H : L2.Hp} {a : Addr} {o : HO} (h : H a = some o) : upd H a o = H := by
  funext b
  by_cases e : b = a
  · rw [e, upd_same, h]
  · rw [upd_ne e]
theorem init_rest {self : Str} (T : OexC X.K C) (h0 : X.N[0]? = some self) (hs : Vis X.env.scope self) (hd : (self == ("__debug__" : Str)) = false) (hcd : (self == ("__classdict__" : Str)) = false) : ∀ (fs ps : List Str) (st : List Stmt) (j : Nat), chkInit self fs ps st = true → ps.length = fs.length →
    (∀ i p, ps[i]? = some p → X.N[j + i]? = some p ∧ Vis X.env.scope p ∧ (p == ("__debug__" : Str)) = false ∧ (p == ("__classdict__" : Str)) = false) → (∀ f ∈ fs, PySem.W.findIn X.K (.ref C) f = some none) → PSs X st (tRest C X.K fs j)
  | [], ps, st, j, hc, hl, hp, hf => by
    cases ps with
    | cons _ _ => cases hl
    | nil =>
      cases st with
      | cons _ _ => cases hc
      | nil =>
        refine pss_nil.weak fun D σ H ⟨a, dx, done, vs, _, h1, h2, _, _, hv, _, q⟩ => ?_
        have e : vs = [] := List.eq_nil_of_length_eq_zero hv
        subst e
        have q' : D.nx σ (upd H dx (exd dx done)) := q
        rw [upd_self h2] at q'
        exact q'
  | f :: fs, ps, st, j, hc, hl, hp, hf => by
    cases ps with
    | nil => cases hl
    | cons p ps =>
      cases st with
      | nil => cases hc
      | cons st r =>
        obtain ⟨p1, p2, p3, p4, rfl, hc'⟩ := chkInit_inv hc
        obtain ⟨n0, v0, d0, c0⟩ := hp 0 p rfl
        have rest := init_rest T h0 hs hd hcd fs ps r (j + 1) hc' (by simpa using hl) (fun i q hq => by
          have := hp (i + 1) q (by simpa using hq)
          rw [show j + 1 + i = j + (i + 1) by omega]
          exact this) (fun g hg => hf g (List.mem_cons_of_mem _ hg))
        refine (pss_cons (ps_ost (pe_var h0 hs hd hcd) (pe_var n0 v0 d0 c0) (by rfl)) rest).weak fun D σ H ⟨a, dx, done, vs, hs0, h1, h2, ne, h9, hv, hσ, q⟩ => ?_
        cases vs with
        | nil => cases hv
        | cons v vs =>
          refine ⟨v, by simpa using hσ 0 v rfl, .ref a, hs0, a, C, rfl, T, hf f List.mem_cons_self, .inr ⟨dx, done, h1, h2, by simp at h9; omega, a, dx, (f, v) :: done, vs, hs0, ?_, upd_same, ne, by simp at h9 ⊢; omega, by simpa using hv, fun i w hw => ?_, ?_⟩⟩
          · rw [upd_ne ne]
            exact h1
          · rw [show j + 1 + i = j + (i + 1) by omega]
            exact hσ (i + 1) w (by simpa using hw)
          · rw [upd_upd]
            exact q
/-- what an __init__ promises -/
def spInit (C : Addr) (fs : List Str) : Sp := fun vs H Q _ => ∃ (a : Addr) (ws : List V), vs = .ref a :: ws ∧ ws.length = fs.length ∧ H a = some (exo a C none) ∧
  ∀ dx, H dx = none → dx ≠ a → Q .non (upd (upd H a (exo a C (some dx))) dx (exd dx (fieldsOf [] fs ws)))
def tInit (C : Addr) (fs : List Str) : TS := fun D σ H => ∃ (a : Addr) (ws : List V), σ[0]? = some (some (.ref a)) ∧ ws.length = fs.length ∧ fs.length ≤ 900 ∧ (∀ i v, ws[i]? = some v → σ[1 + i]? = some (some v)) ∧ H a = some (exo a C none) ∧
  ∀ dx, H dx = none → dx ≠ a → D.nx σ (upd (upd H a (exo a C (some dx))) dx (exd dx (fieldsOf [] fs ws)))
theorem init_all {self f : Str} {fs ps : List Str} {st : List Stmt} (T : OexC X.K C) (h0 : X.N[0]? = some self) (hs : Vis X.env.scope self) (hd : (self == ("__debug__" : Str)) = false) (hcd : (self == ("__classdict__" : Str)) = false) (hc : chkInit self (f :: fs) ps st = true) (hl : ps.length = (f :: fs).length)
    (hp : ∀ i p, ps[i]? = some p → X.N[1 + i]? = some p ∧ Vis X.env.scope p ∧ (p == ("__debug__" : Str)) = false ∧ (p == ("__classdict__" : Str)) = false) (hf : ∀ g ∈ f :: fs, PySem.W.findIn X.K (.ref C) g = some none) : PSs X st (tInit C (f :: fs)) := by
  cases ps with
  | nil => cases hl
  | cons p ps =>
    cases st with
    | nil => cases hc
    | cons st r =>
      obtain ⟨p1, p2, p3, p4, rfl, hc'⟩ := chkInit_inv hc
      obtain ⟨n0, v0, d0, c0⟩ := hp 0 p rfl
      have rest := init_rest T h0 hs hd hcd fs ps r 2 hc' (by simpa using hl) (fun i q hq => by
        have := hp (i + 1) q (by simpa using hq)
        rw [show 2 + i = 1 + (i + 1) by omega]
        exact this) (fun g hg => hf g (List.mem_cons_of_mem _ hg))
      refine (pss_cons (ps_ost (pe_var h0 hs hd hcd) (pe_var n0 v0 d0 c0) (by rfl)) rest).weak fun D σ H ⟨a, vs, hs0, hv, h9, hσ, h1, q⟩ => ?_
      cases vs with
      | nil => cases hv
      | cons v vs =>
        refine ⟨v, by simpa using hσ 0 v rfl, .ref a, hs0, a, C, rfl, T, hf f List.mem_cons_self, .inl ⟨h1, fun dx hn ne => ⟨a, dx, [(f, v)], vs, hs0, upd_same, ?_, ne.symm, by simp at h9 ⊢; omega, by simpa using hv, fun i w hw => ?_, ?_⟩⟩⟩
        · rw [upd_ne ne, upd_same]
        · rw [show 2 + i = 1 + (i + 1) by omega]
          exact hσ (i + 1) w (by simpa using hw)
        · have e : upd (upd (upd H dx (exd dx [(f, v)])) a (exo a C (some dx))) dx (exd dx (fieldsOf [(f, v)] fs vs)) = upd (upd H a (exo a C (some dx))) dx (exd dx (fieldsOf [] (f :: fs) (v :: vs))) := by
            funext b
            by_cases hb : b = dx
            · rw [hb, upd_same, upd_same]
              rfl
            · rw [upd_ne hb, upd_ne hb]
              by_cases ha : b = a
              · rw [ha, upd_same, upd_same]
              · rw [upd_ne ha, upd_ne ha, upd_ne hb]
          rw [e]
          exact q dx hn ne
theorem init_ok {P : Program} {w : World} {K : PySem.W.Frag} {mg : Str → Option Value} {base : Heap} {CX : CXT} {x qual self f0 : Str} {params : Arguments} {st : List Stmt} {scope : Scope} {f : Addr} {fd : FuncData} {fs ps : List Str} (F : FunD K x qual params st scope [] [] f fd) (T : OexC K C)
    (hS : fnScopeB (self :: ps) (self :: ps) scope = true) (hL : allLocal scope (self :: ps) = true) (hc : chkInit self (f0 :: fs) ps st = true) (hl : ps.length = (f0 :: fs).length) (h9 : (f0 :: fs).length ≤ 900) (hf : ∀ g ∈ f0 :: fs, PySem.W.findIn K (.ref C) g = some none) :
    FnOk P w K mg base CX 1 f fd (self :: ps) (spInit C (f0 :: fs)) := by
  refine F.ok (fnScope_of hS) (fun vs H Q E h => ?_) (fun cdv A outer s H vs Q E hr h => ⟨tInit C (f0 :: fs), ?_, ?_⟩)
  · obtain ⟨a, ws, rfl, h2, _⟩ := h
    rw [List.length_cons, List.length_cons, h2, hl]
  · have loc : ∀ y ∈ self :: ps, Vis scope y ∧ (y == ("__debug__" : Str)) = false ∧ (y == ("__classdict__" : Str)) = false := fun y hy => by
      have := List.all_eq_true.mp hL y hy
      simp only [Bool.and_eq_true, decide_eq_true_eq, Bool.not_eq_true'] at this
      exact ⟨.inl this.1, this.2.1, this.2.2⟩
    refine init_all (X := cxOf CX P w K mg base (self :: ps) qual scope f cdv A outer s H E) T rfl (loc self List.mem_cons_self).1 (loc self List.mem_cons_self).2.1 (loc self List.mem_cons_self).2.2 hc hl (fun i p hp => ⟨?_, loc p (List.mem_cons_of_mem _ (List.mem_of_getElem? hp))⟩) hf
    show (self :: ps)[1 + i]? = some p
    rw [Nat.add_comm, List.getElem?_cons_succ]
    exact hp
  · obtain ⟨a, ws, rfl, h2, h3, q⟩ := h
    refine ⟨a, ws, rfl, h2, h9, fun i v hv => ?_, h3, fun dx n1 n2 => q dx n1 n2⟩
    show (L2.start (self :: ps) (.ref a :: ws))[1 + i]? = some (some v)
    unfold L2.start
    have hi : i < ws.length := (List.getElem?_eq_some_iff.mp hv).1
    rw [List.getElem?_append_left (by simp; omega), List.getElem?_map, Nat.add_comm, List.getElem?_cons_succ, hv]
    rfl
theorem lookup_fields {g : Str} : ∀ {fs : List Str} {vs : List V} {done : List (Str × V)}, fs.Nodup → (fieldsOf done fs vs).lookup g = match (fs.zip vs).lookup g with | some v => some v | none => done.lookup g
  | [], vs, done, _ => by
    unfold fieldsOf
    rfl
  | f :: fs, [], done, _ => by
    unfold fieldsOf
    rfl
  | f :: fs, v :: vs, done, nd => by
    have ih := lookup_fields (g := g) (fs := fs) (vs := vs) (done := (f, v) :: done) (List.nodup_cons.mp nd).2
    show (fieldsOf ((f, v) :: done) fs vs).lookup g = _
    rw [ih, List.zip_cons_cons, List.lookup_cons, List.lookup_cons]
    cases hg : (g == f) with
    | true =>
      have e := beq_iff_eq.mp hg
      subst e
      have nf := (List.nodup_cons.mp nd).1
      have : (fs.zip vs).lookup g = none := by
        rw [List.lookup_eq_none_iff]
        intro p hp
        have := (List.of_mem_zip (a := p.1) (b := p.2) hp).1
        simp
        intro z
        exact nf (z ▸ this)
      rw [this]
    | false => rfl
theorem exd_fields {dx : Addr} {fs : List Str} {vs : List V} (nd : fs.Nodup) : exd dx (fieldsOf [] fs vs) = exd dx (fs.zip vs) := by
  have e : ∀ g, (fieldsOf [] fs vs).lookup g = (fs.zip vs).lookup g := fun g => by
    rw [lookup_fields nd]
    cases (fs.zip vs).lookup g <;> rfl
  unfold exd
  congr 1
  funext h
  simp only [e]
/-- C(e, ..) where nothing is handled -/
theorem pmk_init {CX : CXT} {x : Str} {fI : Addr} {fd : FuncData} {ps fs : List Str} {ta : TA} {e : Expr} {es : List Expr} {p pos : Pos} (T : OexC X.K C) (iC : PySem.W.findIn X.K (.ref C) "__init__" = some (some (.ref fI))) (tI : PySem.W.typeIn X.K (.ref fI) = some (.type "function"))
    (F1 : FnOk X.prog X.w X.K X.mg X.base CX 1 fI fd ps (spInit C fs)) (nd : fs.Nodup) (hr : Room 2 X.A) (hb : Binds X.K fd ps []) (hx : Passes CX X (fun _ _ _ => False)) (hg : Gl X x) (hm : X.mg x = some (.ref C)) (ha : PA X (e :: es) ta)
    (hdb : (x == ("__debug__" : Str)) = false) (he : starEach (e :: es) X.env = (false, eval e X.env) :: starEach es X.env) (hpl : (backTo pos (starEach es X.env)).any (·.1) = false) :
    L2N.PMk X (.Call (.Name x p) (e :: es) [] pos) (fun σ H Q => ta σ H fun vs H1 => vs.length = fs.length ∧ vs.length ≤ 1000 ∧ ∀ d, H1 d = none → Q (.ref C) (some d) (upd H1 d (.xd (fs.zip vs)))) := by
  intro pins s σ H Q I h
  obtain ⟨nm, qn, Ns, bs, bm, sn, sub, ab, col, dd, c0, c1, c2, c3, c5, hC, hbm⟩ := T.cls
  refine wpAny_Call_Name_kw (ld_glob I hg hm ?_ hdb)
  refine PySem.W.callWith_K (h₀ := X.base) I.ok.mod.kin T.kC (thn (ha.run pos pins s σ H _ I h) fun us s1 ⟨vs, H1, I1, r1, hvl, hz, q1⟩ => ⟨I1.kIn, ?_⟩) he hpl
  show wpAny _ _ (call (.ref C) us) _ _ _
  obtain ⟨hp, gn, dr, tk, os⟩ := s1
  obtain ⟨xa, exa⟩ : ∃ xa, xa = hp.objs.size + 1 := ⟨_, rfl⟩
  have le_xa : hp.objs.size ≤ xa := by omega
  have none_xa : H1 xa = none := I1.hok.fresh le_xa
  obtain ⟨hp2, ehp2⟩ : ∃ hp2, hp2 = (hp.push (PySem.W.kdv_tup us)).push (PySem.HandSPX.excO C hp.objs.size) := ⟨_, rfl⟩
  have keep2 : ∀ b o, hp.get? b = some o → hp2.get? b = some o := fun b o z => by
    rw [ehp2]
    exact Heap.get?_push_of_some _ (Heap.get?_push_of_some _ z)
  have at_xa : hp2.get? xa = some (PySem.HandSPX.excO C hp.objs.size) := by
    rw [ehp2, exa]
    heap_get
  have J2 : Inv X pins σ (upd H1 xa (exo xa C none)) ⟨hp2, gn, dr, tk, os⟩ := I1.laid (t' := tk) (a := xa) (o := exo xa C none) (h' := hp2) keep2 le_xa (exo_ok at_xa)
  have vals2 : Vals (V.ref xa :: vs) (Value.ref xa :: us) := .cons rfl r1
  have hsp : spInit C fs (V.ref xa :: vs) (upd H1 xa (exo xa C none)) (fun v H2 => v = .non ∧ ∃ (d : Addr) (gs : List (Str × V)), H2 xa = some (exo xa C (some d)) ∧ H2 d = some (exd d gs) ∧ H1 d = none ∧ Q (.ref C) (some d) (upd (del H2 xa) d (.xd gs))) (fun _ _ _ => False) := by
    refine ⟨xa, vs, rfl, hvl, upd_same, fun dx n1 n2 => ⟨rfl, dx, fs.zip vs, ?_, ?_, ?_, ?_⟩⟩
    · rw [upd_ne (Ne.symm n2), upd_same]
    · rw [upd_same, exd_fields nd]
    · rw [upd_ne n2] at n1
      exact n1
    · have n1' : H1 dx = none := by
        rw [upd_ne n2] at n1
        exact n1
      have e2 : upd (del (upd (upd (upd H1 xa (exo xa C none)) xa (exo xa C (some dx))) dx (exd dx (fieldsOf [] fs vs))) xa) dx (.xd (fs.zip vs)) = upd H1 dx (.xd (fs.zip vs)) := by
        funext b
        by_cases hb : b = dx
        · rw [hb, upd_same, upd_same]
        · rw [upd_ne hb, upd_ne hb]
          by_cases hba : b = xa
          · rw [hba, del_same, none_xa]
          · rw [del_ne hba, upd_ne hb, upd_ne hba, upd_ne hba]
      rw [e2]
      exact q1 dx n1'
  have hlen : (Value.ref xa :: us ++ []).length = ps.length := by
    have z := vals2.length
    rw [F1.len _ _ _ _ hsp] at z
    rw [List.append_nil]
    exact z.symm
  have few : us.length ≤ sizeLine := by
    rw [← Paired.length r1, sizeLine_eq]
    omega
  have bnd := hb ⟨hp2, gn, dr, tk, os⟩ (Value.ref xa :: us) J2.kIn hlen
  rw [List.append_nil] at bnd
  have env2 := (J2.env0.make C us [])
  subst exa ehp2
  refine wpAny_call (PySem.HandSPX.call_own F.excBase_ValueError (fun Y => PySem.HandSPX.refsVE_contains Y bm hbm) (I1.kIn _ _ hC) (PySem.W.looks_findIn I1.kIn iC) (fun self => PySem.W.bind_fn I1.kIn self tI) few
    (codeAny_mono (F1.run _ X.stack _ _ _ _ _ _ (fun _ _ _ => False) (hr.make C us []) env2 bnd vals2 hsp) fun r s' hq' => ?_))
  cases r with
  | error er => exact hx pins σ _ _ er s' J2 hq'
  | ok fl =>
    cases fl with
    | next => exact False.elim hq'
    | brk => exact False.elim hq'
    | cont => exact False.elim hq'
    | ret u =>
      obtain ⟨v, H2, os2, bare2, un2, hok2, rv, ev, d, gs, ea, ed, nd1, q2⟩ := hq'
      subst ev
      obtain ⟨h2, g2, d2, t2, os'⟩ := s'
      obtain ⟨t0, G, J, kG, ge, hoe, na⟩ := mk_end0 (d2 := d2) (t2 := t2) I1 le_xa keep2 un2 hok2 os2 bare2 ea ed nd1
      refine ⟨rv, hp.objs.size + 1, _, _, ⟨G, g2, d2, t2, os'⟩, _, .ref C, some d, rfl, J, kG, ge, hoe, ⟨rfl, rfl, fun l hl => ?_⟩, rfl, rfl, na, rfl, bare2, raises_own T.exC T.tyC, q2⟩
      cases hl
      rfl
/-- C() of a class without own __init__ -/
theorem pmk_own0 {bmB : List Value} {B newId initId : String} {x : Str} {p pos : Pos} (F : ExcBaseFacts B newId initId bmB) (q : PySem.W.excIn X.K C bmB newId = true) (gC : X.mg x = some (.ref C)) (kC : PySem.W.keepIn X.K (.ref C) = true) (r : Raises X (.ref C)) (hg : Gl X x)
    (hdb : (x == ("__debug__" : Str)) = false) : L2N.PMk X (.Call (.Name x p) [] [] pos) (fun _ H Q => Q (.ref C) none H) := by
  intro pins s σ H Q I h
  refine wpAny_Call_Name_kw (ld_glob I hg gC (PySem.W.callWith_K0 I.kIn kC ?_) hdb)
  show wpAny _ _ (call (.ref C) []) _ _ _
  obtain ⟨bm, Ns, nm, qn, bs, hdct, sn, sub, ab, col, dd, c0, c1, c2, c3, c5, mN, hC, hN, hni, T⟩ := exc_obj I.kIn q
  exact wpAny_call_exc_subT F T hC hN hni (fun h' a hm => L2N.mk_of I hm r h (I.hok.gone hm.new)) (Nat.zero_le _)
end
end Mini
set_option Elab.async false
set_option linter.all false
set_option maxRecDepth 100000
set_option maxHeartbeats 2000000
/-! Mini against the model: the check of a text against its core, and what it needs around it. -/
namespace Mini
open PySem PySem.Spec PyProof.Rows L2
open L2H (RoomH Hot1 PinOk HotC)
/-! ### tables -/
structure Row where
  at_ : Nat
  name : Str
  ps : List Str
  ns : List Str
  hot : Bool
  core : C
structure Cl where
  at_ : Nat
  name : Str
  fs : List Str
structure Tab where
  rows : List Row
  cls : List Cl
  free : List Str
/-- where a text is checked -/
structure Dc where
  T : Tab
  sc : Scope
  ns : List Str
  calm : Bool
  blk : Bool
  fn : Str → Bool
def plainNm (x : Str) : Bool := !(x == ("__debug__" : Str)) && !(x == ("__classdict__" : Str))
/-- a name that is read -/
def Dc.var (D : Dc) (i : Nat) (x : Str) : Bool := decide (D.ns[i]? = some x) && ((match D.sc.names.lookup x with
  | some .local => true
  | some .cell => true
  | some .free => true
  | _ => false) && plainNm x)
/-- a name that is stored -/
def Dc.tgt (D : Dc) (i : Nat) (x : Str) : Bool := decide (D.ns[i]? = some x) && ((match D.sc.names.lookup x with
  | some .local => true
  | some .cell => D.fn x
  | _ => false) && plainNm x)
/-- a plain local name -/
def Dc.lcl (D : Dc) (i : Nat) (x : Str) : Bool := decide (D.ns[i]? = some x) && (decide (D.sc.names.lookup x = some .local) && plainNm x)
def Dc.glo (D : Dc) (x : Str) : Bool := decide (D.sc.names.lookup x = some .globalImplicit) && !(x == ("__debug__" : Str))
def Dc.fre (D : Dc) (x : Str) : Bool := D.glo x && decide (x ∈ D.T.free)
def Dc.fun_ (D : Dc) (i : Nat) (x : Str) : Bool := D.glo x && (match D.T.rows[i]? with
  | some r => decide (r.name = x) && (D.calm || r.hot)
  | none => false)
def Dc.cls_ (D : Dc) (i : Nat) (x : Str) : Bool := D.glo x && (match D.T.cls[i]? with
  | some r => decide (r.name = x)
  | none => false)
def Dc.gv (D : Dc) (w : Val) (x : Str) : Bool := match w with
  | .cls c => D.cls_ c x
  | .ty n => D.fre x && (decide (n = "ValueError") && decide (x = ("ValueError" : Str)))
  | _ => false
def biOk (b : Bi) (x : Str) : Bool := match b with
  | .len => decide (x = ("len" : Str))
  | .int => decide (x = ("int" : Str))
  | .list => decide (x = ("list" : Str))
  | .isinstance => decide (x = ("isinstance" : Str))
  | .repr => decide (x = ("repr" : Str))
  | _ => false
def mtOk (m : Mt) (x : Str) : Bool := match m with
  | .append => decide (x = ("append" : Str))
  | _ => false
def hotOff (D : Dc) : Dc := { D with calm := false }
/-- targets that are stored one after another -/
def swapFree (t e : Expr) : Bool := match t with
  | .Tuple ts _ _ => (match e with
    | .Tuple vs _ _ => !(ts.length == 2 || ts.length == 3) || !(vs.length == ts.length)
    | _ => true)
  | .List _ _ => false
  | _ => true
mutual
def chkE (D : Dc) : C → Expr → Bool
  | .v i, e => match e with
    | .Name x _ => D.var i x
    | _ => false
  | .ki i, e => match e with
    | .Constant (.int j) _ _ => decide (i = j)
    | _ => false
  | .ks s, e => match e with
    | .Constant (.str t) _ _ => decide (s = t)
    | _ => false
  | .kb b, e => match e with
    | .Constant (.bool c) _ _ => decide (b = c)
    | _ => false
  | .kn, e => match e with
    | .Constant .none _ _ => true
    | _ => false
  | .gv w, e => match e with
    | .Name x _ => D.gv w x
    | _ => false
  | .op o a b, e => match e with
    | .BinOp ea op eb _ => decide (op = bopOf o) && (chkE D a ea && chkE D b eb)
    | _ => false
  | .neg a, e => match e with
    | .UnaryOp .USub ea _ => chkE D a ea
    | _ => false
  | .cm o a b, e => match e with
    | .Compare ea [op] [eb] _ => decide (op = copOf o) && (markOk op eb && (chkE D a ea && chkE D b eb))
    | _ => false
  | .and a b, e => match e with
    | .BoolOp .And [ea, eb] _ => chkE D a ea && chkE D b eb
    | .BoolOp .And (ea :: eb :: ec :: er) p => chkE D a ea && chkE D b (.BoolOp .And (eb :: ec :: er) p)
    | _ => false
  | .or a b, e => match e with
    | .BoolOp .Or [ea, eb] _ => chkE D a ea && chkE D b eb
    | .BoolOp .Or (ea :: eb :: ec :: er) p => chkE D a ea && chkE D b (.BoolOp .Or (eb :: ec :: er) p)
    | _ => false
  | .not a, e => match e with
    | .UnaryOp .Not ea _ => chkE D a ea
    | _ => false
  | .ifx c a b, e => match e with
    | .IfExp ec ea eb _ => chkT D c ec && (chkE D a ea && chkE D b eb)
    | _ => false
  | .tup es, e => match e with
    | .Tuple l _ _ => chkEs D es l
    | _ => false
  | .lst es, e => match e with
    | .List l _ => chkEs D es l
    | _ => false
  | .dct es, e => match e with
    | .Dict ks vs _ => evenC es && (decide (ks.length ≤ 15) && chkKv D es ks vs)
    | _ => false
  | .ix a i, e => match e with
    | .Subscript ea ei _ => !isSlice ei && (chkE D a ea && chkE D i ei)
    | _ => false
  | .call f es, e => match e with
    | .Call (.Name x _) l [] _ => D.fun_ f x && chkEs D es l
    | _ => false
  | .blt b es, e => match e with
    | .Call (.Name x _) l [] _ => biOk b x && (D.fre x && (!l.isEmpty && chkEs D es l))
    | _ => false
  | .mth m o es, e => match e with
    | .Call (.Attribute eo f ap) [ea] [] p => mtOk m f && (attrOk eo && ((ap.endLine == p.line) && (chkE D o eo && chkEs D es [ea])))
    | _ => false
  | .fld o f, e => match e with
    | .Attribute eo g _ => decide (f = g) && (attrOk eo && chkE D o eo)
    | _ => false
  | _, _ => false
def chkT (D : Dc) : C → Expr → Bool
  | .cm o a b, e => match e with
    | .Compare ea [op] [eb] _ => decide (op = copOf o) && (markOk op eb && (chkE D a ea && chkE D b eb))
    | _ => false
  | .and a b, e => match e with
    | .BoolOp .And [ea, eb] _ => chkT D a ea && chkT D b eb
    | .BoolOp .And (ea :: eb :: ec :: er) p => chkT D a ea && chkT D b (.BoolOp .And (eb :: ec :: er) p)
    | _ => false
  | .or a b, e => match e with
    | .BoolOp .Or [ea, eb] _ => chkT D a ea && chkT D b eb
    | .BoolOp .Or (ea :: eb :: ec :: er) p => chkT D a ea && chkT D b (.BoolOp .Or (eb :: ec :: er) p)
    | _ => false
  | .not a, e => match e with
    | .UnaryOp .Not ea _ => chkT D a ea
    | _ => false
  | .v i, e => match e with
    | .Name x _ => D.var i x
    | _ => false
  | .kb b, e => match e with
    | .Constant (.bool c) _ _ => decide (b = c)
    | _ => false
  | .ix a i, e => match e with
    | .Subscript ea ei _ => !isSlice ei && (chkE D a ea && chkE D i ei)
    | _ => false
  | .call f es, e => match e with
    | .Call (.Name x _) l [] _ => D.fun_ f x && chkEs D es l
    | _ => false
  | .blt b es, e => match e with
    | .Call (.Name x _) l [] _ => biOk b x && (D.fre x && (!l.isEmpty && chkEs D es l))
    | _ => false
  | _, _ => false
def chkEs (D : Dc) : C → List Expr → Bool
  | .nil, l => match l with
    | [] => true
    | _ => false
  | .cons a b, l => match l with
    | e :: es => notStar e && (chkE D a e && chkEs D b es)
    | _ => false
  | _, _ => false
def chkKv (D : Dc) : C → List (Option Expr) → List Expr → Bool
  | .nil, ks, vs => match ks, vs with
    | [], [] => true
    | _, _ => false
  | .cons k r, ks, vs => match ks with
    | some ek :: ks => chkE D k ek && chkVk D r ks vs
    | _ => false
  | _, _, _ => false
def chkVk (D : Dc) : C → List (Option Expr) → List Expr → Bool
  | .cons v r, ks, vs => match vs with
    | ev :: vs => chkE D v ev && chkKv D r ks vs
    | _ => false
  | _, _, _ => false
end
mutual
def chkG (D : Dc) : C → Expr → Bool
  | .tv i, e => match e with
    | .Name x _ => D.tgt i x
    | _ => false
  | .tt ts, e => match e with
    | .Tuple l _ _ => D.calm && (decide (l.length = lenC ts) && chkGs D ts l)
    | _ => false
  | .tix o i, e => match e with
    | .Subscript eo ei _ => !isSlice ei && (chkE D o eo && chkE D i ei)
    | _ => false
  | _, _ => false
def chkGs (D : Dc) : C → List Expr → Bool
  | .nil, l => match l with
    | [] => true
    | _ => false
  | .cons a b, l => match l with
    | e :: es => notStar e && (chkG D a e && chkGs D b es)
    | _ => false
  | _, _ => false
end
/-- a, b = x, y of plain names -/
def par2 (D : Dc) (t c : C) (et e : Expr) : Bool := match t, c, et, e with
  | .tt (.cons (.tv i) (.cons (.tv j) .nil)), .tup es, .Tuple [.Name x px, .Name y py] _ _, .Tuple [a, b] _ _ =>
    D.calm && (!D.blk && (D.lcl i x && (D.lcl j y && (decide (i ≠ j) && (decide (x ≠ y) && ((py.line == px.line) && ([a, b].all notStar && (!([a, b].all (foldedForSure 8)) && (!([a, b].all (constantsAlone 8)) && chkEs D es [a, b])))))))))
  | _, _, _, _ => false
def par3 (D : Dc) (t c : C) (et e : Expr) : Bool := match t, c, et, e with
  | .tt (.cons (.tv i) (.cons (.tv j) (.cons (.tv l) .nil))), .tup es, .Tuple [.Name x px, .Name y py, .Name z pz] _ _, .Tuple [a, b, c] _ _ =>
    D.calm && (!D.blk && (D.lcl i x && (D.lcl j y && (D.lcl l z && (decide (i ≠ j) && (decide (i ≠ l) && (decide (j ≠ l) && (decide (x ≠ y) && (decide (x ≠ z) && (decide (y ≠ z) && ((py.line == px.line) && ((pz.line == px.line) &&
      ([a, b, c].all notStar && (!([a, b, c].all (foldedForSure 8)) && (!([a, b, c].all (constantsAlone 8)) && chkEs D es [a, b, c])))))))))))))))
  | _, _, _, _ => false
def plain1 (D : Dc) (t c : C) (et e : Expr) : Bool := plainTg et && (!isLC e && (swapFree et e && (chkG D t et && chkE D c e)))
mutual
def chkS : C → Dc → Stmt → Bool
  | .set t c, D, s => match s with
    | .Assign [et] e _ => plain1 D t c et e || (par2 D t c et e || par3 D t c et e)
    | _ => false
  | .ex c, D, s => match s with
    | .Expr e _ => !isLC e && chkE D c e
    | _ => false
  | .ret c, D, s => match s with
    | .Return (some e) _ => chkE D c e
    | _ => false
  | .retn, D, s => match s with
    | .Return none _ => true
    | _ => false
  | .pass, D, s => match s with
    | .Pass _ => true
    | _ => false
  | .brk, D, s => match s with
    | .Break _ => true
    | _ => false
  | .cnt, D, s => match s with
    | .Continue _ => true
    | _ => false
  | .ite c a b, D, s => match s with
    | .If e p q _ => chkT D c e && (chkSs a D p && chkSs b D q)
    | _ => false
  | .whl c b, D, s => match s with
    | .While e p [] _ => chkT D c e && chkSs b D p
    | _ => false
  | .for_ t it b, D, s => match s with
    | .For et ei p [] _ => D.calm && (chkG D t et && (chkSs b D p && (match it with
      | .rng1 a => (match ei with
        | .Call (.Name x _) [ea] [] _ => D.fre x && (decide (x = ("range" : Str)) && (notStar ea && chkE D a ea))
        | _ => false)
      | .each it => !isSetD ei && chkE D it ei
      | _ => false)))
    | _ => false
  | .rais k es, D, s => match s with
    | .Raise (some (.Call (.Name x _) l [] _)) none _ => D.calm && (D.cls_ k x && (chkEs D es l && (match D.T.cls[k]? with
      | some q => (l.isEmpty == q.fs.isEmpty)
      | none => false)))
    | _ => false
  | .try_ b k i c, D, s => match s with
    | .Try body [.ExceptHandler (some (.Name x _)) (some n) (b0 :: suite) _] [] [] _ => D.calm && (!D.blk && (D.cls_ k x && (D.lcl i n && (chkSs b D body && chkSs c (hotOff D) (b0 :: suite)))))
    | _ => false
  | _, _, _ => false
def chkSs : C → Dc → List Stmt → Bool
  | .nil, D, l => match l with
    | [] => true
    | _ => false
  | .cons a b, D, l => match l with
    | s :: r => chkS a D s && chkSs b D r
    | _ => false
  | _, _, _ => false
end
end Mini
set_option Elab.async false
set_option linter.all false
set_option maxRecDepth 100000
set_option maxHeartbeats 4000000
/-! Mini against the model: what is checked runs as its core says: expressions. -/
namespace Mini
open PySem PySem.Spec PyProof.Rows L2
open L2H (RoomH Hot1 PinOk HotC)
/-! ### what stands around a text -/
def Nm.wex (N : Nm) (e : Option (Nat × Addr × Option Addr)) : Nm := { N with ex := e }
structure Md (T : Tab) (N : Nm) (K : PySem.W.Frag) (mg : Str → Option Value) (Γ : Sys) : Prop where
  fnN : ∀ i r, T.rows[i]? = some r → N.fn i = r.name ∧ mg r.name = some (.ref (He.ga K r.name)) ∧ PySem.W.keepIn K (.ref (He.ga K r.name)) = true
  clN : ∀ c q, T.cls[c]? = some q → N.cls c = q.name ∧ N.flds c = q.fs ∧ mg q.name = some (.ref (He.ga K q.name)) ∧ Γ.isx c = true
  free : ∀ x ∈ T.free, mg x = none
  xf : XF N K Γ
  exm : ∀ c d, Γ.isx c = true → Γ.isx d = true → PySem.W.exmOne K (.ref (He.ga K (N.cls c))) (.ref (He.ga K (N.cls d))) = some (Γ.sub c d)
theorem XF.wex {N : Nm} {K : PySem.W.Frag} {Γ : Sys} (x : XF N K Γ) (e : Option (Nat × Addr × Option Addr)) : XF (N.wex e) K Γ := ⟨x.hcl, x.hga, x.hgt, x.hsub, x.hdi, x.ha, x.hm, x.hn, x.htk, x.kit, x.kitT, x.fld, x.flds, x.ndf⟩
theorem Md.wex {T : Tab} {N : Nm} {K : PySem.W.Frag} {mg : Str → Option Value} {Γ : Sys} (x : Md T N K mg Γ) (e : Option (Nat × Addr × Option Addr)) : Md T (N.wex e) K mg Γ := ⟨x.fnN, x.clN, x.free, x.xf.wex e, x.exm⟩
/-- how a call of a def ends, by its Mini meaning -/
def SpM (N : Nm) (K : PySem.W.Frag) (m : List Val → MH → Res Val) : Sp := fun vs H Q E => ∃ ρ h ws, RelH N K ρ h H ∧ VRs N K ρ H ws vs ∧ Post N K ρ H E (VR N K) (m ws h) Q
/-- no error is handled, or the one that N knows -/
def ModeAt (N : Nm) (K : PySem.W.Frag) (isx : Nat → Bool) (A : Around) (outer : List Env) (s : Shared) (H : L2.Hp) : Prop :=
  (N.ex = none ∧ A.handled = none) ∨ ∃ c a d oe, N.ex = some (c, a, d) ∧ isx c = true ∧ Hot1 A (a, oe) ∧ PinOk outer H s (a, oe) ∧ Zc (.ref (He.ga K (N.cls c))) d oe ∧ ∃ vs, oe.data = .fields vs
/-- a def keeps the meaning m, k calls deep -/
def Prom (P : Program) (w : World) (K : PySem.W.Frag) (mg : Str → Option Value) (base : Heap) (N : Nm) (isx : Nat → Bool) (k : Nat) (f : Addr) (m : List Val → MH → Res Val) : Prop :=
  ∃ (fd : FuncData) (ps : List Str), Binds K fd ps [] ∧ (∀ ws h, ws.length ≠ ps.length → m ws h = .bad) ∧
    ∀ (A : Around) (outer : List Env) (s : Shared) (H : L2.Hp) (args : Args) (us : List Value) (vs : List V) (Q : VK) (E : XK), RoomH (k + 4) A → A.guards = some [] → ModeAt N K isx A outer s H → Env0 P w K mg base A outer s H →
      BindsTo s fd args (ps.zip us) → Vals vs us → SpM N K m vs H Q E → codeAny (model P w) A (.call (.ref f) args) (CR (L2N.CX P w) outer P w H s Q E) s
/-- a class whose objects may be raised -/
def RaiseF (P : Program) (w : World) (K : PySem.W.Frag) (mg : Str → Option Value) (base : Heap) (q : Cl) : Prop :=
  (q.fs = [] ∧ PySem.W.excIn K (He.ga K q.name) He.veBase "ValueError.__new__" = true ∧ PySem.W.keepIn K (.ref (He.ga K q.name)) = true ∧ PySem.W.subIn K (.ref (He.ga K q.name)) (.type "BaseException") = some true ∧ PySem.W.typeIn K (.ref (He.ga K q.name)) = some (.type "type")) ∨
  (q.fs ≠ [] ∧ q.fs.Nodup ∧ q.fs.length ≤ 900 ∧ OexC K (He.ga K q.name) ∧ ∃ (fI : Addr) (fd : FuncData) (ps : List Str), PySem.W.findIn K (.ref (He.ga K q.name)) "__init__" = some (some (.ref fI)) ∧ PySem.W.typeIn K (.ref fI) = some (.type "function") ∧
    FnOk P w K mg base (L2N.CX P w) 1 fI fd ps (spInit (He.ga K q.name) q.fs) ∧ Binds K fd ps [])
structure Ok (D : Dc) (N : Nm) (X : Cx) (W : WX) (Γ : Sys) (k : Nat) : Prop where
  B : Base X
  sc : X.env.scope = D.sc
  ns : X.N = D.ns
  nd : D.ns.Nodup
  fn : ∀ x, D.fn x = true → X.fn x = true
  top : D.blk = false → X.env.blockKind = .function ∧ X.stack = X.env :: X.outer ∧ X.env.frame = some X.env.locals
  md : Md D.T N X.K X.mg Γ
  room : RoomH (k + 4) X.A
  po : PassesOwn (model X.prog X.w) X.A X.env X.xe
  tk : L2N.Takes X W
  hot : HotE N X Γ
  mode : (D.calm = true ∧ X.calm = true ∧ N.ex = none ∧ X.A.handled = none) ∨ (D.calm = false ∧ ∃ e, N.ex = some e)
  pr : ∀ i r, D.T.rows[i]? = some r → Prom X.prog X.w X.K X.mg X.base (N.wex none) Γ.isx k (He.ga X.K r.name) (Γ.call i) ∧ (r.hot = true → ∀ e, Prom X.prog X.w X.K X.mg X.base (N.wex (some e)) Γ.isx k (He.ga X.K r.name) (Γ.call i))
  rs : ∀ q ∈ D.T.cls, RaiseF X.prog X.w X.K X.mg X.base q
section
variable {N : Nm} {X : Cx} {W : WX} {Γ : Sys} {D : Dc} {k : Nat}
theorem Nm.wex_self {N : Nm} {e : Option (Nat × Addr × Option Addr)} (h : N.ex = e) : N.wex e = N := by
  subst h
  rfl
theorem plainNm_ok {x : Str} (h : plainNm x = true) : (x == ("__debug__" : Str)) = false ∧ (x == ("__classdict__" : Str)) = false := by
  unfold plainNm at h
  simpa only [Bool.and_eq_true, Bool.not_eq_true'] using h
theorem Ok.vis (O : Ok D N X W Γ k) {i : Nat} {x : Str} (h : D.var i x = true) : X.N[i]? = some x ∧ Vis X.env.scope x ∧ (x == ("__debug__" : Str)) = false ∧ (x == ("__classdict__" : Str)) = false := by
  unfold Dc.var at h
  rw [Bool.and_eq_true, Bool.and_eq_true] at h
  rw [O.ns, O.sc]
  refine ⟨of_decide_eq_true h.1, ?_, plainNm_ok h.2.2⟩
  have h2 := h.2.1
  split at h2
  · exact .inl (by assumption)
  · exact .inr (.inl (by assumption))
  · exact .inr (.inr (by assumption))
  · cases h2
theorem Ok.loc (O : Ok D N X W Γ k) {i : Nat} {x : Str} (h : D.tgt i x = true) : X.N[i]? = some x ∧ Loc X.env.scope x ∧ (X.fn x = true ∨ X.env.scope.names.lookup x = some .local) := by
  unfold Dc.tgt at h
  rw [Bool.and_eq_true, Bool.and_eq_true] at h
  have fn := O.fn x
  rw [O.ns, O.sc]
  refine ⟨of_decide_eq_true h.1, ?_⟩
  have h2 := h.2.1
  split at h2
  · exact ⟨.inl (by assumption), .inr (by assumption)⟩
  · exact ⟨.inr (by assumption), .inl (fn h2)⟩
  · cases h2
theorem Ok.lcl (O : Ok D N X W Γ k) {i : Nat} {x : Str} (h : D.lcl i x = true) : X.N[i]? = some x ∧ X.env.scope.names.lookup x = some .local ∧ (x == ("__debug__" : Str)) = false ∧ (x == ("__classdict__" : Str)) = false := by
  unfold Dc.lcl at h
  rw [Bool.and_eq_true, Bool.and_eq_true] at h
  rw [O.ns, O.sc]
  exact ⟨of_decide_eq_true h.1, of_decide_eq_true h.2.1, plainNm_ok h.2.2⟩
theorem Ok.gl (O : Ok D N X W Γ k) {x : Str} (h : D.glo x = true) : Gl X x ∧ (x == ("__debug__" : Str)) = false := by
  unfold Dc.glo at h
  simp only [Bool.and_eq_true, decide_eq_true_eq, Bool.not_eq_true'] at h
  refine ⟨?_, h.2⟩
  show X.env.scope.names.lookup x = some .globalImplicit
  rw [O.sc]
  exact h.1
theorem Ok.fre (O : Ok D N X W Γ k) {x : Str} (h : D.fre x = true) : Gl X x ∧ (x == ("__debug__" : Str)) = false ∧ X.mg x = none := by
  unfold Dc.fre at h
  rw [Bool.and_eq_true] at h
  exact ⟨(O.gl h.1).1, (O.gl h.1).2, O.md.free x (of_decide_eq_true h.2)⟩
theorem Ok.call_ok (O : Ok D N X W Γ k) {f : Addr} {m : List Val → MH → Res Val} (pr : Prom X.prog X.w X.K X.mg X.base N Γ.isx k f m) : CallOk N X W f m := by
  intro pins s σ H us vs Q I r q
  obtain ⟨fd, ps, hb, ar, run⟩ := pr
  obtain ⟨ρ, h, ws, rh, rw_, p⟩ := id q
  have hl : us.length = ps.length := by
    rw [← r.length, rw_.length]
    by_cases z : ws.length = ps.length
    · exact z
    · rw [ar ws h z] at p
      exact p.elim
  have b := hb s us I.kIn (by rw [List.append_nil]; exact hl)
  rw [List.append_nil] at b
  have mode : ModeAt N X.K Γ.isx X.A X.stack s H := by
    rcases O.mode with ⟨_, _, z1, z2⟩ | ⟨_, ⟨c, a, d⟩, z⟩
    · exact .inl ⟨z1, z2⟩
    · obtain ⟨ix, oe, hp, hz, hv, hh⟩ := O.hot c a d z
      have P1 := I.pin (a, oe) (List.mem_append_left _ hp)
      exact .inr ⟨c, a, d, oe, z, ix, hh, ⟨P1.1, P1.2.1, fun hm => (List.mem_cons.mp (I.stkSub a hm)).elim P1.2.2.1 P1.2.2.2.1, P1.2.2.2.2⟩, hz, hv⟩
  refine wpAny_call (codeAny_mono (run X.A X.stack s H ⟨us, []⟩ us vs Q (WE W σ) O.room O.B.guards mode I.env0 b r q) fun res s' hq => ?_)
  cases res with
  | error e => exact L2N.passAt O.tk σ pins H s e s' I hq
  | ok fl =>
    cases fl with
    | ret u => exact I.after hq
    | next => exact False.elim hq
    | brk => exact False.elim hq
    | cont => exact False.elim hq
theorem Ok.fun_ (O : Ok D N X W Γ k) {i : Nat} {x : Str} (h : D.fun_ i x = true) : ∃ r, D.T.rows[i]? = some r ∧ r.name = x ∧ Gl X x ∧ (x == ("__debug__" : Str)) = false ∧ X.mg x = some (.ref (He.ga X.K x)) ∧ PySem.W.keepIn X.K (.ref (He.ga X.K x)) = true ∧ CallOk N X W (He.ga X.K x) (Γ.call i) := by
  unfold Dc.fun_ at h
  rw [Bool.and_eq_true] at h
  obtain ⟨h1, h2⟩ := h
  cases hr : D.T.rows[i]? with
  | none =>
    rw [hr] at h2
    cases h2
  | some r =>
    rw [hr] at h2
    dsimp only at h2
    rw [Bool.and_eq_true] at h2
    have e := of_decide_eq_true h2.1
    subst e
    obtain ⟨_, f2, f3⟩ := O.md.fnN i r hr
    obtain ⟨p1, p2⟩ := O.pr i r hr
    refine ⟨r, rfl, rfl, (O.gl h1).1, (O.gl h1).2, f2, f3, O.call_ok ?_⟩
    rcases O.mode with ⟨z0, _, z1, z2⟩ | ⟨z0, e, z⟩
    · rw [Nm.wex_self z1] at p1
      exact p1
    · have hh : r.hot = true := by
        have := h2.2
        rw [z0] at this
        simpa using this
      have p3 := p2 hh e
      rw [Nm.wex_self z] at p3
      exact p3
theorem Ok.cls_ (O : Ok D N X W Γ k) {c : Nat} {x : Str} (h : D.cls_ c x = true) : ∃ q, D.T.cls[c]? = some q ∧ q.name = x ∧ Gl X x ∧ (x == ("__debug__" : Str)) = false ∧ X.mg x = some (.ref (He.ga X.K x)) ∧ N.cls c = x ∧ N.flds c = q.fs ∧ Γ.isx c = true ∧ q ∈ D.T.cls := by
  unfold Dc.cls_ at h
  rw [Bool.and_eq_true] at h
  obtain ⟨h1, h2⟩ := h
  cases hr : D.T.cls[c]? with
  | none =>
    rw [hr] at h2
    cases h2
  | some q =>
    rw [hr] at h2
    have e := of_decide_eq_true h2
    subst e
    obtain ⟨f1, f2, f3, f4⟩ := O.md.clN c q hr
    exact ⟨q, rfl, rfl, (O.gl h1).1, (O.gl h1).2, f3, f1, f2, f4, List.mem_of_getElem? hr⟩
theorem x_biS (O : Ok D N X W Γ k) {b : Bi} {x : Str} {e : Expr} {es : List Expr} {ces : C} {p pos : Pos} (hb : biOk b x = true) (hf : D.fre x = true) (ha : PA X (e :: es) (sA N X.K W (evEs Γ ces))) (hs : notStar e = true) (hss : es.all notStar = true) :
    PE X (.Call (.Name x p) (e :: es) [] pos) (sE N X.K W (evE Γ (.blt b ces))) := by
  obtain ⟨g, d, m⟩ := O.fre hf
  cases b with
  | len =>
    have ex := of_decide_eq_true hb
    subst ex
    exact x_bB (bi := .len) (b_len (N := N)) g m (by decide +kernel) ha (by decide) d hs hss
  | int =>
    have ex := of_decide_eq_true hb
    subst ex
    exact x_bT (bi := .int) (b_int (N := N)) g m (by decide +kernel) ha (by decide) d hs hss
  | list =>
    have ex := of_decide_eq_true hb
    subst ex
    exact x_bT (bi := .list) (b_list (N := N)) g m (by decide +kernel) ha (by decide) d hs hss
  | isinstance =>
    have ex := of_decide_eq_true hb
    subst ex
    exact x_bB (bi := .isinstance) (b_isi O.md.xf O.hot) g m (by decide +kernel) ha (by decide) d hs hss
  | repr =>
    have ex := of_decide_eq_true hb
    subst ex
    exact x_bB (bi := .repr) (b_repr (N := N) O.B) g m (by decide +kernel) ha (by decide) d hs hss
  | _ => cases hb
theorem okGv (O : Ok D N X W Γ k) {w : Val} {x : Str} {p : Pos} (h : D.gv w x = true) : PE X (.Name x p) (sE N X.K W (evE Γ (.gv w))) := by
  cases w with
  | cls c =>
    obtain ⟨q, _, hq, g, d, m, hn, _⟩ := O.cls_ (show D.cls_ c x = true from h)
    exact x_glob (v := .ref (He.ga X.K x)) g m rfl (fun ρ H => by simp only [VR]; rw [hn]) d
  | ty n =>
    have h' : (D.fre x && (decide (n = "ValueError") && decide (x = ("ValueError" : Str)))) = true := h
    rw [Bool.and_eq_true, Bool.and_eq_true] at h'
    obtain ⟨h1, h2, h3⟩ := h'
    obtain ⟨g, d, m⟩ := O.fre h1
    have e1 := of_decide_eq_true h2
    have e2 := of_decide_eq_true h3
    subst e1 e2
    exact x_bltn (v := .ty "ValueError") g m PyProof.Rows.Boot.«ValueError» rfl (fun ρ H => by simp only [VR]) (by decide) d
  | _ => cases h
theorem okMt (O : Ok D N X W Γ k) {m : Mt} {o e : Expr} {f : Str} {ca ces : C} {pos apos : Pos} (hm : mtOk m f = true) (ho : PE X o (sE N X.K W (evE Γ ca))) (ha : PA X [e] (sA N X.K W (evEs Γ ces))) (hb : attrOk o = true) (hl : (apos.endLine == pos.line) = true) (hs : notStar e = true) :
    PE X (.Call (.Attribute o f apos) [e] [] pos) (sE N X.K W (evE Γ (.mth m ca ces))) := by
  cases m with
  | append =>
    have e1 := of_decide_eq_true hm
    subst e1
    exact x_mth1 (m := .append) PySem.F.plainAttrs_list PySem.F.slot_list_append PySem.F.type_list_append (m_append (N := N)) tyV_list ho ha hb hl hs
  | _ => cases hm
theorem pe_one {e : Expr} {t : TE} {o : BoolOp} {p : Pos} (h : PE X e t) : PE X (.BoolOp o [e] p) t := ⟨fun pins s σ H Q I q => h.run pins s σ H Q I q⟩
mutual
theorem okE (O : Ok D N X W Γ k) : ∀ (c : C) (e : Expr), chkE D c e = true → PE X e (sE N X.K W (evE Γ c)) := by
  intro c e h
  cases c with
  | v i =>
    unfold chkE at h
    split at h
    · obtain ⟨h1, h2, h3, h4⟩ := O.vis h
      exact x_var h1 h2 h3 h4
    · cases h
  | ki i =>
    unfold chkE at h
    split at h
    · have z := of_decide_eq_true h
      subst z
      exact x_int
    · cases h
  | ks s =>
    unfold chkE at h
    split at h
    · have z := of_decide_eq_true h
      subst z
      exact x_str
    · cases h
  | kb b =>
    unfold chkE at h
    split at h
    · have z := of_decide_eq_true h
      subst z
      exact x_bl
    · cases h
  | kn =>
    unfold chkE at h
    split at h
    · exact x_non
    · cases h
  | gv w =>
    unfold chkE at h
    split at h
    · exact okGv O h
    · cases h
  | op o a b =>
    unfold chkE at h
    split at h
    · rw [Bool.and_eq_true, Bool.and_eq_true] at h
      obtain ⟨h1, h2, h3⟩ := h
      have z := of_decide_eq_true h1
      subst z
      exact x_bop o (okE O a _ h2) (okE O b _ h3)
    · cases h
  | neg a =>
    unfold chkE at h
    split at h
    · exact x_neg (okE O a _ h)
    · cases h
  | cm o a b =>
    unfold chkE at h
    split at h
    · rw [Bool.and_eq_true, Bool.and_eq_true, Bool.and_eq_true] at h
      obtain ⟨h1, h2, h3, h4⟩ := h
      have z := of_decide_eq_true h1
      subst z
      exact x_cm O.B o (okE O a _ h3) (okE O b _ h4) (behind h2)
    · cases h
  | and a b =>
    unfold chkE at h
    split at h
    · rw [Bool.and_eq_true] at h
      exact x_andV (okE O a _ h.1) (pe_one (okE O b _ h.2))
    · rw [Bool.and_eq_true] at h
      exact x_andV (okE O a _ h.1) (okE O b _ h.2)
    · cases h
  | or a b =>
    unfold chkE at h
    split at h
    · rw [Bool.and_eq_true] at h
      exact x_orV (okE O a _ h.1) (pe_one (okE O b _ h.2))
    · rw [Bool.and_eq_true] at h
      exact x_orV (okE O a _ h.1) (okE O b _ h.2)
    · cases h
  | not a =>
    unfold chkE at h
    split at h
    · exact x_notV (okE O a _ h)
    · cases h
  | ifx c a b =>
    unfold chkE at h
    split at h
    · rw [Bool.and_eq_true, Bool.and_eq_true] at h
      exact x_ifx (okT O c _ h.1) (okE O a _ h.2.1) (okE O b _ h.2.2)
    · cases h
  | tup es =>
    unfold chkE at h
    split at h
    · exact x_tup (okEs O es _ h).1
    · cases h
  | lst es =>
    unfold chkE at h
    split at h
    · exact x_lst (okEs O es _ h).1
    · cases h
  | dct es =>
    unfold chkE at h
    split at h
    · rename_i ks vs p
      rw [Bool.and_eq_true, Bool.and_eq_true] at h
      obtain ⟨h1, h2, h3⟩ := h
      obtain ⟨g1, g2, g3⟩ := okKv (pos := p) O es ks vs h3
      cases ks with
      | nil =>
        cases vs with
        | cons _ _ => cases g3
        | nil =>
          cases es with
          | nil => exact x_dct0
          | _ =>
            first
              | (unfold chkKv at h3; cases h3)
              | cases h1
      | cons q ks => exact x_dct g1 h1 g2 g3 (by simp) (of_decide_eq_true h2)
    · cases h
  | ix a i =>
    unfold chkE at h
    split at h
    · rw [Bool.and_eq_true, Bool.and_eq_true, Bool.not_eq_true'] at h
      exact x_ix O.B (okE O a _ h.2.1) (okE O i _ h.2.2) (plainix h.1)
    · cases h
  | call f es =>
    unfold chkE at h
    split at h
    · rename_i x p l p2
      rw [Bool.and_eq_true] at h
      obtain ⟨h1, h2⟩ := h
      obtain ⟨r, _, _, g, d, m, kp, ok⟩ := O.fun_ h1
      obtain ⟨g1, g2⟩ := okEs O es l h2
      cases l with
      | nil =>
        cases es with
        | nil => exact x_call0 g m kp ok d
        | _ => (unfold chkEs at h2; cases h2)
      | cons e l =>
        rw [List.all_cons, Bool.and_eq_true] at g2
        exact x_call g m kp ok g1 d g2.1 g2.2
    · cases h
  | blt b es =>
    unfold chkE at h
    split at h
    · rename_i x p l p2
      rw [Bool.and_eq_true, Bool.and_eq_true, Bool.and_eq_true] at h
      obtain ⟨h1, h2, h3, h4⟩ := h
      obtain ⟨g1, g2⟩ := okEs O es l h4
      cases l with
      | nil => cases h3
      | cons e l =>
        rw [List.all_cons, Bool.and_eq_true] at g2
        exact x_biS O h1 h2 g1 g2.1 g2.2
    · cases h
  | mth m o es =>
    unfold chkE at h
    split at h
    · rw [Bool.and_eq_true, Bool.and_eq_true, Bool.and_eq_true, Bool.and_eq_true] at h
      obtain ⟨h1, h2, h3, h4, h5⟩ := h
      obtain ⟨g1, g2⟩ := okEs O es _ h5
      rw [List.all_cons, Bool.and_eq_true] at g2
      exact okMt O h1 (okE O o _ h4) g1 h2 h3 g2.1
    · cases h
  | fld o f =>
    unfold chkE at h
    split at h
    · rw [Bool.and_eq_true, Bool.and_eq_true] at h
      obtain ⟨h1, h2, h3⟩ := h
      have z := of_decide_eq_true h1
      subst z
      exact x_fld O.md.xf O.hot (okE O o _ h3) (attrb h2)
    · cases h
  | _ => (unfold chkE at h; cases h)
theorem okT (O : Ok D N X W Γ k) : ∀ (c : C) (e : Expr), chkT D c e = true → PT X e (sT N X.K W (evT Γ c)) := by
  intro c e h
  cases c with
  | cm o a b =>
    unfold chkT at h
    split at h
    · rw [Bool.and_eq_true, Bool.and_eq_true, Bool.and_eq_true] at h
      obtain ⟨h1, h2, h3, h4⟩ := h
      have z := of_decide_eq_true h1
      subst z
      exact x_cmT O.B o (okE O a _ h3) (okE O b _ h4) (behind h2)
    · cases h
  | and a b =>
    unfold chkT at h
    split at h
    · rw [Bool.and_eq_true] at h
      exact (x_andT (okT O a _ h.1) (pw_and1 (okT O b _ h.2))).pt
    · rw [Bool.and_eq_true] at h
      exact (x_andT (okT O a _ h.1) (okW O b _ _ _ h.2)).pt
    · cases h
  | or a b =>
    unfold chkT at h
    split at h
    · rw [Bool.and_eq_true] at h
      exact (x_orT (okT O a _ h.1) (pw_or1 (okT O b _ h.2))).pt
    · rw [Bool.and_eq_true] at h
      exact (x_orT (okT O a _ h.1) (okW O b _ _ _ h.2)).pt
    · cases h
  | not a =>
    unfold chkT at h
    split at h
    · exact x_notT (okT O a _ h)
    · cases h
  | v i =>
    unfold chkT at h
    split at h
    · obtain ⟨h1, h2, h3, h4⟩ := O.vis h
      exact x_tru (x_var h1 h2 h3 h4) (ist rfl)
    · cases h
  | kb b =>
    unfold chkT at h
    split at h
    · have z := of_decide_eq_true h
      subst z
      exact x_tru x_bl (ist rfl)
    · cases h
  | ix a i =>
    unfold chkT at h
    split at h
    · rw [Bool.and_eq_true, Bool.and_eq_true, Bool.not_eq_true'] at h
      exact x_tru (x_ix O.B (okE O a _ h.2.1) (okE O i _ h.2.2) (plainix h.1)) (ist rfl)
    · cases h
  | call f es =>
    unfold chkT at h
    split at h
    · rename_i x p l p2
      rw [Bool.and_eq_true] at h
      obtain ⟨h1, h2⟩ := h
      obtain ⟨r, _, _, g, d, m, kp, ok⟩ := O.fun_ h1
      obtain ⟨g1, g2⟩ := okEs O es l h2
      cases l with
      | nil =>
        cases es with
        | nil => exact x_tru (x_call0 g m kp ok d) (ist rfl)
        | _ => (unfold chkEs at h2; cases h2)
      | cons e l =>
        rw [List.all_cons, Bool.and_eq_true] at g2
        exact x_tru (x_call g m kp ok g1 d g2.1 g2.2) (ist rfl)
    · cases h
  | blt b es =>
    unfold chkT at h
    split at h
    · rename_i x p l p2
      rw [Bool.and_eq_true, Bool.and_eq_true, Bool.and_eq_true] at h
      obtain ⟨h1, h2, h3, h4⟩ := h
      obtain ⟨g1, g2⟩ := okEs O es l h4
      cases l with
      | nil => cases h3
      | cons e l =>
        rw [List.all_cons, Bool.and_eq_true] at g2
        exact x_tru (x_biS O h1 h2 g1 g2.1 g2.2) (ist rfl)
    · cases h
  | _ => (unfold chkT at h; cases h)
theorem okW (O : Ok D N X W Γ k) : ∀ (c : C) (o : BoolOp) (l : List Expr) (p : Pos), chkT D c (.BoolOp o l p) = true → PW X (.BoolOp o l p) (sT N X.K W (evT Γ c)) := by
  intro c o l p h
  cases c with
  | and a b =>
    unfold chkT at h
    split at h
    · rename_i e1
      cases e1
      rw [Bool.and_eq_true] at h
      exact x_andT (okT O a _ h.1) (pw_and1 (okT O b _ h.2))
    · rename_i e1
      cases e1
      rw [Bool.and_eq_true] at h
      exact x_andT (okT O a _ h.1) (okW O b _ _ _ h.2)
    · cases h
  | or a b =>
    unfold chkT at h
    split at h
    · rename_i e1
      cases e1
      rw [Bool.and_eq_true] at h
      exact x_orT (okT O a _ h.1) (pw_or1 (okT O b _ h.2))
    · rename_i e1
      cases e1
      rw [Bool.and_eq_true] at h
      exact x_orT (okT O a _ h.1) (okW O b _ _ _ h.2)
    · cases h
  | _ => (unfold chkT at h; cases h)
theorem okEs (O : Ok D N X W Γ k) : ∀ (c : C) (l : List Expr), chkEs D c l = true → PA X l (sA N X.K W (evEs Γ c)) ∧ l.all notStar = true := by
  intro c l h
  cases c with
  | nil =>
    unfold chkEs at h
    split at h
    · exact ⟨x_nil, rfl⟩
    · cases h
  | cons a b =>
    unfold chkEs at h
    split at h
    · rw [Bool.and_eq_true, Bool.and_eq_true] at h
      obtain ⟨h1, h2, h3⟩ := h
      obtain ⟨g1, g2⟩ := okEs O b _ h3
      exact ⟨x_cons (okE O a _ h2) g1 h1, by rw [List.all_cons, h1, g2]; rfl⟩
    · cases h
  | _ => (unfold chkEs at h; cases h)
theorem okKv (O : Ok D N X W Γ k) {pos : Pos} : ∀ (c : C) (ks : List (Option Expr)) (vs : List Expr), chkKv D c ks vs = true → PPs X pos ks vs (trsOf N X.K W Γ c) ∧ ks.all (·.isSome) = true ∧ ks.length = vs.length := by
  intro c ks vs h
  cases c with
  | nil =>
    unfold chkKv at h
    split at h
    · exact ⟨pps_nil, rfl, rfl⟩
    · cases h
  | cons k r =>
    unfold chkKv at h
    split at h
    · rw [Bool.and_eq_true] at h
      obtain ⟨v, r2, ev, vs', rfl, rfl, g1, g2, g3, g4⟩ := okVk (pos := pos) O r _ _ h.2
      exact ⟨pps_cons (okE O k _ h.1) g1 g2, by rw [List.all_cons, g3]; rfl, by rw [List.length_cons, List.length_cons, g4]⟩
    · cases h
  | _ => (unfold chkKv at h; cases h)
theorem okVk (O : Ok D N X W Γ k) {pos : Pos} : ∀ (c : C) (ks : List (Option Expr)) (vs : List Expr), chkVk D c ks vs = true → ∃ v r ev vs', c = .cons v r ∧ vs = ev :: vs' ∧ PE X ev (sE N X.K W (evE Γ v)) ∧ PPs X pos ks vs' (trsOf N X.K W Γ r) ∧ ks.all (·.isSome) = true ∧ ks.length = vs'.length := by
  intro c ks vs h
  cases c with
  | cons v r =>
    unfold chkVk at h
    split at h
    · rw [Bool.and_eq_true] at h
      obtain ⟨g1, g2, g3⟩ := okKv (pos := pos) O r _ _ h.2
      exact ⟨v, r, _, _, rfl, rfl, okE O v _ h.1, g1, g2, g3⟩
    · cases h
  | _ => (unfold chkVk at h; cases h)
end
end
end Mini
set_option Elab.async false
set_option linter.all false
set_option maxRecDepth 100000
set_option maxHeartbeats 4000000
/-! Mini against the model: what is checked runs as its core says: statements. -/
namespace Mini
open PySem PySem.Spec PyProof.Rows L2
open L2H (RoomH Hot1 PinOk HotC)
section
variable {N : Nm} {X : Cx} {W : WX} {Γ : Sys} {D : Dc} {k : Nat}
/-! ### another handled error -/
section
variable {K : PySem.W.Frag} {ρ : List Addr} {H : L2.Hp} {e : Option (Nat × Addr × Option Addr)}
mutual
theorem VR.sw : ∀ (x : Val) (v : V), dat x = true → VR N K ρ H x v → VR (N.wex e) K ρ H x v
  | .non, v, _, h => h
  | .bl b, v, _, h => h
  | .int i, v, _, h => h
  | .str s, v, _, h => h
  | .tup xs, v, _, h => by
    simp only [VR] at h ⊢
    obtain ⟨a, vs, e1, t, r, dd⟩ := h
    exact ⟨a, vs, e1, t, VRs.sw xs vs dd r, dd⟩
  | .fl xs, v, _, h => by
    simp only [VR] at h ⊢
    obtain ⟨a, vs, e1, t, r, dd⟩ := h
    exact ⟨a, vs, e1, t, VRs.sw xs vs dd r, dd⟩
  | .ref i, v, _, h => h
  | .ty n, v, _, h => h
  | .fn i, v, _, h => h
  | .cls i, v, _, h => h
  | .exn c fs, v, d, h => by cases d
  | .clo _ _, v, _, h => by
    simp only [VR] at h
  | .own _, v, _, h => by
    simp only [VR] at h
theorem VRs.sw : ∀ (x : List Val) (v : List V), x.all dat = true → VRs N K ρ H x v → VRs (N.wex e) K ρ H x v
  | [], v, _, h => h
  | x :: xs, v, d, h => by
    rw [List.all_cons, Bool.and_eq_true] at d
    simp only [VRs] at h ⊢
    obtain ⟨u, r, e1, h1, h2⟩ := h
    exact ⟨u, r, e1, VR.sw x u d.1 h1, VRs.sw xs r d.2 h2⟩
end
theorem VR.calm (hn : N.ex = none) {x : Val} {v : V} (h : VR N K ρ H x v) : VR (N.wex e) K ρ H x v := by
  cases x with
  | exn c fs =>
    simp only [VR] at h
    obtain ⟨a, d, vs, e1, _⟩ := h
    rw [hn] at e1
    cases e1
  | _ => exact VR.sw _ v rfl h
theorem VRs.calm (hn : N.ex = none) : ∀ {x : List Val} {v : List V}, VRs N K ρ H x v → VRs (N.wex e) K ρ H x v
  | [], v, h => h
  | x :: xs, v, h => by
    simp only [VRs] at h ⊢
    obtain ⟨u, r, e1, h1, h2⟩ := h
    exact ⟨u, r, e1, h1.calm hn, VRs.calm hn h2⟩
theorem DR.sw : ∀ (ps : List (Val × Val)) (kv : List (Key × V)), DR N K ρ H ps kv → DR (N.wex e) K ρ H ps kv
  | [], kv, h => h
  | p :: ps, kv, h => by
    simp only [DR] at h ⊢
    obtain ⟨c, v, r, e1, h1, h2, dd, h3⟩ := h
    exact ⟨c, v, r, e1, h1, VR.sw _ _ dd h2, dd, DR.sw ps r h3⟩
theorem OR.sw {a : Addr} : ∀ {o : Obj}, OR N K ρ H a o → OR (N.wex e) K ρ H a o
  | .lst xs, h => by
    simp only [OR] at h ⊢
    obtain ⟨vs, h1, h2, dd⟩ := h
    exact ⟨vs, h1, VRs.sw xs vs dd h2, dd⟩
  | .dic kvs, h => by
    simp only [OR] at h ⊢
    obtain ⟨vs, h1, h2⟩ := h
    exact ⟨vs, h1, DR.sw _ _ h2⟩
  | .set _, h => by
    simp only [OR] at h
  | .ins _ _, h => by
    simp only [OR] at h
theorem RelH.sw {h : MH} (r : RelH N K ρ h H) : RelH (N.wex e) K ρ h H := ⟨r.len, r.nd, fun i a o e1 e2 => (r.obj i a o e1 e2).sw⟩
theorem FR.calm (hn : N.ex = none) {τ : MF} {σ : L2.St} (f : FR N K ρ H τ σ) : FR (N.wex e) K ρ H τ σ := ⟨f.len, fun i x h => let ⟨v, h1, h2⟩ := f.at_ i x h; ⟨v, h1, h2.calm hn⟩⟩
theorem FR.sw {τ : MF} {σ : L2.St} (d : τ.all datO = true) (f : FR N K ρ H τ σ) : FR (N.wex e) K ρ H τ σ :=
  ⟨f.len, fun i x h => let ⟨v, h1, h2⟩ := f.at_ i x h; ⟨v, h1, VR.sw x v (List.all_eq_true.mp d _ (List.mem_of_getElem? h)) h2⟩⟩
theorem FR.unset {τ : MF} {σ : L2.St} (f : FR N K ρ H τ σ) (i : Nat) : FR N K ρ H (τ.set i none) (σ.set i none) := by
  refine ⟨by simp [f.len], fun j y h => ?_⟩
  by_cases hj : i = j
  · subst hj
    rw [List.getElem?_set] at h
    by_cases hl : i < τ.length
    · rw [if_pos rfl, if_pos hl] at h
      cases h
    · rw [if_pos rfl, if_neg hl] at h
      cases h
  · rw [List.getElem?_set_ne hj] at h
    rw [List.getElem?_set_ne hj]
    exact f.at_ j y h
end
theorem wex_wex {e f : Option (Nat × Addr × Option Addr)} : (N.wex e).wex f = N.wex f := rfl

/-! ### targets -/
mutual
theorem okG (O : Ok D N X W Γ k) : ∀ (c : C) (e : Expr), chkG D c e = true → PG X e (sG N X.K W (asg Γ c)) := by
  intro c e h
  cases c with
  | tv i =>
    unfold chkG at h
    split at h
    · obtain ⟨h1, h2, h3⟩ := O.loc h
      exact g_tv (by rw [O.ns]; exact O.nd) h1 h2 h3
    · cases h
  | tt ts =>
    unfold chkG at h
    split at h
    · rw [Bool.and_eq_true, Bool.and_eq_true] at h
      obtain ⟨h1, h2, h3⟩ := h
      obtain ⟨g1, g2⟩ := okGs O ts _ h3
      refine g_tt ?_ g1 (of_decide_eq_true h2) g2
      rcases O.mode with ⟨_, z, _⟩ | ⟨z, _⟩
      · exact z
      · rw [z] at h1
        cases h1
    · cases h
  | tix o i =>
    unfold chkG at h
    split at h
    · rw [Bool.and_eq_true, Bool.and_eq_true, Bool.not_eq_true'] at h
      exact g_tix O.B (okE O o _ h.2.1) (okE O i _ h.2.2) h.1
    · cases h
  | _ => (unfold chkG at h; cases h)
theorem okGs (O : Ok D N X W Γ k) : ∀ (c : C) (l : List Expr), chkGs D c l = true → PGs X l (sGs N X.K W (asgs Γ c)) ∧ l.all notStar = true := by
  intro c l h
  cases c with
  | nil =>
    unfold chkGs at h
    split at h
    · exact ⟨gs_nil, rfl⟩
    · cases h
  | cons a b =>
    unfold chkGs at h
    split at h
    · rw [Bool.and_eq_true, Bool.and_eq_true] at h
      obtain ⟨h1, h2, h3⟩ := h
      obtain ⟨g1, g2⟩ := okGs O b _ h3
      exact ⟨gs_cons (okG O a _ h2) g1 h1, by rw [List.all_cons, h1, g2]; rfl⟩
    · cases h
  | _ => (unfold chkGs at h; cases h)
end
theorem swapFree_ok {t e : Expr} {env : PySem.Env} (h : swapFree t e = true) : swappedStores [t] e env = pure none := by
  cases t with
  | Tuple ts a b =>
    cases e with
    | Tuple vs c d =>
      have h' : (!(ts.length == 2 || ts.length == 3) || !(vs.length == ts.length)) = true := h
      unfold swappedStores
      dsimp only
      refine if_pos ?_
      have : (vs.length != ts.length) = !(vs.length == ts.length) := rfl
      rw [this, h']
      rfl
    | _ => rfl
  | List _ _ => cases h
  | _ => rfl
theorem plainTg_star {t : Expr} (h : plainTg t = true) : notStar t = true := by
  cases t <;> first | rfl | cases h
theorem Ok.calm_ (O : Ok D N X W Γ k) (h : D.calm = true) : X.calm = true ∧ N.ex = none ∧ X.A.handled = none := by
  rcases O.mode with ⟨_, z⟩ | ⟨z, _⟩
  · exact z
  · rw [z] at h
    cases h
theorem okSet (O : Ok D N X W Γ k) {t c : C} {et e : Expr} {pos : Pos} (h : (plain1 D t c et e || (par2 D t c et e || par3 D t c et e)) = true) : PS X (.Assign [et] e pos) (sS N X.K W (evS Γ (.set t c))) := by
  rw [Bool.or_eq_true, Bool.or_eq_true] at h
  have nd : X.N.Nodup := by rw [O.ns]; exact O.nd
  rcases h with h | h | h
  · unfold plain1 at h
    simp only [Bool.and_eq_true, Bool.not_eq_true'] at h
    obtain ⟨h1, h2, h3, h4, h5⟩ := h
    exact x_set (okE O c e h5) (okG O t et h4) h2 (plainTg_star h1) (swapFree_ok h3)
  · unfold par2 at h
    split at h
    · simp only [Bool.and_eq_true, Bool.not_eq_true', decide_eq_true_eq] at h
      obtain ⟨h0, hb, h1, h2, h3, h4, h5, h6, h7, h8, h9⟩ := h
      obtain ⟨a1, a2, _⟩ := O.lcl h1
      obtain ⟨b1, b2, _⟩ := O.lcl h2
      exact x_par2 (O.calm_ h0).1 nd a1 b1 h3 (O.top hb).1 a2 b2 (okEs O _ _ h9).1 h5 h4 h6 h7 h8
    · cases h
  · unfold par3 at h
    split at h
    · simp only [Bool.and_eq_true, Bool.not_eq_true', decide_eq_true_eq] at h
      obtain ⟨h0, hb, h1, h2, h3, h4, h5, h6, h7, h8, h9, h10, h11, h12, h13, h14, h15⟩ := h
      obtain ⟨a1, a2, _⟩ := O.lcl h1
      obtain ⟨b1, b2, _⟩ := O.lcl h2
      obtain ⟨c1, c2, _⟩ := O.lcl h3
      exact x_par3 (O.calm_ h0).1 nd a1 b1 c1 h4 h5 h6 (O.top hb).1 a2 b2 c2 (okEs O _ _ h15).1 h10 h11 h7 h8 h9 h12 h13 h14
    · cases h

/-! ### raise -/
theorem x_rais (O : Ok D N X W Γ k) {c : Nat} {ces : C} {x : Str} {l : List Expr} {p1 p2 pos : Pos} (h : (D.calm && (D.cls_ c x && (chkEs D ces l && (match D.T.cls[c]? with
      | some q => (l.isEmpty == q.fs.isEmpty)
      | none => false)))) = true) : PS X (.Raise (some (.Call (.Name x p1) l [] p2)) none pos) (sS N X.K W (evS Γ (.rais c ces))) := by
  simp only [Bool.and_eq_true] at h
  obtain ⟨h1, h2, h3, h4⟩ := h
  obtain ⟨hc, hex, hh⟩ := O.calm_ h1
  obtain ⟨q, hq, hqn, g, d, m, hn, hfs, ix, hmem⟩ := O.cls_ h2
  rw [hq] at h4
  dsimp only at h4
  obtain ⟨g1, g2⟩ := okEs O ces l h3
  have room : Room 2 X.A := ⟨hh, by have := O.room.dp; omega, by have := O.room.un; omega⟩
  have flds : Γ.flds c = q.fs := by rw [O.md.xf.flds, hfs]
  have go : ∀ {D' : Ends} {σ : L2.St} {H : L2.Hp} {ρ : List Addr} {h : MH} {τ : MF}, RelH N X.K ρ h H → FR N X.K ρ H τ σ → PostS N X.K ρ H W D' (evS Γ (.rais c ces) τ h) → Post N X.K ρ H (fun c d H' => W c d σ H') (VRs N X.K) (evEs Γ ces τ h) fun vs H1 =>
      ∃ ρ1 h1 xs, RelH N X.K ρ1 h1 H1 ∧ FR N X.K ρ1 H1 τ σ ∧ VRs N X.K ρ1 H1 xs vs ∧ xs.length = q.fs.length ∧ xs.all dat = true ∧ PostS N X.K ρ1 H1 W D' (.ex c xs τ h1) := by
    intro D' σ H ρ h τ rh fr p
    unfold evS at p
    refine (PostS.go (rel := VRs N X.K) fr p).imp ?_
    rintro vs H1 ⟨ρ1, h1, xs, e1, rh1, r1, p1⟩
    split at p1
    · rename_i z
      rw [Bool.and_eq_true, Bool.and_eq_true] at z
      exact ⟨ρ1, h1, xs, rh1, fr.mono e1, r1, by rw [of_decide_eq_true z.1, flds], z.2.1, p1⟩
    · exact p1.elim
  rcases O.rs q hmem with ⟨r0, r1, r2, r3, r4⟩ | ⟨r0, r1, r2, r3, fI, fd, ps, r4, r5, r6, r7⟩
  · rw [hqn] at r1 r2 r3 r4
    cases l with
    | cons _ _ =>
      rw [r0] at h4
      cases h4
    | nil =>
      refine (L2N.ps_raise hc O.tk (pmk_own0 PySem.F.excBase_ValueError r1 m r2 (raises_own r3 r4) g d)).weak fun D' σ H ⟨ρ, h, τ, rh, fr, p⟩ => ?_
      cases ces with
      | nil =>
        have p2 := go rh fr p
        unfold evEs at p2
        obtain ⟨ρ1, h1, xs, rh1, fr1, rv, hl, hd, p3⟩ := p2.ok rh (by simp only [VRs] : VRs N X.K ρ H [] [])
        have := p3 ρ1 H σ [] none Ext.refl rh1 fr1 rv hd (.inl ⟨by rw [hfs]; exact r0, rfl⟩)
        rw [hn] at this
        exact this
      | _ => (unfold chkEs at h3; cases h3)
  · rw [hqn] at r3 r4 r6
    cases l with
    | nil =>
      exfalso
      cases hf : q.fs with
      | nil => exact r0 hf
      | cons _ _ =>
        rw [hf] at h4
        cases h4
    | cons e l =>
      rw [List.all_cons, Bool.and_eq_true] at g2
      refine (L2N.ps_raise hc O.tk (pmk_init r3 r4 r5 r6 r1 room r7 (fun pins σ H s e s' I cx => ?_) g m g1 d (star_of g2.1) (noStars g2.2))).weak fun D' σ H ⟨ρ, h, τ, rh, fr, p⟩ => ⟨ρ, h, τ, rh, fr, (go rh fr p).imp ?_⟩
      · obtain ⟨_, _, _, _, _, _, _, _, _, _, _, _, z⟩ := cx
        exact z.elim
      · rintro vs H1 ⟨ρ1, h1, xs, rh1, fr1, rv, hl, hd, p1⟩
        have lv : vs.length = q.fs.length := by rw [rv.length, hl]
        refine ⟨lv, by omega, fun dd hdd => ?_⟩
        have := p1 ρ1 (upd H1 dd (.xd (q.fs.zip vs))) σ vs (some dd) (Ext.newT hdd) (rh1.newT hdd) (fr1.mono (Ext.newT hdd)) (rv.mono (Ext.newT hdd)) hd (.inr ⟨by rw [hfs]; exact r0, dd, rfl, by rw [hfs]; exact upd_same, rh1.notin hdd⟩)
        rw [hn] at this
        exact this
end
end Mini
set_option Elab.async false
set_option linter.all false
set_option maxRecDepth 100000
set_option maxHeartbeats 4000000
/-! Mini against the model: statements, try, defs. -/
namespace Mini
open PySem PySem.Spec PyProof.Rows L2
open L2H (RoomH Hot1 PinOk HotC)
variable {Γ : Sys} {k : Nat}
/-- the context of a try's body -/
theorem Ok.tr {D : Dc} {N : Nm} {X : Cx} {W W' : WX} (O : Ok D N X W Γ k) (hc : D.calm = true) (pn : List (Addr × PySem.Obj)) (xe : Value → Shared → Prop) (tk : L2N.Takes (X.tr pn xe) W') (po : PassesOwn (model X.prog X.w) X.A X.env xe) : Ok D N (X.tr pn xe) W' Γ k :=
  ⟨⟨O.B.guards, O.B.un, O.B.sysm⟩, O.sc, O.ns, O.nd, O.fn, O.top, O.md, O.room, po, tk, (fun c a d h => by
    rw [(O.calm_ hc).2.1] at h
    cases h), O.mode, O.pr, O.rs⟩
/-- the context of an except suite -/
theorem Ok.suite {D : Dc} {N : Nm} {X : Cx} {W : WX} (O : Ok D N X W Γ k) {c : Nat} {a : Addr} {d : Option Addr} {oe : PySem.Obj} (pn : List (Addr × PySem.Obj)) (ix : Γ.isx c = true) (hz : L2N.Zn (.ref (He.ga X.K (N.cls c))) d oe) (hv : ∃ vs, oe.data = .fields vs) :
    Ok (hotOff D) (N.wex (some (c, a, d))) (X.suite a ((a, oe) :: pn)) (fun _ _ _ _ => False) Γ k := by
  refine ⟨⟨O.B.guards, O.B.un, O.B.sysm⟩, O.sc, O.ns, O.nd, O.fn, O.top, O.md.wex _, ⟨O.room.dp, O.room.un⟩, ?_, ?_, ?_, .inr ⟨rfl, _, rfl⟩, O.pr, O.rs⟩
  · exact PassesOwn.never
  · rintro u s' ⟨_, _, _, _, _, _, _, _, _, _, _, _, _, _, _, _, z⟩
    exact z.elim
  · intro c' a' d' h
    obtain ⟨vs, hv⟩ := hv
    have h' : some (c, a, d) = some (c', a', d') := h
    cases h'
    exact ⟨ix, oe, List.mem_cons_self, hz.zc, ⟨vs, hv⟩, rfl, vs, hv, hz.2.2 vs hv⟩
/-- what an except suite is to do -/
def tSu (N : Nm) (K : PySem.W.Frag) (Γ : Sys) (c : C) (a : Addr) (cls : Value) (d : Option Addr) : TS := fun D σ H => ∃ j, cls = .ref (He.ga K (N.cls j)) ∧ Γ.isx j = true ∧ (sS (N.wex (some (j, a, d))) K (fun _ _ _ _ => False) (evSs Γ c)) D σ H
theorem try_post {D : Dc} {N : Nm} {X : Cx} {W : WX} (O : Ok D N X W Γ k) (hc : D.calm = true) {cb cs : C} {c i : Nat} {De : Ends} {σ : L2.St} {H : L2.Hp} (ix : Γ.isx c = true) (q : (sS N X.K W (evS Γ (.try_ cb c i cs))) De σ H) :
    (sS N X.K (wAs X.K (.ref (He.ga X.K (N.cls c))) i (tSu N X.K Γ cs) W De) (evSs Γ cb)) De σ H := by
  obtain ⟨ρ, h, τ, rh, fr, p⟩ := q
  obtain ⟨_, hn, _⟩ := O.calm_ hc
  unfold evS at p
  refine ⟨ρ, h, τ, rh, fr, ?_⟩
  cases hb : evSs Γ cb τ h with
  | ex j fs τ1 h1 =>
    rw [hb] at p
    intro ρ1 H1 σ1 vs d e1 rh1 fr1 rv hd xd
    dsimp only at p
    split at p
    · rename_i z
      rw [Bool.and_eq_true] at z
      refine ⟨Γ.sub j c, O.md.exm j c z.1 z.2, fun hs a na => ?_, fun hs => ?_⟩
      · rw [if_pos hs] at p
        refine ⟨j, rfl, z.1, ρ1, h1, τ1.set i (some (.exn j fs)), rh1.sw, (fr1.calm hn).set i ?_, ?_⟩
        · simp only [VR]
          exact ⟨a, d, vs, rfl, rfl, rv.calm hn, hd, xd⟩
        · cases hs2 : evSs Γ cs (τ1.set i (some (.exn j fs))) h1 with
          | nx τ2 h2 =>
            rw [hs2] at p
            dsimp only at p
            split at p
            · rename_i zd
              intro ρ2 H2 σ2 e2 rh2 fr2
              have f3 : FR N X.K ρ2 H2 (τ2.set i none) (σ2.set i none) := by
                have f4 := FR.sw (e := none) zd (fr2.unset i)
                rw [wex_wex, Nm.wex_self hn] at f4
                exact f4
              have r3 : RelH N X.K ρ2 h2 H2 := by
                have r4 := rh2.sw (e := none)
                rw [wex_wex, Nm.wex_self hn] at r4
                exact r4
              exact p ρ2 H2 (σ2.set i none) (e1.trans e2) r3 f3
            · exact p.elim
          | rt v h2 =>
            rw [hs2] at p
            dsimp only at p
            split at p
            · rename_i zd
              intro ρ2 H2 u e2 rh2 r2
              have r3 : RelH N X.K ρ2 h2 H2 := by
                have r4 := rh2.sw (e := none)
                rw [wex_wex, Nm.wex_self hn] at r4
                exact r4
              have v3 : VR N X.K ρ2 H2 v u := by
                have v4 := VR.sw (e := none) v u zd r2
                rw [wex_wex, Nm.wex_self hn] at v4
                exact v4
              exact p ρ2 H2 u (e1.trans e2) r3 v3
            · exact p.elim
          | bk τ2 h2 =>
            rw [hs2] at p
            exact p.elim
          | ct τ2 h2 =>
            rw [hs2] at p
            exact p.elim
          | ex _ _ _ _ =>
            rw [hs2] at p
            exact p.elim
          | bad =>
            rw [hs2] at p
            exact p.elim
      · rw [if_neg (by rw [hs]; decide)] at p
        exact p ρ1 H1 σ1 vs d e1 rh1 fr1 rv hd xd
    · exact p.elim
  | nx τ1 h1 =>
    rw [hb] at p
    exact p
  | rt v h1 =>
    rw [hb] at p
    exact p
  | bk τ1 h1 =>
    rw [hb] at p
    exact p
  | ct τ1 h1 =>
    rw [hb] at p
    exact p
  | bad =>
    rw [hb] at p
    exact p
mutual
theorem okS : ∀ (c : C) {D : Dc} {N : Nm} {X : Cx} {W : WX}, Ok D N X W Γ k → ∀ (s : Stmt), chkS c D s = true → PS X s (sS N X.K W (evS Γ c)) := by
  intro c D N X W O s h
  cases c with
  | set t c =>
    unfold chkS at h
    split at h
    · exact okSet O h
    · cases h
  | ex c =>
    unfold chkS at h
    split at h
    · rw [Bool.and_eq_true, Bool.not_eq_true'] at h
      exact x_ex (okE O c _ h.2) h.1
    · cases h
  | ret c =>
    unfold chkS at h
    split at h
    · exact x_ret (okE O c _ h)
    · cases h
  | retn =>
    unfold chkS at h
    split at h
    · exact x_retn
    · cases h
  | pass =>
    unfold chkS at h
    split at h
    · exact x_pass
    · cases h
  | brk =>
    unfold chkS at h
    split at h
    · exact x_brk
    · cases h
  | cnt =>
    unfold chkS at h
    split at h
    · exact x_cnt
    · cases h
  | ite c a b =>
    unfold chkS at h
    split at h
    · rw [Bool.and_eq_true, Bool.and_eq_true] at h
      exact x_ite (okT O c _ h.1) (okSs a O _ h.2.1) (okSs b O _ h.2.2)
    · cases h
  | whl c b =>
    unfold chkS at h
    split at h
    · rw [Bool.and_eq_true] at h
      exact x_whl O.po (okT O c _ h.1) (okSs b O _ h.2)
    · cases h
  | for_ t it b =>
    unfold chkS at h
    split at h
    · simp only [Bool.and_eq_true] at h
      obtain ⟨h1, h2, h3, h4⟩ := h
      have hc := (O.calm_ h1).1
      split at h4
      · split at h4
        · simp only [Bool.and_eq_true] at h4
          obtain ⟨g1, g2, g3, g4⟩ := h4
          have e1 := of_decide_eq_true g2
          subst e1
          obtain ⟨f1, f2, f3⟩ := O.fre g1
          exact x_forR O.po hc f1 f3 (okE O _ _ g4) (okG O t _ h2) (okSs b O _ h3) g3
        · cases h4
      · simp only [Bool.and_eq_true, Bool.not_eq_true'] at h4
        exact x_for O.po hc (okE O _ _ h4.2) (okG O t _ h2) (okSs b O _ h3) h4.1
      · cases h4
    · cases h
  | rais c es =>
    unfold chkS at h
    split at h
    · exact x_rais O h
    · cases h
  | try_ b c i s =>
    unfold chkS at h
    split at h
    · simp only [Bool.and_eq_true] at h
      obtain ⟨h1, hb, h2, h3, h4, h5⟩ := h
      obtain ⟨_, hstk, hfr⟩ := O.top (by simpa using hb)
      obtain ⟨q, hq, hqn, g, d, m, hn, hfs, ix, hmem⟩ := O.cls_ h2
      obtain ⟨v1, v2, v3, v4⟩ := O.lcl h3
      refine (L2N.ps_try_as (tb := fun W' => sS N X.K W' (evSs Γ b)) (ts := tSu N X.K Γ s) (Wout := W) (c := .ref (He.ga X.K (N.cls c))) hstk hfr (by rw [O.ns]; exact O.nd) v1 v2 ⟨g, d, .inl (by rw [hn]; exact m)⟩ O.tk (fun W' pn xe tk po => okSs b (O.tr h1 pn xe tk po) _ h4) (fun a oe cls d pn hz hv => ?_)).weak fun De σ H qq => try_post O h1 ix qq
      refine ⟨fun pins s1 σ H De I qq => ?_⟩
      obtain ⟨j, rfl, jx, qq⟩ := qq
      exact (okSs s (O.suite pn jx hz hv) _ h5).run pins s1 σ H De I qq
    · cases h
  | _ => (unfold chkS at h; cases h)
theorem okSs : ∀ (c : C) {D : Dc} {N : Nm} {X : Cx} {W : WX}, Ok D N X W Γ k → ∀ (s : List Stmt), chkSs c D s = true → PSs X s (sS N X.K W (evSs Γ c)) := by
  intro c D N X W O s h
  cases c with
  | nil =>
    unfold chkSs at h
    split at h
    · exact x_snil
    · cases h
  | cons a b =>
    unfold chkSs at h
    split at h
    · rw [Bool.and_eq_true] at h
      exact x_scons (okS a O _ h.1) (okSs b O _ h.2)
    · cases h
  | _ => (unfold chkSs at h; cases h)
end
end Mini
set_option Elab.async false
set_option linter.all false
set_option maxRecDepth 100000
set_option maxHeartbeats 4000000
/-! Mini against the model: defs keep their meaning. -/
namespace Mini
open PySem PySem.Spec PyProof.Rows L2
open L2H (RoomH Hot1 PinOk HotC)
section
variable {P : Program} {w : World} {K : PySem.W.Frag} {mg : Str → Option Value} {base : Heap} {N : Nm} {T : Tab} {Γ : Sys} {k : Nat}
theorem start_rel {ρ : List Addr} {H : L2.Hp} {ws : List Val} {vs : List V} {ns : List Str} (r : VRs N K ρ H ws vs) : FR N K ρ H (ws.map some ++ List.replicate (ns.length - ws.length) none) (L2.start ns vs) := by
  have hl := r.length
  unfold L2.start
  refine ⟨by simp [hl], fun i x h => ?_⟩
  by_cases hi : i < ws.length
  · rw [List.getElem?_append_left (by simpa using hi), List.getElem?_map] at h
    cases hx : ws[i]? with
    | none =>
      rw [hx] at h
      cases h
    | some y =>
      rw [hx] at h
      cases h
      obtain ⟨v, hv, rv⟩ := r.get hx
      refine ⟨v, ?_, rv⟩
      rw [List.getElem?_append_left (by simp; omega), List.getElem?_map, hv]
      rfl
  · rw [List.getElem?_append_right (by simp; omega), List.getElem?_replicate] at h
    split at h <;> cases h
/-- what a def's text needs around it -/
structure Ar (P : Program) (w : World) (K : PySem.W.Frag) (mg : Str → Option Value) (base : Heap) (N : Nm) (T : Tab) (Γ : Sys) (k : Nat) : Prop where
  md : Md T N K mg Γ
  pr : ∀ i r, T.rows[i]? = some r → Prom P w K mg base (N.wex none) Γ.isx k (He.ga K r.name) (Γ.call i) ∧ (r.hot = true → ∀ e, Prom P w K mg base (N.wex (some e)) Γ.isx k (He.ga K r.name) (Γ.call i))
  rs : ∀ q ∈ T.cls, RaiseF P w K mg base q
  sysm : ∃ o es ep, base.get? sysModules = some o ∧ o.data = .dict es ep
def fnR (r : Row) : Fn := ⟨r.ps.length, r.ns.length, r.core⟩
theorem run_post {ρ : List Addr} {H : L2.Hp} {h : MH} {ws : List Val} {Q : VK} {E : XK} {r : Row} (hl : ws.length = r.ps.length) (p : Post N K ρ H E (VR N K) (runFn Γ (fnR r) ws h) Q) :
    PostS N K ρ H (fun c d _ H' => E c d H') { nx := fun _ H' => Q .non H', rt := Q } (evSs Γ r.core (ws.map some ++ List.replicate (r.ns.length - ws.length) none) h) := by
  unfold runFn at p
  rw [if_pos (show ws.length = (fnR r).np from hl)] at p
  have e : (fnR r).ns - (fnR r).np = r.ns.length - ws.length := by
    show r.ns.length - r.ps.length = _
    rw [hl]
  rw [e] at p
  have p' : Post N K ρ H E (VR N K) (match evSs Γ r.core (ws.map some ++ List.replicate (r.ns.length - ws.length) none) h with
    | .nx _ h1 => .ok .non h1
    | .rt v h1 => .ok v h1
    | .ex c fs _ h1 => .exc c fs h1
    | _ => .bad) Q := p
  cases hr : evSs Γ r.core (ws.map some ++ List.replicate (r.ns.length - ws.length) none) h with
  | nx τ h1 =>
    rw [hr] at p'
    exact fun ρ1 H1 σ1 e1 rh1 fr1 => p' ρ1 H1 .non e1 rh1 (by simp only [VR])
  | rt v h1 =>
    rw [hr] at p'
    exact p'
  | bk τ h1 =>
    rw [hr] at p'
    exact p'.elim
  | ct τ h1 =>
    rw [hr] at p'
    exact p'.elim
  | ex c fs τ h1 =>
    rw [hr] at p'
    exact fun ρ1 H1 σ1 vs d e1 rh1 fr1 rv hd xd => p' ρ1 H1 vs d e1 rh1 rv hd xd
  | bad =>
    rw [hr] at p'
    exact p'.elim
theorem prom_body {x qual : Str} {params : Arguments} {body : List Stmt} {scope : Scope} {f : Addr} {fd : FuncData} {r : Row} (F : FunD K x qual params body scope [] [] f fd)
    (hB : ∀ (kV doc pm : Value) (an : Option Addr) (cdv ct : Value) (us : List Value), us.length = r.ps.length → bindArgs (PySem.W.fnOf x qual params body scope .none kV doc pm an cdv ct) ⟨us, []⟩ = pure (r.ps.zip us))
    (hS : fnScopeB r.ns r.ps scope = true) (Ar1 : Ar P w K mg base N T Γ k) {calm : Bool} (hc : chkSs r.core ⟨T, scope, r.ns, calm, false, fun _ => true⟩ body = true) {e : Option (Nat × Addr × Option Addr)} (he : (calm = true ∧ e = none) ∨ (calm = false ∧ ∃ q, e = some q)) :
    Prom P w K mg base (N.wex e) Γ.isx (k + 1) f (runFn Γ (fnR r)) := by
  have hb := FunD.bindsN (ps := r.ps) F hB
  obtain ⟨oc, od, dV, kV, doc, pm, an, cdv, ct, osl, rfl, lk, hcd, _, _⟩ := F.ex
  have S := fnScope_of hS
  refine ⟨_, r.ps, hb, fun ws h hw => ?_, ?_⟩
  · unfold runFn
    exact if_neg hw
  intro A outer s H args us vs Q E room guards mode e0 hbind rv q
  obtain ⟨ρ, h, ws, rh, rw_, p⟩ := q
  have hwl : ws.length = r.ps.length := by
    by_cases z : ws.length = r.ps.length
    · exact z
    · unfold runFn at p
      rw [if_neg (show ¬ ws.length = (fnR r).np from z)] at p
      exact p.elim
  have hvl : vs.length = r.ps.length := by rw [rw_.length, hwl]
  have ps := run_post hwl p
  have fr0 : FR (N.wex e) K ρ H (ws.map some ++ List.replicate (r.ns.length - ws.length) none) (L2.start r.ns vs) := start_rel rw_
  have kin : K.In s.heap := e0.mod.kin.keeps fun b o z => (e0.bs b o z).1
  have room' : RoomH (k + 4) (A.deeper (envOfC qual scope s.heap.objs.size f cdv)) := L2H.RoomH.deeper (k := k + 4) (by have := room; rwa [show k + 4 + 1 = k + 1 + 4 by omega]) _
  have locs : ∀ y ∈ r.ps.zip us, scope.names.lookup y.1 = some .local ∨ (scope.names.lookup y.1 = some .cell ∧ ((cellsFrom (s.heap.objs.size + 1) scope.names []).lookup y.1).isSome = true) := fun ⟨n, v⟩ hy =>
    (S.par n (List.of_mem_zip hy).1).elim Or.inl fun z => .inr ⟨z, PySem.W.cellsFrom_some _ _ _ (.inl z)⟩
  have bkind : ∀ en : PySem.Env, en.scope = scope → en.blockKind = .function := fun en z => by
    unfold Env.blockKind
    rw [z, S.kind]
    rfl
  refine codeAny_call_function (L2H.RoomH.depth room) (kin _ _ lk) rfl S.co S.gen rfl (PySem.W.codeRec_of kin hcd) (hbind _ _ _ _ ?_)
  refine wpAny_newFunctionEnv_cells S.kind locs fun env hen s1 x1 => ?_
  subst hen
  refine ⟨(e0.mod.nolimit.keeps fun b o z => (e0.bs b o z).1).keeps x1.toInCall.keep, codeAny_func ?_⟩
  have fin : ∀ {X : Cx} (_ : X.prog = P) (_ : X.w = w) (_ : X.s_0 = s) (_ : X.H_0 = H) (_ : X.outer = outer) (_ : X.ex = []) {fl : Flow} {s' : Shared}, SP X [] { nx := fun _ H' => Q .non H', rt := Q } fl s' → ∃ u, (match fl with | .ret v => v | _ => .none) = u ∧ CE outer P w H s Q u s' := by
    intro X e1 e2 e3 e4 e5 e6 fl s' hs
    cases fl with
    | ret u =>
      obtain ⟨v, σ', H', J, r1, q1⟩ := hs
      refine ⟨u, rfl, v, H', by rw [← e3]; exact J.os, J.bare, ?_, by rw [← e1, ← e2]; exact J.hok, r1, q1⟩
      have := J.base
      rw [e3, e4, e6] at this
      rw [show X.fs = frs outer from by rw [← e5]] at this
      exact this
    | next =>
      obtain ⟨σ', H', J, q1⟩ := hs
      refine ⟨.none, rfl, .non, H', by rw [← e3]; exact J.os, J.bare, ?_, by rw [← e1, ← e2]; exact J.hok, rfl, q1⟩
      have := J.base
      rw [e3, e4, e6] at this
      rw [show X.fs = frs outer from by rw [← e5]] at this
      exact this
    | brk =>
      obtain ⟨_, _, _, z⟩ := hs
      exact False.elim z
    | cont =>
      obtain ⟨_, _, _, z⟩ := hs
      exact False.elim z
  rcases he with ⟨rfl, rfl⟩ | ⟨rfl, ⟨c, a, d⟩, rfl⟩
  · rcases mode with ⟨_, hh⟩ | ⟨_, _, _, _, z, _⟩
    · have O : Ok ⟨T, scope, r.ns, true, false, fun _ => true⟩ (N.wex none) (cxOf (L2N.CX P w) P w K mg base r.ns qual scope f cdv A outer s H E) (fun c d _ H' => E c d H') Γ k :=
        ⟨⟨guards, by have := room'.un; exact Nat.lt_of_le_of_lt (by show (A.deeper _).units + 200 ≤ (A.deeper _).units + 16 * (k + 4) + 200; omega) this, Ar1.sysm⟩, rfl, rfl, S.nd, (fun _ _ => rfl), (fun _ => ⟨bkind _ rfl, rfl, rfl⟩), Ar1.md.wex none, room', passes_of rfl, L2N.takes_of rfl rfl rfl rfl, (fun _ _ _ z => by cases z), .inl ⟨rfl, rfl, rfl, hh⟩, Ar1.pr, Ar1.rs⟩
      have I := inv_start (CX := L2N.CX P w) (E := E) S hh e0 hvl rv x1
      refine wpAny_mono ((okSs r.core O body hc).run [] s1 _ H _ I ⟨ρ, h, _, rh, fr0, ps⟩) (fun fl s' hs => ?_) fun er s' hs => hs
      obtain ⟨u, e1, hce⟩ := fin rfl rfl rfl rfl rfl rfl hs
      subst e1
      exact hce
    · cases z
  · rcases mode with ⟨z, _⟩ | ⟨c', a', d', oe, z, ix, hot, pin, hz, hv⟩
    · cases z
    · cases z
      have O : Ok ⟨T, scope, r.ns, false, false, fun _ => true⟩ (N.wex (some (c, a, d))) (L2H.cxH (L2N.CX P w) P w K mg base r.ns qual scope f cdv A outer s H E (a, oe)) (fun c d _ H' => E c d H') Γ k :=
        ⟨⟨guards, by have := room'.un; exact Nat.lt_of_le_of_lt (by show (A.deeper _).units + 200 ≤ (A.deeper _).units + 16 * (k + 4) + 200; omega) this, Ar1.sysm⟩, rfl, rfl, S.nd, (fun _ _ => rfl), (fun _ => ⟨bkind _ rfl, rfl, rfl⟩), Ar1.md.wex _, room', passes_of rfl, L2N.takes_of rfl rfl rfl rfl,
          (fun c2 a2 d2 z2 => by
            cases z2
            exact ⟨ix, oe, List.mem_cons_self, hz, hv, hot⟩), .inr ⟨rfl, _, rfl⟩, Ar1.pr, Ar1.rs⟩
      have I := L2H.inv_startH (CX := L2N.CX P w) (E := E) S pin e0 hvl rv x1
      refine wpAny_mono ((okSs r.core O body hc).run [] s1 _ H _ I ⟨ρ, h, _, rh, fr0, ps⟩) (fun fl s' hs => ?_) fun er s' hs => hs
      obtain ⟨u, e1, hce⟩ := fin rfl rfl rfl rfl rfl rfl hs
      subst e1
      exact hce
end
end Mini
set_option Elab.async false
set_option linter.all false
set_option maxRecDepth 100000
set_option maxHeartbeats 4000000
/-! Mini against the model: the end of a law. -/
namespace Mini
open PySem PySem.Spec PyProof.Rows L2
open L2H (RoomH Hot1 PinOk HotC)
/-! ### tables and names -/
structure Fam where
  ups : Nat → List Nat
def nmOf (T : Tab) : Nm := ⟨fun i => ((T.rows[i]?).map (·.name)).getD "", fun c => ((T.cls[c]?).map (·.name)).getD "", fun c => ((T.cls[c]?).map (·.fs)).getD [], none⟩
def prgOf (T : Tab) (F : Fam) : Prog := ⟨fun i => (T.rows[i]?).map fnR, fun c d => (F.ups c).contains d, fun c => ((T.cls[c]?).map (·.fs)).getD [], fun c => decide (c < T.cls.length)⟩
/-- a plain error class with a dict -/
def oexB (K : PySem.W.Frag) (C : Addr) : Bool := (match K.lookup C with
  | some ⟨.type t, _, .cls cd, sl⟩ => (match cd.mro, sl.toList with
    | .ref D :: tl, [_, _, _, _, some (.builtin m), _] => decide (t = "type") && (decide (D = C) && (decide (m = "ValueError.__new__") && (!cd.hasDel && (cd.hasDict && PySem.HandSPX.refsVE tl))))
    | _, _ => false)
  | _ => false) && (He.eqO (PySem.W.findIn K (.ref C) "__setattr__") (some (some (.builtin "object.__setattr__"))) && (decide (PySem.W.subIn K (.ref C) (.type "BaseException") = some true) && (decide (PySem.W.typeIn K (.ref C) = some (.type "type")) && PySem.W.keepIn K (.ref C))))
theorem oex_of {K : PySem.W.Frag} {C : Addr} (h : oexB K C = true) : OexC K C := by
  unfold oexB at h
  rw [Bool.and_eq_true, Bool.and_eq_true, Bool.and_eq_true, Bool.and_eq_true] at h
  obtain ⟨h1, h2, h3, h4, h5⟩ := h
  refine ⟨?_, He.eqO_ok h2, of_decide_eq_true h3, of_decide_eq_true h4, h5⟩
  split at h1
  · rename_i t od cd sl hlk
    split at h1
    · rename_i D tl k0 k1 k2 k3 m k5 hm hs
      simp only [Bool.and_eq_true, decide_eq_true_eq, Bool.not_eq_true'] at h1
      obtain ⟨e1, e2, e3, e4, e5, e6⟩ := h1
      obtain ⟨nm, bs, mro, ns, qn, hd, sn, sb, ab, col, del⟩ := cd
      dsimp only at hm e4 e5
      subst e1 e2 e3 hm e4 e5
      have hsl : sl = #[k0, k1, k2, k3, some (.builtin "ValueError.__new__"), k5] := by
        obtain ⟨l⟩ := sl
        exact congrArg Array.mk hs
      subst hsl
      exact ⟨nm, qn, ns, bs, tl, sn, sb, ab, col, od, k0, k1, k2, k3, k5, hlk, e6⟩
    · cases h1
  · cases h1
/-- what is asked of an error class -/
def clB (K : PySem.W.Frag) (q : Cl) : Bool :=
  (PySem.W.clsIn K (He.ga K q.name)).isSome && (He.eqO (PySem.W.findIn K (.ref (He.ga K q.name)) "__getattribute__") (some (some (.builtin "BaseException.__getattribute__"))) && (He.eqO (PySem.W.findIn K (.ref (He.ga K q.name)) "__getattr__") (some none) &&
  (decide (PySem.W.subIn K (.ref (He.ga K q.name)) (.type "BaseException") = some true) && (PySem.W.hasDictIn K (He.ga K q.name) && (He.eqO (PySem.W.findIn K (.ref (He.ga K q.name)) "__class__") (some (some (.builtin "object.__class__"))) &&
  (decide (PySem.W.mroIn K (He.ga K q.name) (.type "object") = some true) && ((excTypes.all fun n => decide (PySem.W.kitOne K (.ref (He.ga K q.name)) (.type n) = some true)) && ((q.fs.all fun f => He.eqO (PySem.W.findIn K (.ref (He.ga K q.name)) f) (some none)) &&
  (decide q.fs.Nodup && (decide (q.fs.length ≤ 900) && (He.eqO (PySem.W.nsIn K mainGlobals q.name) (some (some (.ref (He.ga K q.name)))) && (if q.fs.isEmpty then (He.Fa.exc q.name).ok K
    else oexB K (He.ga K q.name) && (He.eqO (PySem.W.findIn K (.ref (He.ga K q.name)) "__init__") (some (some (.ref (He.ma K (He.ga K q.name) "__init__")))) && decide (PySem.W.typeIn K (.ref (He.ma K (He.ga K q.name) "__init__")) = some (.type "function")))))))))))))))
def allCl (T : Tab) (F : Fam) (K : PySem.W.Frag) : Bool :=
  T.cls.all (clB K) && ((List.range T.cls.length).all fun c => (List.range T.cls.length).all fun d => decide (PySem.W.kitOne K (.ref (He.ga K ((nmOf T).cls c))) (.ref (He.ga K ((nmOf T).cls d))) = some ((F.ups c).contains d)) && decide (PySem.W.exmOne K (.ref (He.ga K ((nmOf T).cls c))) (.ref (He.ga K ((nmOf T).cls d))) = some ((F.ups c).contains d)))
/-- what is asked of the written part -/
def exB (T : Tab) (F : Fam) (K : PySem.W.Frag) : Bool :=
  allCl T F K && ((T.rows.all fun r => He.eqO (PySem.W.nsIn K mainGlobals r.name) (some (some (.ref (He.ga K r.name)))) && PySem.W.keepIn K (.ref (He.ga K r.name))) && ((T.free.all fun x => He.eqO (PySem.W.nsIn K mainGlobals x) (some none)) &&
  (decide (PySem.W.specialIn K (.builtin "object.__class__") "__get__" = some (some (.builtin "getset_descriptor.__get__"))) && decide (PySem.W.takesIn K (.builtin "object.__class__") = some true))))
section
variable {T : Tab} {F : Fam} {K : PySem.W.Frag} {h : Heap} {mg : Str → Option Value}
theorem cls_lt {c : Nat} (hc : c < T.cls.length) : ∃ q, T.cls[c]? = some q ∧ q ∈ T.cls ∧ (nmOf T).cls c = q.name ∧ (nmOf T).flds c = q.fs := by
  refine ⟨T.cls[c], List.getElem?_eq_getElem hc, List.getElem_mem hc, ?_, ?_⟩
  · show ((T.cls[c]?).map (·.name)).getD ("" : Str) = _
    rw [List.getElem?_eq_getElem hc]
    rfl
  · show ((T.cls[c]?).map (·.fs)).getD [] = _
    rw [List.getElem?_eq_getElem hc]
    rfl
theorem md_of (X : K.In h) (G : h.Ns mainGlobals mg) (c : exB T F K = true) (k : Nat) : Md T (nmOf T) K mg (sys (prgOf T F) k) := by
  have hsub : ∀ k, (sys (prgOf T F) k).sub = (prgOf T F).sub := fun k => by cases k <;> rfl
  have hisx : ∀ k, (sys (prgOf T F) k).isx = (prgOf T F).isx := fun k => by cases k <;> rfl
  have hfl : ∀ k, (sys (prgOf T F) k).flds = (prgOf T F).flds := fun k => by cases k <;> rfl
  unfold exB at c
  rw [Bool.and_eq_true, Bool.and_eq_true, Bool.and_eq_true] at c
  obtain ⟨c1, c2, c3, c4⟩ := c
  unfold allCl at c1
  rw [Bool.and_eq_true] at c1
  obtain ⟨c5, c6⟩ := c1
  have cl : ∀ q ∈ T.cls, clB K q = true := fun q hq => List.all_eq_true.mp c5 q hq
  have two : ∀ c d, c < T.cls.length → d < T.cls.length → PySem.W.kitOne K (.ref (He.ga K ((nmOf T).cls c))) (.ref (He.ga K ((nmOf T).cls d))) = some ((F.ups c).contains d) ∧ PySem.W.exmOne K (.ref (He.ga K ((nmOf T).cls c))) (.ref (He.ga K ((nmOf T).cls d))) = some ((F.ups c).contains d) := fun c d hc hd => by
    have := List.all_eq_true.mp (List.all_eq_true.mp c6 c (List.mem_range.mpr hc)) d (List.mem_range.mpr hd)
    rw [Bool.and_eq_true] at this
    exact ⟨of_decide_eq_true this.1, of_decide_eq_true this.2⟩
  have one : ∀ c, (sys (prgOf T F) k).isx c = true → c < T.cls.length := fun c hc => by
    rw [hisx] at hc
    exact of_decide_eq_true hc
  rw [Bool.and_eq_true] at c4
  have ga : ∀ (x : Str) (v : Value), He.eqO (PySem.W.nsIn K mainGlobals x) (some (some v)) = true → mg x = some v := fun x v z => PySem.W.mg_of X G (He.eqO_ok z)
  have pack : ∀ c, (sys (prgOf T F) k).isx c = true → ∃ q, T.cls[c]? = some q ∧ (nmOf T).cls c = q.name ∧ (nmOf T).flds c = q.fs ∧ clB K q = true := fun c hc => by
    obtain ⟨q, q1, q2, q3, q4⟩ := cls_lt (one c hc)
    exact ⟨q, q1, q3, q4, cl q q2⟩
  refine ⟨fun i r hr => ?_, fun i q hq => ?_, fun x hx => ?_, ?_, fun c d hc hd => ?_⟩
  · have z := List.all_eq_true.mp c2 r (List.mem_of_getElem? hr)
    rw [Bool.and_eq_true] at z
    refine ⟨?_, ga _ _ z.1, z.2⟩
    show ((T.rows[i]?).map (·.name)).getD ("" : Str) = _
    rw [hr]
    rfl
  · have lt := (List.getElem?_eq_some_iff.mp hq).1
    obtain ⟨q', q1, q2, q3, q4⟩ := cls_lt lt
    rw [hq] at q1
    cases q1
    have z := cl q q2
    unfold clB at z
    simp only [Bool.and_eq_true] at z
    refine ⟨q3, q4, ga _ _ z.2.2.2.2.2.2.2.2.2.2.2.1, ?_⟩
    rw [hisx]
    exact decide_eq_true lt
  · exact PySem.W.mg_none_of X G (He.eqO_ok (List.all_eq_true.mp c3 x hx))
  · refine ⟨fun c hc => ?_, fun c hc => ?_, fun c hc => ?_, fun c hc => ?_, fun c hc => ?_, fun c hc => ?_, fun c hc => ?_, of_decide_eq_true c4.1, of_decide_eq_true c4.2, fun c d hc hd => ?_, fun c n hc hn => ?_, fun c f hc hf => ?_, ?_, fun c => ?_⟩
    · obtain ⟨q, q1, q2, q3, z⟩ := pack c hc
      unfold clB at z
      simp only [Bool.and_eq_true] at z
      rw [q2]
      exact z.1
    · obtain ⟨q, q1, q2, q3, z⟩ := pack c hc
      unfold clB at z
      simp only [Bool.and_eq_true] at z
      rw [q2]
      exact He.eqO_ok z.2.1
    · obtain ⟨q, q1, q2, q3, z⟩ := pack c hc
      unfold clB at z
      simp only [Bool.and_eq_true] at z
      rw [q2]
      exact He.eqO_ok z.2.2.1
    · obtain ⟨q, q1, q2, q3, z⟩ := pack c hc
      unfold clB at z
      simp only [Bool.and_eq_true] at z
      rw [q2]
      exact of_decide_eq_true z.2.2.2.1
    · obtain ⟨q, q1, q2, q3, z⟩ := pack c hc
      unfold clB at z
      simp only [Bool.and_eq_true] at z
      rw [q2]
      exact z.2.2.2.2.1
    · obtain ⟨q, q1, q2, q3, z⟩ := pack c hc
      unfold clB at z
      simp only [Bool.and_eq_true] at z
      rw [q2]
      exact He.eqO_ok z.2.2.2.2.2.1
    · obtain ⟨q, q1, q2, q3, z⟩ := pack c hc
      unfold clB at z
      simp only [Bool.and_eq_true] at z
      rw [q2]
      exact of_decide_eq_true z.2.2.2.2.2.2.1
    · rw [hsub]
      exact (two c d (one c hc) (one d hd)).1
    · obtain ⟨q, q1, q2, q3, z⟩ := pack c hc
      unfold clB at z
      simp only [Bool.and_eq_true] at z
      rw [q2]
      have w := z.2.2.2.2.2.2.2.1
      exact of_decide_eq_true (List.all_eq_true.mp w n (List.contains_iff_mem.mp hn))
    · obtain ⟨q, q1, q2, q3, z⟩ := pack c hc
      unfold clB at z
      simp only [Bool.and_eq_true] at z
      rw [q2]
      rw [q3] at hf
      exact He.eqO_ok (List.all_eq_true.mp z.2.2.2.2.2.2.2.2.1 f hf)
    · rw [hfl]
      rfl
    · by_cases hc : c < T.cls.length
      · obtain ⟨q, q1, q2, q3, q4⟩ := cls_lt hc
        have z := cl q q2
        unfold clB at z
        simp only [Bool.and_eq_true] at z
        rw [q4]
        exact of_decide_eq_true z.2.2.2.2.2.2.2.2.2.1
      · show (((T.cls[c]?).map (·.fs)).getD ([] : List Str)).Nodup
        rw [List.getElem?_eq_none (Nat.le_of_not_lt hc)]
        exact List.nodup_nil
  · rw [hsub]
    exact (two c d (one c hc) (one d hd)).2
end
/-! ### parameters -/
def plainArgs (ps : List Str) (p : Arguments) : Bool := p.posonlyargs.isEmpty && (decide (p.args.map (·.arg) = ps) && (p.vararg.isNone && (p.kwonlyargs.isEmpty && (p.kwarg.isNone && decide ps.Nodup))))
theorem zip_some {n : Str} : ∀ {ps : List Str} {us : List Value}, us.length = ps.length → n ∈ ps → ((ps.zip us).lookup n).isNone = false
  | [], us, _, h => by cases h
  | p :: ps, [], hl, _ => by cases hl
  | p :: ps, u :: us, hl, h => by
    rw [List.zip_cons_cons, List.lookup_cons]
    cases hq : (n == p) with
    | true => rfl
    | false =>
      refine zip_some (ps := ps) (us := us) (by simpa using hl) ?_
      rcases List.mem_cons.mp h with z | z
      · rw [z, beq_self_eq_true] at hq
        cases hq
      · exact z
theorem fm_congr {α β : Type} {f g : α → Option β} : ∀ {l : List α}, (∀ x ∈ l, f x = g x) → l.filterMap f = l.filterMap g
  | [], _ => rfl
  | x :: l, h => by rw [List.filterMap_cons, List.filterMap_cons, h x List.mem_cons_self, fm_congr fun y hy => h y (List.mem_cons_of_mem _ hy)]
theorem zip_slots : ∀ {ps : List Str} {us : List Value}, ps.Nodup → us.length = ps.length → (ps.filterMap fun n => ((ps.zip us).lookup n).map fun x => (n, x)) = ps.zip us
  | [], us, _, _ => rfl
  | p :: ps, [], _, hl => by cases hl
  | p :: ps, u :: us, nd, hl => by
    have ih := zip_slots (ps := ps) (us := us) (List.nodup_cons.mp nd).2 (by simpa using hl)
    have np := (List.nodup_cons.mp nd).1
    have e : (ps.filterMap fun n => (((p :: ps).zip (u :: us)).lookup n).map fun x => (n, x)) = ps.filterMap fun n => ((ps.zip us).lookup n).map fun x => (n, x) := by
      refine fm_congr fun n hn => ?_
      have ne : (n == p) = false := beq_eq_false_iff_ne.mpr fun z => np (z ▸ hn)
      rw [List.zip_cons_cons, List.lookup_cons, ne]
    rw [List.filterMap_cons, e, ih, List.zip_cons_cons, List.lookup_cons, beq_self_eq_true]
    rfl
theorem bind_plain {fd : FuncData} {ps : List Str} {us : List Value} (hp : plainArgs ps fd.params = true) (hd : fd.defaults = .none) (hl : us.length = ps.length) : bindArgs fd ⟨us, []⟩ = pure (ps.zip us) := by
  unfold plainArgs at hp
  simp only [Bool.and_eq_true, decide_eq_true_eq, List.isEmpty_iff, Option.isNone_iff_eq_none] at hp
  obtain ⟨h1, h2, h3, h4, h5, h6⟩ := hp
  unfold bindArgs
  simp only [h1, h2, h3, h4, h5, hd]
  have e1 : (seqItems? Value.none : Sem (Option (Array Value))) = pure none := rfl
  simp [e1, hl]
  have e2 : List.filter (fun n => (List.lookup n (ps.zip us)).isNone) ps = [] := by
    rw [List.filter_eq_nil_iff]
    intro n hn z
    rw [zip_some hl hn] at z
    cases z
  have e3 : (List.filter (fun n => (List.lookup n (ps.zip us)).isNone) (List.take ((List.map (fun x : PySem.Arg => x.arg) [] ++ ps).length - (List.drop ((#[] : Array Value).size - (List.map (fun x : PySem.Arg => x.arg) [] ++ ps).length) ([] : List Value)).length) (List.map (fun x : PySem.Arg => x.arg) [] ++ ps))).isEmpty = true := by
    rw [List.isEmpty_iff, List.filter_eq_nil_iff]
    intro n hn z
    have hn2 : n ∈ ps := by
      have := List.mem_of_mem_take hn
      simpa using this
    rw [zip_some hl hn2] at z
    cases z
  refine (if_neg ?_).trans ?_
  · rw [e3]
    decide
  · rw [zip_slots h6 hl]

/-! ### the defs of a table -/
def stOf (P : Program) (i : Nat) : Stmt := P.main.body.getD i (.Pass ⟨0, 0, 0, 0⟩)
def iniSt (s : Stmt) : Stmt := match s with
  | .ClassDef _ _ _ b _ _ _ _ _ _ _ => b.headD (.Pass ⟨0, 0, 0, 0⟩)
  | _ => .Pass ⟨0, 0, 0, 0⟩
def rowD (P : Program) (r : Row) : He.DefD := ⟨(r.name, none), r.name, r.name, defArgs (stOf P r.at_), defBody (stOf P r.at_), defScope (stOf P r.at_), [], []⟩
def clD (P : Program) (q : Cl) : He.DefD := ⟨(q.name, some "__init__"), "__init__", q.name ++ ".__init__", defArgs (iniSt (stOf P q.at_)), defBody (iniSt (stOf P q.at_)), defScope (iniSt (stOf P q.at_)), [], []⟩
def fnOfT (P : Program) (T : Tab) : List He.DefD := T.rows.map (rowD P) ++ (T.cls.filter fun q => !q.fs.isEmpty).map (clD P)
def rowOk (P : Program) (T : Tab) (r : Row) : Bool := fnScopeB r.ns r.ps (defScope (stOf P r.at_)) && (plainArgs r.ps (defArgs (stOf P r.at_)) && (chkSs r.core ⟨T, defScope (stOf P r.at_), r.ns, true, false, fun _ => true⟩ (defBody (stOf P r.at_)) && (!r.hot || chkSs r.core ⟨T, defScope (stOf P r.at_), r.ns, false, false, fun _ => true⟩ (defBody (stOf P r.at_)))))
def iniOk (sc : Scope) (args : Arguments) (body : List Stmt) (fs : List Str) : Bool := match args.args.map (·.arg) with
  | self :: ps => plainArgs (self :: ps) args && (fnScopeB (self :: ps) (self :: ps) sc && (allLocal sc (self :: ps) && (chkInit self fs ps body && decide (ps.length = fs.length))))
  | [] => false
def clOk (P : Program) (q : Cl) : Bool := q.fs.isEmpty || iniOk (defScope (iniSt (stOf P q.at_))) (defArgs (iniSt (stOf P q.at_))) (defBody (iniSt (stOf P q.at_))) q.fs
def tabOk (P : Program) (T : Tab) : Bool := T.rows.all (rowOk P T) && T.cls.all (clOk P)
section
variable {T : Tab} {F : Fam} {K : PySem.W.Frag} {h : Heap} {mg : Str → Option Value} {P : Program} {w : World} {base : Heap} {fa : List He.Fa}
theorem row_fun (c : He.SaysD fa (fnOfT P T) K) {r : Row} (hr : r ∈ T.rows) : ∃ fd, FunD K r.name r.name (defArgs (stOf P r.at_)) (defBody (stOf P r.at_)) (defScope (stOf P r.at_)) [] [] (He.ga K r.name) fd :=
  c.defs (d := rowD P r) (List.mem_append_left _ (List.mem_map.mpr ⟨r, hr, rfl⟩))
theorem cl_fun (c : He.SaysD fa (fnOfT P T) K) {q : Cl} (hq : q ∈ T.cls) (hf : q.fs.isEmpty = false) : ∃ fd, FunD K "__init__" (q.name ++ ".__init__") (defArgs (iniSt (stOf P q.at_))) (defBody (iniSt (stOf P q.at_))) (defScope (iniSt (stOf P q.at_))) [] [] (He.ma K (He.ga K q.name) "__init__") fd :=
  c.defs (d := clD P q) (List.mem_append_right _ (List.mem_map.mpr ⟨q, List.mem_filter.mpr ⟨hq, by rw [hf]; rfl⟩, rfl⟩))
theorem raise_of (c : He.SaysD fa (fnOfT P T) K) (t : tabOk P T = true) (e : exB T F K = true) : ∀ q ∈ T.cls, RaiseF P w K mg base q := fun q hq => by
  unfold tabOk at t
  rw [Bool.and_eq_true] at t
  have t2 := List.all_eq_true.mp t.2 q hq
  unfold exB allCl at e
  rw [Bool.and_eq_true, Bool.and_eq_true] at e
  have z := List.all_eq_true.mp e.1.1 q hq
  unfold clB at z
  simp only [Bool.and_eq_true] at z
  have zf := z.2.2.2.2.2.2.2.2.1
  have znd := of_decide_eq_true z.2.2.2.2.2.2.2.2.2.1
  have z9 := of_decide_eq_true z.2.2.2.2.2.2.2.2.2.2.1
  have zl := z.2.2.2.2.2.2.2.2.2.2.2.2
  cases hf : q.fs.isEmpty with
  | true =>
    rw [hf] at zl
    obtain ⟨a1, a2, a3, a4⟩ := He.exc_ok (show (He.Fa.exc q.name).ok K = true from zl)
    exact .inl ⟨List.isEmpty_iff.mp hf, a1, a2, a3, a4⟩
  | false =>
    rw [hf] at zl
    have zl' : (oexB K (He.ga K q.name) && (He.eqO (PySem.W.findIn K (.ref (He.ga K q.name)) "__init__") (some (some (.ref (He.ma K (He.ga K q.name) "__init__")))) && decide (PySem.W.typeIn K (.ref (He.ma K (He.ga K q.name) "__init__")) = some (.type "function")))) = true := zl
    simp only [Bool.and_eq_true] at zl'
    obtain ⟨y1, y2, y3⟩ := zl'
    unfold clOk at t2
    rw [hf, Bool.false_or] at t2
    unfold iniOk at t2
    split at t2
    · rename_i self ps hargs
      simp only [Bool.and_eq_true, decide_eq_true_eq] at t2
      obtain ⟨w1, w2, w3, w4, w5⟩ := t2
      obtain ⟨fd, FD⟩ := cl_fun c hq hf
      have ox := oex_of y1
      cases hfs : q.fs with
      | nil =>
        rw [hfs] at hf
        cases hf
      | cons f0 fs =>
        rw [hfs] at w4 w5 z9 zf znd
        refine .inr ⟨(by simp [hfs]), by rw [hfs]; exact znd, by rw [hfs]; exact z9, ox, _, fd, self :: ps, He.eqO_ok y2, of_decide_eq_true y3, ?_, ?_⟩
        · rw [hfs]
          exact init_ok FD ox w2 w3 w4 w5 z9 fun g hg => He.eqO_ok (List.all_eq_true.mp zf g hg)
        · exact FunD.bindsN (ps := self :: ps) FD fun kV doc pm an cdv ct us hl => bind_plain w1 rfl hl
    · cases t2
/-- every def of the table keeps its meaning, k calls deep -/
theorem ar_all (X : K.In h) (G : h.Ns mainGlobals mg) (c : He.SaysD fa (fnOfT P T) K) (t : tabOk P T = true) (e : exB T F K = true) (sysm : ∃ o es ep, base.get? sysModules = some o ∧ o.data = .dict es ep) : ∀ k, Ar P w K mg base (nmOf T) T (sys (prgOf T F) k) k := by
  have rows : ∀ r ∈ T.rows, rowOk P T r = true := by
    unfold tabOk at t
    rw [Bool.and_eq_true] at t
    exact fun r hr => List.all_eq_true.mp t.1 r hr
  have bnd : ∀ r ∈ T.rows, ∀ (kV doc pm : Value) (an : Option Addr) (cdv ct : Value) (us : List Value), us.length = r.ps.length → bindArgs (PySem.W.fnOf r.name r.name (defArgs (stOf P r.at_)) (defBody (stOf P r.at_)) (defScope (stOf P r.at_)) .none kV doc pm an cdv ct) ⟨us, []⟩ = pure (r.ps.zip us) := fun r hr kV doc pm an cdv ct us hl => by
    have z := rows r hr
    unfold rowOk at z
    simp only [Bool.and_eq_true] at z
    exact bind_plain z.2.1 rfl hl
  intro k
  induction k with
  | zero =>
    refine ⟨md_of X G e 0, fun i r hr => ?_, raise_of c t e, sysm⟩
    have never : ∀ N' : Nm, Prom P w K mg base N' (sys (prgOf T F) 0).isx 0 (He.ga K r.name) ((sys (prgOf T F) 0).call i) := fun N' => by
      obtain ⟨fd, FD⟩ := row_fun c (List.mem_of_getElem? hr)
      refine ⟨fd, r.ps, FunD.bindsN (ps := r.ps) FD (bnd r (List.mem_of_getElem? hr)), fun _ _ _ => rfl, ?_⟩
      rintro A outer s H args us vs Q E _ _ _ _ _ _ ⟨ρ, h, ws, _, _, p⟩
      exact p.elim
    exact ⟨never _, fun _ _ => never _⟩
  | succ k ih =>
    refine ⟨md_of X G e (k + 1), fun i r hr => ?_, raise_of c t e, sysm⟩
    have mem := List.mem_of_getElem? hr
    obtain ⟨fd, FD⟩ := row_fun c mem
    have z := rows r mem
    unfold rowOk at z
    simp only [Bool.and_eq_true, Bool.or_eq_true, Bool.not_eq_true'] at z
    obtain ⟨z1, z2, z3, z4⟩ := z
    have ec : (sys (prgOf T F) (k + 1)).call i = runFn (sys (prgOf T F) k) (fnR r) := by
      funext xs h
      show (match (T.rows[i]?).map fnR with
        | some f => runFn (sys (prgOf T F) k) f xs h
        | none => .bad) = _
      rw [hr]
      rfl
    have ei : (sys (prgOf T F) (k + 1)).isx = (sys (prgOf T F) k).isx := by cases k <;> rfl
    rw [ec, ei]
    refine ⟨prom_body FD (bnd r mem) z1 ih z3 (.inl ⟨rfl, rfl⟩), fun hh q => ?_⟩
    rcases z4 with y | y
    · rw [y] at hh
      cases hh
    · exact prom_body FD (bnd r mem) z1 ih y (.inr ⟨rfl, q, rfl⟩)
end
end Mini
set_option Elab.async false
set_option linter.all false
set_option maxRecDepth 100000
set_option maxHeartbeats 4000000
/-! Mini against the model: a law's last step. -/
namespace Mini
open PySem PySem.Spec PyProof.Rows L2
open L2H (RoomH Hot1 PinOk HotC)
def sysB (g : Addr → Option PySem.Obj) : Bool := match g sysModules with
  | some o => (match o.data with
    | .dict _ _ => true
    | _ => false)
  | none => false
abbrev AlM : Type := He.AlD × Bool
def obsM (n : Nat) (fa : List He.Fa) (fn : List He.DefD) (ex : PySem.W.Frag → Bool) (g : Addr → Option PySem.Obj) : AlM := (He.obsDG n fa fn g, ex (He.frG g (He.asD g n)) && sysB g)
def SaysM (fa : List He.Fa) (fn : List He.DefD) (ex : PySem.W.Frag → Bool) (h : Heap) : Prop := ∃ K : PySem.W.Frag, K.In h ∧ He.SaysD fa fn K ∧ ex K = true ∧ ∃ o es ep, h.get? sysModules = some o ∧ o.data = .dict es ep
theorem sysB_ok {g : Addr → Option PySem.Obj} (h : sysB g = true) : ∃ o es ep, g sysModules = some o ∧ o.data = .dict es ep := by
  unfold sysB at h
  split at h
  · rename_i o ho
    split at h
    · rename_i es ep hd
      exact ⟨o, es, ep, ho, hd⟩
    · cases h
  · cases h
def hookM (n : Nat) (fa : List He.Fa) (fn : List He.DefD) (ex : PySem.W.Frag → Bool) : PySem.W.Hook where
  α := AlM
  obs := fun s => obsM n fa fn ex s.heap.get?
  val := fun _ => (He.valD fn, true)
  says := fun _ h => SaysM fa fn ex h
  of := fun _ s e => by
    have e1 : He.obsDG n fa fn s.heap.get? = He.valD fn := congrArg Prod.fst e
    have e2 : (ex (He.frG s.heap.get? (He.asD s.heap.get? n)) && sysB s.heap.get?) = true := congrArg Prod.snd e
    rw [Bool.and_eq_true] at e2
    exact ⟨_, He.frG_in, e1, e2.1, sysB_ok e2.2⟩
  keeps := fun _ _ _ ⟨K, hK, c, x, o, es, ep, h1, h2⟩ k => ⟨K, PySem.W.Frag.In.keeps hK k, c, x, o, es, ep, k _ _ h1, h2⟩
theorem obsM_eq {n : Nat} {fa : List He.Fa} {fn : List He.DefD} {ex : PySem.W.Frag → Bool} {g : Addr → Option PySem.Obj} {s : Shared} (h : ∀ a, g a = s.heap.get? a) : obsM n fa fn ex g = (hookM n fa fn ex).obs s := by
  have e : g = s.heap.get? := funext h
  rw [e]
  rfl
/-- the law's script, nothing else in Mini's heap -/
theorem script_rel {N : Nm} {K : PySem.W.Frag} {H : L2.Hp} {a : Addr} {ns : List Int} (hO : Only H) (hS : SqL K H a (ns.map V.int)) : VR N K [] H (.fl (ns.map Val.int)) (.ref a) := by
  have allInts : ∀ l : List Int, VRs N K [] H (l.map Val.int) (l.map V.int) := fun l => by
    induction l with
    | nil => simp only [List.map_nil, VRs]
    | cons i l ih =>
      simp only [List.map_cons, VRs]
      exact ⟨_, _, rfl, by simp only [VR], ih⟩
  have dd : (ns.map Val.int).all dat = true := by
    rw [List.all_eq_true]
    intro x hx
    obtain ⟨i, _, rfl⟩ := List.mem_map.mp hx
    rfl
  simp only [VR]
  refine ⟨a, _, rfl, ?_, allInts ns, dd⟩
  rcases hS with (z | ⟨o, z⟩) | z
  · rcases hO a with y | ⟨o, xs, y⟩
    · rw [y] at z
      cases z
    · rw [y] at z
      cases z
  · exact .inl ⟨⟨o, z⟩, by simp⟩
  · exact .inr z
section
variable {P : Program} {w : World} {K : PySem.W.Frag} {mg mb : Str → Option Value} {k : Nat} {fa a : Addr} {s₁ : Shared} {vs : List Value} {ns : List Int} {N : Nm} {isx : Nat → Bool} {m : List Val → MH → Res Val}
theorem law_end (KX : K.In s₁.heap) (hns : s₁.heap.Ns mainGlobals mg) (hb : s₁.heap.Ns builtinsNs mb) (hbb : ∀ x : Str, x ≠ "__name__" → mb x = bootBuiltins x) (hlim : s₁.heap.NoLimit) (hg : s₁.gens = #[])
    (ha : s₁.heap.get? a = some { cls := .type "list", data := .seq vs.toArray }) (hi : IntsAre vs ns) (hl : ns.length ≤ sizeLine) (hr : RoomH (k + 4) callerA) (hN : N.ex = none) (hsys : ∃ o es ep, s₁.heap.get? sysModules = some o ∧ o.data = .dict es ep)
    (F : ∀ base : Heap, K.In base → base.Ns mainGlobals mg → (∃ o es ep, base.get? sysModules = some o ∧ o.data = .dict es ep) → Prom P w K mg base N isx k fa m) (hm : ∃ h', m [.fl (ns.map Val.int)] [] = .ok (.bl true) h') :
    codeAny (model P w) callerA (.call (.ref fa) ⟨[.ref a], []⟩) (fun r s' => r = .ok (.ret (.bool true)) ∧ OldK s₁.heap s'.heap ∧ s'.os = s₁.os ∧ AllBare s'.gens) s₁ := by
  have rv := vals_ints hi
  have lenV := hi.length
  have main : ∀ H : L2.Hp, Only H → SqL K H a (ns.map V.int) → HOk P w H s₁.heap → (∀ b, H b ≠ none → b = a) → (H a ≠ none → K.lookup a = none) →
      codeAny (model P w) callerA (.call (.ref fa) ⟨[.ref a], []⟩) (fun r s' => r = .ok (.ret (.bool true)) ∧ OldK s₁.heap s'.heap ∧ s'.os = s₁.os ∧ AllBare s'.gens) s₁ := by
    intro H hO hS hok hA hK
    have none_of : ∀ {b : Addr} {o : PySem.Obj}, s₁.heap.get? b = some o → b ≠ a → H b = none := fun {b o} _ ne => by
      cases q : H b with
      | none => rfl
      | some u => exact absurd (hA b (by rw [q]; simp)) ne
    have dict_free : ∀ {b : Addr} {o : PySem.Obj} {es : Array DictEntry} {ep : Nat}, s₁.heap.get? b = some o → o.data = .dict es ep → H b = none := fun {b o es ep} e d => none_of e fun z => by
      rw [z, ha] at e
      cases e
      cases d
    have ns_base : ∀ {b : Addr} {f : Str → Option Value}, s₁.heap.Ns b f → (hidT s₁.heap H).Ns b f := fun {b f} ⟨o, es, ep, e, d, r⟩ => ⟨o, es, ep, hidT_get e (dict_free e d), d, r⟩
    have K_base : K.In (hidT s₁.heap H) := fun b o e => hidT_get (KX b o e) (by
      by_cases hba : b = a
      · cases q : H b with
        | none => rfl
        | some u =>
          rw [hba] at q e
          rw [hK (by rw [q]; simp)] at e
          cases e
      · exact none_of (KX b o e) hba)
    have sys_base : ∃ o es ep, (hidT s₁.heap H).get? sysModules = some o ∧ o.data = .dict es ep := by
      obtain ⟨o, es, ep, e, d⟩ := hsys
      exact ⟨o, es, ep, hidT_get e (dict_free e d), d⟩
    have md : Mod K mg (hidT s₁.heap H) := ⟨K_base, ns_base hns, ⟨mb, ns_base hb, hbb⟩, by
      obtain ⟨mc, h1, h2⟩ := hlim
      exact ⟨mc, ns_base h1, h2⟩⟩
    have e0 : Env0 P w K mg (hidT s₁.heap H) callerA [] s₁ H := ⟨rfl, md, fun b o e => of_hidT e, Nat.le_of_eq (hidT_size _ _), trivial, (fun b hb => by cases hb), hok, .of_eq hg⟩
    obtain ⟨fd, ps, hbind, ar, run⟩ := F _ K_base (ns_base hns) sys_base
    obtain ⟨h', hm⟩ := hm
    have l1 : ps.length = 1 := by
      by_cases z : ([.fl (ns.map Val.int)] : List Val).length = ps.length
      · exact z.symm
      · rw [ar _ [] z] at hm
        cases hm
    have bd := hbind s₁ [.ref a] KX (by rw [l1]; rfl)
    rw [List.append_nil] at bd
    have sp : SpM N K m [.ref a] H (fun v _ => v = .bl true) (fun _ _ _ => False) := by
      refine ⟨[], [], [.fl (ns.map Val.int)], ⟨rfl, List.nodup_nil, fun i b o e => by simp at e⟩, ?_, ?_⟩
      · simp only [VRs]
        exact ⟨_, _, rfl, script_rel hO hS, rfl⟩
      · rw [hm]
        intro ρ' H' v _ _ r
        simpa only [VR] using r
    refine codeAny_mono (run callerA [] s₁ H ⟨[.ref a], []⟩ [.ref a] [.ref a] _ _ hr rfl (.inl ⟨hN, rfl⟩) e0 bd (.cons rfl .nil) sp) fun r s' z => ?_
    cases r with
    | error e =>
      obtain ⟨_, _, _, _, _, _, _, _, _, _, _, _, y⟩ := z
      exact y.elim
    | ok fl =>
      cases fl with
      | next => exact False.elim z
      | brk => exact False.elim z
      | cont => exact False.elim z
      | ret u =>
        obtain ⟨v, H', os, bare, un, hok', r1, q⟩ := z
        have q1 : v = .bl true := q
        rw [q1] at r1
        have r2 : u = Value.bool true := r1
        rw [r2]
        refine ⟨rfl, OldK.of_keep fun b o e => ?_, os, bare⟩
        cases y : H b with
        | none => exact un.keep b o e y (fun t => by cases t) (by simp)
        | some x =>
          rcases hO b with t | ⟨ob, xs, t⟩
          · rw [y] at t
            cases t
          · obtain ⟨e1, _⟩ := hok b _ t
            obtain ⟨e2, _⟩ := hok' b _ (un.frzs b ob _ t)
            rw [e] at e1
            cases e1
            exact e2
  cases hk : K.lookup a with
  | some o =>
    have e := KX a o hk
    rw [ha] at e
    cases e
    exact main (fun _ => none) (fun _ => .inl rfl) (.inr ⟨_, vs.toArray, _, hk, rfl, rfl, rfl, by rw [List.size_toArray, lenV]; exact hl, by simpa using rv⟩) (fun b u z => by cases z) (fun b z => absurd rfl z) fun z => absurd rfl z
  | none =>
    refine main (fun b => if b = a then some (.frz { cls := .type "list", data := .seq vs.toArray } (.lst (ns.map V.int))) else none) (fun b => ?_) (.inl (.inr ⟨{ cls := .type "list", data := .seq vs.toArray }, if_pos rfl⟩)) (fun b u z => ?_) (fun b z => ?_) fun _ => hk
    · by_cases hba : b = a
      · exact .inr ⟨_, _, if_pos hba⟩
      · exact .inl (if_neg hba)
    · by_cases hba : b = a
      · have y := (if_pos hba).symm.trans z
        cases y
        rw [hba]
        exact ⟨ha, by rw [List.length_map]; exact hl, vs, _, rv, ha⟩
      · have y := (if_neg hba).symm.trans z
        cases y
    · by_cases hba : b = a
      · exact hba
      · exact absurd (if_neg hba) z
end
/-- a law whose meaning in Mini is True at every script -/
theorem walk_mini {l : PySem.W.OpenLaw} {n k i : Nat} {q : Program} {loose : List Str} {XP : (Str → Option Value) → Heap → Prop} {d : DefRec} {T : Tab} {F : Fam} {fa : List He.Fa} {r : Row} {wd : World → Heap → Prop}
    (hwd : wd = fun _ h => SaysM fa (fnOfT l.prog T) (exB T F) h) (hn : l.most = some n) (hn2 : n ≤ sizeLine) (hdf : d.params.defaults = []) (hr : RoomH (k + 4) callerA) (hT : tabOk l.prog T = true) (hi : T.rows[i]? = some r) (hd : d.name = r.name)
    (hm : ∀ ns : List Int, ns.length ≤ n → ∃ h', (sys (prgOf T F) k).call i [.fl (ns.map Val.int)] [] = .ok (.bl true) h') : PySem.W.WalkO q loose XP wd l.row.toRowW d [] (fun f vs => PySem.call f vs) := by
  subst hwd
  refine Att.attach_call hn hdf fun w s₀ s₁ mg mb f o pm cd doc a vs ns G Y ho hd2 hcd hmg hobj hints hlen hg => ?_
  obtain ⟨K, KX, c, x, sy⟩ := Y
  have AR := fun (base : Heap) (sb : ∃ o es ep, base.get? sysModules = some o ∧ o.data = .dict es ep) => ar_all (w := w) (base := base) KX G.T.g c hT x sb k
  have ef : f = He.ga K r.name := by
    obtain ⟨_, z, _⟩ := (md_of KX G.T.g x k).fnN i r hi
    rw [hd, z] at hmg
    cases hmg
    rfl
  rw [ef]
  exact law_end (N := (nmOf T).wex none) KX G.T.g G.T.b G.T.builtins G.T.nolimit hg hobj hints (Nat.le_trans hlen hn2) hr rfl sy (fun base _ _ sb => ((AR base sb).pr i r hi).1) (hm ns hlen)
end Mini
set_option Elab.async false
set_option linter.all false
set_option maxRecDepth 100000
set_option maxHeartbeats 4000000
/-! Mini alone: how long a repr is. -/
namespace Mini
open PySem
def goodS (s : Str) : Prop := ∀ c ∈ s.cps.toList, c < 1114112
theorem good_app {a b : Str} (x : goodS a) (y : goodS b) : goodS (a ++ b) := by
  intro c hc
  have h : c ∈ (a.cps ++ b.cps).toList := hc
  rw [Array.toList_append] at h
  rcases List.mem_append.mp h with z | z
  · exact x c z
  · exact y c z
theorem char_lt (c : Char) : c.toNat < 1114112 := by
  have h := c.valid
  show c.val.toNat < _
  rcases h with h | ⟨_, h⟩
  · have : c.val.toNat < 55296 := h
    omega
  · exact h
theorem good_of (s : String) : goodS (Str.ofString s) := by
  intro c hc
  rw [Str.ofString_eq_toList] at hc
  simp only [List.mem_map] at hc
  obtain ⟨d, _, rfl⟩ := hc
  exact char_lt d
theorem good_hex {c w : Nat} : ∀ d ∈ List.replicate (w - ((Nat.toDigits 16 c).map Char.toNat).length) 48 ++ (Nat.toDigits 16 c).map Char.toNat, d < 1114112 := by
  intro d hd
  rcases List.mem_append.mp hd with z | z
  · rw [(List.mem_replicate.mp z).2]
    decide
  · obtain ⟨e, _, rfl⟩ := List.mem_map.mp z
    exact char_lt e
theorem good_char {q c : Nat} (hc : c < 1114112) : ∀ d ∈ Builtin.Str.reprChar q c, d < 1114112 := by
  intro d hd
  unfold Builtin.Str.reprChar at hd
  dsimp only at hd
  repeat' split at hd
  all_goals simp only [List.mem_cons, List.mem_append, List.not_mem_nil, or_false] at hd
  all_goals first
    | (rcases hd with rfl | rfl <;> first | exact hc | decide)
    | (rw [hd]; exact hc)
    | (rcases hd with (rfl | rfl) | z; decide; decide; exact good_hex d (List.mem_append.mpr z))
theorem good_fold {q : Nat} : ∀ (l : List Nat) (acc : Array Nat), (∀ c ∈ l, c < 1114112) → (∀ c ∈ acc.toList, c < 1114112) → ∀ c ∈ (l.foldl (fun out c => out ++ (Builtin.Str.reprChar q c).toArray) acc).toList, c < 1114112
  | [], acc, _, h => h
  | x :: l, acc, h1, h2 => by
    refine good_fold l _ (fun c hc => h1 c (List.mem_cons_of_mem _ hc)) fun c hc => ?_
    rw [Array.toList_append] at hc
    rcases List.mem_append.mp hc with z | z
    · exact h2 c z
    · exact good_char (h1 x List.mem_cons_self) c z
theorem quote_lt (x : Str) : reprQuote x < 1114112 := by
  unfold reprQuote
  split <;> decide
theorem good_repr {x : Str} (h : goodS x) : goodS (reprText x) := by
  intro c hc
  unfold reprText at hc
  simp only [Array.toList_push] at hc
  rcases List.mem_append.mp hc with z | z
  · rw [← Array.foldl_toList] at z
    refine good_fold x.cps.toList #[reprQuote x] h (fun d hd => ?_) c z
    simp only [List.mem_singleton] at hd
    rw [hd]
    exact quote_lt x
  · rw [List.mem_singleton.mp z]
    exact quote_lt x
def sumL (ts : List Str) : Nat := ts.foldr (fun t n => t.length + 2 + n) 0
theorem text_le : ∀ (ts : List Str) (k : Nat) (acc : Str), (textFrom k acc ts).length ≤ acc.length + sumL ts
  | [], k, acc => Nat.le_refl _
  | t :: ts, k, acc => by
    have ih := text_le ts (k + 1) (acc ++ (if k > 0 then ", " else "" : String) ++ t)
    have e : (acc ++ (if k > 0 then ", " else "" : String) ++ t).length ≤ acc.length + 2 + t.length := by
      rw [strLen_append, strLen_append]
      split
      · have : ((", " : String) : Str).length = 2 := rfl
        omega
      · have : (("" : String) : Str).length = 0 := rfl
        omega
    have e2 : sumL (t :: ts) = t.length + 2 + sumL ts := rfl
    rw [e2]
    exact Nat.le_trans ih (by omega)
theorem text_good : ∀ (ts : List Str) (k : Nat) (acc : Str), (∀ t ∈ ts, goodS t) → goodS acc → goodS (textFrom k acc ts)
  | [], k, acc, _, h => h
  | t :: ts, k, acc, h1, h2 => text_good ts (k + 1) _ (fun x hx => h1 x (List.mem_cons_of_mem _ hx)) (good_app (good_app h2 (good_of _)) (h1 t List.mem_cons_self))
theorem join_le : ∀ ts : List Str, (Str.join ", " ts).length ≤ sumL ts
  | [] => Nat.zero_le _
  | [x] => by
    show x.length ≤ x.length + 2 + 0
    omega
  | x :: y :: r => by
    have ih := join_le (y :: r)
    show (x ++ ((", " : String) : Str) ++ Str.join ", " (y :: r)).length ≤ x.length + 2 + sumL (y :: r)
    rw [strLen_append, strLen_append]
    have : ((", " : String) : Str).length = 2 := rfl
    omega
theorem join_good : ∀ ts : List Str, (∀ t ∈ ts, goodS t) → goodS (Str.join ", " ts)
  | [], _ => fun c hc => by cases hc
  | [x], h => h x List.mem_cons_self
  | x :: y :: r, h => good_app (good_app (h x List.mem_cons_self) (good_of _)) (join_good (y :: r) fun t ht => h t (List.mem_cons_of_mem _ ht))
/-! sizes -/
mutual
def sz : PyData → Nat
  | .none => 4
  | .bool _ => 5
  | .int i => i.natAbs.log2 + 3
  | .str x => 10 * x.length + 2
  | .list xs => szs xs + 2
  | .tuple xs => szs xs + 3
  | .dict kvs => szk kvs + 2
def szs : List PyData → Nat
  | [] => 0
  | x :: xs => sz x + 2 + szs xs
def szk : List (PyData × PyData) → Nat
  | [] => 0
  | (k, v) :: r => sz k + sz v + 4 + szk r
end
mutual
/-- every text in it is a text -/
def txt : PyData → Prop
  | .str x => goodS x
  | .list xs => txts xs
  | .tuple xs => txts xs
  | .dict kvs => txtk kvs
  | _ => True
def txts : List PyData → Prop
  | [] => True
  | x :: xs => txt x ∧ txts xs
def txtk : List (PyData × PyData) → Prop
  | [] => True
  | (k, v) :: r => txt k ∧ txt v ∧ txtk r
end
mutual
theorem shown_le : ∀ d : PyData, txt d → d.shown.length ≤ sz d ∧ goodS d.shown
  | .none, _ => ⟨by simp only [PyData.shown, sz]; decide, by simp only [PyData.shown]; exact good_of _⟩
  | .bool b, _ => by
    cases b
    · exact ⟨by simp only [PyData.shown, sz]; decide, by simp only [PyData.shown]; exact good_of _⟩
    · exact ⟨by simp only [PyData.shown, sz]; decide, by simp only [PyData.shown]; exact good_of _⟩
  | .int i, _ => by
    simp only [PyData.shown, sz]
    refine ⟨?_, good_of _⟩
    have := int_text_length_le (a := i) (k := i.natAbs.log2 + 1) (by omega) (by omega)
    rw [Str.ofString_eq_toList]
    show ((toString i).toList.map Char.toNat).toArray.size ≤ _
    rw [List.size_toArray, List.length_map]
    have e : (toString i).toList.length = (toString i).length := rfl
    omega
  | .str x, h => by
    simp only [txt] at h
    simp only [PyData.shown, sz]
    exact ⟨PySem.StrLaws.reprText_len x (fun c hc => Nat.lt_trans (h c hc) (by decide)), good_repr h⟩
  | .list xs, h => by
    simp only [txt] at h
    obtain ⟨a, b⟩ := showns_le xs h
    simp only [PyData.shown, sz]
    unfold listText
    refine ⟨?_, good_app (text_good _ _ _ b (good_of _)) (good_of _)⟩
    rw [strLen_append]
    have := text_le (PyData.shownAll xs) 0 "["
    have e1 : (("[" : String) : Str).length = 1 := rfl
    have e2 : (("]" : String) : Str).length = 1 := rfl
    omega
  | .tuple xs, h => by
    simp only [txt] at h
    obtain ⟨a, b⟩ := showns_le xs h
    simp only [PyData.shown, sz]
    unfold tupleText
    refine ⟨?_, good_app (good_app (good_of _) (join_good _ b)) (good_of _)⟩
    rw [strLen_append, strLen_append]
    have := join_le (PyData.shownAll xs)
    have e1 : (("(" : String) : Str).length = 1 := rfl
    have e2 : ((if (PyData.shownAll xs).length == 1 then ",)" else ")" : String) : Str).length ≤ 2 := by
      split <;> decide
    omega
  | .dict kvs, h => by
    simp only [txt] at h
    obtain ⟨a, b⟩ := showk_le kvs h
    simp only [PyData.shown, sz]
    unfold dictText
    refine ⟨?_, good_app (good_app (good_of _) (join_good _ b)) (good_of _)⟩
    rw [strLen_append, strLen_append]
    have := join_le (PyData.shownKv kvs)
    have e1 : (("{" : String) : Str).length = 1 := rfl
    have e2 : (("}" : String) : Str).length = 1 := rfl
    omega
theorem showns_le : ∀ ds : List PyData, txts ds → sumL (PyData.shownAll ds) ≤ szs ds ∧ ∀ t ∈ PyData.shownAll ds, goodS t
  | [], _ => ⟨by simp only [PyData.shownAll, szs]; exact Nat.le_refl _, fun t ht => by simp only [PyData.shownAll] at ht; cases ht⟩
  | x :: xs, h => by
    simp only [txts] at h
    obtain ⟨a1, b1⟩ := shown_le x h.1
    obtain ⟨a2, b2⟩ := showns_le xs h.2
    simp only [PyData.shownAll, szs]
    refine ⟨?_, fun t ht => ?_⟩
    · show (PyData.shown x).length + 2 + sumL (PyData.shownAll xs) ≤ _
      omega
    · rcases List.mem_cons.mp ht with z | z
      · rw [z]
        exact b1
      · exact b2 t z
theorem showk_le : ∀ ds : List (PyData × PyData), txtk ds → sumL (PyData.shownKv ds) ≤ szk ds ∧ ∀ t ∈ PyData.shownKv ds, goodS t
  | [], _ => ⟨by simp only [PyData.shownKv, szk]; exact Nat.le_refl _, fun t ht => by simp only [PyData.shownKv] at ht; cases ht⟩
  | (k, v) :: r, h => by
    simp only [txtk] at h
    obtain ⟨a1, b1⟩ := shown_le k h.1
    obtain ⟨a2, b2⟩ := shown_le v h.2.1
    obtain ⟨a3, b3⟩ := showk_le r h.2.2
    simp only [PyData.shownKv, szk]
    refine ⟨?_, fun t ht => ?_⟩
    · show (PyData.shown k ++ ((": " : String) : Str) ++ PyData.shown v).length + 2 + sumL (PyData.shownKv r) ≤ _
      rw [strLen_append, strLen_append]
      have e1 : ((": " : String) : Str).length = 2 := rfl
      omega
    · rcases List.mem_cons.mp ht with z | z
      · rw [z]
        exact good_app (good_app b1 (good_of _)) b2
      · exact b3 t z
end
theorem good_ok {x : Str} (h : goodS x) : PyData.strOk x = true := by
  unfold PyData.strOk
  rw [Array.all_eq_true']
  intro c hc
  exact decide_eq_true (h c (Array.mem_def.mp hc))
end Mini
set_option Elab.async false
set_option linter.all false
set_option maxRecDepth 100000
set_option maxHeartbeats 4000000
/-! Mini alone: running a text by rewriting. -/
namespace Mini
open PySem
def bd {α β : Type} (m : MH → Res α) (f : α → MH → Res β) (h : MH) : Res β := (m h).bind f
def gd {α : Type} (m : MH → Res α) (f : α → MH → Out) (σ : MF) (h : MH) : Out := (m h).go σ f
def sq (r : MF → MH → Out) (f : MF → MH → Out) (σ : MF) (h : MH) : Out := (r σ h).seq f
def iteF (t : Bool) (f g : MH → Out) (h : MH) : Out := if t then f h else g h
def iteR (t : Option Bool) (f g : MH → Res Val) (h : MH) : Res Val := match t with
  | some true => f h
  | some false => g h
  | none => .bad
def andF (m : MH → Res Val) (x : Val) (h : MH) : Res Val := match x with
  | .bl true => m h
  | .bl false => .ok (.bl false) h
  | _ => .bad
def orF (m : MH → Res Val) (x : Val) (h : MH) : Res Val := match x with
  | .bl true => .ok (.bl true) h
  | .bl false => m h
  | _ => .bad
def gR {α : Type} (c : Bool) (m : MH → Res α) (h : MH) : Res α := if c then m h else .bad
def tryF (Γ : Sys) (c i : Nat) (s : MF → MH → Out) (r : Out) : Out := match r with
  | .ex d fs σ1 h1 => if Γ.isx d && Γ.isx c then (if Γ.sub d c then (match s (σ1.set i (some (.exn d fs))) h1 with
      | .nx σ2 h2 => if (σ2.set i none).all datO then .nx (σ2.set i none) h2 else .bad
      | .rt v h2 => if dat v then .rt v h2 else .bad
      | _ => .bad) else .ex d fs σ1 h1) else .bad
  | r => r
variable {Γ : Sys} {σ : MF} {h h1 h2 : MH}
@[simp] theorem bd_ {α β : Type} {m : MH → Res α} {f : α → MH → Res β} : bd m f h = (m h).bind f := rfl
@[simp] theorem gd_ {α : Type} {m : MH → Res α} {f : α → MH → Out} : gd m f σ h = (m h).go σ f := rfl
@[simp] theorem sq_ {r f : MF → MH → Out} : sq r f σ h = (r σ h).seq f := rfl
@[simp] theorem iteF_t {f g : MH → Out} : iteF true f g h = f h := rfl
@[simp] theorem iteF_f {f g : MH → Out} : iteF false f g h = g h := rfl
@[simp] theorem iteR_t {f g : MH → Res Val} : iteR (some true) f g h = f h := rfl
@[simp] theorem iteR_f {f g : MH → Res Val} : iteR (some false) f g h = g h := rfl
@[simp] theorem andF_t {f : MH → Res Val} : andF f (.bl true) h = f h := rfl
@[simp] theorem andF_f {f : MH → Res Val} : andF f (.bl false) h = .ok (.bl false) h := rfl
@[simp] theorem orF_t {f : MH → Res Val} : orF f (.bl true) h = .ok (.bl true) h := rfl
@[simp] theorem orF_f {f : MH → Res Val} : orF f (.bl false) h = f h := rfl
@[simp] theorem gR_t {α : Type} {m : MH → Res α} : gR true m h = m h := rfl
@[simp] theorem b_ok {α β : Type} {x : α} {f : α → MH → Res β} : (Res.ok x h).bind f = f x h := rfl
@[simp] theorem b_ex {α β : Type} {c : Nat} {fs : List Val} {f : α → MH → Res β} : (Res.exc c fs h : Res α).bind f = .exc c fs h := rfl
@[simp] theorem g_ok {α : Type} {x : α} {f : α → MH → Out} : (Res.ok x h).go σ f = f x h := rfl
@[simp] theorem g_ex {α : Type} {c : Nat} {fs : List Val} {f : α → MH → Out} : (Res.exc c fs h : Res α).go σ f = .ex c fs σ h := rfl
@[simp] theorem q_nx {f : MF → MH → Out} : (Out.nx σ h).seq f = f σ h := rfl
@[simp] theorem q_rt {v : Val} {f : MF → MH → Out} : (Out.rt v h).seq f = .rt v h := rfl
@[simp] theorem q_bk {f : MF → MH → Out} : (Out.bk σ h).seq f = .bk σ h := rfl
@[simp] theorem q_ct {f : MF → MH → Out} : (Out.ct σ h).seq f = .ct σ h := rfl
@[simp] theorem q_ex {c : Nat} {fs : List Val} {f : MF → MH → Out} : (Out.ex c fs σ h).seq f = .ex c fs σ h := rfl
@[simp] theorem o_s {x : Val} : ofOpt (some (x, h)) = .ok x h := rfl
@[simp] theorem v_s {α : Type} {x : α} : ofVal (some x) h = .ok x h := rfl
variable {a b c e es o it t s : C} {i k : Nat}
def vF (x : Option (Option Val)) (h : MH) : Res Val := match x with
  | some (some x) => .ok x h
  | _ => .bad
@[simp] theorem vF_ {x : Val} : vF (some (some x)) h = .ok x h := rfl
@[simp] theorem E_v : evE Γ (.v i) σ h = vF σ[i]? h := by
  unfold evE vF
  rfl
@[simp] theorem E_ki {z : Int} : evE Γ (.ki z) σ h = .ok (.int z) h := by unfold evE; rfl
@[simp] theorem E_ks {z : Str} : evE Γ (.ks z) σ h = .ok (.str z) h := by unfold evE; rfl
@[simp] theorem E_kb {z : Bool} : evE Γ (.kb z) σ h = .ok (.bl z) h := by unfold evE; rfl
@[simp] theorem E_kn : evE Γ .kn σ h = .ok .non h := by unfold evE; rfl
@[simp] theorem E_gv {w : Val} : evE Γ (.gv w) σ h = .ok w h := by unfold evE; rfl
def opF (o : BOp) (x y : Val) (h : MH) : Res Val := ofOpt (bop o h x y)
@[simp] theorem opF_ {o : BOp} {x y : Val} : opF o x y h = ofOpt (bop o h x y) := rfl
@[simp] theorem E_op {o : BOp} : evE Γ (.op o a b) σ h = bd (evE Γ a σ) (fun x => bd (evE Γ b σ) (opF o x)) h := by unfold evE; rfl
def negF (x : Val) (h : MH) : Res Val := match x with
  | .int i => .ok (.int (-i)) h
  | _ => .bad
@[simp] theorem negF_ {z : Int} : negF (.int z) h = .ok (.int (-z)) h := rfl
@[simp] theorem E_neg : evE Γ (.neg a) σ h = bd (evE Γ a σ) negF h := by unfold evE; rfl
@[simp] def cmF (o : COp) (x y : Val) (h : MH) : Res Val := ofVal ((cop o h x y).map .bl) h
theorem cmF_ {o : COp} {x y : Val} {z : Bool} (hz : cop o h x y = some z) : cmF o x y h = .ok (.bl z) h := by
  unfold cmF
  rw [hz]
  rfl
@[simp] theorem E_cm {o : COp} : evE Γ (.cm o a b) σ h = bd (evE Γ a σ) (fun x => bd (evE Γ b σ) (cmF o x)) h := by unfold evE; rfl
@[simp] theorem E_and : evE Γ (.and a b) σ h = bd (evE Γ a σ) (andF (evE Γ b σ)) h := by
  unfold evE bd
  cases evE Γ a σ h with
  | ok x h =>
    cases x with
    | bl c => cases c <;> rfl
    | _ => rfl
  | exc c fs h => rfl
  | bad => rfl
@[simp] theorem E_or : evE Γ (.or a b) σ h = bd (evE Γ a σ) (orF (evE Γ b σ)) h := by
  unfold evE bd
  cases evE Γ a σ h with
  | ok x h =>
    cases x with
    | bl c => cases c <;> rfl
    | _ => rfl
  | exc c fs h => rfl
  | bad => rfl
def notF (x : Val) (h : MH) : Res Val := match x with
  | .bl b => .ok (.bl (!b)) h
  | _ => .bad
@[simp] theorem notF_ {z : Bool} : notF (.bl z) h = .ok (.bl (!z)) h := rfl
@[simp] theorem E_not : evE Γ (.not a) σ h = bd (evE Γ a σ) notF h := by unfold evE; rfl
def ifF (f g : MH → Res Val) (x : Val) (h : MH) : Res Val := iteR (tru h x) f g h
@[simp] theorem ifF_ {f g : MH → Res Val} {x : Val} : ifF f g x h = iteR (tru h x) f g h := rfl
@[simp] theorem E_ifx : evE Γ (.ifx c a b) σ h = bd (evE Γ c σ) (ifF (evE Γ a σ) (evE Γ b σ)) h := by
  unfold evE bd
  cases evE Γ c σ h with
  | ok x h1 =>
    show (match tru h1 x with
      | some true => evE Γ a σ h1
      | some false => evE Γ b σ h1
      | none => .bad) = iteR (tru h1 x) _ _ h1
    cases tru h1 x with
    | none => rfl
    | some b => cases b <;> rfl
  | exc c fs h => rfl
  | bad => rfl
@[simp] def tupF (xs : List Val) (h : MH) : Res Val := if fits xs.length && xs.all dat then .ok (.tup xs) h else .bad
theorem tupF_ {xs : List Val} (g : (fits xs.length && xs.all dat) = true) : tupF xs h = .ok (.tup xs) h := if_pos g
@[simp] theorem E_tup : evE Γ (.tup es) σ h = bd (evEs Γ es σ) tupF h := by unfold evE; rfl
@[simp] def lstF (xs : List Val) (h : MH) : Res Val := if fits xs.length && xs.all dat then ofOpt (alloc h (.lst xs)) else .bad
theorem lstF_ {xs : List Val} (g : (fits xs.length && xs.all dat) = true) : lstF xs h = .ok (.ref h.length) (h ++ [.lst xs]) := if_pos g
@[simp] theorem E_lst : evE Γ (.lst es) σ h = bd (evEs Γ es σ) lstF h := by unfold evE; rfl
@[simp] def dctF (xs : List Val) (h : MH) : Res Val := ofOpt (newDic h xs)
@[simp] theorem E_dct : evE Γ (.dct es) σ h = bd (evEs Γ es σ) dctF h := by unfold evE; rfl
@[simp] def ixF (x y : Val) (h : MH) : Res Val := ofVal (getIx h x y) h
theorem ixF_ {x y z : Val} (g : getIx h x y = some z) : ixF x y h = .ok z h := by
  unfold ixF
  rw [g]
  rfl
@[simp] theorem E_ix : evE Γ (.ix a b) σ h = bd (evE Γ a σ) (fun x => bd (evE Γ b σ) (ixF x)) h := by unfold evE; rfl
@[simp] theorem E_call {f : Nat} : evE Γ (.call f es) σ h = bd (evEs Γ es σ) (Γ.call f) h := by unfold evE; rfl
@[simp] def biF (Γ : Sys) (z : Bi) (xs : List Val) (h : MH) : Res Val := ofOpt (biV Γ z h xs)
theorem biF_ {z : Bi} {xs : List Val} {w : Val} (g : biV Γ z h xs = some (w, h1)) : biF Γ z xs h = .ok w h1 := by
  unfold biF
  rw [g]
  rfl
@[simp] theorem E_blt {z : Bi} : evE Γ (.blt z es) σ h = bd (evEs Γ es σ) (biF Γ z) h := by unfold evE; rfl
@[simp] def mtF (m : Mt) (x : Val) (es : MH → Res (List Val)) (h : MH) : Res Val := if mtTy m h x then bd es (fun xs h2 => ofOpt (mtV m h2 x xs)) h else .bad
theorem mtF_ {m : Mt} {x : Val} {es : MH → Res (List Val)} (g : mtTy m h x = true) : mtF m x es h = bd es (fun xs h2 => ofOpt (mtV m h2 x xs)) h := if_pos g
@[simp] theorem E_mth {m : Mt} : evE Γ (.mth m o es) σ h = bd (evE Γ o σ) (fun x => mtF m x (evEs Γ es σ)) h := by
  unfold evE
  rfl
@[simp] def fldF (Γ : Sys) (f : Str) (x : Val) (h : MH) : Res Val := ofVal (getFld Γ.flds h x f) h
theorem fldF_ {f : Str} {x z : Val} (g : getFld Γ.flds h x f = some z) : fldF Γ f x h = .ok z h := by
  unfold fldF
  rw [g]
  rfl
@[simp] theorem E_fld {f : Str} : evE Γ (.fld o f) σ h = bd (evE Γ o σ) (fldF Γ f) h := by unfold evE; rfl
@[simp] theorem Es_nil : evEs Γ .nil σ h = .ok [] h := by unfold evEs; rfl
@[simp] def cons2 (x : Val) (xs : List Val) (h : MH) : Res (List Val) := .ok (x :: xs) h
@[simp] def consF (m : MH → Res (List Val)) (x : Val) (h : MH) : Res (List Val) := (m h).bind (cons2 x)
@[simp] theorem Es_cons : evEs Γ (.cons a b) σ h = bd (evE Γ a σ) (consF (evEs Γ b σ)) h := by
  show evEs Γ (.cons a b) σ h = (evE Γ a σ h).bind _
  rw [evEs]
  rfl
@[simp] def truF (x : Val) (h : MH) : Res Bool := ofVal (tru h x) h
theorem truF_ {x : Val} {z : Bool} (g : tru h x = some z) : truF x h = .ok z h := by
  unfold truF
  rw [g]
  rfl
@[simp] theorem T_ : evT Γ c σ h = bd (evE Γ c σ) truF h := rfl
/-! statements -/
@[simp] theorem G_tv {x : Val} : asg Γ (.tv i) x σ h = .nx (σ.set i (some x)) h := by unfold asg; rfl
@[simp] theorem G_tt {x : List Val} (g : x.length = lenC c) : asg Γ (.tt c) (.tup x) σ h = asgs Γ c x σ h := by
  unfold asg
  exact if_pos g
@[simp] theorem Gs_nil : asgs Γ .nil [] σ h = .nx σ h := by unfold asgs; rfl
@[simp] theorem Gs_cons {x : Val} {xs : List Val} : asgs Γ (.cons a b) (x :: xs) σ h = (asg Γ a x σ h).seq (asgs Γ b xs) := by
  rw [asgs]
@[simp] def putF (x y z : Val) (σ : MF) (h : MH) : Out := match putIx h y z x with
  | some h3 => .nx σ h3
  | none => .bad
theorem putF_ {x y z : Val} (g : putIx h y z x = some h1) : putF x y z σ h = .nx σ h1 := by
  unfold putF
  rw [g]
@[simp] theorem G_tix {x : Val} : asg Γ (.tix a b) x σ h = gd (evE Γ a σ) (fun y => gd (evE Γ b σ) (fun z => putF x y z σ) σ) σ h := by
  rw [asg]
  rfl
@[simp] theorem S_set : evS Γ (.set t e) σ h = gd (evE Γ e σ) (fun x => asg Γ t x σ) σ h := by unfold evS; rfl
def exF (σ : MF) (_ : Val) (h : MH) : Out := .nx σ h
@[simp] theorem exF_ {x : Val} : exF σ x h = .nx σ h := rfl
@[simp] theorem S_ex : evS Γ (.ex e) σ h = gd (evE Γ e σ) (exF σ) σ h := by unfold evS; rfl
@[simp] theorem S_ret : evS Γ (.ret e) σ h = gd (evE Γ e σ) .rt σ h := by unfold evS; rfl
@[simp] theorem S_retn : evS Γ .retn σ h = .rt .non h := by unfold evS; rfl
@[simp] theorem S_pass : evS Γ .pass σ h = .nx σ h := by unfold evS; rfl
@[simp] theorem S_brk : evS Γ .brk σ h = .bk σ h := by unfold evS; rfl
@[simp] theorem S_cnt : evS Γ .cnt σ h = .ct σ h := by unfold evS; rfl
@[simp] theorem S_ite : evS Γ (.ite c a b) σ h = gd (evT Γ c σ) (fun t => iteF t (evSs Γ a σ) (evSs Γ b σ)) σ h := by unfold evS; rfl
theorem S_whl : evS Γ (.whl c b) σ h = whileF (evT Γ c) (evSs Γ b) FUEL σ h := by unfold evS; rfl
def turnF (Γ : Sys) (t b : C) (x : Val) (σ : MF) (h : MH) : Out := (asg Γ t x σ h).seq (evSs Γ b)
theorem turnF_ {x : Val} : turnF Γ t b x σ h = (asg Γ t x σ h).seq (evSs Γ b) := rfl
def forF (Γ : Sys) (t b : C) (σ : MF) (w : Walk) (h : MH) : Out := walkFor (turnF Γ t b) w σ h
@[simp] theorem forF_i {xs : List Val} : forF Γ t b σ (.items xs) h = forL (turnF Γ t b) xs σ h := rfl
@[simp] theorem forF_r {r : Nat} : forF Γ t b σ (.live r) h = forR (turnF Γ t b) r FUEL 0 σ h := rfl
@[simp] theorem S_for : evS Γ (.for_ t it b) σ h = gd (evI Γ it σ) (forF Γ t b σ) σ h := by unfold evS; rfl
@[simp] def raF (Γ : Sys) (c : Nat) (σ : MF) (xs : List Val) (h : MH) : Out := if xs.length = (Γ.flds c).length && (xs.all dat && Γ.isx c) then .ex c xs σ h else .bad
theorem raF_ {z : Nat} {xs : List Val} (g : (decide (xs.length = (Γ.flds z).length) && (xs.all dat && Γ.isx z)) = true) : raF Γ z σ xs h = .ex z xs σ h := if_pos g
@[simp] theorem S_rais {z : Nat} : evS Γ (.rais z es) σ h = gd (evEs Γ es σ) (raF Γ z σ) σ h := by unfold evS; rfl
@[simp] theorem S_try {z : Nat} : evS Γ (.try_ b z i s) σ h = tryF Γ z i (evSs Γ s) (evSs Γ b σ h) := by
  rw [evS]
  unfold tryF
  cases evSs Γ b σ h <;> rfl
@[simp] theorem Ss_nil : evSs Γ .nil σ h = .nx σ h := by unfold evSs; rfl
@[simp] theorem Ss_cons : evSs Γ (.cons a b) σ h = sq (evS Γ a) (evSs Γ b) σ h := by rw [evSs]; rfl
def outF (r : Out) : Res Val := match r with
  | .nx _ h1 => .ok .non h1
  | .rt v h1 => .ok v h1
  | .ex c fs _ h1 => .exc c fs h1
  | _ => .bad
@[simp] theorem outF_nx : outF (.nx σ h) = .ok .non h := rfl
@[simp] theorem outF_rt {v : Val} : outF (.rt v h) = .ok v h := rfl
@[simp] theorem outF_ex {c : Nat} {fs : List Val} : outF (.ex c fs σ h) = .exc c fs h := rfl
theorem run_fn {f : Fn} {xs : List Val} (hl : xs.length = f.np) : runFn Γ f xs h = outF (evSs Γ f.body (xs.map some ++ List.replicate (f.ns - f.np) none) h) := by
  unfold runFn
  rw [if_pos hl]
  unfold outF
  cases evSs Γ f.body (xs.map some ++ List.replicate (f.ns - f.np) none) h <;> rfl
theorem I_rng {n : Int} (g : evE Γ a σ h = .ok (.int n) h1) (hn : -(2 ^ 62) ≤ n ∧ n < 2 ^ 62) : evI Γ (.rng1 a) σ h = .ok (.items ((List.range n.toNat).map fun (k : Nat) => .int k)) h1 := by
  show (evE Γ a σ h).bind _ = _
  rw [g]
  exact if_pos hn
theorem I_e {x : Val} {w : Walk} (g : evE Γ c σ h = .ok x h1) (hw : walkOf h1 x = some w) : evI Γ (.each c) σ h = .ok w h1 := by
  dsimp only [evI]
  rw [g]
  show ofVal (walkOf h1 x) h1 = _
  rw [hw]
  rfl
end Mini
set_option Elab.async false
set_option linter.all false
set_option maxRecDepth 100000
set_option maxHeartbeats 4000000
/-! Mini alone: the law's own pen, as every law has it. -/
namespace Mini
open PySem
theorem eqV_int {h : MH} {a b : Int} : eqV h (.int a) (.int b) = some (decide (a = b)) := by
  simp -implicitDefEqProofs [eqV, toD, SeqAt.shaped, guardO, PyData.eqv, PyData.canLay0, PyData.depth]
  by_cases z : a = b <;> simp -implicitDefEqProofs [z]
theorem ge_len {h : MH} {c : Nat} {xs : List Val} (hc : h[c]? = some (.lst xs)) {Γ : Sys} : biV Γ .len h [.ref c] = some (.int xs.length, h) := by
  simp -implicitDefEqProofs [biV, biLen, isSeq, isList, hc]
theorem bi_int {h : MH} {i : Int} {Γ : Sys} : biV Γ .int h [.int i] = some (.int i, h) := rfl
theorem get_lst {h : MH} {c : Nat} {xs : List Val} (hc : h[c]? = some (.lst xs)) {i : Int} (h0 : 0 ≤ i) (h1 : i < xs.length) : getIx h (.ref c) (.int i) = xs[i.toNat]? := by
  simp -implicitDefEqProofs [getIx, hc, place, h0, h1]
/-- the pen -/
def penL (c : Nat) (a d n f : Int) : List (Val × Val) := [(.str "cells", .ref c), (.str "at", .int a), (.str "digits", .int d), (.str "count", .int n), (.str "fold", .int f)]
section
variable {c p : Nat} {a d n f x : Int} {h : MH}
theorem pen1 (hp : h[p]? = some (.dic (penL c a d n f))) : getIx h (.ref p) (.str "cells") = some (.ref c) := by
  simp only [getIx, hp]
  rfl
theorem pen2 (hp : h[p]? = some (.dic (penL c a d n f))) : getIx h (.ref p) (.str "at") = some (.int a) := by
  simp only [getIx, hp]
  rfl
theorem pen3 (hp : h[p]? = some (.dic (penL c a d n f))) : getIx h (.ref p) (.str "digits") = some (.int d) := by
  simp only [getIx, hp]
  rfl
theorem pen4 (hp : h[p]? = some (.dic (penL c a d n f))) : getIx h (.ref p) (.str "count") = some (.int n) := by
  simp only [getIx, hp]
  rfl
theorem pen5 (hp : h[p]? = some (.dic (penL c a d n f))) : getIx h (.ref p) (.str "fold") = some (.int f) := by
  simp only [getIx, hp]
  rfl
theorem put2 (hp : h[p]? = some (.dic (penL c a d n f))) : putIx h (.ref p) (.str "at") (.int x) = some (h.set p (.dic (penL c x d n f))) := by
  simp only [putIx, hp]
  rfl
theorem put3 (hp : h[p]? = some (.dic (penL c a d n f))) : putIx h (.ref p) (.str "digits") (.int x) = some (h.set p (.dic (penL c a x n f))) := by
  simp only [putIx, hp]
  rfl
theorem put4 (hp : h[p]? = some (.dic (penL c a d n f))) : putIx h (.ref p) (.str "count") (.int x) = some (h.set p (.dic (penL c a d x f))) := by
  simp only [putIx, hp]
  rfl
theorem put5 (hp : h[p]? = some (.dic (penL c a d n f))) : putIx h (.ref p) (.str "fold") (.int x) = some (h.set p (.dic (penL c a d n x))) := by
  simp only [putIx, hp]
  rfl
end
/-- _law_draw's core -/
def cDraw2 : C := (.cons (.ite (.cm .gt (.ix (.v 0) (.ks ("digits" : Str))) (.ki 0)) (.cons (.set (.tv 3) (.op .mod (.blt .int (.cons (.ix (.v 0) (.ks ("digits" : Str))) .nil)) (.v 1))) (.cons (.set (.tix (.v 0) (.ks ("digits" : Str))) (.op .fdiv (.ix (.v 0) (.ks ("digits" : Str))) (.v 1))) (.cons (.ret (.v 3)) .nil))) .nil) (.cons (.set (.tv 4) (.op .mod (.blt .int (.cons (.op .add (.op .add (.op .mul (.ix (.v 0) (.ks ("fold" : Str))) (.ki 48271)) (.op .mul (.ix (.v 0) (.ks ("count" : Str))) (.ki 7919))) (.ki 13)) .nil)) (.ki 2147483647))) (.cons (.set (.tv 4) (.op .mod (.blt .int (.cons (.op .add (.op .add (.op .mul (.v 4) (.v 4)) (.op .mul (.ki 31) (.v 4))) (.ix (.v 0) (.ks ("count" : Str)))) .nil)) (.ki 2147483629))) (.cons (.set (.tix (.v 0) (.ks ("fold" : Str))) (.op .mod (.blt .int (.cons (.op .add (.op .mul (.v 4) (.ki 16807)) (.ki 7)) .nil)) (.ki 2147483647))) (.cons (.ret (.op .mod (.blt .int (.cons (.op .fdiv (.v 4) (.ki 64)) .nil)) (.v 1))) .nil)))))
def cDraw : C := (.cons (.set (.tix (.v 0) (.ks ("count" : Str))) (.op .add (.ix (.v 0) (.ks ("count" : Str))) (.ki 1))) (.cons (.ite (.and (.cm .eq (.ix (.v 0) (.ks ("digits" : Str))) (.ki 0)) (.cm .lt (.ix (.v 0) (.ks ("at" : Str))) (.blt .len (.cons (.ix (.v 0) (.ks ("cells" : Str))) .nil)))) (.cons (.set (.tv 2) (.ix (.ix (.v 0) (.ks ("cells" : Str))) (.ix (.v 0) (.ks ("at" : Str))))) (.cons (.set (.tix (.v 0) (.ks ("at" : Str))) (.op .add (.ix (.v 0) (.ks ("at" : Str))) (.ki 1))) (.cons (.ite (.cm .ge (.v 2) (.op .pow (.ki 10) (.ki 18))) (.cons (.set (.tix (.v 0) (.ks ("digits" : Str))) (.op .sub (.v 2) (.op .pow (.ki 10) (.ki 18)))) .nil) (.cons (.set (.tix (.v 0) (.ks ("fold" : Str))) (.op .mod (.blt .int (.cons (.op .add (.op .mul (.ix (.v 0) (.ks ("fold" : Str))) (.ki 69069)) (.v 2)) .nil)) (.ki 2147483587))) .nil)) .nil))) .nil) cDraw2))
section
variable {Γ : Sys} {c p : Nat} {a d n f m : Int} {h : MH} {x2 x3 x4 : Option Val}
theorem lim_small {i : Int} (h0 : 0 ≤ i) (h1 : i < 18446744073709551616) : lim64 i = true := by
  unfold lim64
  simp
  omega
theorem mod_b {i : Int} {k : Int} (hk : 0 < k) : 0 ≤ i % k ∧ i % k < k := ⟨Int.emod_nonneg _ (by omega), Int.emod_lt_of_pos _ hk⟩
theorem draw_tail (hp : h[p]? = some (.dic (penL c a d n f))) (hd : 0 ≤ d) (hm : 0 < m) (hm2 : m < 1073741824) :
    ∃ r d' f', evSs Γ cDraw2 [some (.ref p), some (.int m), x2, x3, x4] h = .rt (.int r) (h.set p (.dic (penL c a d' n f'))) ∧ 0 ≤ r ∧ r < m ∧ 0 ≤ d' := by
  have lt : p < h.length := (List.getElem?_eq_some_iff.mp hp).1
  have gp : ∀ o, (h.set p o)[p]? = some o := fun o => List.getElem?_set_self lt
  have hl : lim64 48271 = true := by decide
  have hl2 : lim64 7919 = true := by decide
  have hl3 : lim64 31 = true := by decide
  have hl4 : lim64 16807 = true := by decide
  have e0 := pen3 hp
  by_cases h0 : 0 < d
  · refine ⟨d % m, d / m, f, ?_, (mod_b hm).1, (mod_b hm).2, Int.ediv_nonneg hd (by omega)⟩
    simp -implicitDefEqProofs [cDraw2, bop, cop, e0, ltV, h0, biV, biInt, opMod, opFdiv, guardO, hm, hm2, put3 hp, tru]
  · obtain ⟨b1, hb1⟩ : ∃ b1, b1 = (f * 48271 + n * 7919 + 13) % 2147483647 := ⟨_, rfl⟩
    have bb := mod_b (i := f * 48271 + n * 7919 + 13) (k := 2147483647) (by decide)
    rw [← hb1] at bb
    have hb : lim64 b1 = true := lim_small bb.1 (by omega)
    refine ⟨((b1 * b1 + 31 * b1 + n) % 2147483629 / 64) % m, d, ((b1 * b1 + 31 * b1 + n) % 2147483629 * 16807 + 7) % 2147483647, ?_, (mod_b hm).1, (mod_b hm).2, hd⟩
    simp -implicitDefEqProofs [cDraw2, bop, cop, e0, ltV, h0, biV, biInt, opMod, opFdiv, opAdd, opMul, guardO, hm, hm2, put5 hp, pen5 hp, pen4 hp, hl, hl2, hl3, hl4, hb, ← hb1, tru]
/-- the pen stands at p, its cells at c -/
structure PenAt (h : MH) (p c : Nat) (cells : List Int) : Prop where
  cell : h[c]? = some (.lst (cells.map Val.int))
  pen : ∃ a d n f, h[p]? = some (.dic (penL c a d n f)) ∧ 0 ≤ a ∧ 0 ≤ d
theorem draw_body {cells : List Int} (P : PenAt h p c cells) (hm : 0 < m) (hm2 : m < 1073741824) :
    ∃ r o, outF (evSs Γ cDraw [some (.ref p), some (.int m), none, none, none] h) = .ok (.int r) (h.set p o) ∧ PenAt (h.set p o) p c cells ∧ 0 ≤ r ∧ r < m := by
  obtain ⟨a, d, n, f, hp, ha, hd⟩ := P.pen
  have lt : p < h.length := (List.getElem?_eq_some_iff.mp hp).1
  have gp : ∀ o, (h.set p o)[p]? = some o := fun o => List.getElem?_set_self lt
  have ne : p ≠ c := fun z => by
    have := P.cell
    rw [← z, hp] at this
    cases this
  have gc : ∀ o, (h.set p o)[c]? = some (.lst (cells.map Val.int)) := fun o => by
    rw [List.getElem?_set_ne ne]
    exact P.cell
  have fin : ∀ {a d n f : Int} {x2 : Option Val}, 0 ≤ a → 0 ≤ d → ∃ r o, outF (evSs Γ cDraw2 [some (.ref p), some (.int m), x2, none, none] (h.set p (.dic (penL c a d n f)))) = .ok (.int r) (h.set p o) ∧ PenAt (h.set p o) p c cells ∧ 0 ≤ r ∧ r < m := by
    intro a d n f x2 h1 h2
    obtain ⟨r, d', f', e, r1, r2, r3⟩ := draw_tail (Γ := Γ) (x2 := x2) (x3 := none) (x4 := none) (gp (.dic (penL c a d n f))) h2 hm hm2
    refine ⟨r, _, ?_, ⟨gc _, a, d', n, f', gp _, h1, r3⟩, r1, r2⟩
    rw [e, List.set_set]
    rfl
  have p3 := fun (a d n f : Int) => pen3 (gp (.dic (penL c a d n f)))
  have p2 := fun (a d n f : Int) => pen2 (gp (.dic (penL c a d n f)))
  have p1 := fun (a d n f : Int) => pen1 (gp (.dic (penL c a d n f)))
  have p5 := fun (a d n f : Int) => pen5 (gp (.dic (penL c a d n f)))
  have q2 := fun (a d n f x : Int) => put2 (x := x) (gp (.dic (penL c a d n f)))
  have q3 := fun (a d n f x : Int) => put3 (x := x) (gp (.dic (penL c a d n f)))
  have q5 := fun (a d n f x : Int) => put5 (x := x) (gp (.dic (penL c a d n f)))
  have len := fun (o : Mini.Obj) => ge_len (Γ := Γ) (gc o)
  have hl : lim64 69069 = true := by decide
  by_cases h0 : d = 0
  · by_cases h1 : a < cells.length
    · have gx : ∀ o, getIx (h.set p o) (.ref c) (.int a) = some (.int (cells[a.toNat]'(by omega))) := fun o => by
        rw [get_lst (gc o) ha (by simpa using h1), List.getElem?_map, List.getElem?_eq_getElem (by omega)]
        rfl
      obtain ⟨cell, hcell⟩ : ∃ cell, cell = cells[a.toNat]'(by omega) := ⟨_, rfl⟩
      rw [← hcell] at gx
      by_cases h2 : (1000000000000000000 : Int) ≤ cell
      · have := fin (a := a + 1) (d := cell - 1000000000000000000) (n := n + 1) (f := f) (x2 := some (.int cell)) (by omega) (by omega)
        simpa -implicitDefEqProofs [cDraw, bop, cop, pen4 hp, opAdd, opSub, opPow, guardO, put4 hp, p1, p2, p3, q2, q3, eqV_int, h0, ltV, leV, len, h1, h2, gx, tru] using this
      · have := fin (a := a + 1) (d := 0) (n := n + 1) (f := (f * 69069 + cell) % 2147483587) (x2 := some (.int cell)) (by omega) (by omega)
        simpa -implicitDefEqProofs [cDraw, bop, cop, pen4 hp, opAdd, opSub, opPow, opMul, opMod, guardO, put4 hp, p1, p2, p3, p5, q2, q3, q5, eqV_int, h0, ltV, leV, len, h1, h2, gx, tru, bi_int, hl] using this
    · have := fin (a := a) (d := d) (n := n + 1) (f := f) (x2 := none) ha hd
      simpa -implicitDefEqProofs [cDraw, bop, cop, pen4 hp, opAdd, guardO, put4 hp, p1, p2, p3, eqV_int, h0, ltV, len, h1, tru] using this
  · have := fin (a := a) (d := d) (n := n + 1) (f := f) (x2 := none) ha hd
    simpa -implicitDefEqProofs [cDraw, bop, cop, pen4 hp, opAdd, guardO, put4 hp, p1, p2, p3, eqV_int, h0, tru] using this
end
end Mini
set_option Elab.async false
set_option linter.all false
set_option maxRecDepth 100000
set_option maxHeartbeats 0
namespace Law
open PySem PyProof.Rows Mini
def c0_0 : C := (.ret (.dct (.cons (.ks ("cells" : Str)) (.cons (.blt .list (.cons (.v 0) .nil)) (.cons (.ks ("at" : Str)) (.cons (.ki 0) (.cons (.ks ("digits" : Str)) (.cons (.ki 0) (.cons (.ks ("count" : Str)) (.cons (.ki 0) (.cons (.ks ("fold" : Str)) (.cons (.v 1) .nil))))))))))))
@[simp] theorem c0_0_ {Γ : Sys} {σ : MF} {h : MH} : evS Γ c0_0 σ h = evS Γ (.ret (.dct (.cons (.ks ("cells" : Str)) (.cons (.blt .list (.cons (.v 0) .nil)) (.cons (.ks ("at" : Str)) (.cons (.ki 0) (.cons (.ks ("digits" : Str)) (.cons (.ki 0) (.cons (.ks ("count" : Str)) (.cons (.ki 0) (.cons (.ks ("fold" : Str)) (.cons (.v 1) .nil)))))))))))) σ h := rfl
def c0_1 : C := .cons c0_0 .nil
@[simp] theorem c0_1_ {Γ : Sys} {σ : MF} {h : MH} : evSs Γ c0_1 σ h = sq (evS Γ c0_0) (evSs Γ .nil) σ h := Ss_cons
def c0_2 : C := (.set (.tv 1) (.op .mod (.blt .int (.cons (.op .add (.op .mul (.v 1) (.ki 47)) (.v 2)) .nil)) (.ki 1000000007)))
@[simp] theorem c0_2_ {Γ : Sys} {σ : MF} {h : MH} : evS Γ c0_2 σ h = evS Γ (.set (.tv 1) (.op .mod (.blt .int (.cons (.op .add (.op .mul (.v 1) (.ki 47)) (.v 2)) .nil)) (.ki 1000000007))) σ h := rfl
def c0_3 : C := .cons c0_2 .nil
@[simp] theorem c0_3_ {Γ : Sys} {σ : MF} {h : MH} : evSs Γ c0_3 σ h = sq (evS Γ c0_2) (evSs Γ .nil) σ h := Ss_cons
def c0_4 : C := (.for_ (.tv 2) (.each (.v 0)) c0_3)
@[simp] theorem c0_4_ {Γ : Sys} {σ : MF} {h : MH} : evS Γ c0_4 σ h = evS Γ (.for_ (.tv 2) (.each (.v 0)) c0_3) σ h := rfl
def c0_5 : C := .cons c0_4 c0_1
@[simp] theorem c0_5_ {Γ : Sys} {σ : MF} {h : MH} : evSs Γ c0_5 σ h = sq (evS Γ c0_4) (evSs Γ c0_1) σ h := Ss_cons
def c0_6 : C := (.set (.tv 1) (.ki 0))
@[simp] theorem c0_6_ {Γ : Sys} {σ : MF} {h : MH} : evS Γ c0_6 σ h = evS Γ (.set (.tv 1) (.ki 0)) σ h := rfl
def c0_7 : C := .cons c0_6 c0_5
@[simp] theorem c0_7_ {Γ : Sys} {σ : MF} {h : MH} : evSs Γ c0_7 σ h = sq (evS Γ c0_6) (evSs Γ c0_5) σ h := Ss_cons
/-- _law_pen -/
def c0 : C := c0_7
def r0 : Mini.Row := ⟨22, ("_law_pen" : Str), [("script" : Str)], [("script" : Str), ("fold" : Str), ("cell" : Str)], false, c0⟩
def c1_0 : C := (.ret (.op .mod (.blt .int (.cons (.op .fdiv (.v 4) (.ki 64)) .nil)) (.v 1)))
@[simp] theorem c1_0_ {Γ : Sys} {σ : MF} {h : MH} : evS Γ c1_0 σ h = evS Γ (.ret (.op .mod (.blt .int (.cons (.op .fdiv (.v 4) (.ki 64)) .nil)) (.v 1))) σ h := rfl
def c1_1 : C := .cons c1_0 .nil
@[simp] theorem c1_1_ {Γ : Sys} {σ : MF} {h : MH} : evSs Γ c1_1 σ h = sq (evS Γ c1_0) (evSs Γ .nil) σ h := Ss_cons
def c1_2 : C := (.set (.tix (.v 0) (.ks ("fold" : Str))) (.op .mod (.blt .int (.cons (.op .add (.op .mul (.v 4) (.ki 16807)) (.ki 7)) .nil)) (.ki 2147483647)))
@[simp] theorem c1_2_ {Γ : Sys} {σ : MF} {h : MH} : evS Γ c1_2 σ h = evS Γ (.set (.tix (.v 0) (.ks ("fold" : Str))) (.op .mod (.blt .int (.cons (.op .add (.op .mul (.v 4) (.ki 16807)) (.ki 7)) .nil)) (.ki 2147483647))) σ h := rfl
def c1_3 : C := .cons c1_2 c1_1
@[simp] theorem c1_3_ {Γ : Sys} {σ : MF} {h : MH} : evSs Γ c1_3 σ h = sq (evS Γ c1_2) (evSs Γ c1_1) σ h := Ss_cons
def c1_4 : C := (.set (.tv 4) (.op .mod (.blt .int (.cons (.op .add (.op .add (.op .mul (.v 4) (.v 4)) (.op .mul (.ki 31) (.v 4))) (.ix (.v 0) (.ks ("count" : Str)))) .nil)) (.ki 2147483629)))
@[simp] theorem c1_4_ {Γ : Sys} {σ : MF} {h : MH} : evS Γ c1_4 σ h = evS Γ (.set (.tv 4) (.op .mod (.blt .int (.cons (.op .add (.op .add (.op .mul (.v 4) (.v 4)) (.op .mul (.ki 31) (.v 4))) (.ix (.v 0) (.ks ("count" : Str)))) .nil)) (.ki 2147483629))) σ h := rfl
def c1_5 : C := .cons c1_4 c1_3
@[simp] theorem c1_5_ {Γ : Sys} {σ : MF} {h : MH} : evSs Γ c1_5 σ h = sq (evS Γ c1_4) (evSs Γ c1_3) σ h := Ss_cons
def c1_6 : C := (.set (.tv 4) (.op .mod (.blt .int (.cons (.op .add (.op .add (.op .mul (.ix (.v 0) (.ks ("fold" : Str))) (.ki 48271)) (.op .mul (.ix (.v 0) (.ks ("count" : Str))) (.ki 7919))) (.ki 13)) .nil)) (.ki 2147483647)))
@[simp] theorem c1_6_ {Γ : Sys} {σ : MF} {h : MH} : evS Γ c1_6 σ h = evS Γ (.set (.tv 4) (.op .mod (.blt .int (.cons (.op .add (.op .add (.op .mul (.ix (.v 0) (.ks ("fold" : Str))) (.ki 48271)) (.op .mul (.ix (.v 0) (.ks ("count" : Str))) (.ki 7919))) (.ki 13)) .nil)) (.ki 2147483647))) σ h := rfl
def c1_7 : C := .cons c1_6 c1_5
@[simp] theorem c1_7_ {Γ : Sys} {σ : MF} {h : MH} : evSs Γ c1_7 σ h = sq (evS Γ c1_6) (evSs Γ c1_5) σ h := Ss_cons
def c1_8 : C := (.ret (.v 3))
@[simp] theorem c1_8_ {Γ : Sys} {σ : MF} {h : MH} : evS Γ c1_8 σ h = evS Γ (.ret (.v 3)) σ h := rfl
def c1_9 : C := .cons c1_8 .nil
@[simp] theorem c1_9_ {Γ : Sys} {σ : MF} {h : MH} : evSs Γ c1_9 σ h = sq (evS Γ c1_8) (evSs Γ .nil) σ h := Ss_cons
def c1_10 : C := (.set (.tix (.v 0) (.ks ("digits" : Str))) (.op .fdiv (.ix (.v 0) (.ks ("digits" : Str))) (.v 1)))
@[simp] theorem c1_10_ {Γ : Sys} {σ : MF} {h : MH} : evS Γ c1_10 σ h = evS Γ (.set (.tix (.v 0) (.ks ("digits" : Str))) (.op .fdiv (.ix (.v 0) (.ks ("digits" : Str))) (.v 1))) σ h := rfl
def c1_11 : C := .cons c1_10 c1_9
@[simp] theorem c1_11_ {Γ : Sys} {σ : MF} {h : MH} : evSs Γ c1_11 σ h = sq (evS Γ c1_10) (evSs Γ c1_9) σ h := Ss_cons
def c1_12 : C := (.set (.tv 3) (.op .mod (.blt .int (.cons (.ix (.v 0) (.ks ("digits" : Str))) .nil)) (.v 1)))
@[simp] theorem c1_12_ {Γ : Sys} {σ : MF} {h : MH} : evS Γ c1_12 σ h = evS Γ (.set (.tv 3) (.op .mod (.blt .int (.cons (.ix (.v 0) (.ks ("digits" : Str))) .nil)) (.v 1))) σ h := rfl
def c1_13 : C := .cons c1_12 c1_11
@[simp] theorem c1_13_ {Γ : Sys} {σ : MF} {h : MH} : evSs Γ c1_13 σ h = sq (evS Γ c1_12) (evSs Γ c1_11) σ h := Ss_cons
def c1_14 : C := (.ite (.cm .gt (.ix (.v 0) (.ks ("digits" : Str))) (.ki 0)) c1_13 .nil)
@[simp] theorem c1_14_ {Γ : Sys} {σ : MF} {h : MH} : evS Γ c1_14 σ h = evS Γ (.ite (.cm .gt (.ix (.v 0) (.ks ("digits" : Str))) (.ki 0)) c1_13 .nil) σ h := rfl
def c1_15 : C := .cons c1_14 c1_7
@[simp] theorem c1_15_ {Γ : Sys} {σ : MF} {h : MH} : evSs Γ c1_15 σ h = sq (evS Γ c1_14) (evSs Γ c1_7) σ h := Ss_cons
def c1_16 : C := (.set (.tix (.v 0) (.ks ("digits" : Str))) (.op .sub (.v 2) (.op .pow (.ki 10) (.ki 18))))
@[simp] theorem c1_16_ {Γ : Sys} {σ : MF} {h : MH} : evS Γ c1_16 σ h = evS Γ (.set (.tix (.v 0) (.ks ("digits" : Str))) (.op .sub (.v 2) (.op .pow (.ki 10) (.ki 18)))) σ h := rfl
def c1_17 : C := .cons c1_16 .nil
@[simp] theorem c1_17_ {Γ : Sys} {σ : MF} {h : MH} : evSs Γ c1_17 σ h = sq (evS Γ c1_16) (evSs Γ .nil) σ h := Ss_cons
def c1_18 : C := (.set (.tix (.v 0) (.ks ("fold" : Str))) (.op .mod (.blt .int (.cons (.op .add (.op .mul (.ix (.v 0) (.ks ("fold" : Str))) (.ki 69069)) (.v 2)) .nil)) (.ki 2147483587)))
@[simp] theorem c1_18_ {Γ : Sys} {σ : MF} {h : MH} : evS Γ c1_18 σ h = evS Γ (.set (.tix (.v 0) (.ks ("fold" : Str))) (.op .mod (.blt .int (.cons (.op .add (.op .mul (.ix (.v 0) (.ks ("fold" : Str))) (.ki 69069)) (.v 2)) .nil)) (.ki 2147483587))) σ h := rfl
def c1_19 : C := .cons c1_18 .nil
@[simp] theorem c1_19_ {Γ : Sys} {σ : MF} {h : MH} : evSs Γ c1_19 σ h = sq (evS Γ c1_18) (evSs Γ .nil) σ h := Ss_cons
def c1_20 : C := (.ite (.cm .ge (.v 2) (.op .pow (.ki 10) (.ki 18))) c1_17 c1_19)
@[simp] theorem c1_20_ {Γ : Sys} {σ : MF} {h : MH} : evS Γ c1_20 σ h = evS Γ (.ite (.cm .ge (.v 2) (.op .pow (.ki 10) (.ki 18))) c1_17 c1_19) σ h := rfl
def c1_21 : C := .cons c1_20 .nil
@[simp] theorem c1_21_ {Γ : Sys} {σ : MF} {h : MH} : evSs Γ c1_21 σ h = sq (evS Γ c1_20) (evSs Γ .nil) σ h := Ss_cons
def c1_22 : C := (.set (.tix (.v 0) (.ks ("at" : Str))) (.op .add (.ix (.v 0) (.ks ("at" : Str))) (.ki 1)))
@[simp] theorem c1_22_ {Γ : Sys} {σ : MF} {h : MH} : evS Γ c1_22 σ h = evS Γ (.set (.tix (.v 0) (.ks ("at" : Str))) (.op .add (.ix (.v 0) (.ks ("at" : Str))) (.ki 1))) σ h := rfl
def c1_23 : C := .cons c1_22 c1_21
@[simp] theorem c1_23_ {Γ : Sys} {σ : MF} {h : MH} : evSs Γ c1_23 σ h = sq (evS Γ c1_22) (evSs Γ c1_21) σ h := Ss_cons
def c1_24 : C := (.set (.tv 2) (.ix (.ix (.v 0) (.ks ("cells" : Str))) (.ix (.v 0) (.ks ("at" : Str)))))
@[simp] theorem c1_24_ {Γ : Sys} {σ : MF} {h : MH} : evS Γ c1_24 σ h = evS Γ (.set (.tv 2) (.ix (.ix (.v 0) (.ks ("cells" : Str))) (.ix (.v 0) (.ks ("at" : Str))))) σ h := rfl
def c1_25 : C := .cons c1_24 c1_23
@[simp] theorem c1_25_ {Γ : Sys} {σ : MF} {h : MH} : evSs Γ c1_25 σ h = sq (evS Γ c1_24) (evSs Γ c1_23) σ h := Ss_cons
def c1_26 : C := (.ite (.and (.cm .eq (.ix (.v 0) (.ks ("digits" : Str))) (.ki 0)) (.cm .lt (.ix (.v 0) (.ks ("at" : Str))) (.blt .len (.cons (.ix (.v 0) (.ks ("cells" : Str))) .nil)))) c1_25 .nil)
@[simp] theorem c1_26_ {Γ : Sys} {σ : MF} {h : MH} : evS Γ c1_26 σ h = evS Γ (.ite (.and (.cm .eq (.ix (.v 0) (.ks ("digits" : Str))) (.ki 0)) (.cm .lt (.ix (.v 0) (.ks ("at" : Str))) (.blt .len (.cons (.ix (.v 0) (.ks ("cells" : Str))) .nil)))) c1_25 .nil) σ h := rfl
def c1_27 : C := .cons c1_26 c1_15
@[simp] theorem c1_27_ {Γ : Sys} {σ : MF} {h : MH} : evSs Γ c1_27 σ h = sq (evS Γ c1_26) (evSs Γ c1_15) σ h := Ss_cons
def c1_28 : C := (.set (.tix (.v 0) (.ks ("count" : Str))) (.op .add (.ix (.v 0) (.ks ("count" : Str))) (.ki 1)))
@[simp] theorem c1_28_ {Γ : Sys} {σ : MF} {h : MH} : evS Γ c1_28 σ h = evS Γ (.set (.tix (.v 0) (.ks ("count" : Str))) (.op .add (.ix (.v 0) (.ks ("count" : Str))) (.ki 1))) σ h := rfl
def c1_29 : C := .cons c1_28 c1_27
@[simp] theorem c1_29_ {Γ : Sys} {σ : MF} {h : MH} : evSs Γ c1_29 σ h = sq (evS Γ c1_28) (evSs Γ c1_27) σ h := Ss_cons
/-- _law_draw -/
def c1 : C := c1_29
def r1 : Mini.Row := ⟨23, ("_law_draw" : Str), [("pen" : Str), ("many" : Str)], [("pen" : Str), ("many" : Str), ("cell" : Str), ("digit" : Str), ("blend" : Str)], false, c1⟩
def c2_0 : C := (.ret (.ix (.v 1) (.call 1 (.cons (.v 0) (.cons (.blt .len (.cons (.v 1) .nil)) .nil)))))
@[simp] theorem c2_0_ {Γ : Sys} {σ : MF} {h : MH} : evS Γ c2_0 σ h = evS Γ (.ret (.ix (.v 1) (.call 1 (.cons (.v 0) (.cons (.blt .len (.cons (.v 1) .nil)) .nil))))) σ h := rfl
def c2_1 : C := .cons c2_0 .nil
@[simp] theorem c2_1_ {Γ : Sys} {σ : MF} {h : MH} : evSs Γ c2_1 σ h = sq (evS Γ c2_0) (evSs Γ .nil) σ h := Ss_cons
/-- _law_pick -/
def c2 : C := c2_1
def r2 : Mini.Row := ⟨24, ("_law_pick" : Str), [("pen" : Str), ("some" : Str)], [("pen" : Str), ("some" : Str)], false, c2⟩
def c3_0 : C := (.ret (.op .add (.v 1) (.call 4 (.cons (.v 0) .nil))))
@[simp] theorem c3_0_ {Γ : Sys} {σ : MF} {h : MH} : evS Γ c3_0 σ h = evS Γ (.ret (.op .add (.v 1) (.call 4 (.cons (.v 0) .nil)))) σ h := rfl
def c3_1 : C := .cons c3_0 .nil
@[simp] theorem c3_1_ {Γ : Sys} {σ : MF} {h : MH} : evSs Γ c3_1 σ h = sq (evS Γ c3_0) (evSs Γ .nil) σ h := Ss_cons
def c3_2 : C := (.ex (.mth .append (.v 1) (.cons (.tup (.cons (.ks ("text" : Str)) (.cons (.fld (.v 0) ("line" : Str)) (.cons (.fld (.v 0) ("token" : Str)) .nil)))) .nil)))
@[simp] theorem c3_2_ {Γ : Sys} {σ : MF} {h : MH} : evS Γ c3_2 σ h = evS Γ (.ex (.mth .append (.v 1) (.cons (.tup (.cons (.ks ("text" : Str)) (.cons (.fld (.v 0) ("line" : Str)) (.cons (.fld (.v 0) ("token" : Str)) .nil)))) .nil))) σ h := rfl
def c3_3 : C := .cons c3_2 .nil
@[simp] theorem c3_3_ {Γ : Sys} {σ : MF} {h : MH} : evSs Γ c3_3 σ h = sq (evS Γ c3_2) (evSs Γ .nil) σ h := Ss_cons
def c3_4 : C := (.ite (.blt .isinstance (.cons (.v 0) (.cons (.gv (.cls 10)) .nil))) c3_3 .nil)
@[simp] theorem c3_4_ {Γ : Sys} {σ : MF} {h : MH} : evS Γ c3_4 σ h = evS Γ (.ite (.blt .isinstance (.cons (.v 0) (.cons (.gv (.cls 10)) .nil))) c3_3 .nil) σ h := rfl
def c3_5 : C := .cons c3_4 c3_1
@[simp] theorem c3_5_ {Γ : Sys} {σ : MF} {h : MH} : evSs Γ c3_5 σ h = sq (evS Γ c3_4) (evSs Γ c3_1) σ h := Ss_cons
def c3_6 : C := (.ex (.mth .append (.v 1) (.cons (.tup (.cons (.ks ("badname" : Str)) (.cons (.blt .repr (.cons (.fld (.v 0) ("name" : Str)) .nil)) .nil))) .nil)))
@[simp] theorem c3_6_ {Γ : Sys} {σ : MF} {h : MH} : evS Γ c3_6 σ h = evS Γ (.ex (.mth .append (.v 1) (.cons (.tup (.cons (.ks ("badname" : Str)) (.cons (.blt .repr (.cons (.fld (.v 0) ("name" : Str)) .nil)) .nil))) .nil))) σ h := rfl
def c3_7 : C := .cons c3_6 .nil
@[simp] theorem c3_7_ {Γ : Sys} {σ : MF} {h : MH} : evSs Γ c3_7 σ h = sq (evS Γ c3_6) (evSs Γ .nil) σ h := Ss_cons
def c3_8 : C := (.ite (.blt .isinstance (.cons (.v 0) (.cons (.gv (.cls 9)) .nil))) c3_7 .nil)
@[simp] theorem c3_8_ {Γ : Sys} {σ : MF} {h : MH} : evS Γ c3_8 σ h = evS Γ (.ite (.blt .isinstance (.cons (.v 0) (.cons (.gv (.cls 9)) .nil))) c3_7 .nil) σ h := rfl
def c3_9 : C := .cons c3_8 c3_5
@[simp] theorem c3_9_ {Γ : Sys} {σ : MF} {h : MH} : evSs Γ c3_9 σ h = sq (evS Γ c3_8) (evSs Γ c3_5) σ h := Ss_cons
def c3_10 : C := (.ex (.mth .append (.v 1) (.cons (.tup (.cons (.ks ("book" : Str)) (.cons (.fld (.v 0) ("what" : Str)) .nil))) .nil)))
@[simp] theorem c3_10_ {Γ : Sys} {σ : MF} {h : MH} : evS Γ c3_10 σ h = evS Γ (.ex (.mth .append (.v 1) (.cons (.tup (.cons (.ks ("book" : Str)) (.cons (.fld (.v 0) ("what" : Str)) .nil))) .nil))) σ h := rfl
def c3_11 : C := .cons c3_10 .nil
@[simp] theorem c3_11_ {Γ : Sys} {σ : MF} {h : MH} : evSs Γ c3_11 σ h = sq (evS Γ c3_10) (evSs Γ .nil) σ h := Ss_cons
def c3_12 : C := (.ite (.blt .isinstance (.cons (.v 0) (.cons (.gv (.cls 8)) .nil))) c3_11 .nil)
@[simp] theorem c3_12_ {Γ : Sys} {σ : MF} {h : MH} : evS Γ c3_12 σ h = evS Γ (.ite (.blt .isinstance (.cons (.v 0) (.cons (.gv (.cls 8)) .nil))) c3_11 .nil) σ h := rfl
def c3_13 : C := .cons c3_12 c3_9
@[simp] theorem c3_13_ {Γ : Sys} {σ : MF} {h : MH} : evSs Γ c3_13 σ h = sq (evS Γ c3_12) (evSs Γ c3_9) σ h := Ss_cons
def c3_14 : C := (.ex (.mth .append (.v 1) (.cons (.tup (.cons (.ks ("kind" : Str)) (.cons (.blt .repr (.cons (.fld (.v 0) ("kind" : Str)) .nil)) .nil))) .nil)))
@[simp] theorem c3_14_ {Γ : Sys} {σ : MF} {h : MH} : evS Γ c3_14 σ h = evS Γ (.ex (.mth .append (.v 1) (.cons (.tup (.cons (.ks ("kind" : Str)) (.cons (.blt .repr (.cons (.fld (.v 0) ("kind" : Str)) .nil)) .nil))) .nil))) σ h := rfl
def c3_15 : C := .cons c3_14 .nil
@[simp] theorem c3_15_ {Γ : Sys} {σ : MF} {h : MH} : evSs Γ c3_15 σ h = sq (evS Γ c3_14) (evSs Γ .nil) σ h := Ss_cons
def c3_16 : C := (.ite (.blt .isinstance (.cons (.v 0) (.cons (.gv (.cls 7)) .nil))) c3_15 .nil)
@[simp] theorem c3_16_ {Γ : Sys} {σ : MF} {h : MH} : evS Γ c3_16 σ h = evS Γ (.ite (.blt .isinstance (.cons (.v 0) (.cons (.gv (.cls 7)) .nil))) c3_15 .nil) σ h := rfl
def c3_17 : C := .cons c3_16 c3_13
@[simp] theorem c3_17_ {Γ : Sys} {σ : MF} {h : MH} : evSs Γ c3_17 σ h = sq (evS Γ c3_16) (evSs Γ c3_13) σ h := Ss_cons
def c3_18 : C := (.ex (.mth .append (.v 1) (.cons (.tup (.cons (.ks ("table" : Str)) (.cons (.fld (.v 0) ("what" : Str)) .nil))) .nil)))
@[simp] theorem c3_18_ {Γ : Sys} {σ : MF} {h : MH} : evS Γ c3_18 σ h = evS Γ (.ex (.mth .append (.v 1) (.cons (.tup (.cons (.ks ("table" : Str)) (.cons (.fld (.v 0) ("what" : Str)) .nil))) .nil))) σ h := rfl
def c3_19 : C := .cons c3_18 .nil
@[simp] theorem c3_19_ {Γ : Sys} {σ : MF} {h : MH} : evSs Γ c3_19 σ h = sq (evS Γ c3_18) (evSs Γ .nil) σ h := Ss_cons
def c3_20 : C := (.ite (.blt .isinstance (.cons (.v 0) (.cons (.gv (.cls 6)) .nil))) c3_19 .nil)
@[simp] theorem c3_20_ {Γ : Sys} {σ : MF} {h : MH} : evS Γ c3_20 σ h = evS Γ (.ite (.blt .isinstance (.cons (.v 0) (.cons (.gv (.cls 6)) .nil))) c3_19 .nil) σ h := rfl
def c3_21 : C := .cons c3_20 c3_17
@[simp] theorem c3_21_ {Γ : Sys} {σ : MF} {h : MH} : evSs Γ c3_21 σ h = sq (evS Γ c3_20) (evSs Γ c3_17) σ h := Ss_cons
def c3_22 : C := (.ex (.mth .append (.v 1) (.cons (.tup (.cons (.ks ("machine" : Str)) (.cons (.fld (.v 0) ("what" : Str)) .nil))) .nil)))
@[simp] theorem c3_22_ {Γ : Sys} {σ : MF} {h : MH} : evS Γ c3_22 σ h = evS Γ (.ex (.mth .append (.v 1) (.cons (.tup (.cons (.ks ("machine" : Str)) (.cons (.fld (.v 0) ("what" : Str)) .nil))) .nil))) σ h := rfl
def c3_23 : C := .cons c3_22 .nil
@[simp] theorem c3_23_ {Γ : Sys} {σ : MF} {h : MH} : evSs Γ c3_23 σ h = sq (evS Γ c3_22) (evSs Γ .nil) σ h := Ss_cons
def c3_24 : C := (.ite (.blt .isinstance (.cons (.v 0) (.cons (.gv (.cls 5)) .nil))) c3_23 .nil)
@[simp] theorem c3_24_ {Γ : Sys} {σ : MF} {h : MH} : evS Γ c3_24 σ h = evS Γ (.ite (.blt .isinstance (.cons (.v 0) (.cons (.gv (.cls 5)) .nil))) c3_23 .nil) σ h := rfl
def c3_25 : C := .cons c3_24 c3_21
@[simp] theorem c3_25_ {Γ : Sys} {σ : MF} {h : MH} : evSs Γ c3_25 σ h = sq (evS Γ c3_24) (evSs Γ c3_21) σ h := Ss_cons
def c3_26 : C := (.ex (.mth .append (.v 1) (.cons (.tup (.cons (.ks ("pattern" : Str)) (.cons (.fld (.v 0) ("what" : Str)) .nil))) .nil)))
@[simp] theorem c3_26_ {Γ : Sys} {σ : MF} {h : MH} : evS Γ c3_26 σ h = evS Γ (.ex (.mth .append (.v 1) (.cons (.tup (.cons (.ks ("pattern" : Str)) (.cons (.fld (.v 0) ("what" : Str)) .nil))) .nil))) σ h := rfl
def c3_27 : C := .cons c3_26 .nil
@[simp] theorem c3_27_ {Γ : Sys} {σ : MF} {h : MH} : evSs Γ c3_27 σ h = sq (evS Γ c3_26) (evSs Γ .nil) σ h := Ss_cons
def c3_28 : C := (.ite (.blt .isinstance (.cons (.v 0) (.cons (.gv (.cls 4)) .nil))) c3_27 .nil)
@[simp] theorem c3_28_ {Γ : Sys} {σ : MF} {h : MH} : evS Γ c3_28 σ h = evS Γ (.ite (.blt .isinstance (.cons (.v 0) (.cons (.gv (.cls 4)) .nil))) c3_27 .nil) σ h := rfl
def c3_29 : C := .cons c3_28 c3_25
@[simp] theorem c3_29_ {Γ : Sys} {σ : MF} {h : MH} : evSs Γ c3_29 σ h = sq (evS Γ c3_28) (evSs Γ c3_25) σ h := Ss_cons
def c3_30 : C := (.ex (.mth .append (.v 1) (.cons (.tup (.cons (.ks ("word" : Str)) (.cons (.fld (.v 0) ("what" : Str)) (.cons (.blt .repr (.cons (.fld (.v 0) ("word" : Str)) .nil)) .nil)))) .nil)))
@[simp] theorem c3_30_ {Γ : Sys} {σ : MF} {h : MH} : evS Γ c3_30 σ h = evS Γ (.ex (.mth .append (.v 1) (.cons (.tup (.cons (.ks ("word" : Str)) (.cons (.fld (.v 0) ("what" : Str)) (.cons (.blt .repr (.cons (.fld (.v 0) ("word" : Str)) .nil)) .nil)))) .nil))) σ h := rfl
def c3_31 : C := .cons c3_30 .nil
@[simp] theorem c3_31_ {Γ : Sys} {σ : MF} {h : MH} : evSs Γ c3_31 σ h = sq (evS Γ c3_30) (evSs Γ .nil) σ h := Ss_cons
def c3_32 : C := (.ite (.blt .isinstance (.cons (.v 0) (.cons (.gv (.cls 3)) .nil))) c3_31 .nil)
@[simp] theorem c3_32_ {Γ : Sys} {σ : MF} {h : MH} : evS Γ c3_32 σ h = evS Γ (.ite (.blt .isinstance (.cons (.v 0) (.cons (.gv (.cls 3)) .nil))) c3_31 .nil) σ h := rfl
def c3_33 : C := .cons c3_32 c3_29
@[simp] theorem c3_33_ {Γ : Sys} {σ : MF} {h : MH} : evSs Γ c3_33 σ h = sq (evS Γ c3_32) (evSs Γ c3_29) σ h := Ss_cons
def c3_34 : C := (.ex (.mth .append (.v 1) (.cons (.tup (.cons (.ks ("row" : Str)) (.cons (.fld (.v 0) ("what" : Str)) (.cons (.blt .repr (.cons (.fld (.v 0) ("row" : Str)) .nil)) .nil)))) .nil)))
@[simp] theorem c3_34_ {Γ : Sys} {σ : MF} {h : MH} : evS Γ c3_34 σ h = evS Γ (.ex (.mth .append (.v 1) (.cons (.tup (.cons (.ks ("row" : Str)) (.cons (.fld (.v 0) ("what" : Str)) (.cons (.blt .repr (.cons (.fld (.v 0) ("row" : Str)) .nil)) .nil)))) .nil))) σ h := rfl
def c3_35 : C := .cons c3_34 .nil
@[simp] theorem c3_35_ {Γ : Sys} {σ : MF} {h : MH} : evSs Γ c3_35 σ h = sq (evS Γ c3_34) (evSs Γ .nil) σ h := Ss_cons
def c3_36 : C := (.ite (.blt .isinstance (.cons (.v 0) (.cons (.gv (.cls 2)) .nil))) c3_35 .nil)
@[simp] theorem c3_36_ {Γ : Sys} {σ : MF} {h : MH} : evS Γ c3_36 σ h = evS Γ (.ite (.blt .isinstance (.cons (.v 0) (.cons (.gv (.cls 2)) .nil))) c3_35 .nil) σ h := rfl
def c3_37 : C := .cons c3_36 c3_33
@[simp] theorem c3_37_ {Γ : Sys} {σ : MF} {h : MH} : evSs Γ c3_37 σ h = sq (evS Γ c3_36) (evSs Γ c3_33) σ h := Ss_cons
def c3_38 : C := (.ex (.mth .append (.v 1) (.cons (.tup (.cons (.ks ("number" : Str)) (.cons (.fld (.v 0) ("what" : Str)) (.cons (.blt .repr (.cons (.fld (.v 0) ("number" : Str)) .nil)) .nil)))) .nil)))
@[simp] theorem c3_38_ {Γ : Sys} {σ : MF} {h : MH} : evS Γ c3_38 σ h = evS Γ (.ex (.mth .append (.v 1) (.cons (.tup (.cons (.ks ("number" : Str)) (.cons (.fld (.v 0) ("what" : Str)) (.cons (.blt .repr (.cons (.fld (.v 0) ("number" : Str)) .nil)) .nil)))) .nil))) σ h := rfl
def c3_39 : C := .cons c3_38 .nil
@[simp] theorem c3_39_ {Γ : Sys} {σ : MF} {h : MH} : evSs Γ c3_39 σ h = sq (evS Γ c3_38) (evSs Γ .nil) σ h := Ss_cons
def c3_40 : C := (.ite (.blt .isinstance (.cons (.v 0) (.cons (.gv (.cls 1)) .nil))) c3_39 .nil)
@[simp] theorem c3_40_ {Γ : Sys} {σ : MF} {h : MH} : evS Γ c3_40 σ h = evS Γ (.ite (.blt .isinstance (.cons (.v 0) (.cons (.gv (.cls 1)) .nil))) c3_39 .nil) σ h := rfl
def c3_41 : C := .cons c3_40 c3_37
@[simp] theorem c3_41_ {Γ : Sys} {σ : MF} {h : MH} : evSs Γ c3_41 σ h = sq (evS Γ c3_40) (evSs Γ c3_37) σ h := Ss_cons
def c3_42 : C := (.set (.tv 1) (.lst .nil))
@[simp] theorem c3_42_ {Γ : Sys} {σ : MF} {h : MH} : evS Γ c3_42 σ h = evS Γ (.set (.tv 1) (.lst .nil)) σ h := rfl
def c3_43 : C := .cons c3_42 c3_41
@[simp] theorem c3_43_ {Γ : Sys} {σ : MF} {h : MH} : evSs Γ c3_43 σ h = sq (evS Γ c3_42) (evSs Γ c3_41) σ h := Ss_cons
/-- _law_kinds -/
def c3 : C := c3_43
def r3 : Mini.Row := ⟨25, ("_law_kinds" : Str), [("e" : Str)], [("e" : Str), ("found" : Str)], true, c3⟩
def c4_0 : C := (.ret (.v 1))
@[simp] theorem c4_0_ {Γ : Sys} {σ : MF} {h : MH} : evS Γ c4_0 σ h = evS Γ (.ret (.v 1)) σ h := rfl
def c4_1 : C := .cons c4_0 .nil
@[simp] theorem c4_1_ {Γ : Sys} {σ : MF} {h : MH} : evSs Γ c4_1 σ h = sq (evS Γ c4_0) (evSs Γ .nil) σ h := Ss_cons
def c4_2 : C := (.ex (.mth .append (.v 1) (.cons (.tup (.cons (.ks ("redo" : Str)) .nil)) .nil)))
@[simp] theorem c4_2_ {Γ : Sys} {σ : MF} {h : MH} : evS Γ c4_2 σ h = evS Γ (.ex (.mth .append (.v 1) (.cons (.tup (.cons (.ks ("redo" : Str)) .nil)) .nil))) σ h := rfl
def c4_3 : C := .cons c4_2 .nil
@[simp] theorem c4_3_ {Γ : Sys} {σ : MF} {h : MH} : evSs Γ c4_3 σ h = sq (evS Γ c4_2) (evSs Γ .nil) σ h := Ss_cons
def c4_4 : C := (.ite (.blt .isinstance (.cons (.v 0) (.cons (.gv (.cls 19)) .nil))) c4_3 .nil)
@[simp] theorem c4_4_ {Γ : Sys} {σ : MF} {h : MH} : evS Γ c4_4 σ h = evS Γ (.ite (.blt .isinstance (.cons (.v 0) (.cons (.gv (.cls 19)) .nil))) c4_3 .nil) σ h := rfl
def c4_5 : C := .cons c4_4 c4_1
@[simp] theorem c4_5_ {Γ : Sys} {σ : MF} {h : MH} : evSs Γ c4_5 σ h = sq (evS Γ c4_4) (evSs Γ c4_1) σ h := Ss_cons
def c4_6 : C := (.ex (.mth .append (.v 1) (.cons (.tup (.cons (.ks ("undo" : Str)) .nil)) .nil)))
@[simp] theorem c4_6_ {Γ : Sys} {σ : MF} {h : MH} : evS Γ c4_6 σ h = evS Γ (.ex (.mth .append (.v 1) (.cons (.tup (.cons (.ks ("undo" : Str)) .nil)) .nil))) σ h := rfl
def c4_7 : C := .cons c4_6 .nil
@[simp] theorem c4_7_ {Γ : Sys} {σ : MF} {h : MH} : evSs Γ c4_7 σ h = sq (evS Γ c4_6) (evSs Γ .nil) σ h := Ss_cons
def c4_8 : C := (.ite (.blt .isinstance (.cons (.v 0) (.cons (.gv (.cls 18)) .nil))) c4_7 .nil)
@[simp] theorem c4_8_ {Γ : Sys} {σ : MF} {h : MH} : evS Γ c4_8 σ h = evS Γ (.ite (.blt .isinstance (.cons (.v 0) (.cons (.gv (.cls 18)) .nil))) c4_7 .nil) σ h := rfl
def c4_9 : C := .cons c4_8 c4_5
@[simp] theorem c4_9_ {Γ : Sys} {σ : MF} {h : MH} : evSs Γ c4_9 σ h = sq (evS Γ c4_8) (evSs Γ c4_5) σ h := Ss_cons
def c4_10 : C := (.ex (.mth .append (.v 1) (.cons (.tup (.cons (.ks ("kept" : Str)) (.cons (.fld (.v 0) ("promise" : Str)) (.cons (.fld (.v 0) ("witness" : Str)) .nil)))) .nil)))
@[simp] theorem c4_10_ {Γ : Sys} {σ : MF} {h : MH} : evS Γ c4_10 σ h = evS Γ (.ex (.mth .append (.v 1) (.cons (.tup (.cons (.ks ("kept" : Str)) (.cons (.fld (.v 0) ("promise" : Str)) (.cons (.fld (.v 0) ("witness" : Str)) .nil)))) .nil))) σ h := rfl
def c4_11 : C := .cons c4_10 .nil
@[simp] theorem c4_11_ {Γ : Sys} {σ : MF} {h : MH} : evSs Γ c4_11 σ h = sq (evS Γ c4_10) (evSs Γ .nil) σ h := Ss_cons
def c4_12 : C := (.ite (.blt .isinstance (.cons (.v 0) (.cons (.gv (.cls 17)) .nil))) c4_11 .nil)
@[simp] theorem c4_12_ {Γ : Sys} {σ : MF} {h : MH} : evS Γ c4_12 σ h = evS Γ (.ite (.blt .isinstance (.cons (.v 0) (.cons (.gv (.cls 17)) .nil))) c4_11 .nil) σ h := rfl
def c4_13 : C := .cons c4_12 c4_9
@[simp] theorem c4_13_ {Γ : Sys} {σ : MF} {h : MH} : evSs Γ c4_13 σ h = sq (evS Γ c4_12) (evSs Γ c4_9) σ h := Ss_cons
def c4_14 : C := (.ex (.mth .append (.v 1) (.cons (.tup (.cons (.ks ("many" : Str)) (.cons (.fld (.v 0) ("what" : Str)) (.cons (.fld (.v 0) ("many" : Str)) (.cons (.fld (.v 0) ("limit" : Str)) .nil))))) .nil)))
@[simp] theorem c4_14_ {Γ : Sys} {σ : MF} {h : MH} : evS Γ c4_14 σ h = evS Γ (.ex (.mth .append (.v 1) (.cons (.tup (.cons (.ks ("many" : Str)) (.cons (.fld (.v 0) ("what" : Str)) (.cons (.fld (.v 0) ("many" : Str)) (.cons (.fld (.v 0) ("limit" : Str)) .nil))))) .nil))) σ h := rfl
def c4_15 : C := .cons c4_14 .nil
@[simp] theorem c4_15_ {Γ : Sys} {σ : MF} {h : MH} : evSs Γ c4_15 σ h = sq (evS Γ c4_14) (evSs Γ .nil) σ h := Ss_cons
def c4_16 : C := (.ite (.blt .isinstance (.cons (.v 0) (.cons (.gv (.cls 16)) .nil))) c4_15 .nil)
@[simp] theorem c4_16_ {Γ : Sys} {σ : MF} {h : MH} : evS Γ c4_16 σ h = evS Γ (.ite (.blt .isinstance (.cons (.v 0) (.cons (.gv (.cls 16)) .nil))) c4_15 .nil) σ h := rfl
def c4_17 : C := .cons c4_16 c4_13
@[simp] theorem c4_17_ {Γ : Sys} {σ : MF} {h : MH} : evSs Γ c4_17 σ h = sq (evS Γ c4_16) (evSs Γ c4_13) σ h := Ss_cons
def c4_18 : C := (.ex (.mth .append (.v 1) (.cons (.tup (.cons (.ks ("notthere" : Str)) (.cons (.fld (.v 0) ("paper" : Str)) .nil))) .nil)))
@[simp] theorem c4_18_ {Γ : Sys} {σ : MF} {h : MH} : evS Γ c4_18 σ h = evS Γ (.ex (.mth .append (.v 1) (.cons (.tup (.cons (.ks ("notthere" : Str)) (.cons (.fld (.v 0) ("paper" : Str)) .nil))) .nil))) σ h := rfl
def c4_19 : C := .cons c4_18 .nil
@[simp] theorem c4_19_ {Γ : Sys} {σ : MF} {h : MH} : evSs Γ c4_19 σ h = sq (evS Γ c4_18) (evSs Γ .nil) σ h := Ss_cons
def c4_20 : C := (.ite (.blt .isinstance (.cons (.v 0) (.cons (.gv (.cls 15)) .nil))) c4_19 .nil)
@[simp] theorem c4_20_ {Γ : Sys} {σ : MF} {h : MH} : evS Γ c4_20 σ h = evS Γ (.ite (.blt .isinstance (.cons (.v 0) (.cons (.gv (.cls 15)) .nil))) c4_19 .nil) σ h := rfl
def c4_21 : C := .cons c4_20 c4_17
@[simp] theorem c4_21_ {Γ : Sys} {σ : MF} {h : MH} : evSs Γ c4_21 σ h = sq (evS Γ c4_20) (evSs Γ c4_17) σ h := Ss_cons
def c4_22 : C := (.ex (.mth .append (.v 1) (.cons (.tup (.cons (.ks ("unlike" : Str)) (.cons (.fld (.v 0) ("what" : Str)) .nil))) .nil)))
@[simp] theorem c4_22_ {Γ : Sys} {σ : MF} {h : MH} : evS Γ c4_22 σ h = evS Γ (.ex (.mth .append (.v 1) (.cons (.tup (.cons (.ks ("unlike" : Str)) (.cons (.fld (.v 0) ("what" : Str)) .nil))) .nil))) σ h := rfl
def c4_23 : C := .cons c4_22 .nil
@[simp] theorem c4_23_ {Γ : Sys} {σ : MF} {h : MH} : evSs Γ c4_23 σ h = sq (evS Γ c4_22) (evSs Γ .nil) σ h := Ss_cons
def c4_24 : C := (.ite (.blt .isinstance (.cons (.v 0) (.cons (.gv (.cls 14)) .nil))) c4_23 .nil)
@[simp] theorem c4_24_ {Γ : Sys} {σ : MF} {h : MH} : evS Γ c4_24 σ h = evS Γ (.ite (.blt .isinstance (.cons (.v 0) (.cons (.gv (.cls 14)) .nil))) c4_23 .nil) σ h := rfl
def c4_25 : C := .cons c4_24 c4_21
@[simp] theorem c4_25_ {Γ : Sys} {σ : MF} {h : MH} : evSs Γ c4_25 σ h = sq (evS Γ c4_24) (evSs Γ c4_21) σ h := Ss_cons
def c4_26 : C := (.ex (.mth .append (.v 1) (.cons (.tup (.cons (.ks ("taken" : Str)) (.cons (.blt .repr (.cons (.fld (.v 0) ("name" : Str)) .nil)) .nil))) .nil)))
@[simp] theorem c4_26_ {Γ : Sys} {σ : MF} {h : MH} : evS Γ c4_26 σ h = evS Γ (.ex (.mth .append (.v 1) (.cons (.tup (.cons (.ks ("taken" : Str)) (.cons (.blt .repr (.cons (.fld (.v 0) ("name" : Str)) .nil)) .nil))) .nil))) σ h := rfl
def c4_27 : C := .cons c4_26 .nil
@[simp] theorem c4_27_ {Γ : Sys} {σ : MF} {h : MH} : evSs Γ c4_27 σ h = sq (evS Γ c4_26) (evSs Γ .nil) σ h := Ss_cons
def c4_28 : C := (.ite (.blt .isinstance (.cons (.v 0) (.cons (.gv (.cls 13)) .nil))) c4_27 .nil)
@[simp] theorem c4_28_ {Γ : Sys} {σ : MF} {h : MH} : evS Γ c4_28 σ h = evS Γ (.ite (.blt .isinstance (.cons (.v 0) (.cons (.gv (.cls 13)) .nil))) c4_27 .nil) σ h := rfl
def c4_29 : C := .cons c4_28 c4_25
@[simp] theorem c4_29_ {Γ : Sys} {σ : MF} {h : MH} : evSs Γ c4_29 σ h = sq (evS Γ c4_28) (evSs Γ c4_25) σ h := Ss_cons
def c4_30 : C := (.ex (.mth .append (.v 1) (.cons (.tup (.cons (.ks ("noname" : Str)) (.cons (.blt .repr (.cons (.fld (.v 0) ("name" : Str)) .nil)) .nil))) .nil)))
@[simp] theorem c4_30_ {Γ : Sys} {σ : MF} {h : MH} : evS Γ c4_30 σ h = evS Γ (.ex (.mth .append (.v 1) (.cons (.tup (.cons (.ks ("noname" : Str)) (.cons (.blt .repr (.cons (.fld (.v 0) ("name" : Str)) .nil)) .nil))) .nil))) σ h := rfl
def c4_31 : C := .cons c4_30 .nil
@[simp] theorem c4_31_ {Γ : Sys} {σ : MF} {h : MH} : evSs Γ c4_31 σ h = sq (evS Γ c4_30) (evSs Γ .nil) σ h := Ss_cons
def c4_32 : C := (.ite (.blt .isinstance (.cons (.v 0) (.cons (.gv (.cls 12)) .nil))) c4_31 .nil)
@[simp] theorem c4_32_ {Γ : Sys} {σ : MF} {h : MH} : evS Γ c4_32 σ h = evS Γ (.ite (.blt .isinstance (.cons (.v 0) (.cons (.gv (.cls 12)) .nil))) c4_31 .nil) σ h := rfl
def c4_33 : C := .cons c4_32 c4_29
@[simp] theorem c4_33_ {Γ : Sys} {σ : MF} {h : MH} : evSs Γ c4_33 σ h = sq (evS Γ c4_32) (evSs Γ c4_29) σ h := Ss_cons
def c4_34 : C := (.ex (.mth .append (.v 1) (.cons (.tup (.cons (.ks ("place" : Str)) (.cons (.fld (.v 0) ("what" : Str)) (.cons (.blt .repr (.cons (.fld (.v 0) ("index" : Str)) .nil)) .nil)))) .nil)))
@[simp] theorem c4_34_ {Γ : Sys} {σ : MF} {h : MH} : evS Γ c4_34 σ h = evS Γ (.ex (.mth .append (.v 1) (.cons (.tup (.cons (.ks ("place" : Str)) (.cons (.fld (.v 0) ("what" : Str)) (.cons (.blt .repr (.cons (.fld (.v 0) ("index" : Str)) .nil)) .nil)))) .nil))) σ h := rfl
def c4_35 : C := .cons c4_34 .nil
@[simp] theorem c4_35_ {Γ : Sys} {σ : MF} {h : MH} : evSs Γ c4_35 σ h = sq (evS Γ c4_34) (evSs Γ .nil) σ h := Ss_cons
def c4_36 : C := (.ite (.blt .isinstance (.cons (.v 0) (.cons (.gv (.cls 11)) .nil))) c4_35 .nil)
@[simp] theorem c4_36_ {Γ : Sys} {σ : MF} {h : MH} : evS Γ c4_36 σ h = evS Γ (.ite (.blt .isinstance (.cons (.v 0) (.cons (.gv (.cls 11)) .nil))) c4_35 .nil) σ h := rfl
def c4_37 : C := .cons c4_36 c4_33
@[simp] theorem c4_37_ {Γ : Sys} {σ : MF} {h : MH} : evSs Γ c4_37 σ h = sq (evS Γ c4_36) (evSs Γ c4_33) σ h := Ss_cons
def c4_38 : C := (.set (.tv 1) (.lst .nil))
@[simp] theorem c4_38_ {Γ : Sys} {σ : MF} {h : MH} : evS Γ c4_38 σ h = evS Γ (.set (.tv 1) (.lst .nil)) σ h := rfl
def c4_39 : C := .cons c4_38 c4_37
@[simp] theorem c4_39_ {Γ : Sys} {σ : MF} {h : MH} : evSs Γ c4_39 σ h = sq (evS Γ c4_38) (evSs Γ c4_37) σ h := Ss_cons
/-- _law_more_kinds -/
def c4 : C := c4_39
def r4 : Mini.Row := ⟨26, ("_law_more_kinds" : Str), [("e" : Str)], [("e" : Str), ("found" : Str)], true, c4⟩
def c5_0 : C := (.ret (.call 2 (.cons (.v 0) (.cons (.lst (.cons .kn (.cons (.kb true) (.cons (.kb false) (.cons (.ki 0) (.cons (.neg (.ki 1)) (.cons (.ks ("x" : Str)) (.cons (.ks ("" : Str)) (.cons (.op .pow (.ki 10) (.ki 40)) (.cons (.dct (.cons (.ks ("k" : Str)) (.cons (.ki 1) .nil))) .nil)))))))))) .nil))))
@[simp] theorem c5_0_ {Γ : Sys} {σ : MF} {h : MH} : evS Γ c5_0 σ h = evS Γ (.ret (.call 2 (.cons (.v 0) (.cons (.lst (.cons .kn (.cons (.kb true) (.cons (.kb false) (.cons (.ki 0) (.cons (.neg (.ki 1)) (.cons (.ks ("x" : Str)) (.cons (.ks ("" : Str)) (.cons (.op .pow (.ki 10) (.ki 40)) (.cons (.dct (.cons (.ks ("k" : Str)) (.cons (.ki 1) .nil))) .nil)))))))))) .nil)))) σ h := rfl
def c5_1 : C := .cons c5_0 .nil
@[simp] theorem c5_1_ {Γ : Sys} {σ : MF} {h : MH} : evSs Γ c5_1 σ h = sq (evS Γ c5_0) (evSs Γ .nil) σ h := Ss_cons
def c5_2 : C := (.ret (.tup (.cons (.ks ("a" : Str)) (.cons (.tup (.cons (.call 1 (.cons (.v 0) (.cons (.op .pow (.ki 10) (.ki 6)) .nil))) .nil)) .nil))))
@[simp] theorem c5_2_ {Γ : Sys} {σ : MF} {h : MH} : evS Γ c5_2 σ h = evS Γ (.ret (.tup (.cons (.ks ("a" : Str)) (.cons (.tup (.cons (.call 1 (.cons (.v 0) (.cons (.op .pow (.ki 10) (.ki 6)) .nil))) .nil)) .nil)))) σ h := rfl
def c5_3 : C := .cons c5_2 .nil
@[simp] theorem c5_3_ {Γ : Sys} {σ : MF} {h : MH} : evSs Γ c5_3 σ h = sq (evS Γ c5_2) (evSs Γ .nil) σ h := Ss_cons
def c5_4 : C := (.ite (.cm .eq (.v 1) (.ki 1)) c5_3 .nil)
@[simp] theorem c5_4_ {Γ : Sys} {σ : MF} {h : MH} : evS Γ c5_4 σ h = evS Γ (.ite (.cm .eq (.v 1) (.ki 1)) c5_3 .nil) σ h := rfl
def c5_5 : C := .cons c5_4 c5_1
@[simp] theorem c5_5_ {Γ : Sys} {σ : MF} {h : MH} : evSs Γ c5_5 σ h = sq (evS Γ c5_4) (evSs Γ c5_1) σ h := Ss_cons
def c5_6 : C := (.ret (.lst (.cons (.call 1 (.cons (.v 0) (.cons (.ki 100) .nil))) (.cons (.lst .nil) .nil))))
@[simp] theorem c5_6_ {Γ : Sys} {σ : MF} {h : MH} : evS Γ c5_6 σ h = evS Γ (.ret (.lst (.cons (.call 1 (.cons (.v 0) (.cons (.ki 100) .nil))) (.cons (.lst .nil) .nil)))) σ h := rfl
def c5_7 : C := .cons c5_6 .nil
@[simp] theorem c5_7_ {Γ : Sys} {σ : MF} {h : MH} : evSs Γ c5_7 σ h = sq (evS Γ c5_6) (evSs Γ .nil) σ h := Ss_cons
def c5_8 : C := (.ite (.cm .eq (.v 1) (.ki 0)) c5_7 .nil)
@[simp] theorem c5_8_ {Γ : Sys} {σ : MF} {h : MH} : evS Γ c5_8 σ h = evS Γ (.ite (.cm .eq (.v 1) (.ki 0)) c5_7 .nil) σ h := rfl
def c5_9 : C := .cons c5_8 c5_5
@[simp] theorem c5_9_ {Γ : Sys} {σ : MF} {h : MH} : evSs Γ c5_9 σ h = sq (evS Γ c5_8) (evSs Γ c5_5) σ h := Ss_cons
def c5_10 : C := (.set (.tv 1) (.call 1 (.cons (.v 0) (.cons (.ki 8) .nil))))
@[simp] theorem c5_10_ {Γ : Sys} {σ : MF} {h : MH} : evS Γ c5_10 σ h = evS Γ (.set (.tv 1) (.call 1 (.cons (.v 0) (.cons (.ki 8) .nil)))) σ h := rfl
def c5_11 : C := .cons c5_10 c5_9
@[simp] theorem c5_11_ {Γ : Sys} {σ : MF} {h : MH} : evSs Γ c5_11 σ h = sq (evS Γ c5_10) (evSs Γ c5_9) σ h := Ss_cons
/-- _law_any_field -/
def c5 : C := c5_11
def r5 : Mini.Row := ⟨27, ("_law_any_field" : Str), [("pen" : Str)], [("pen" : Str), ("way" : Str)], false, c5⟩
def c6_0 : C := (.rais 15 (.cons (.v 1) .nil))
@[simp] theorem c6_0_ {Γ : Sys} {σ : MF} {h : MH} : evS Γ c6_0 σ h = evS Γ (.rais 15 (.cons (.v 1) .nil)) σ h := rfl
def c6_1 : C := .cons c6_0 .nil
@[simp] theorem c6_1_ {Γ : Sys} {σ : MF} {h : MH} : evSs Γ c6_1 σ h = sq (evS Γ c6_0) (evSs Γ .nil) σ h := Ss_cons
def c6_2 : C := (.ite (.cm .eq (.v 0) (.ki 9)) c6_1 .nil)
@[simp] theorem c6_2_ {Γ : Sys} {σ : MF} {h : MH} : evS Γ c6_2 σ h = evS Γ (.ite (.cm .eq (.v 0) (.ki 9)) c6_1 .nil) σ h := rfl
def c6_3 : C := .cons c6_2 .nil
@[simp] theorem c6_3_ {Γ : Sys} {σ : MF} {h : MH} : evSs Γ c6_3 σ h = sq (evS Γ c6_2) (evSs Γ .nil) σ h := Ss_cons
def c6_4 : C := (.rais 14 (.cons (.v 1) .nil))
@[simp] theorem c6_4_ {Γ : Sys} {σ : MF} {h : MH} : evS Γ c6_4 σ h = evS Γ (.rais 14 (.cons (.v 1) .nil)) σ h := rfl
def c6_5 : C := .cons c6_4 .nil
@[simp] theorem c6_5_ {Γ : Sys} {σ : MF} {h : MH} : evSs Γ c6_5 σ h = sq (evS Γ c6_4) (evSs Γ .nil) σ h := Ss_cons
def c6_6 : C := (.ite (.cm .eq (.v 0) (.ki 8)) c6_5 .nil)
@[simp] theorem c6_6_ {Γ : Sys} {σ : MF} {h : MH} : evS Γ c6_6 σ h = evS Γ (.ite (.cm .eq (.v 0) (.ki 8)) c6_5 .nil) σ h := rfl
def c6_7 : C := .cons c6_6 c6_3
@[simp] theorem c6_7_ {Γ : Sys} {σ : MF} {h : MH} : evSs Γ c6_7 σ h = sq (evS Γ c6_6) (evSs Γ c6_3) σ h := Ss_cons
def c6_8 : C := (.rais 8 (.cons (.v 1) .nil))
@[simp] theorem c6_8_ {Γ : Sys} {σ : MF} {h : MH} : evS Γ c6_8 σ h = evS Γ (.rais 8 (.cons (.v 1) .nil)) σ h := rfl
def c6_9 : C := .cons c6_8 .nil
@[simp] theorem c6_9_ {Γ : Sys} {σ : MF} {h : MH} : evSs Γ c6_9 σ h = sq (evS Γ c6_8) (evSs Γ .nil) σ h := Ss_cons
def c6_10 : C := (.ite (.cm .eq (.v 0) (.ki 7)) c6_9 .nil)
@[simp] theorem c6_10_ {Γ : Sys} {σ : MF} {h : MH} : evS Γ c6_10 σ h = evS Γ (.ite (.cm .eq (.v 0) (.ki 7)) c6_9 .nil) σ h := rfl
def c6_11 : C := .cons c6_10 c6_7
@[simp] theorem c6_11_ {Γ : Sys} {σ : MF} {h : MH} : evSs Γ c6_11 σ h = sq (evS Γ c6_10) (evSs Γ c6_7) σ h := Ss_cons
def c6_12 : C := (.rais 6 (.cons (.v 1) .nil))
@[simp] theorem c6_12_ {Γ : Sys} {σ : MF} {h : MH} : evS Γ c6_12 σ h = evS Γ (.rais 6 (.cons (.v 1) .nil)) σ h := rfl
def c6_13 : C := .cons c6_12 .nil
@[simp] theorem c6_13_ {Γ : Sys} {σ : MF} {h : MH} : evSs Γ c6_13 σ h = sq (evS Γ c6_12) (evSs Γ .nil) σ h := Ss_cons
def c6_14 : C := (.ite (.cm .eq (.v 0) (.ki 6)) c6_13 .nil)
@[simp] theorem c6_14_ {Γ : Sys} {σ : MF} {h : MH} : evS Γ c6_14 σ h = evS Γ (.ite (.cm .eq (.v 0) (.ki 6)) c6_13 .nil) σ h := rfl
def c6_15 : C := .cons c6_14 c6_11
@[simp] theorem c6_15_ {Γ : Sys} {σ : MF} {h : MH} : evSs Γ c6_15 σ h = sq (evS Γ c6_14) (evSs Γ c6_11) σ h := Ss_cons
def c6_16 : C := (.rais 5 (.cons (.v 1) .nil))
@[simp] theorem c6_16_ {Γ : Sys} {σ : MF} {h : MH} : evS Γ c6_16 σ h = evS Γ (.rais 5 (.cons (.v 1) .nil)) σ h := rfl
def c6_17 : C := .cons c6_16 .nil
@[simp] theorem c6_17_ {Γ : Sys} {σ : MF} {h : MH} : evSs Γ c6_17 σ h = sq (evS Γ c6_16) (evSs Γ .nil) σ h := Ss_cons
def c6_18 : C := (.ite (.cm .eq (.v 0) (.ki 5)) c6_17 .nil)
@[simp] theorem c6_18_ {Γ : Sys} {σ : MF} {h : MH} : evS Γ c6_18 σ h = evS Γ (.ite (.cm .eq (.v 0) (.ki 5)) c6_17 .nil) σ h := rfl
def c6_19 : C := .cons c6_18 c6_15
@[simp] theorem c6_19_ {Γ : Sys} {σ : MF} {h : MH} : evSs Γ c6_19 σ h = sq (evS Γ c6_18) (evSs Γ c6_15) σ h := Ss_cons
def c6_20 : C := (.rais 4 (.cons (.v 1) .nil))
@[simp] theorem c6_20_ {Γ : Sys} {σ : MF} {h : MH} : evS Γ c6_20 σ h = evS Γ (.rais 4 (.cons (.v 1) .nil)) σ h := rfl
def c6_21 : C := .cons c6_20 .nil
@[simp] theorem c6_21_ {Γ : Sys} {σ : MF} {h : MH} : evSs Γ c6_21 σ h = sq (evS Γ c6_20) (evSs Γ .nil) σ h := Ss_cons
def c6_22 : C := (.ite (.cm .eq (.v 0) (.ki 4)) c6_21 .nil)
@[simp] theorem c6_22_ {Γ : Sys} {σ : MF} {h : MH} : evS Γ c6_22 σ h = evS Γ (.ite (.cm .eq (.v 0) (.ki 4)) c6_21 .nil) σ h := rfl
def c6_23 : C := .cons c6_22 c6_19
@[simp] theorem c6_23_ {Γ : Sys} {σ : MF} {h : MH} : evSs Γ c6_23 σ h = sq (evS Γ c6_22) (evSs Γ c6_19) σ h := Ss_cons
def c6_24 : C := (.rais 11 (.cons (.v 1) (.cons (.v 2) .nil)))
@[simp] theorem c6_24_ {Γ : Sys} {σ : MF} {h : MH} : evS Γ c6_24 σ h = evS Γ (.rais 11 (.cons (.v 1) (.cons (.v 2) .nil))) σ h := rfl
def c6_25 : C := .cons c6_24 .nil
@[simp] theorem c6_25_ {Γ : Sys} {σ : MF} {h : MH} : evSs Γ c6_25 σ h = sq (evS Γ c6_24) (evSs Γ .nil) σ h := Ss_cons
def c6_26 : C := (.ite (.cm .eq (.v 0) (.ki 3)) c6_25 .nil)
@[simp] theorem c6_26_ {Γ : Sys} {σ : MF} {h : MH} : evS Γ c6_26 σ h = evS Γ (.ite (.cm .eq (.v 0) (.ki 3)) c6_25 .nil) σ h := rfl
def c6_27 : C := .cons c6_26 c6_23
@[simp] theorem c6_27_ {Γ : Sys} {σ : MF} {h : MH} : evSs Γ c6_27 σ h = sq (evS Γ c6_26) (evSs Γ c6_23) σ h := Ss_cons
def c6_28 : C := (.rais 3 (.cons (.v 1) (.cons (.v 2) .nil)))
@[simp] theorem c6_28_ {Γ : Sys} {σ : MF} {h : MH} : evS Γ c6_28 σ h = evS Γ (.rais 3 (.cons (.v 1) (.cons (.v 2) .nil))) σ h := rfl
def c6_29 : C := .cons c6_28 .nil
@[simp] theorem c6_29_ {Γ : Sys} {σ : MF} {h : MH} : evSs Γ c6_29 σ h = sq (evS Γ c6_28) (evSs Γ .nil) σ h := Ss_cons
def c6_30 : C := (.ite (.cm .eq (.v 0) (.ki 2)) c6_29 .nil)
@[simp] theorem c6_30_ {Γ : Sys} {σ : MF} {h : MH} : evS Γ c6_30 σ h = evS Γ (.ite (.cm .eq (.v 0) (.ki 2)) c6_29 .nil) σ h := rfl
def c6_31 : C := .cons c6_30 c6_27
@[simp] theorem c6_31_ {Γ : Sys} {σ : MF} {h : MH} : evSs Γ c6_31 σ h = sq (evS Γ c6_30) (evSs Γ c6_27) σ h := Ss_cons
def c6_32 : C := (.rais 2 (.cons (.v 1) (.cons (.v 2) .nil)))
@[simp] theorem c6_32_ {Γ : Sys} {σ : MF} {h : MH} : evS Γ c6_32 σ h = evS Γ (.rais 2 (.cons (.v 1) (.cons (.v 2) .nil))) σ h := rfl
def c6_33 : C := .cons c6_32 .nil
@[simp] theorem c6_33_ {Γ : Sys} {σ : MF} {h : MH} : evSs Γ c6_33 σ h = sq (evS Γ c6_32) (evSs Γ .nil) σ h := Ss_cons
def c6_34 : C := (.ite (.cm .eq (.v 0) (.ki 1)) c6_33 .nil)
@[simp] theorem c6_34_ {Γ : Sys} {σ : MF} {h : MH} : evS Γ c6_34 σ h = evS Γ (.ite (.cm .eq (.v 0) (.ki 1)) c6_33 .nil) σ h := rfl
def c6_35 : C := .cons c6_34 c6_31
@[simp] theorem c6_35_ {Γ : Sys} {σ : MF} {h : MH} : evSs Γ c6_35 σ h = sq (evS Γ c6_34) (evSs Γ c6_31) σ h := Ss_cons
def c6_36 : C := (.rais 1 (.cons (.v 1) (.cons (.v 2) .nil)))
@[simp] theorem c6_36_ {Γ : Sys} {σ : MF} {h : MH} : evS Γ c6_36 σ h = evS Γ (.rais 1 (.cons (.v 1) (.cons (.v 2) .nil))) σ h := rfl
def c6_37 : C := .cons c6_36 .nil
@[simp] theorem c6_37_ {Γ : Sys} {σ : MF} {h : MH} : evSs Γ c6_37 σ h = sq (evS Γ c6_36) (evSs Γ .nil) σ h := Ss_cons
def c6_38 : C := (.ite (.cm .eq (.v 0) (.ki 0)) c6_37 .nil)
@[simp] theorem c6_38_ {Γ : Sys} {σ : MF} {h : MH} : evS Γ c6_38 σ h = evS Γ (.ite (.cm .eq (.v 0) (.ki 0)) c6_37 .nil) σ h := rfl
def c6_39 : C := .cons c6_38 c6_35
@[simp] theorem c6_39_ {Γ : Sys} {σ : MF} {h : MH} : evSs Γ c6_39 σ h = sq (evS Γ c6_38) (evSs Γ c6_35) σ h := Ss_cons
/-- _law_raised -/
def c6 : C := c6_39
def r6 : Mini.Row := ⟨28, ("_law_raised" : Str), [("kind" : Str), ("one" : Str), ("two" : Str), ("three" : Str)], [("kind" : Str), ("one" : Str), ("two" : Str), ("three" : Str)], false, c6⟩
def c7_0 : C := (.rais 19 .nil)
@[simp] theorem c7_0_ {Γ : Sys} {σ : MF} {h : MH} : evS Γ c7_0 σ h = evS Γ (.rais 19 .nil) σ h := rfl
def c7_1 : C := .cons c7_0 .nil
@[simp] theorem c7_1_ {Γ : Sys} {σ : MF} {h : MH} : evSs Γ c7_1 σ h = sq (evS Γ c7_0) (evSs Γ .nil) σ h := Ss_cons
def c7_2 : C := (.ite (.cm .eq (.v 0) (.ki 18)) c7_1 .nil)
@[simp] theorem c7_2_ {Γ : Sys} {σ : MF} {h : MH} : evS Γ c7_2 σ h = evS Γ (.ite (.cm .eq (.v 0) (.ki 18)) c7_1 .nil) σ h := rfl
def c7_3 : C := .cons c7_2 .nil
@[simp] theorem c7_3_ {Γ : Sys} {σ : MF} {h : MH} : evSs Γ c7_3 σ h = sq (evS Γ c7_2) (evSs Γ .nil) σ h := Ss_cons
def c7_4 : C := (.rais 18 .nil)
@[simp] theorem c7_4_ {Γ : Sys} {σ : MF} {h : MH} : evS Γ c7_4 σ h = evS Γ (.rais 18 .nil) σ h := rfl
def c7_5 : C := .cons c7_4 .nil
@[simp] theorem c7_5_ {Γ : Sys} {σ : MF} {h : MH} : evSs Γ c7_5 σ h = sq (evS Γ c7_4) (evSs Γ .nil) σ h := Ss_cons
def c7_6 : C := (.ite (.cm .eq (.v 0) (.ki 17)) c7_5 .nil)
@[simp] theorem c7_6_ {Γ : Sys} {σ : MF} {h : MH} : evS Γ c7_6 σ h = evS Γ (.ite (.cm .eq (.v 0) (.ki 17)) c7_5 .nil) σ h := rfl
def c7_7 : C := .cons c7_6 c7_3
@[simp] theorem c7_7_ {Γ : Sys} {σ : MF} {h : MH} : evSs Γ c7_7 σ h = sq (evS Γ c7_6) (evSs Γ c7_3) σ h := Ss_cons
def c7_8 : C := (.rais 16 (.cons (.v 1) (.cons (.v 2) (.cons (.v 3) .nil))))
@[simp] theorem c7_8_ {Γ : Sys} {σ : MF} {h : MH} : evS Γ c7_8 σ h = evS Γ (.rais 16 (.cons (.v 1) (.cons (.v 2) (.cons (.v 3) .nil)))) σ h := rfl
def c7_9 : C := .cons c7_8 .nil
@[simp] theorem c7_9_ {Γ : Sys} {σ : MF} {h : MH} : evSs Γ c7_9 σ h = sq (evS Γ c7_8) (evSs Γ .nil) σ h := Ss_cons
def c7_10 : C := (.ite (.cm .eq (.v 0) (.ki 16)) c7_9 .nil)
@[simp] theorem c7_10_ {Γ : Sys} {σ : MF} {h : MH} : evS Γ c7_10 σ h = evS Γ (.ite (.cm .eq (.v 0) (.ki 16)) c7_9 .nil) σ h := rfl
def c7_11 : C := .cons c7_10 c7_7
@[simp] theorem c7_11_ {Γ : Sys} {σ : MF} {h : MH} : evSs Γ c7_11 σ h = sq (evS Γ c7_10) (evSs Γ c7_7) σ h := Ss_cons
def c7_12 : C := (.rais 17 (.cons (.v 1) (.cons (.v 2) .nil)))
@[simp] theorem c7_12_ {Γ : Sys} {σ : MF} {h : MH} : evS Γ c7_12 σ h = evS Γ (.rais 17 (.cons (.v 1) (.cons (.v 2) .nil))) σ h := rfl
def c7_13 : C := .cons c7_12 .nil
@[simp] theorem c7_13_ {Γ : Sys} {σ : MF} {h : MH} : evSs Γ c7_13 σ h = sq (evS Γ c7_12) (evSs Γ .nil) σ h := Ss_cons
def c7_14 : C := (.ite (.cm .eq (.v 0) (.ki 15)) c7_13 .nil)
@[simp] theorem c7_14_ {Γ : Sys} {σ : MF} {h : MH} : evS Γ c7_14 σ h = evS Γ (.ite (.cm .eq (.v 0) (.ki 15)) c7_13 .nil) σ h := rfl
def c7_15 : C := .cons c7_14 c7_11
@[simp] theorem c7_15_ {Γ : Sys} {σ : MF} {h : MH} : evSs Γ c7_15 σ h = sq (evS Γ c7_14) (evSs Γ c7_11) σ h := Ss_cons
def c7_16 : C := (.rais 10 (.cons (.v 1) (.cons (.v 2) .nil)))
@[simp] theorem c7_16_ {Γ : Sys} {σ : MF} {h : MH} : evS Γ c7_16 σ h = evS Γ (.rais 10 (.cons (.v 1) (.cons (.v 2) .nil))) σ h := rfl
def c7_17 : C := .cons c7_16 .nil
@[simp] theorem c7_17_ {Γ : Sys} {σ : MF} {h : MH} : evSs Γ c7_17 σ h = sq (evS Γ c7_16) (evSs Γ .nil) σ h := Ss_cons
def c7_18 : C := (.ite (.cm .eq (.v 0) (.ki 14)) c7_17 .nil)
@[simp] theorem c7_18_ {Γ : Sys} {σ : MF} {h : MH} : evS Γ c7_18 σ h = evS Γ (.ite (.cm .eq (.v 0) (.ki 14)) c7_17 .nil) σ h := rfl
def c7_19 : C := .cons c7_18 c7_15
@[simp] theorem c7_19_ {Γ : Sys} {σ : MF} {h : MH} : evSs Γ c7_19 σ h = sq (evS Γ c7_18) (evSs Γ c7_15) σ h := Ss_cons
def c7_20 : C := (.rais 13 (.cons (.v 1) .nil))
@[simp] theorem c7_20_ {Γ : Sys} {σ : MF} {h : MH} : evS Γ c7_20 σ h = evS Γ (.rais 13 (.cons (.v 1) .nil)) σ h := rfl
def c7_21 : C := .cons c7_20 .nil
@[simp] theorem c7_21_ {Γ : Sys} {σ : MF} {h : MH} : evSs Γ c7_21 σ h = sq (evS Γ c7_20) (evSs Γ .nil) σ h := Ss_cons
def c7_22 : C := (.ite (.cm .eq (.v 0) (.ki 13)) c7_21 .nil)
@[simp] theorem c7_22_ {Γ : Sys} {σ : MF} {h : MH} : evS Γ c7_22 σ h = evS Γ (.ite (.cm .eq (.v 0) (.ki 13)) c7_21 .nil) σ h := rfl
def c7_23 : C := .cons c7_22 c7_19
@[simp] theorem c7_23_ {Γ : Sys} {σ : MF} {h : MH} : evSs Γ c7_23 σ h = sq (evS Γ c7_22) (evSs Γ c7_19) σ h := Ss_cons
def c7_24 : C := (.rais 12 (.cons (.v 1) .nil))
@[simp] theorem c7_24_ {Γ : Sys} {σ : MF} {h : MH} : evS Γ c7_24 σ h = evS Γ (.rais 12 (.cons (.v 1) .nil)) σ h := rfl
def c7_25 : C := .cons c7_24 .nil
@[simp] theorem c7_25_ {Γ : Sys} {σ : MF} {h : MH} : evSs Γ c7_25 σ h = sq (evS Γ c7_24) (evSs Γ .nil) σ h := Ss_cons
def c7_26 : C := (.ite (.cm .eq (.v 0) (.ki 12)) c7_25 .nil)
@[simp] theorem c7_26_ {Γ : Sys} {σ : MF} {h : MH} : evS Γ c7_26 σ h = evS Γ (.ite (.cm .eq (.v 0) (.ki 12)) c7_25 .nil) σ h := rfl
def c7_27 : C := .cons c7_26 c7_23
@[simp] theorem c7_27_ {Γ : Sys} {σ : MF} {h : MH} : evSs Γ c7_27 σ h = sq (evS Γ c7_26) (evSs Γ c7_23) σ h := Ss_cons
def c7_28 : C := (.rais 9 (.cons (.v 1) .nil))
@[simp] theorem c7_28_ {Γ : Sys} {σ : MF} {h : MH} : evS Γ c7_28 σ h = evS Γ (.rais 9 (.cons (.v 1) .nil)) σ h := rfl
def c7_29 : C := .cons c7_28 .nil
@[simp] theorem c7_29_ {Γ : Sys} {σ : MF} {h : MH} : evSs Γ c7_29 σ h = sq (evS Γ c7_28) (evSs Γ .nil) σ h := Ss_cons
def c7_30 : C := (.ite (.cm .eq (.v 0) (.ki 11)) c7_29 .nil)
@[simp] theorem c7_30_ {Γ : Sys} {σ : MF} {h : MH} : evS Γ c7_30 σ h = evS Γ (.ite (.cm .eq (.v 0) (.ki 11)) c7_29 .nil) σ h := rfl
def c7_31 : C := .cons c7_30 c7_27
@[simp] theorem c7_31_ {Γ : Sys} {σ : MF} {h : MH} : evSs Γ c7_31 σ h = sq (evS Γ c7_30) (evSs Γ c7_27) σ h := Ss_cons
def c7_32 : C := (.rais 7 (.cons (.v 1) .nil))
@[simp] theorem c7_32_ {Γ : Sys} {σ : MF} {h : MH} : evS Γ c7_32 σ h = evS Γ (.rais 7 (.cons (.v 1) .nil)) σ h := rfl
def c7_33 : C := .cons c7_32 .nil
@[simp] theorem c7_33_ {Γ : Sys} {σ : MF} {h : MH} : evSs Γ c7_33 σ h = sq (evS Γ c7_32) (evSs Γ .nil) σ h := Ss_cons
def c7_34 : C := (.ite (.cm .eq (.v 0) (.ki 10)) c7_33 .nil)
@[simp] theorem c7_34_ {Γ : Sys} {σ : MF} {h : MH} : evS Γ c7_34 σ h = evS Γ (.ite (.cm .eq (.v 0) (.ki 10)) c7_33 .nil) σ h := rfl
def c7_35 : C := .cons c7_34 c7_31
@[simp] theorem c7_35_ {Γ : Sys} {σ : MF} {h : MH} : evSs Γ c7_35 σ h = sq (evS Γ c7_34) (evSs Γ c7_31) σ h := Ss_cons
/-- _law_raised_too -/
def c7 : C := c7_35
def r7 : Mini.Row := ⟨29, ("_law_raised_too" : Str), [("kind" : Str), ("one" : Str), ("two" : Str), ("three" : Str)], [("kind" : Str), ("one" : Str), ("two" : Str), ("three" : Str)], false, c7⟩
def c8_0 : C := (.ret (.v 4))
@[simp] theorem c8_0_ {Γ : Sys} {σ : MF} {h : MH} : evS Γ c8_0 σ h = evS Γ (.ret (.v 4)) σ h := rfl
def c8_1 : C := .cons c8_0 .nil
@[simp] theorem c8_1_ {Γ : Sys} {σ : MF} {h : MH} : evSs Γ c8_1 σ h = sq (evS Γ c8_0) (evSs Γ .nil) σ h := Ss_cons
def c8_2 : C := (.ex (.call 7 (.cons (.v 0) (.cons (.v 1) (.cons (.v 2) (.cons (.v 3) .nil))))))
@[simp] theorem c8_2_ {Γ : Sys} {σ : MF} {h : MH} : evS Γ c8_2 σ h = evS Γ (.ex (.call 7 (.cons (.v 0) (.cons (.v 1) (.cons (.v 2) (.cons (.v 3) .nil)))))) σ h := rfl
def c8_3 : C := .cons c8_2 .nil
@[simp] theorem c8_3_ {Γ : Sys} {σ : MF} {h : MH} : evSs Γ c8_3 σ h = sq (evS Γ c8_2) (evSs Γ .nil) σ h := Ss_cons
def c8_4 : C := (.ex (.call 6 (.cons (.v 0) (.cons (.v 1) (.cons (.v 2) (.cons (.v 3) .nil))))))
@[simp] theorem c8_4_ {Γ : Sys} {σ : MF} {h : MH} : evS Γ c8_4 σ h = evS Γ (.ex (.call 6 (.cons (.v 0) (.cons (.v 1) (.cons (.v 2) (.cons (.v 3) .nil)))))) σ h := rfl
def c8_5 : C := .cons c8_4 c8_3
@[simp] theorem c8_5_ {Γ : Sys} {σ : MF} {h : MH} : evSs Γ c8_5 σ h = sq (evS Γ c8_4) (evSs Γ c8_3) σ h := Ss_cons
def c8_6 : C := (.set (.tv 4) (.call 3 (.cons (.v 5) .nil)))
@[simp] theorem c8_6_ {Γ : Sys} {σ : MF} {h : MH} : evS Γ c8_6 σ h = evS Γ (.set (.tv 4) (.call 3 (.cons (.v 5) .nil))) σ h := rfl
def c8_7 : C := .cons c8_6 .nil
@[simp] theorem c8_7_ {Γ : Sys} {σ : MF} {h : MH} : evSs Γ c8_7 σ h = sq (evS Γ c8_6) (evSs Γ .nil) σ h := Ss_cons
def c8_8 : C := (.ite (.blt .isinstance (.cons (.v 5) (.cons (.gv (.ty "ValueError")) .nil))) c8_7 .nil)
@[simp] theorem c8_8_ {Γ : Sys} {σ : MF} {h : MH} : evS Γ c8_8 σ h = evS Γ (.ite (.blt .isinstance (.cons (.v 5) (.cons (.gv (.ty "ValueError")) .nil))) c8_7 .nil) σ h := rfl
def c8_9 : C := .cons c8_8 .nil
@[simp] theorem c8_9_ {Γ : Sys} {σ : MF} {h : MH} : evSs Γ c8_9 σ h = sq (evS Γ c8_8) (evSs Γ .nil) σ h := Ss_cons
def c8_10 : C := (.try_ c8_5 0 5 c8_9)
@[simp] theorem c8_10_ {Γ : Sys} {σ : MF} {h : MH} : evS Γ c8_10 σ h = evS Γ (.try_ c8_5 0 5 c8_9) σ h := rfl
def c8_11 : C := .cons c8_10 c8_1
@[simp] theorem c8_11_ {Γ : Sys} {σ : MF} {h : MH} : evSs Γ c8_11 σ h = sq (evS Γ c8_10) (evSs Γ c8_1) σ h := Ss_cons
def c8_12 : C := (.set (.tv 4) .kn)
@[simp] theorem c8_12_ {Γ : Sys} {σ : MF} {h : MH} : evS Γ c8_12 σ h = evS Γ (.set (.tv 4) .kn) σ h := rfl
def c8_13 : C := .cons c8_12 c8_11
@[simp] theorem c8_13_ {Γ : Sys} {σ : MF} {h : MH} : evSs Γ c8_13 σ h = sq (evS Γ c8_12) (evSs Γ c8_11) σ h := Ss_cons
/-- _law_told -/
def c8 : C := c8_13
def r8 : Mini.Row := ⟨30, ("_law_told" : Str), [("kind" : Str), ("one" : Str), ("two" : Str), ("three" : Str)], [("kind" : Str), ("one" : Str), ("two" : Str), ("three" : Str), ("found" : Str), ("e" : Str)], false, c8⟩
def c9_0 : C := (.ret (.ifx (.cm .eq (.v 0) (.ki 16)) (.tup (.cons (.ix (.v 4) (.v 0)) (.cons (.v 1) (.cons (.v 2) (.cons (.v 3) .nil))))) (.tup (.cons (.ix (.v 4) (.v 0)) .nil))))
@[simp] theorem c9_0_ {Γ : Sys} {σ : MF} {h : MH} : evS Γ c9_0 σ h = evS Γ (.ret (.ifx (.cm .eq (.v 0) (.ki 16)) (.tup (.cons (.ix (.v 4) (.v 0)) (.cons (.v 1) (.cons (.v 2) (.cons (.v 3) .nil))))) (.tup (.cons (.ix (.v 4) (.v 0)) .nil)))) σ h := rfl
def c9_1 : C := .cons c9_0 .nil
@[simp] theorem c9_1_ {Γ : Sys} {σ : MF} {h : MH} : evSs Γ c9_1 σ h = sq (evS Γ c9_0) (evSs Γ .nil) σ h := Ss_cons
def c9_2 : C := (.ret (.tup (.cons (.ix (.v 4) (.v 0)) (.cons (.v 1) (.cons (.v 2) .nil)))))
@[simp] theorem c9_2_ {Γ : Sys} {σ : MF} {h : MH} : evS Γ c9_2 σ h = evS Γ (.ret (.tup (.cons (.ix (.v 4) (.v 0)) (.cons (.v 1) (.cons (.v 2) .nil))))) σ h := rfl
def c9_3 : C := .cons c9_2 .nil
@[simp] theorem c9_3_ {Γ : Sys} {σ : MF} {h : MH} : evSs Γ c9_3 σ h = sq (evS Γ c9_2) (evSs Γ .nil) σ h := Ss_cons
def c9_4 : C := (.ite (.cm .lt (.v 0) (.ki 16)) c9_3 .nil)
@[simp] theorem c9_4_ {Γ : Sys} {σ : MF} {h : MH} : evS Γ c9_4 σ h = evS Γ (.ite (.cm .lt (.v 0) (.ki 16)) c9_3 .nil) σ h := rfl
def c9_5 : C := .cons c9_4 c9_1
@[simp] theorem c9_5_ {Γ : Sys} {σ : MF} {h : MH} : evSs Γ c9_5 σ h = sq (evS Γ c9_4) (evSs Γ c9_1) σ h := Ss_cons
def c9_6 : C := (.ret (.tup (.cons (.ix (.v 4) (.v 0)) (.cons (.blt .repr (.cons (.v 1) .nil)) .nil))))
@[simp] theorem c9_6_ {Γ : Sys} {σ : MF} {h : MH} : evS Γ c9_6 σ h = evS Γ (.ret (.tup (.cons (.ix (.v 4) (.v 0)) (.cons (.blt .repr (.cons (.v 1) .nil)) .nil)))) σ h := rfl
def c9_7 : C := .cons c9_6 .nil
@[simp] theorem c9_7_ {Γ : Sys} {σ : MF} {h : MH} : evSs Γ c9_7 σ h = sq (evS Γ c9_6) (evSs Γ .nil) σ h := Ss_cons
def c9_8 : C := (.ite (.cm .lt (.v 0) (.ki 14)) c9_7 .nil)
@[simp] theorem c9_8_ {Γ : Sys} {σ : MF} {h : MH} : evS Γ c9_8 σ h = evS Γ (.ite (.cm .lt (.v 0) (.ki 14)) c9_7 .nil) σ h := rfl
def c9_9 : C := .cons c9_8 c9_5
@[simp] theorem c9_9_ {Γ : Sys} {σ : MF} {h : MH} : evSs Γ c9_9 σ h = sq (evS Γ c9_8) (evSs Γ c9_5) σ h := Ss_cons
def c9_10 : C := (.ret (.tup (.cons (.ix (.v 4) (.v 0)) (.cons (.v 1) .nil))))
@[simp] theorem c9_10_ {Γ : Sys} {σ : MF} {h : MH} : evS Γ c9_10 σ h = evS Γ (.ret (.tup (.cons (.ix (.v 4) (.v 0)) (.cons (.v 1) .nil)))) σ h := rfl
def c9_11 : C := .cons c9_10 .nil
@[simp] theorem c9_11_ {Γ : Sys} {σ : MF} {h : MH} : evSs Γ c9_11 σ h = sq (evS Γ c9_10) (evSs Γ .nil) σ h := Ss_cons
def c9_12 : C := (.ite (.cm .lt (.v 0) (.ki 10)) c9_11 .nil)
@[simp] theorem c9_12_ {Γ : Sys} {σ : MF} {h : MH} : evS Γ c9_12 σ h = evS Γ (.ite (.cm .lt (.v 0) (.ki 10)) c9_11 .nil) σ h := rfl
def c9_13 : C := .cons c9_12 c9_9
@[simp] theorem c9_13_ {Γ : Sys} {σ : MF} {h : MH} : evSs Γ c9_13 σ h = sq (evS Γ c9_12) (evSs Γ c9_9) σ h := Ss_cons
def c9_14 : C := (.ret (.tup (.cons (.ix (.v 4) (.v 0)) (.cons (.v 1) (.cons (.blt .repr (.cons (.v 2) .nil)) .nil)))))
@[simp] theorem c9_14_ {Γ : Sys} {σ : MF} {h : MH} : evS Γ c9_14 σ h = evS Γ (.ret (.tup (.cons (.ix (.v 4) (.v 0)) (.cons (.v 1) (.cons (.blt .repr (.cons (.v 2) .nil)) .nil))))) σ h := rfl
def c9_15 : C := .cons c9_14 .nil
@[simp] theorem c9_15_ {Γ : Sys} {σ : MF} {h : MH} : evSs Γ c9_15 σ h = sq (evS Γ c9_14) (evSs Γ .nil) σ h := Ss_cons
def c9_16 : C := (.ite (.cm .lt (.v 0) (.ki 4)) c9_15 .nil)
@[simp] theorem c9_16_ {Γ : Sys} {σ : MF} {h : MH} : evS Γ c9_16 σ h = evS Γ (.ite (.cm .lt (.v 0) (.ki 4)) c9_15 .nil) σ h := rfl
def c9_17 : C := .cons c9_16 c9_13
@[simp] theorem c9_17_ {Γ : Sys} {σ : MF} {h : MH} : evSs Γ c9_17 σ h = sq (evS Γ c9_16) (evSs Γ c9_13) σ h := Ss_cons
def c9_18 : C := (.set (.tv 4) (.op .add (.v 4) (.lst (.cons (.ks ("text" : Str)) (.cons (.ks ("kept" : Str)) (.cons (.ks ("many" : Str)) (.cons (.ks ("undo" : Str)) (.cons (.ks ("redo" : Str)) .nil))))))))
@[simp] theorem c9_18_ {Γ : Sys} {σ : MF} {h : MH} : evS Γ c9_18 σ h = evS Γ (.set (.tv 4) (.op .add (.v 4) (.lst (.cons (.ks ("text" : Str)) (.cons (.ks ("kept" : Str)) (.cons (.ks ("many" : Str)) (.cons (.ks ("undo" : Str)) (.cons (.ks ("redo" : Str)) .nil)))))))) σ h := rfl
def c9_19 : C := .cons c9_18 c9_17
@[simp] theorem c9_19_ {Γ : Sys} {σ : MF} {h : MH} : evSs Γ c9_19 σ h = sq (evS Γ c9_18) (evSs Γ c9_17) σ h := Ss_cons
def c9_20 : C := (.set (.tv 4) (.lst (.cons (.ks ("number" : Str)) (.cons (.ks ("row" : Str)) (.cons (.ks ("word" : Str)) (.cons (.ks ("place" : Str)) (.cons (.ks ("pattern" : Str)) (.cons (.ks ("machine" : Str)) (.cons (.ks ("table" : Str)) (.cons (.ks ("book" : Str)) (.cons (.ks ("unlike" : Str)) (.cons (.ks ("notthere" : Str)) (.cons (.ks ("kind" : Str)) (.cons (.ks ("badname" : Str)) (.cons (.ks ("noname" : Str)) (.cons (.ks ("taken" : Str)) .nil))))))))))))))))
@[simp] theorem c9_20_ {Γ : Sys} {σ : MF} {h : MH} : evS Γ c9_20 σ h = evS Γ (.set (.tv 4) (.lst (.cons (.ks ("number" : Str)) (.cons (.ks ("row" : Str)) (.cons (.ks ("word" : Str)) (.cons (.ks ("place" : Str)) (.cons (.ks ("pattern" : Str)) (.cons (.ks ("machine" : Str)) (.cons (.ks ("table" : Str)) (.cons (.ks ("book" : Str)) (.cons (.ks ("unlike" : Str)) (.cons (.ks ("notthere" : Str)) (.cons (.ks ("kind" : Str)) (.cons (.ks ("badname" : Str)) (.cons (.ks ("noname" : Str)) (.cons (.ks ("taken" : Str)) .nil)))))))))))))))) σ h := rfl
def c9_21 : C := .cons c9_20 c9_19
@[simp] theorem c9_21_ {Γ : Sys} {σ : MF} {h : MH} : evSs Γ c9_21 σ h = sq (evS Γ c9_20) (evSs Γ c9_19) σ h := Ss_cons
/-- _law_due -/
def c9 : C := c9_21
def r9 : Mini.Row := ⟨31, ("_law_due" : Str), [("kind" : Str), ("one" : Str), ("two" : Str), ("three" : Str)], [("kind" : Str), ("one" : Str), ("two" : Str), ("three" : Str), ("words" : Str)], false, c9⟩
def c10_0 : C := (.ret (.kb true))
@[simp] theorem c10_0_ {Γ : Sys} {σ : MF} {h : MH} : evS Γ c10_0 σ h = evS Γ (.ret (.kb true)) σ h := rfl
def c10_1 : C := .cons c10_0 .nil
@[simp] theorem c10_1_ {Γ : Sys} {σ : MF} {h : MH} : evSs Γ c10_1 σ h = sq (evS Γ c10_0) (evSs Γ .nil) σ h := Ss_cons
def c10_2 : C := (.ret (.kb false))
@[simp] theorem c10_2_ {Γ : Sys} {σ : MF} {h : MH} : evS Γ c10_2 σ h = evS Γ (.ret (.kb false)) σ h := rfl
def c10_3 : C := .cons c10_2 .nil
@[simp] theorem c10_3_ {Γ : Sys} {σ : MF} {h : MH} : evSs Γ c10_3 σ h = sq (evS Γ c10_2) (evSs Γ .nil) σ h := Ss_cons
def c10_4 : C := (.ite (.or (.cm .is (.v 6) .kn) (.or (.cm .ne (.blt .len (.cons (.v 6) .nil)) (.ki 1)) (.cm .ne (.blt .repr (.cons (.ix (.v 6) (.ki 0)) .nil)) (.blt .repr (.cons (.call 9 (.cons (.v 2) (.cons (.v 3) (.cons (.v 4) (.cons (.v 5) .nil))))) .nil))))) c10_3 .nil)
@[simp] theorem c10_4_ {Γ : Sys} {σ : MF} {h : MH} : evS Γ c10_4 σ h = evS Γ (.ite (.or (.cm .is (.v 6) .kn) (.or (.cm .ne (.blt .len (.cons (.v 6) .nil)) (.ki 1)) (.cm .ne (.blt .repr (.cons (.ix (.v 6) (.ki 0)) .nil)) (.blt .repr (.cons (.call 9 (.cons (.v 2) (.cons (.v 3) (.cons (.v 4) (.cons (.v 5) .nil))))) .nil))))) c10_3 .nil) σ h := rfl
def c10_5 : C := .cons c10_4 .nil
@[simp] theorem c10_5_ {Γ : Sys} {σ : MF} {h : MH} : evSs Γ c10_5 σ h = sq (evS Γ c10_4) (evSs Γ .nil) σ h := Ss_cons
def c10_6 : C := (.set (.tv 6) (.call 8 (.cons (.v 2) (.cons (.v 3) (.cons (.v 4) (.cons (.v 5) .nil))))))
@[simp] theorem c10_6_ {Γ : Sys} {σ : MF} {h : MH} : evS Γ c10_6 σ h = evS Γ (.set (.tv 6) (.call 8 (.cons (.v 2) (.cons (.v 3) (.cons (.v 4) (.cons (.v 5) .nil)))))) σ h := rfl
def c10_7 : C := .cons c10_6 c10_5
@[simp] theorem c10_7_ {Γ : Sys} {σ : MF} {h : MH} : evSs Γ c10_7 σ h = sq (evS Γ c10_6) (evSs Γ c10_5) σ h := Ss_cons
def c10_8 : C := (.set (.tt (.cons (.tv 3) (.cons (.tv 4) (.cons (.tv 5) .nil)))) (.tup (.cons (.call 5 (.cons (.v 1) .nil)) (.cons (.call 5 (.cons (.v 1) .nil)) (.cons (.call 5 (.cons (.v 1) .nil)) .nil)))))
@[simp] theorem c10_8_ {Γ : Sys} {σ : MF} {h : MH} : evS Γ c10_8 σ h = evS Γ (.set (.tt (.cons (.tv 3) (.cons (.tv 4) (.cons (.tv 5) .nil)))) (.tup (.cons (.call 5 (.cons (.v 1) .nil)) (.cons (.call 5 (.cons (.v 1) .nil)) (.cons (.call 5 (.cons (.v 1) .nil)) .nil))))) σ h := rfl
def c10_9 : C := .cons c10_8 c10_7
@[simp] theorem c10_9_ {Γ : Sys} {σ : MF} {h : MH} : evSs Γ c10_9 σ h = sq (evS Γ c10_8) (evSs Γ c10_7) σ h := Ss_cons
def c10_10 : C := (.for_ (.tv 2) (.rng1 (.ki 19)) c10_9)
@[simp] theorem c10_10_ {Γ : Sys} {σ : MF} {h : MH} : evS Γ c10_10 σ h = evS Γ (.for_ (.tv 2) (.rng1 (.ki 19)) c10_9) σ h := rfl
def c10_11 : C := .cons c10_10 c10_1
@[simp] theorem c10_11_ {Γ : Sys} {σ : MF} {h : MH} : evSs Γ c10_11 σ h = sq (evS Γ c10_10) (evSs Γ c10_1) σ h := Ss_cons
def c10_12 : C := (.set (.tv 1) (.call 0 (.cons (.v 0) .nil)))
@[simp] theorem c10_12_ {Γ : Sys} {σ : MF} {h : MH} : evS Γ c10_12 σ h = evS Γ (.set (.tv 1) (.call 0 (.cons (.v 0) .nil))) σ h := rfl
def c10_13 : C := .cons c10_12 c10_11
@[simp] theorem c10_13_ {Γ : Sys} {σ : MF} {h : MH} : evSs Γ c10_13 σ h = sq (evS Γ c10_12) (evSs Γ c10_11) σ h := Ss_cons
/-- law -/
def c10 : C := c10_13
def r10 : Mini.Row := ⟨32, ("law" : Str), [("script" : Str)], [("script" : Str), ("pen" : Str), ("kind" : Str), ("one" : Str), ("two" : Str), ("three" : Str), ("told" : Str)], false, c10⟩
def tab : Mini.Tab := ⟨[r0, r1, r2, r3, r4, r5, r6, r7, r8, r9, r10], [⟨1, ("KindsError" : Str), []⟩, ⟨2, ("BadNumber" : Str), [("what" : Str), ("number" : Str)]⟩, ⟨3, ("BadRow" : Str), [("what" : Str), ("row" : Str)]⟩, ⟨4, ("BadWord" : Str), [("what" : Str), ("word" : Str)]⟩, ⟨5, ("BadPattern" : Str), [("what" : Str)]⟩, ⟨6, ("BadMachine" : Str), [("what" : Str)]⟩, ⟨7, ("BadTable" : Str), [("what" : Str)]⟩, ⟨8, ("BadKind" : Str), [("kind" : Str)]⟩, ⟨9, ("BadBook" : Str), [("what" : Str)]⟩, ⟨10, ("BadName" : Str), [("name" : Str)]⟩, ⟨11, ("BadText" : Str), [("line" : Str), ("token" : Str)]⟩, ⟨12, ("NoPlace" : Str), [("what" : Str), ("index" : Str)]⟩, ⟨13, ("NoName" : Str), [("name" : Str)]⟩, ⟨14, ("TakenName" : Str), [("name" : Str)]⟩, ⟨15, ("Unlike" : Str), [("what" : Str)]⟩, ⟨16, ("NotThere" : Str), [("paper" : Str)]⟩, ⟨17, ("TooMany" : Str), [("what" : Str), ("many" : Str), ("limit" : Str)]⟩, ⟨18, ("NotKept" : Str), [("promise" : Str), ("witness" : Str)]⟩, ⟨19, ("NothingToUndo" : Str), []⟩, ⟨20, ("NothingToRedo" : Str), []⟩], [("list" : Str), ("int" : Str), ("len" : Str), ("isinstance" : Str), ("repr" : Str), ("ValueError" : Str), ("range" : Str)]⟩
def fam : Mini.Fam := ⟨fun c => match c with
  | 0 => [0]
  | 1 => [1, 0]
  | 2 => [2, 0]
  | 3 => [3, 0]
  | 4 => [4, 0]
  | 5 => [5, 0]
  | 6 => [6, 0]
  | 7 => [7, 0]
  | 8 => [8, 0]
  | 9 => [9, 0]
  | 10 => [10, 0]
  | 11 => [11, 0]
  | 12 => [12, 0]
  | 13 => [13, 0]
  | 14 => [14, 0]
  | 15 => [15, 0]
  | 16 => [16, 0]
  | 17 => [17, 0]
  | 18 => [18, 0]
  | 19 => [19, 0]
  | _ => []⟩
abbrev lawIx : Nat := 10
abbrev lawAt : Nat := 32
theorem tab_ok : tabOk PySem.Challenge.rw_sayingkinds_k01_errors.prog tab = true := by kernel_rfl
end Law
set_option Elab.async false
set_option linter.all false
set_option maxRecDepth 100000
set_option maxHeartbeats 8000000
namespace Law
open PySem Mini
def PG : Prog := prgOf tab fam
theorem call_s {k i : Nat} {r : Mini.Row} {xs : List Val} {h : MH} (hr : tab.rows[i]? = some r) : (sys PG (k + 1)).call i xs h = runFn (sys PG k) (fnR r) xs h := by
  show (match (tab.rows[i]?).map fnR with
    | some f => runFn (sys PG k) f xs h
    | none => .bad) = _
  rw [hr]
  rfl
theorem s_flds {k : Nat} : (sys PG k).flds = PG.flds := by cases k <;> rfl
theorem s_isx {k : Nat} : (sys PG k).isx = PG.isx := by cases k <;> rfl
theorem s_sub {k : Nat} : (sys PG k).sub = PG.sub := by cases k <;> rfl
def flT : Nat → List Str
  | 1 => ["what", "number"]
  | 2 => ["what", "row"]
  | 3 => ["what", "word"]
  | 4 => ["what"]
  | 5 => ["what"]
  | 6 => ["what"]
  | 7 => ["kind"]
  | 8 => ["what"]
  | 9 => ["name"]
  | 10 => ["line", "token"]
  | 11 => ["what", "index"]
  | 12 => ["name"]
  | 13 => ["name"]
  | 14 => ["what"]
  | 15 => ["paper"]
  | 16 => ["what", "many", "limit"]
  | 17 => ["promise", "witness"]
  | _ => []
theorem s_fl {k c : Nat} (h : c < 20) : (sys PG k).flds c = flT c := by
  rw [s_flds]
  match c, h with
  | 0, _ => rfl
  | 1, _ => rfl
  | 2, _ => rfl
  | 3, _ => rfl
  | 4, _ => rfl
  | 5, _ => rfl
  | 6, _ => rfl
  | 7, _ => rfl
  | 8, _ => rfl
  | 9, _ => rfl
  | 10, _ => rfl
  | 11, _ => rfl
  | 12, _ => rfl
  | 13, _ => rfl
  | 14, _ => rfl
  | 15, _ => rfl
  | 16, _ => rfl
  | 17, _ => rfl
  | 18, _ => rfl
  | 19, _ => rfl
  | n + 20, h => exact absurd h (by omega)
/-- later, but for the pen -/
def Later (p : Nat) (h h' : MH) : Prop := h.length ≤ h'.length ∧ ∀ i, i < h.length → i ≠ p → h'[i]? = h[i]?
theorem Later.refl {p : Nat} {h : MH} : Later p h h := ⟨Nat.le_refl _, fun _ _ _ => rfl⟩
theorem Later.trans {p : Nat} {h h' h'' : MH} (a : Later p h h') (b : Later p h' h'') : Later p h h'' := ⟨Nat.le_trans a.1 b.1, fun i hi ne => (b.2 i (Nat.lt_of_lt_of_le hi a.1) ne).trans (a.2 i hi ne)⟩
theorem Later.app {p : Nat} {h t : MH} : Later p h (h ++ t) := ⟨by simp, fun i hi _ => List.getElem?_append_left hi⟩
theorem Later.set {p : Nat} {h : MH} {o : Mini.Obj} : Later p h (h.set p o) := ⟨by simp, fun i _ ne => List.getElem?_set_ne (Ne.symm ne)⟩
/-- a value that can be shown, now and later -/
def Nice (p : Nat) (h : MH) (v : Val) (d : PyData) : Prop := (∀ h', Later p h h' → ∀ n, 5 ≤ n → toD h' n v = some d) ∧ dat v = true ∧ d.showable = true ∧ txt d ∧ sz d ≤ 1000
theorem Nice.later {p : Nat} {h h' : MH} {v : Val} {d : PyData} (n : Nice p h v d) (l : Later p h h') : Nice p h' v d := ⟨fun h2 l2 => n.1 h2 (l.trans l2), n.2⟩
theorem _root_.Mini.PenAt.app {p c : Nat} {h t : MH} {cells : List Int} (P : PenAt h p c cells) : PenAt (h ++ t) p c cells := by
  obtain ⟨a, d, n, f, e, r⟩ := P.pen
  refine ⟨?_, a, d, n, f, ?_, r⟩
  · rw [List.getElem?_append_left (List.getElem?_eq_some_iff.mp P.cell).1]
    exact P.cell
  · rw [List.getElem?_append_left (List.getElem?_eq_some_iff.mp e).1]
    exact e
theorem draw_ok {k p c : Nat} {m : Int} {h : MH} {cells : List Int} (P : PenAt h p c cells) (hm : 0 < m) (hm2 : m < 1073741824) :
    ∃ r h', (sys PG (k + 1)).call 1 [.ref p, .int m] h = .ok (.int r) h' ∧ PenAt h' p c cells ∧ Later p h h' ∧ h'.length = h.length ∧ 0 ≤ r ∧ r < m := by
  obtain ⟨r, o, e, P', r1, r2⟩ := draw_body (Γ := sys PG k) P hm hm2
  refine ⟨r, _, ?_, P', Later.set, by simp, r1, r2⟩
  rw [call_s (r := Law.r1) rfl, run_fn (by rfl)]
  exact e
theorem int_nice {p : Nat} {h : MH} {i : Int} (h0 : 0 ≤ i) (h1 : i < 1000000) : Nice p h (.int i) (.int i) := by
  have hl : i.natAbs.log2 < 20 := by
    by_cases z : i.natAbs = 0
    · rw [z]
      decide
    · exact (Nat.log2_lt z).mpr (by omega)
  refine ⟨fun h' _ n hn => ?_, rfl, ?_, ?_, ?_⟩
  · match n, hn with
    | n + 1, _ => rfl
  · simp only [PyData.showable]
    exact decide_eq_true (by omega)
  · simp only [txt]
  · simp only [sz]
    omega
theorem _root_.Mini.PenAt.lt {p c : Nat} {h : MH} {cells : List Int} (P : PenAt h p c cells) : p < h.length := by
  obtain ⟨a, d, n, f, e, r⟩ := P.pen
  exact (List.getElem?_eq_some_iff.mp e).1
theorem nice_of {p : Nat} {h : MH} {v : Val} {d : PyData} (h1 : ∀ h' n, toD h' (n + 5) v = some d) (h2 : dat v = true) (h3 : d.showable = true) (h4 : txt d) (h5 : sz d ≤ 1000) : Nice p h v d :=
  ⟨fun h' _ n hn => by
    obtain ⟨m, rfl⟩ := Nat.exists_eq_add_of_le' hn
    exact h1 h' m, h2, h3, h4, h5⟩
theorem pick_list {p : Nat} {h : MH} (lt : p < h.length) (w : Int) (w0 : 0 ≤ w) (w9 : w < 9) : ∃ v d, ([.non, .bl true, .bl false, .int 0, .int (-1), .str "x", .str "", .int 10000000000000000000000000000000000000000, .ref h.length] : List Val)[w.toNat]? = some v ∧ ∀ h', Later p (h ++ [.dic [(.str "k", .int 1)]]) h' → Nice p h' v d := by
  obtain ⟨n, rfl⟩ := Int.eq_ofNat_of_zero_le w0
  have hn : n < 9 := by omega
  match n, hn with
  | 0, _ => exact ⟨_, .none, rfl, fun h' _ => nice_of (fun _ _ => rfl) rfl rfl (by simp only [txt]) (by simp only [sz]; decide)⟩
  | 1, _ => exact ⟨_, .bool true, rfl, fun h' _ => nice_of (fun _ _ => rfl) rfl rfl (by simp only [txt]) (by simp only [sz]; decide)⟩
  | 2, _ => exact ⟨_, .bool false, rfl, fun h' _ => nice_of (fun _ _ => rfl) rfl rfl (by simp only [txt]) (by simp only [sz]; decide)⟩
  | 3, _ => exact ⟨_, .int 0, rfl, fun h' _ => nice_of (fun _ _ => rfl) rfl (by decide) (by simp only [txt]) (by simp only [sz]; decide)⟩
  | 4, _ => exact ⟨_, .int (-1), rfl, fun h' _ => nice_of (fun _ _ => rfl) rfl (by decide) (by simp only [txt]) (by simp only [sz]; decide)⟩
  | 5, _ => exact ⟨_, .str "x", rfl, fun h' _ => nice_of (fun _ _ => rfl) rfl rfl (by simp only [txt]; exact good_of _) (by simp only [sz]; decide)⟩
  | 6, _ => exact ⟨_, .str "", rfl, fun h' _ => nice_of (fun _ _ => rfl) rfl rfl (by simp only [txt]; exact good_of _) (by simp only [sz]; decide)⟩
  | 7, _ => exact ⟨_, .int 10000000000000000000000000000000000000000, rfl, fun h' _ => nice_of (fun _ _ => rfl) rfl (by decide +kernel) (by simp only [txt]) (by simp only [sz]; decide +kernel)⟩
  | 8, _ =>
    refine ⟨_, .dict [(.str "k", .int 1)], rfl, fun h' l => ⟨fun h2 l2 n hn => ?_, rfl, by decide +kernel, ?_, ?_⟩⟩
    · have e : h2[h.length]? = some (.dic [(.str "k", .int 1)]) := by
        rw [(l.trans l2).2 h.length (by simp) (by omega)]
        simp
      match n, hn with
      | n + 2, _ => simp -implicitDefEqProofs [toD, e]
    · simp only [txt, txtk]
      exact ⟨good_of _, trivial, trivial⟩
    · simp only [sz, szk]
      decide +kernel
theorem fit_s {n : Nat} (h : n ≤ 1000) : fits n = true := decide_eq_true (Nat.le_trans h (by decide))
theorem any_ok {k p c : Nat} {h : MH} {cells : List Int} (P : PenAt h p c cells) : ∃ v d h', (sys PG (k + 3)).call 5 [.ref p] h = .ok v h' ∧ PenAt h' p c cells ∧ Later p h h' ∧ Nice p h' v d := by
  obtain ⟨w, h1, e1, P1, l1, n1, w0, w8⟩ := draw_ok (k := k + 1) (m := 8) P (by decide) (by decide)
  rw [call_s (r := r5) rfl, run_fn (by rfl)]
  by_cases hw : w = 0
  · obtain ⟨r, h2, e2, P2, l2, n2, r0, r8⟩ := draw_ok (k := k + 1) (m := 100) P1 (by decide) (by decide)
    refine ⟨.ref (h2.length + 1), .list [.int r, .list []], h2 ++ [.lst []] ++ [.lst [.int r, .ref h2.length]], ?_, P2.app.app, ((l1.trans l2).trans Later.app).trans Later.app, ?_⟩
    · simp -implicitDefEqProofs [fnR, r5, c5, e1, cop, eqV_int, hw, tru, e2, fit_s, Mini.alloc, dat]
    · have lt := P2.lt
      refine ⟨fun h' l n hn => ?_, rfl, ?_, ?_, ?_⟩
      · have a1 : h'[h2.length + 1]? = some (.lst [.int r, .ref h2.length]) := by
          rw [l.2 _ (by simp) (by omega)]
          simp
        have a2 : h'[h2.length]? = some (.lst []) := by
          rw [l.2 _ (by simp) (by omega)]
          simp
        match n, hn with
        | n + 3, _ => simp -implicitDefEqProofs [toD, a1, a2]
      · have := (int_nice (p := p) (h := h2) r0 (by omega)).2.2.1
        simp only [PyData.showable, PyData.showableAll] at this ⊢
        simp -implicitDefEqProofs [this]
      · simp only [txt, txts, and_self]
      · have := (int_nice (p := p) (h := h2) r0 (by omega)).2.2.2.2
        have l20 : r.natAbs.log2 < 20 := by
          by_cases z : r.natAbs = 0
          · rw [z]
            decide
          · exact (Nat.log2_lt z).mpr (by omega)
        simp only [sz, szs]
        omega
  · by_cases hw1 : w = 1
    · obtain ⟨r, h2, e2, P2, l2, n2, r0, r8⟩ := draw_ok (k := k + 1) (m := 1000000) P1 (by decide) (by decide)
      refine ⟨.tup [.str "a", .tup [.int r]], .tuple [.str "a", .tuple [.int r]], h2, ?_, P2, l1.trans l2, nice_of (fun h' n => by simp -implicitDefEqProofs [toD]) rfl ?_ ?_ ?_⟩
      · simp -implicitDefEqProofs [fnR, r5, c5, e1, cop, eqV_int, hw, hw1, tru, bop, opPow, guardO, e2, fit_s, dat]
      · have := (int_nice (p := p) (h := h2) r0 (by omega)).2.2.1
        simp only [PyData.showable, PyData.showableAll] at this ⊢
        simp -implicitDefEqProofs [this]
      · simp only [txt, txts, and_true]
        exact good_of _
      · have l20 : r.natAbs.log2 < 20 := by
          by_cases z : r.natAbs = 0
          · rw [z]
            decide
          · exact (Nat.log2_lt z).mpr (by omega)
        have e : (("a" : String) : Str).length = 1 := by decide
        simp only [sz, szs, e]
        omega
    · obtain ⟨d9, ed9⟩ : ∃ d9, d9 = Mini.Obj.dic [(.str "k", .int 1)] := ⟨_, rfl⟩
      obtain ⟨v9, ev9⟩ : ∃ v9 : List Val, v9 = [.non, .bl true, .bl false, .int 0, .int (-1), .str "x", .str "", .int 10000000000000000000000000000000000000000, .ref h1.length] := ⟨_, rfl⟩
      obtain ⟨r, h2, e2, P2, l2, n2, r0, r8⟩ := draw_ok (k := k) (m := 9) (PenAt.app (t := [.lst v9]) (PenAt.app (t := [d9]) P1)) (by decide) (by decide)
      have lt := P1.lt
      obtain ⟨v, d, hv, hn⟩ := pick_list lt r r0 r8
      rw [← ev9] at hv
      rw [← ed9] at hn
      have a1 : h2[h1.length + 1]? = some (.lst v9) := by
        rw [l2.2 _ (by simp) (by omega)]
        simp
      have a3 : (h1 ++ [d9] ++ [.lst v9])[h1.length + 1]? = some (.lst v9) := by simp
      have e3 : (sys PG (k + 2)).call 2 [.ref p, .ref (h1.length + 1)] (h1 ++ [d9] ++ [.lst v9]) = .ok v h2 := by
        rw [call_s (r := r2) rfl, run_fn (by rfl)]
        have l9 : v9.length = 9 := by rw [ev9]; rfl
        have g := get_lst a1 r0 (by rw [l9]; omega)
        rw [hv] at g
        have e4 : (sys PG (k + 1)).call 1 [.ref p, .int 9] (h1 ++ [d9, .lst v9]) = .ok (.int r) h2 := by simpa using e2
        have e5 : biV (sys PG (k + 1)) .len (h1 ++ [d9, .lst v9]) [.ref (h1.length + 1)] = some (.int 9, h1 ++ [d9, .lst v9]) := by
          rw [ge_len (xs := v9) (by simp), l9]
          rfl
        simp -implicitDefEqProofs [fnR, r2, c2, e5, e4, g]
      refine ⟨v, d, h2, ?_, P2, ((l1.trans Later.app).trans Later.app).trans l2, hn h2 (Later.app.trans l2)⟩
      have ed : newDic h1 [.str "k", .int 1] = some (.ref h1.length, h1 ++ [d9]) := by rw [ed9]; rfl
      simp -implicitDefEqProofs [fnR, r5, c5, e1, cop, eqV_int, hw, hw1, tru, bop, opPow, guardO, fit_s, dat, ed, Mini.alloc]
      rw [← ev9]
      have e6 : (sys PG (k + 2)).call 2 [.ref p, .ref (h1.length + 1)] (h1 ++ [d9, .lst v9]) = .ok v h2 := by simpa using e3
      rw [e6]
      simp
/-! ### told and due -/
theorem rep {p : Nat} {h : MH} {v : Val} {d : PyData} (N : Nice p h v d) {Γ : Sys} : biV Γ .repr h [v] = some (.str d.shown, h) := by
  obtain ⟨a1, a2, a3, a4, a5⟩ := N
  have e := a1 h Later.refl 60 (by decide)
  have l : d.shown.length ≤ sizeLine := Nat.le_trans (shown_le d a4).1 (Nat.le_trans a5 (by decide))
  simp -implicitDefEqProofs [biV, biRepr, e, guardO, a3, l]
theorem rep_app {p : Nat} {h t : MH} {v : Val} {d : PyData} (N : Nice p h v d) {Γ : Sys} : biV Γ .repr (h ++ t) [v] = some (.str d.shown, h ++ t) := rep (N.later Later.app)
theorem isi_c {k : Nat} {h : MH} {c d : Nat} {fs : List Val} (hd : d < 20) : biV (sys PG k) .isinstance h [.exn c fs, .cls d] = some (.bl ((fam.ups c).contains d), h) := by
  have e : (sys PG k).isx d = true := by
    rw [s_isx]
    exact decide_eq_true hd
  have e2 : (sys PG k).sub c d = (fam.ups c).contains d := by rw [s_sub]; rfl
  simp -implicitDefEqProofs [biV, biIsi, isInst, e, e2, guardO]
theorem isi_v {k : Nat} {h : MH} {c : Nat} {fs : List Val} : biV (sys PG k) .isinstance h [.exn c fs, .ty "ValueError"] = some (.bl true, h) := by
  simp -implicitDefEqProofs [biV, biIsi, isInst, excTypes, guardO]
/-- what is told of a kind -/
def dueV (n : Nat) (a b c : Val) (sa sb : Str) : Val := match n with
  | 0 => .tup [.str "number", a, .str sb]
  | 1 => .tup [.str "row", a, .str sb]
  | 2 => .tup [.str "word", a, .str sb]
  | 3 => .tup [.str "place", a, .str sb]
  | 4 => .tup [.str "pattern", a]
  | 5 => .tup [.str "machine", a]
  | 6 => .tup [.str "table", a]
  | 7 => .tup [.str "book", a]
  | 8 => .tup [.str "unlike", a]
  | 9 => .tup [.str "notthere", a]
  | 10 => .tup [.str "kind", .str sa]
  | 11 => .tup [.str "badname", .str sa]
  | 12 => .tup [.str "noname", .str sa]
  | 13 => .tup [.str "taken", .str sa]
  | 14 => .tup [.str "text", a, b]
  | 15 => .tup [.str "kept", a, b]
  | 16 => .tup [.str "many", a, b, c]
  | 17 => .tup [.str "undo"]
  | _ => .tup [.str "redo"]
/-- the class that is raised -/
def clsV (n : Nat) : Nat := [1, 2, 3, 11, 4, 5, 6, 8, 14, 15, 7, 9, 12, 13, 10, 17, 16, 18, 19].getD n 0
def argV (n : Nat) (a b c : Val) : List Val := if n < 4 ∨ n = 14 ∨ n = 15 then [a, b] else if n = 16 then [a, b, c] else if n = 17 ∨ n = 18 then [] else [a]
section
variable {k p : Nat} {h : MH} {a b c : Val} {d1 d2 d3 : PyData}
theorem raised_lo (N1 : Nice p h a d1) (N2 : Nice p h b d2) (n : Nat) (hn : n < 10) : (sys PG (k + 1)).call 6 [.int n, a, b, c] h = .exc (clsV n) (argV n a b c) h := by
  rw [call_s (r := r6) rfl, run_fn (by rfl)]
  have ha := N1.2.1
  have hb := N2.2.1
  have hx : ∀ j, j < 20 → (sys PG k).isx j = true := fun j hj => by
    rw [s_isx]
    exact decide_eq_true hj
  have n10 : n = 0 ∨ n = 1 ∨ n = 2 ∨ n = 3 ∨ n = 4 ∨ n = 5 ∨ n = 6 ∨ n = 7 ∨ n = 8 ∨ n = 9 := by omega
  rcases n10 with rfl | rfl | rfl | rfl | rfl | rfl | rfl | rfl | rfl | rfl <;>
    simp -implicitDefEqProofs [fnR, r6, c6, cop, eqV_int, tru, s_fl, flT, ha, hb, hx, clsV, argV]
theorem raised_no (n : Nat) (h10 : 10 ≤ n) (h19 : n < 19) : (sys PG (k + 1)).call 6 [.int n, a, b, c] h = .ok .non h := by
  rw [call_s (r := r6) rfl, run_fn (by rfl)]
  have n10 : n = 10 ∨ n = 11 ∨ n = 12 ∨ n = 13 ∨ n = 14 ∨ n = 15 ∨ n = 16 ∨ n = 17 ∨ n = 18 := by omega
  rcases n10 with rfl | rfl | rfl | rfl | rfl | rfl | rfl | rfl | rfl <;>
    simp -implicitDefEqProofs [fnR, r6, c6, cop, eqV_int, tru]
theorem raised_hi (N1 : Nice p h a d1) (N2 : Nice p h b d2) (N3 : Nice p h c d3) (n : Nat) (h10 : 10 ≤ n) (h19 : n < 19) : (sys PG (k + 1)).call 7 [.int n, a, b, c] h = .exc (clsV n) (argV n a b c) h := by
  rw [call_s (r := r7) rfl, run_fn (by rfl)]
  have ha := N1.2.1
  have hb := N2.2.1
  have hc := N3.2.1
  have hx : ∀ j, j < 20 → (sys PG k).isx j = true := fun j hj => by
    rw [s_isx]
    exact decide_eq_true hj
  have n10 : n = 10 ∨ n = 11 ∨ n = 12 ∨ n = 13 ∨ n = 14 ∨ n = 15 ∨ n = 16 ∨ n = 17 ∨ n = 18 := by omega
  rcases n10 with rfl | rfl | rfl | rfl | rfl | rfl | rfl | rfl | rfl <;>
    simp -implicitDefEqProofs [fnR, r7, c7, cop, eqV_int, tru, s_fl, flT, ha, hb, hc, hx, clsV, argV]
end
end Law
set_option Elab.async false
set_option linter.all false
set_option maxRecDepth 100000
set_option maxHeartbeats 8000000
namespace Law
open PySem Mini
theorem F1_0 : (flT 1).idxOf? ("what" : Str) = some 0 := by decide +kernel
theorem F1_1 : (flT 1).idxOf? ("number" : Str) = some 1 := by decide +kernel
theorem F2_0 : (flT 2).idxOf? ("what" : Str) = some 0 := by decide +kernel
theorem F2_1 : (flT 2).idxOf? ("row" : Str) = some 1 := by decide +kernel
theorem F3_0 : (flT 3).idxOf? ("what" : Str) = some 0 := by decide +kernel
theorem F3_1 : (flT 3).idxOf? ("word" : Str) = some 1 := by decide +kernel
theorem F4_0 : (flT 4).idxOf? ("what" : Str) = some 0 := by decide +kernel
theorem F5_0 : (flT 5).idxOf? ("what" : Str) = some 0 := by decide +kernel
theorem F6_0 : (flT 6).idxOf? ("what" : Str) = some 0 := by decide +kernel
theorem F7_0 : (flT 7).idxOf? ("kind" : Str) = some 0 := by decide +kernel
theorem F8_0 : (flT 8).idxOf? ("what" : Str) = some 0 := by decide +kernel
theorem F9_0 : (flT 9).idxOf? ("name" : Str) = some 0 := by decide +kernel
theorem F10_0 : (flT 10).idxOf? ("line" : Str) = some 0 := by decide +kernel
theorem F10_1 : (flT 10).idxOf? ("token" : Str) = some 1 := by decide +kernel
theorem F11_0 : (flT 11).idxOf? ("what" : Str) = some 0 := by decide +kernel
theorem F11_1 : (flT 11).idxOf? ("index" : Str) = some 1 := by decide +kernel
theorem F12_0 : (flT 12).idxOf? ("name" : Str) = some 0 := by decide +kernel
theorem F13_0 : (flT 13).idxOf? ("name" : Str) = some 0 := by decide +kernel
theorem F14_0 : (flT 14).idxOf? ("what" : Str) = some 0 := by decide +kernel
theorem F15_0 : (flT 15).idxOf? ("paper" : Str) = some 0 := by decide +kernel
theorem F16_0 : (flT 16).idxOf? ("what" : Str) = some 0 := by decide +kernel
theorem F16_1 : (flT 16).idxOf? ("many" : Str) = some 1 := by decide +kernel
theorem F16_2 : (flT 16).idxOf? ("limit" : Str) = some 2 := by decide +kernel
theorem F17_0 : (flT 17).idxOf? ("promise" : Str) = some 0 := by decide +kernel
theorem F17_1 : (flT 17).idxOf? ("witness" : Str) = some 1 := by decide +kernel
theorem ups_ {c : Nat} (h0 : 0 < c) (h : c < 20) : fam.ups c = [c, 0] := by
  match c, h0, h with
  | 1, _, _ => rfl
  | 2, _, _ => rfl
  | 3, _, _ => rfl
  | 4, _, _ => rfl
  | 5, _, _ => rfl
  | 6, _, _ => rfl
  | 7, _, _ => rfl
  | 8, _, _ => rfl
  | 9, _, _ => rfl
  | 10, _, _ => rfl
  | 11, _, _ => rfl
  | 12, _, _ => rfl
  | 13, _, _ => rfl
  | 14, _, _ => rfl
  | 15, _, _ => rfl
  | 16, _, _ => rfl
  | 17, _, _ => rfl
  | 18, _, _ => rfl
  | 19, _, _ => rfl
  | n + 20, _, h => exact absurd h (by omega)
theorem dT {xs : List Val} : dat (.tup xs) = true := rfl
theorem dS {x : Str} : dat (.str x) = true := rfl
theorem dI {x : Int} : dat (.int x) = true := rfl
theorem szl {n : Nat} (h : n ≤ 1000) : (n < sizeLine) = True := eq_true (Nat.lt_of_le_of_lt h (by decide))
section
variable {k p : Nat} {h : MH} {a b c : Val} {d1 d2 d3 : PyData}
theorem fieldE {F : Nat → List Str} {j : Nat} {fs : List Val} {f : Str} : getFld F h (.exn j fs) f = ((F j).idxOf? f).bind fun i => fs[i]? := rfl
theorem skip {c d : Nat} {fs : List Val} {σ : MF} {body : C} (hd : d < 20) (hn : (fam.ups c).contains d = false) : evS (sys PG k) (.ite (.blt .isinstance (.cons (.v 0) (.cons (.gv (.cls d)) .nil))) body .nil) (some (.exn c fs) :: σ) h = .nx (some (.exn c fs) :: σ) h := by
  have e : biV (sys PG k) .isinstance h [.exn c fs, .cls d] = some (.bl false, h) := by rw [isi_c hd, hn]
  simp -implicitDefEqProofs [e, tru]
theorem more_ok (N1 : Nice p h a d1) (N2 : Nice p h b d2) (N3 : Nice p h c d3) (n : Nat) (h19 : n < 19) : (sys PG (k + 1)).call 4 [.exn (clsV n) (argV n a b c)] h = .ok (.ref h.length) (h ++ [.lst (if clsV n < 11 then [] else [dueV n a b c d1.shown d2.shown])]) := by
  rw [call_s (r := r4) rfl, run_fn (by rfl)]
  have ha := N1.2.1
  have hb := N2.2.1
  have hc := N3.2.1
  have ra := rep_app N1 (t := [.lst []]) (Γ := sys PG k)
  have rb := rep_app N2 (t := [.lst []]) (Γ := sys PG k)
  have n19 : n = 0 ∨ n = 1 ∨ n = 2 ∨ n = 3 ∨ n = 4 ∨ n = 5 ∨ n = 6 ∨ n = 7 ∨ n = 8 ∨ n = 9 ∨ n = 10 ∨ n = 11 ∨ n = 12 ∨ n = 13 ∨ n = 14 ∨ n = 15 ∨ n = 16 ∨ n = 17 ∨ n = 18 := by omega
  rcases n19 with rfl | rfl | rfl | rfl | rfl | rfl | rfl | rfl | rfl | rfl | rfl | rfl | rfl | rfl | rfl | rfl | rfl | rfl | rfl <;>
    simp -implicitDefEqProofs [fnR, r4, c4, ↓skip, isi_c, ups_, clsV, tru, argV, dueV, fit_s, Mini.alloc, mtTy, mtV, mtAppend, guardO, ha, hb, hc, ra, rb, fieldE, s_fl, F1_0, F1_1, F2_0, F2_1, F3_0, F3_1, F4_0, F5_0, F6_0, F7_0, F8_0, F9_0, F10_0, F10_1, F11_0, F11_1, F12_0, F13_0, F14_0, F15_0, F16_0, F16_1, F16_2, F17_0, F17_1, dT, dS, dI, szl, List.set_append]
theorem kinds_ok (N1 : Nice p h a d1) (N2 : Nice p h b d2) (N3 : Nice p h c d3) (n : Nat) (h19 : n < 19) : ∃ A B, (sys PG (k + 2)).call 3 [.exn (clsV n) (argV n a b c)] h = .ok (.ref (h.length + 2)) (h ++ [.lst A, .lst B, .lst [dueV n a b c d1.shown d2.shown]]) := by
  refine ⟨if clsV n < 11 then [dueV n a b c d1.shown d2.shown] else [], if clsV n < 11 then [] else [dueV n a b c d1.shown d2.shown], ?_⟩
  rw [call_s (r := r3) rfl, run_fn (by rfl)]
  have ha := N1.2.1
  have hb := N2.2.1
  have hc := N3.2.1
  have ra := rep_app N1 (t := [.lst []]) (Γ := sys PG (k + 1))
  have rb := rep_app N2 (t := [.lst []]) (Γ := sys PG (k + 1))
  have e4 := fun t : MH => more_ok (k := k) (N1.later (Later.app (t := t))) (N2.later (Later.app (t := t))) (N3.later (Later.app (t := t))) n h19
  have n19 : n = 0 ∨ n = 1 ∨ n = 2 ∨ n = 3 ∨ n = 4 ∨ n = 5 ∨ n = 6 ∨ n = 7 ∨ n = 8 ∨ n = 9 ∨ n = 10 ∨ n = 11 ∨ n = 12 ∨ n = 13 ∨ n = 14 ∨ n = 15 ∨ n = 16 ∨ n = 17 ∨ n = 18 := by omega
  rcases n19 with rfl | rfl | rfl | rfl | rfl | rfl | rfl | rfl | rfl | rfl | rfl | rfl | rfl | rfl | rfl | rfl | rfl | rfl | rfl <;>
    simp -implicitDefEqProofs [clsV, argV, dueV] at e4 <;>
    simp -implicitDefEqProofs [fnR, r3, c3, ↓skip, isi_c, ups_, clsV, tru, argV, dueV, fit_s, Mini.alloc, mtTy, mtV, mtAppend, guardO, ha, hb, hc, ra, rb, fieldE, s_fl, F1_0, F1_1, F2_0, F2_1, F3_0, F3_1, F4_0, F5_0, F6_0, F7_0, F8_0, F9_0, F10_0, F10_1, F11_0, F11_1, F12_0, F13_0, F14_0, F15_0, F16_0, F16_1, F16_2, F17_0, F17_1, dT, dS, dI, szl, List.set_append, e4, bop, opAdd]
end
end Law
set_option Elab.async false
set_option linter.all false
set_option maxRecDepth 100000
set_option maxHeartbeats 8000000
namespace Law
open PySem Mini
theorem eqV_str {h : MH} {a b : Str} (x : goodS a) (y : goodS b) : eqV h (.str a) (.str b) = some (decide (a = b)) := by
  simp -implicitDefEqProofs [eqV, toD, SeqAt.shaped, guardO, PyData.eqv, PyData.canLay0, PyData.depth, good_ok x, good_ok y]
  by_cases z : a = b <;> simp -implicitDefEqProofs [z]
section
variable {k p : Nat} {h : MH} {a b c : Val} {d1 d2 d3 : PyData}
theorem told_ok (N1 : Nice p h a d1) (N2 : Nice p h b d2) (N3 : Nice p h c d3) (n : Nat) (h19 : n < 19) : ∃ A B, (sys PG (k + 3)).call 8 [.int n, a, b, c] h = .ok (.ref (h.length + 2)) (h ++ [.lst A, .lst B, .lst [dueV n a b c d1.shown d2.shown]]) := by
  obtain ⟨A, B, e⟩ := kinds_ok (k := k) N1 N2 N3 n h19
  refine ⟨A, B, ?_⟩
  rw [call_s (r := r8) rfl, run_fn (by rfl)]
  have ha := N1.2.1
  have hb := N2.2.1
  have hc := N3.2.1
  have hx : ∀ j, j < 20 → (sys PG (k + 2)).isx j = true := fun j hj => by
    rw [s_isx]
    exact decide_eq_true hj
  have cl : clsV n < 20 ∧ (fam.ups (clsV n)).contains 0 = true := by
    have n19 : n = 0 ∨ n = 1 ∨ n = 2 ∨ n = 3 ∨ n = 4 ∨ n = 5 ∨ n = 6 ∨ n = 7 ∨ n = 8 ∨ n = 9 ∨ n = 10 ∨ n = 11 ∨ n = 12 ∨ n = 13 ∨ n = 14 ∨ n = 15 ∨ n = 16 ∨ n = 17 ∨ n = 18 := by omega
    rcases n19 with rfl | rfl | rfl | rfl | rfl | rfl | rfl | rfl | rfl | rfl | rfl | rfl | rfl | rfl | rfl | rfl | rfl | rfl | rfl <;> decide
  have hs : (sys PG (k + 2)).sub (clsV n) 0 = true := by
    rw [s_sub]
    exact cl.2
  have hd : ∀ x : Val, dat x = true → datO (some x) = true := fun x z => z
  have h1 : datO none = true := rfl
  have h2 : ∀ z : Int, datO (some (.int z)) = true := fun _ => rfl
  have h3 : ∀ z : Nat, datO (some (.ref z)) = true := fun _ => rfl
  by_cases h10 : n < 10
  · have e1 := raised_lo (k := k + 1) (c := c) N1 N2 n h10
    simp -implicitDefEqProofs [fnR, r8, c8, e1, tryF, hx, cl.1, hs, isi_v, e, tru, hd, ha, hb, hc, h1, h2, h3]
  · have e1 := raised_no (k := k + 1) (h := h) (a := a) (b := b) (c := c) n (by omega) h19
    have e2 := raised_hi (k := k + 1) N1 N2 N3 n (by omega) h19
    simp -implicitDefEqProofs [fnR, r8, c8, e1, e2, tryF, hx, cl.1, hs, isi_v, e, tru, hd, ha, hb, hc, h1, h2, h3]
def wordL : List Val := [.str "number", .str "row", .str "word", .str "place", .str "pattern", .str "machine", .str "table", .str "book", .str "unlike", .str "notthere", .str "kind", .str "badname", .str "noname", .str "taken"]
def wordM : List Val := [.str "text", .str "kept", .str "many", .str "undo", .str "redo"]
theorem due_tail {H : MH} {L : Nat} (N1 : Nice p H a d1) (N2 : Nice p H b d2) (N3 : Nice p H c d3) (n : Nat) (h19 : n < 19) (g : getIx H (.ref L) (.int n) = (wordL ++ wordM)[n]?) :
    evSs (sys PG k) c9_17 [some (.int n), some a, some b, some c, some (.ref L)] H = .rt (dueV n a b c d1.shown d2.shown) H := by
  have ha := N1.2.1
  have hb := N2.2.1
  have hc := N3.2.1
  have ra := rep N1 (Γ := sys PG k)
  have rb := rep N2 (Γ := sys PG k)
  have n19 : n = 0 ∨ n = 1 ∨ n = 2 ∨ n = 3 ∨ n = 4 ∨ n = 5 ∨ n = 6 ∨ n = 7 ∨ n = 8 ∨ n = 9 ∨ n = 10 ∨ n = 11 ∨ n = 12 ∨ n = 13 ∨ n = 14 ∨ n = 15 ∨ n = 16 ∨ n = 17 ∨ n = 18 := by omega
  rcases n19 with rfl | rfl | rfl | rfl | rfl | rfl | rfl | rfl | rfl | rfl | rfl | rfl | rfl | rfl | rfl | rfl | rfl | rfl | rfl <;>
    simp -implicitDefEqProofs [wordL, wordM] at g <;> simp -implicitDefEqProofs [g, cop, ltV, eqV_int, tru, ra, rb, ha, hb, hc, dS, fit_s, dueV]
theorem due_ok (N1 : Nice p h a d1) (N2 : Nice p h b d2) (N3 : Nice p h c d3) (n : Nat) (h19 : n < 19) : ∃ t : MH, (sys PG (k + 1)).call 9 [.int n, a, b, c] h = .ok (dueV n a b c d1.shown d2.shown) (h ++ t) := by
  refine ⟨[.lst wordL, .lst wordM, .lst (wordL ++ wordM)], ?_⟩
  rw [call_s (r := r9) rfl, run_fn (by rfl)]
  have g : getIx (h ++ [.lst wordL, .lst wordM, .lst (wordL ++ wordM)]) (.ref (h.length + 2)) (.int n) = (wordL ++ wordM)[n]? := by
    rw [get_lst (xs := wordL ++ wordM) (by simp) (by omega) (by simp -implicitDefEqProofs [wordL, wordM]; omega)]
    simp
  have t := due_tail (k := k) (N1.later (Later.app (t := [.lst wordL, .lst wordM, .lst (wordL ++ wordM)]))) (N2.later Later.app) (N3.later Later.app) n h19 g
  have hw : wordL.length = 14 := rfl
  have hu : wordM.length = 5 := rfl
  have k1 : lstF [.str "number", .str "row", .str "word", .str "place", .str "pattern", .str "machine", .str "table", .str "book", .str "unlike", .str "notthere", .str "kind", .str "badname", .str "noname", .str "taken"] h = .ok (.ref h.length) (h ++ [.lst wordL]) := rfl
  have k2 : lstF [.str "text", .str "kept", .str "many", .str "undo", .str "redo"] (h ++ [.lst wordL]) = .ok (.ref (h.length + 1)) (h ++ [.lst wordL, .lst wordM]) := by
    simp -implicitDefEqProofs [fit_s, dS, Mini.alloc, wordM]
  have k3 : bop .add (h ++ [.lst wordL, .lst wordM]) (.ref h.length) (.ref (h.length + 1)) = some (.ref (h.length + 2), h ++ [.lst wordL, .lst wordM, .lst (wordL ++ wordM)]) := by
    simp -implicitDefEqProofs [bop, opAdd, hw, hu, fit_s, guardO, Mini.alloc]
  simp -implicitDefEqProofs [-lstF, fnR, r9, c9, k1, k2, k3, t]
end
end Law
set_option Elab.async false
set_option linter.all false
set_option maxRecDepth 100000
set_option maxHeartbeats 8000000
namespace Law
open PySem Mini
section
variable {k p : Nat} {h : MH} {a b c : Val} {d1 d2 d3 : PyData}
def dueD (n : Nat) (a b c : PyData) (sa sb : Str) : PyData := match n with
  | 0 => .tuple [.str "number", a, .str sb]
  | 1 => .tuple [.str "row", a, .str sb]
  | 2 => .tuple [.str "word", a, .str sb]
  | 3 => .tuple [.str "place", a, .str sb]
  | 4 => .tuple [.str "pattern", a]
  | 5 => .tuple [.str "machine", a]
  | 6 => .tuple [.str "table", a]
  | 7 => .tuple [.str "book", a]
  | 8 => .tuple [.str "unlike", a]
  | 9 => .tuple [.str "notthere", a]
  | 10 => .tuple [.str "kind", .str sa]
  | 11 => .tuple [.str "badname", .str sa]
  | 12 => .tuple [.str "noname", .str sa]
  | 13 => .tuple [.str "taken", .str sa]
  | 14 => .tuple [.str "text", a, b]
  | 15 => .tuple [.str "kept", a, b]
  | 16 => .tuple [.str "many", a, b, c]
  | 17 => .tuple [.str "undo"]
  | _ => .tuple [.str "redo"]
theorem due_rep (N1 : Nice p h a d1) (N2 : Nice p h b d2) (N3 : Nice p h c d3) (n : Nat) (h19 : n < 19) : ∃ X : Str, goodS X ∧ ∀ (H : MH) (Γ : Sys), Later p h H → biV Γ .repr H [dueV n a b c d1.shown d2.shown] = some (.str X, H) := by
  obtain ⟨a1, a2, a3, a4, a5⟩ := N1
  obtain ⟨b1, b2, b3, b4, b5⟩ := N2
  obtain ⟨c1, c2, c3, c4, c5⟩ := N3
  obtain ⟨l1, g1⟩ := shown_le d1 a4
  obtain ⟨l2, g2⟩ := shown_le d2 b4
  have n19 : n = 0 ∨ n = 1 ∨ n = 2 ∨ n = 3 ∨ n = 4 ∨ n = 5 ∨ n = 6 ∨ n = 7 ∨ n = 8 ∨ n = 9 ∨ n = 10 ∨ n = 11 ∨ n = 12 ∨ n = 13 ∨ n = 14 ∨ n = 15 ∨ n = 16 ∨ n = 17 ∨ n = 18 := by omega
  have sh : (dueD n d1 d2 d3 d1.shown d2.shown).showable = true := by
    rcases n19 with rfl | rfl | rfl | rfl | rfl | rfl | rfl | rfl | rfl | rfl | rfl | rfl | rfl | rfl | rfl | rfl | rfl | rfl | rfl <;>
      simp -implicitDefEqProofs [dueD, PyData.showable, PyData.showableAll, a3, b3, c3]
  have tx : txt (dueD n d1 d2 d3 d1.shown d2.shown) := by
    rcases n19 with rfl | rfl | rfl | rfl | rfl | rfl | rfl | rfl | rfl | rfl | rfl | rfl | rfl | rfl | rfl | rfl | rfl | rfl | rfl <;>
      simp -implicitDefEqProofs [dueD, txt, txts, a4, b4, c4, g1, g2, good_of]
  have size : sz (dueD n d1 d2 d3 d1.shown d2.shown) ≤ 30000 := by
    have q : ∀ s : String, (Str.ofString s).length = s.toList.length := fun s => by
      rw [Str.ofString_eq_toList]
      show (s.toList.map Char.toNat).toArray.size = _
      simp
    rcases n19 with rfl | rfl | rfl | rfl | rfl | rfl | rfl | rfl | rfl | rfl | rfl | rfl | rfl | rfl | rfl | rfl | rfl | rfl | rfl <;>
      simp -implicitDefEqProofs [dueD, sz, szs, q] <;> omega
  obtain ⟨l3, g3⟩ := shown_le _ tx
  refine ⟨(dueD n d1 d2 d3 d1.shown d2.shown).shown, g3, fun H Γ l => ?_⟩
  have fits3 : (dueD n d1 d2 d3 d1.shown d2.shown).shown.length ≤ sizeLine := Nat.le_trans l3 (Nat.le_trans size (by decide))
  have td : toD H 60 (dueV n a b c d1.shown d2.shown) = some (dueD n d1 d2 d3 d1.shown d2.shown) := by
    have a6 := a1 H l 59 (by decide)
    have b6 := b1 H l 59 (by decide)
    have c6 := c1 H l 59 (by decide)
    rcases n19 with rfl | rfl | rfl | rfl | rfl | rfl | rfl | rfl | rfl | rfl | rfl | rfl | rfl | rfl | rfl | rfl | rfl | rfl | rfl <;>
      simp -implicitDefEqProofs [dueD, dueV, toD, a6, b6, c6]
  simp -implicitDefEqProofs [biV, biRepr, td, guardO, sh, fits3]
theorem pen_loop {Γ : Sys} {s : Val} : ∀ (ns : List Int) (f : Int) (x : Option Val), ∃ f' x', forL (turnF Γ (.tv 2) c0_3) (ns.map Val.int) [some s, some (.int f), x] h = .nx [some s, some (.int f'), x'] h
  | [], f, x => ⟨f, x, rfl⟩
  | i :: ns, f, x => by
    obtain ⟨f', x', e⟩ := pen_loop (Γ := Γ) (s := s) ns ((f * 47 + i) % 1000000007) (some (.int i))
    refine ⟨f', x', ?_⟩
    have hl : lim64 47 = true := by decide
    rw [List.map_cons, forL_cons]
    have e1 : turnF Γ (.tv 2) c0_3 (.int i) [some s, some (.int f), x] h = .nx [some s, some (.int ((f * 47 + i) % 1000000007)), some (.int i)] h := by
      simp -implicitDefEqProofs [turnF, bop, opAdd, opMul, opMod, guardO, hl, bi_int]
    rw [e1]
    exact e
theorem pen_ok {ns : List Int} : ∃ f, (sys PG (k + 1)).call 0 [.fl (ns.map Val.int)] [] = .ok (.ref 1) [.lst (ns.map Val.int), .dic (penL 0 0 0 0 f)] := by
  obtain ⟨f, x, e⟩ := pen_loop (h := []) (Γ := sys PG k) (s := .fl (ns.map Val.int)) ns 0 none
  refine ⟨f, ?_⟩
  rw [call_s (r := r0) rfl, run_fn (by rfl)]
  have i1 : evI (sys PG k) (.each (.v 0)) [some (.fl (ns.map Val.int)), some (.int 0), none] [] = .ok (.items (ns.map Val.int)) [] := I_e (x := .fl (ns.map Val.int)) (by simp) rfl
  have b1 : biV (sys PG k) .list [] [.fl (ns.map Val.int)] = some (.ref 0, [.lst (ns.map Val.int)]) := rfl
  have n1 : newDic [.lst (ns.map Val.int)] [.str "cells", .ref 0, .str "at", .int 0, .str "digits", .int 0, .str "count", .int 0, .str "fold", .int f] = some (.ref 1, [.lst (ns.map Val.int), .dic (penL 0 0 0 0 f)]) := rfl
  simp -implicitDefEqProofs [fnR, r0, c0, i1, e, b1, n1]
theorem turn_ok {p c : Nat} {cells : List Int} {s : Val} {x2 x3 x4 x5 x6 : Option Val} (P : PenAt h p c cells) (n : Nat) (h19 : n < 19) :
    ∃ y2 y3 y4 y5 y6 h', turnF (sys PG 19) (.tv 2) c10_9 (.int n) [some s, some (.ref p), x2, x3, x4, x5, x6] h = .nx [some s, some (.ref p), y2, y3, y4, y5, y6] h' ∧ PenAt h' p c cells := by
  obtain ⟨v1, d1, h1, e1, P1, l1, N1⟩ := any_ok (k := 16) P
  obtain ⟨v2, d2, h2, e2, P2, l2, N2⟩ := any_ok (k := 16) P1
  obtain ⟨v3, d3, h3, e3, P3, l3, N3⟩ := any_ok (k := 16) P2
  have M1 := N1.later (l2.trans l3)
  have M2 := N2.later l3
  obtain ⟨A, B, e4⟩ := told_ok (k := 16) M1 M2 N3 n h19
  obtain ⟨t, et⟩ : ∃ t : MH, t = [.lst A, .lst B, .lst [dueV n v1 v2 v3 d1.shown d2.shown]] := ⟨_, rfl⟩
  rw [← et] at e4
  obtain ⟨u, e5⟩ := due_ok (k := 18) (M1.later (Later.app (t := t))) (M2.later Later.app) (N3.later Later.app) n h19
  obtain ⟨X, gX, er⟩ := due_rep M1 M2 N3 n h19
  have r1 := er (h3 ++ t) (sys PG 19) Later.app
  have r2 := er (h3 ++ t ++ u) (sys PG 19) (Later.app.trans Later.app)
  have f1 : (sys PG 19).call 5 [.ref p] h = .ok v1 h1 := e1
  have f2 : (sys PG 19).call 5 [.ref p] h1 = .ok v2 h2 := e2
  have f3 : (sys PG 19).call 5 [.ref p] h2 = .ok v3 h3 := e3
  have f4 : (sys PG 19).call 8 [.int n, v1, v2, v3] h3 = .ok (.ref (h3.length + 2)) (h3 ++ t) := e4
  have f5 : (sys PG 19).call 9 [.int n, v1, v2, v3] (h3 ++ t) = .ok (dueV n v1 v2 v3 d1.shown d2.shown) (h3 ++ t ++ u) := e5
  have gl : (h3 ++ t)[h3.length + 2]? = some (.lst [dueV n v1 v2 v3 d1.shown d2.shown]) := by
    rw [et]
    simp
  have g0 : getIx (h3 ++ t) (.ref (h3.length + 2)) (.int 0) = some (dueV n v1 v2 v3 d1.shown d2.shown) := by
    rw [get_lst gl (by decide) (by simp)]
    rfl
  have g1 := ge_len gl (Γ := sys PG 19)
  have ne : ∀ H : MH, eqV H (.str X) (.str X) = some true := fun H => by
    rw [eqV_str gX gX]
    simp
  have D1 := N1.2.1
  have D2 := N2.2.1
  have D3 := N3.2.1
  refine ⟨some (.int n), some v1, some v2, some v3, some (.ref (h3.length + 2)), h3 ++ t ++ u, ?_, P3.app.app⟩
  rw [List.append_assoc] at r2
  simp -implicitDefEqProofs [turnF, f1, f2, f3, fit_s, D1, D2, D3, lenC, f4, cop, isV, g1, eqV_int, g0, r1, f5, r2, ne, tru]
theorem law_loop {p c : Nat} {cells : List Int} {s : Val} : ∀ (l : List Nat), (∀ n ∈ l, n < 19) → ∀ (h : MH) (x2 x3 x4 x5 x6 : Option Val), PenAt h p c cells →
    ∃ y2 y3 y4 y5 y6 h', forL (turnF (sys PG 19) (.tv 2) c10_9) (l.map fun (n : Nat) => Val.int n) [some s, some (.ref p), x2, x3, x4, x5, x6] h = .nx [some s, some (.ref p), y2, y3, y4, y5, y6] h' ∧ PenAt h' p c cells
  | [], _, h, x2, x3, x4, x5, x6, P => ⟨x2, x3, x4, x5, x6, h, rfl, P⟩
  | n :: l, hl, h, x2, x3, x4, x5, x6, P => by
    obtain ⟨y2, y3, y4, y5, y6, h1, e1, P1⟩ := turn_ok (s := s) (x2 := x2) (x3 := x3) (x4 := x4) (x5 := x5) (x6 := x6) P n (hl n List.mem_cons_self)
    obtain ⟨z2, z3, z4, z5, z6, h2, e2, P2⟩ := law_loop l (fun m hm => hl m (List.mem_cons_of_mem _ hm)) h1 y2 y3 y4 y5 y6 P1
    refine ⟨z2, z3, z4, z5, z6, h2, ?_, P2⟩
    rw [List.map_cons, forL_cons, e1]
    exact e2
theorem plain (ns : List Int) (h : ns.length ≤ 63) : ∃ h', (sys PG 20).call lawIx [.fl (ns.map Val.int)] [] = .ok (.bl true) h' := by
  obtain ⟨f, e0⟩ := pen_ok (k := 18) (ns := ns)
  have e1 : (sys PG 19).call 0 [.fl (ns.map Val.int)] [] = .ok (.ref 1) [.lst (ns.map Val.int), .dic (penL 0 0 0 0 f)] := e0
  obtain ⟨y2, y3, y4, y5, y6, h2, e2, P2⟩ := law_loop (p := 1) (c := 0) (cells := ns) (s := .fl (ns.map Val.int)) (List.range 19) (fun n hn => List.mem_range.mp hn) [.lst (ns.map Val.int), .dic (penL 0 0 0 0 f)] none none none none none ⟨rfl, 0, 0, 0, f, rfl, by decide, by decide⟩
  refine ⟨h2, ?_⟩
  rw [show (20 : Nat) = 19 + 1 from rfl, call_s (r := r10) rfl, run_fn (by rfl)]
  have i1 : evI (sys PG 19) (.rng1 (.ki 19)) [some (.fl (ns.map Val.int)), some (.ref 1), none, none, none, none, none] [.lst (ns.map Val.int), .dic (penL 0 0 0 0 f)] = .ok (.items ((List.range 19).map fun (k : Nat) => .int k)) [.lst (ns.map Val.int), .dic (penL 0 0 0 0 f)] := I_rng (n := 19) (by simp) (by decide)
  simp only [fnR, r10, c10, List.map_cons, List.map_nil, List.length_cons, List.length_nil]
  simp -implicitDefEqProofs [e1, i1, e2]
end
end Law
set_option Elab.async false
set_option linter.all false
set_option maxRecDepth 100000
set_option maxHeartbeats 0
namespace Law
open PySem PySem.Spec PyProof.Rows Mini
abbrev R : PySem.W.OpenRow := PySem.W.OpenLaw.row PySem.Challenge.rw_sayingkinds_k01_errors
abbrev fns : List He.DefD := fnOfT PySem.Challenge.rw_sayingkinds_k01_errors.prog tab
abbrev hk : PySem.W.Hook := hookM 6 [] fns (exB tab fam)
def ob (s : PySem.W.SharedT) : AlM := obsM 6 [] fns (exB tab fam) (HandSHeadRun.getT s)
theorem ob_eq (s : PySem.W.SharedT) : ob s = hk.obs s.abs := obsM_eq (HandSHeadRun.getT_eq s)
abbrev loose : List Str := ((tab.rows.map fun r => r.name).filter fun x => !decide (x = ("law" : Str))) ++ tab.cls.map fun q => q.name
theorem run (w : World) : HandSHeadRun.RunEq R (PySem.W.view R.prog [lawAt]) hk ob 12000 loose w := by
  intro os
  kernel_rfl
end Law
set_option Elab.async false
set_option linter.all false
set_option maxRecDepth 100000
set_option maxHeartbeats 0
namespace Law
open PySem PySem.Spec PyProof.Rows Mini
end Law
open PySem PySem.W PySem.Calls PyProof.Rows
theorem PySem.Challenge.cw_sayingkinds_k01_errors_holds : PySem.Challenge.rw_sayingkinds_k01_errors.Holds := by
  w_on; o_law
  refine HandSHeadRun.head_any (r := OpenLaw.row PySem.Challenge.rw_sayingkinds_k01_errors) (q := view (OpenLaw.row PySem.Challenge.rw_sayingkinds_k01_errors).prog [Law.lawAt]) (H := Law.hk) (ob := Law.ob) (M := 12000) (loose := Law.loose) (d := HandSHeadRun.topDef (OpenLaw.row PySem.Challenge.rw_sayingkinds_k01_errors).prog Law.lawAt) (kwd := []) Law.ob_eq
    (by kernel_rfl) (fun s => by kernel_rfl) Law.run (by kernel_rfl) (by kernel_rfl) (by kernel_rfl) (by rfl) (by first | assumption | decide +kernel) (by decide +kernel) ⟨rfl, rfl, rfl, rfl, rfl, by decide +kernel⟩ ?hw ?hc
  case hw => w_witness2
  case hc =>
    exact Mini.walk_mini (l := PySem.Challenge.rw_sayingkinds_k01_errors) (n := 63) (k := 20) (i := Law.lawIx) (T := Law.tab) (F := Law.fam) (fa := []) rfl rfl (by decide) (by kernel_rfl) ⟨by decide, by decide⟩ Law.tab_ok rfl (by kernel_rfl) Law.plain
