import PyProof.Rows.All
import Wide.All
import OpenK.AllK
import Wide.FinOn
import PyProof.EqAt
import PyProof.EqKinds
import PyProof.TupleCall
import HandS.ForMost
import HandS.ForExc
import HandS.Walk
import HandS.Zip
import HandS.Lambda
import KE.KDictKeyed
import KE.KDictPairs
import KE.KDictZip
import PyProof.DictMoreH
import PyProof.EqLayable
import HandS.TupAny
import HandS.TupMul
import HandS.Wide
import HandS.IsInst
import HandS.Deep
import HandS.Style
import HandS.EndTab
import HandS.EndOwn
import HandS.EndBits
import KE.KNest
import KE.KNestM
import KE.DataFind
import HandS.Words
import HandS.WordsExc
import HandS.Exc
import HandS.ExcOwn
import HandS.ExcCtx
import HandS.HotCalls
import HandS.Hot
import HandS.ExcIs
import HandS.More
import HandS.SortRule
import KE.KDictDisplayH
import HandS.SetFor
import HandS.ReCall
import KE.GoesEnum
import KE.GoesMore
import HandS.TryOnly
import PySem.Challenge.RW_changeway_k22_whole_ways_judged
/-! DLCore -/
set_option Elab.async false
set_option linter.all false
/-! DLCore: data by value (PyData), results, environments, and the denotations of the program's constructs as plain functions. No program and no heap here. -/
namespace DL
open PySem (PyData Str)
abbrev D := PyData
/-- the program's own refusals -/
inductive Ex where
  | way | house | plan | change | number | loose | text | nothing
  deriving DecidableEq
/-- a result: a value, a refusal, or what is not spoken of -/
inductive R (α : Type) where
  | ok (a : α) | exc (e : Ex) | bad
def R.bind {α β : Type} (x : R α) (f : α → R β) : R β := match x with
  | .ok a => f a
  | .exc e => .exc e
  | .bad => .bad
@[simp] theorem R.bind_ok {α β : Type} (a : α) (f : α → R β) : (R.ok a).bind f = f a := rfl
@[simp] theorem R.bind_exc {α β : Type} (e : Ex) (f : α → R β) : (R.exc e : R α).bind f = .exc e := rfl
@[simp] theorem R.bind_bad {α β : Type} (f : α → R β) : (R.bad : R α).bind f = .bad := rfl
/-- the values by slot -/
abbrev Env := List (Option D)
abbrev FE := Env → R D
abbrev FT := Env → R Bool
abbrev FA := Env → R (List D)
abbrev FO := Env → R (Option Int)
/-- what a statement comes to -/
inductive SR where
  | nx (ρ : Env) | ret (d : D) | brk (ρ : Env) | cnt (ρ : Env) | exc (e : Ex) | bad
abbrev FS := Env → SR
abbrev FG := D → Env → R Env
def lim : Nat := 16000000

/-! ### operations on values -/
/-- the place that an index of any sign means -/
def ixN (n : Nat) (i : Int) : Option Nat := if 0 ≤ i then (if i < n then some i.toNat else none) else if -(n : Int) ≤ i then some (i + n).toNat else none
def atI {α : Type} (xs : List α) (i : Int) : Option α := (ixN xs.length i).bind fun j => xs[j]?
/-- a slice's end -/
def sIx (n dflt : Nat) : Option Int → Nat
  | none => dflt
  | some i => if i < 0 then (i + n).toNat else min i.toNat n
def cut {α : Type} (xs : List α) (lo hi : Option Int) : List α := (xs.drop (sIx xs.length 0 lo)).take (sIx xs.length xs.length hi - sIx xs.length 0 lo)
def shaped (d : D) : Bool := PySem.SeqAt.shaped d
def flat : D → Bool
  | .none | .bool _ | .int _ | .str _ => true
  | _ => false
/-- a key of a dict: an int, a text, or a tuple of such -/
def isK : D → Bool
  | .int _ | .str _ => true
  | _ => false
def isKT : D → Bool
  | .tuple ks => ks.all isK
  | _ => false
/-- a dict whose keys are tuples begins with a mark -/
def isTd : List (D × D) → Bool
  | (.none, _) :: _ => true
  | _ => false
def markT : D × D := (.none, .none)
/-- an exception that is held -/
def isXd : List (D × D) → Bool
  | (.bool _, _) :: _ => true
  | _ => false
def excD (a : Nat) : D := .dict [(.bool true, .int (a : Int))]
def keyOk (kvs : List (D × D)) (k : D) : Bool := !isXd kvs && (if isTd kvs = true then isKT k else isK k)
def dKeys (kvs : List (D × D)) : List D := if isTd kvs = true then kvs.tail.map (·.1) else kvs.map (·.1)
def dVals (kvs : List (D × D)) : List D := if isTd kvs = true then kvs.tail.map (·.2) else kvs.map (·.2)
def dGetK (kvs : List (D × D)) (k : D) : Option D := (kvs.find? fun kv => PyData.eqv kv.1 k).map (·.2)
def dPutK (kvs : List (D × D)) (k v : D) : List (D × D) := if (kvs.any fun kv => PyData.eqv kv.1 k) = true then kvs.map (fun kv => if PyData.eqv kv.1 k = true then (kv.1, v) else kv) else kvs ++ [(k, v)]
def dDropK (kvs : List (D × D)) (k : D) : List (D × D) := kvs.filter fun kv => !(PyData.eqv kv.1 k)

def mulOk (i j : Int) : Bool := decide (i.natAbs < 2 ^ 63) || decide (j.natAbs < 2 ^ 63) || (decide (i.natAbs < 2 ^ 1000) && decide (j.natAbs < 2 ^ 1000))
def dAdd : D → D → R D
  | .int i, .int j => .ok (.int (i + j))
  | .tuple xs, .tuple ys => if xs.length + ys.length ≤ lim then .ok (.tuple (xs ++ ys)) else .bad
  | .list xs, .list ys => if xs.length + ys.length ≤ lim then .ok (.list (xs ++ ys)) else .bad
  | .str x, .str y => if x.length + y.length ≤ lim then .ok (.str (x ++ y)) else .bad
  | _, _ => .bad
/-- of two lists alone: a new list -/
def dAddL : D → D → R D
  | .list xs, .list ys => if xs.length + ys.length ≤ lim then .ok (.list (xs ++ ys)) else .bad
  | _, _ => .bad
def dSub : D → D → R D
  | .int i, .int j => .ok (.int (i - j))
  | _, _ => .bad
def dMul : D → D → R D
  | .int i, .int j => if mulOk i j = true then .ok (.int (i * j)) else .bad
  | .tuple xs, .int k => if 0 ≤ k ∧ k ≤ 1000 ∧ xs.length * k.toNat ≤ lim then .ok (.tuple (List.replicate k.toNat xs).flatten) else .bad
  | .list xs, .int k => if 0 ≤ k ∧ k ≤ 1000 ∧ xs.length * k.toNat ≤ lim then .ok (.list (List.replicate k.toNat xs).flatten) else .bad
  | _, _ => .bad
def dDiv : D → D → R D
  | .int i, .int j => if 0 < j ∧ j.natAbs < 2 ^ 8000 then .ok (.int (i / j)) else .bad
  | _, _ => .bad
def dMod : D → D → R D
  | .int i, .int j => if 0 < j then .ok (.int (i % j)) else .bad
  | _, _ => .bad
def dPow : D → D → R D
  | .int i, .int j => if 0 ≤ j ∧ j ≤ 1000 ∧ i.natAbs < 2 ^ 63 then .ok (.int (i ^ j.toNat)) else .bad
  | _, _ => .bad
def dNeg : D → R D
  | .int i => .ok (.int (-i))
  | _ => .bad
def dEq (x y : D) : R D := if shaped x = true ∧ shaped y = true then .ok (.bool (PyData.eqv x y)) else .bad
def dNe (x y : D) : R D := if shaped x = true ∧ shaped y = true then .ok (.bool (!PyData.eqv x y)) else .bad
/-- all ints of a list -/
def intsOf : List D → Option (List Int)
  | [] => some []
  | .int i :: r => (intsOf r).map (i :: ·)
  | _ :: _ => none
def lexLt : List Int → List Int → Bool
  | [], [] => false
  | [], _ :: _ => true
  | _ :: _, [] => false
  | x :: xs, y :: ys => if x = y then lexLt xs ys else decide (x < y)
def dLt : D → D → R D
  | .int i, .int j => .ok (.bool (decide (i < j)))
  | .tuple xs, .tuple ys => match intsOf xs, intsOf ys with
    | some ns, some ms => .ok (.bool (lexLt ns ms))
    | _, _ => .bad
  | _, _ => .bad
def dLe : D → D → R D
  | .int i, .int j => .ok (.bool (decide (i ≤ j)))
  | _, _ => .bad
def dGt : D → D → R D
  | .int i, .int j => .ok (.bool (decide (j < i)))
  | _, _ => .bad
def dGe : D → D → R D
  | .int i, .int j => .ok (.bool (decide (j ≤ i)))
  | _, _ => .bad
def isNone : D → Bool
  | .none => true
  | _ => false
def dIs : D → D → R D
  | x, .none => .ok (.bool (isNone x))
  | .bool a, .bool b => .ok (.bool (a == b))
  | _, _ => .bad
def dIsNot : D → D → R D
  | x, .none => .ok (.bool (!isNone x))
  | .bool a, .bool b => .ok (.bool (!(a == b)))
  | _, _ => .bad
def dInB : D → D → R Bool
  | x, .list ys => if shaped x = true ∧ shaped (.list ys) = true then .ok (ys.any fun z => PyData.eqv z x) else .bad
  | x, .tuple ys => if flat x = true ∧ ys.all flat = true then .ok (ys.any fun z => PyData.eqv z x) else .bad
  | x, .dict kvs => if keyOk kvs x = true then .ok (dGetK kvs x).isSome else .bad
  | _, _ => .bad
def dIn (x y : D) : R D := (dInB x y).bind fun b => .ok (.bool b)
def dNotIn (x y : D) : R D := (dInB x y).bind fun b => .ok (.bool (!b))
def dIdx : D → D → R D
  | .list xs, .int i => match atI xs i with
    | some d => .ok d
    | none => .bad
  | .tuple xs, .int i => match atI xs i with
    | some d => .ok d
    | none => .bad
  | .dict kvs, k => if keyOk kvs k = true then (match dGetK kvs k with
    | some d => .ok d
    | none => .bad) else .bad
  | _, _ => .bad
def dSlice : D → Option Int → Option Int → R D
  | .list xs, lo, hi => .ok (.list (cut xs lo hi))
  | .tuple xs, lo, hi => .ok (.tuple (cut xs lo hi))
  | _, _, _ => .bad
def dLen : D → R D
  | .list xs => .ok (.int xs.length)
  | .tuple xs => .ok (.int xs.length)
  | .str x => if x.length ≤ lim then .ok (.int x.length) else .bad
  | _ => .bad
def truth : D → R Bool
  | .none => .ok false
  | .bool b => .ok b
  | .int i => .ok (i != 0)
  | .list xs => .ok (!xs.isEmpty)
  | .tuple xs => .ok (!xs.isEmpty)
  | _ => .bad
/-- what a for, a comprehension, list() walk -/
def items : D → R (List D)
  | .list xs => .ok xs
  | .tuple xs => .ok xs
  | _ => .bad
def isI : D → Bool
  | .int _ | .bool _ => true
  | _ => false
def isB : D → Bool
  | .bool _ => true
  | _ => false
def isT : D → Bool
  | .tuple _ => true
  | _ => false
def isL : D → Bool
  | .list _ => true
  | _ => false
def isS : D → Bool
  | .str _ => true
  | _ => false
def allB : List D → R Bool
  | [] => .ok true
  | .bool b :: r => (allB r).bind fun c => .ok (b && c)
  | _ :: _ => .bad
def anyB : List D → R Bool
  | [] => .ok false
  | .bool b :: r => (anyB r).bind fun c => .ok (b || c)
  | _ :: _ => .bad
def dAll : D → R D
  | .list xs => (allB xs).bind fun b => .ok (.bool b)
  | _ => .bad
def dAny : D → R D
  | .list xs => (anyB xs).bind fun b => .ok (.bool b)
  | _ => .bad
def dSum : D → R D
  | .list xs => match intsOf xs with
    | some ns => .ok (.int ns.sum)
    | none => .bad
  | _ => .bad
def dMax2 : D → D → R D
  | .int i, .int j => .ok (.int (if j > i then j else i))
  | _, _ => .bad
def dMin2 : D → D → R D
  | .int i, .int j => .ok (.int (if j < i then j else i))
  | _, _ => .bad
def dInt : D → R D
  | .int i => .ok (.int i)
  | .bool b => .ok (.int (if b then 1 else 0))
  | _ => .bad
def dList : D → R D
  | .list xs => .ok (.list xs)
  | .tuple xs => .ok (.list xs)
  | _ => .bad
def dTuple : D → R D
  | .list xs => .ok (.tuple xs)
  | .tuple xs => .ok (.tuple xs)
  | _ => .bad
def dGet (d k z : D) : R D := match d with
  | .dict kvs => if keyOk kvs k = true then .ok ((dGetK kvs k).getD z) else .bad
  | _ => .bad

/-! ### expressions -/
def eVar (i : Nat) : FE := fun ρ => match ρ[i]? with
  | some (some d) => .ok d
  | _ => .bad
def eC (d : D) : FE := fun _ => .ok d
def e1 (f : D → R D) (a : FE) : FE := fun ρ => (a ρ).bind f
def e2 (f : D → D → R D) (a b : FE) : FE := fun ρ => (a ρ).bind fun x => (b ρ).bind fun y => f x y
def e3 (f : D → D → D → R D) (a b c : FE) : FE := fun ρ => (a ρ).bind fun x => (b ρ).bind fun y => (c ρ).bind fun z => f x y z
def aNil : FA := fun _ => .ok []
def aCons (a : FE) (r : FA) : FA := fun ρ => (a ρ).bind fun x => (r ρ).bind fun xs => .ok (x :: xs)
def eF (f : List D → R D) (a : FA) : FE := fun ρ => (a ρ).bind f
def fTup (xs : List D) : R D := .ok (.tuple xs)
def fLst (xs : List D) : R D := .ok (.list xs)
/-- a op1 b op2 c -/
def eChain (f g : D → D → R D) (a b c : FE) : FE := fun ρ => (a ρ).bind fun x => (b ρ).bind fun y => (f x y).bind fun z => match z with
  | .bool true => (c ρ).bind fun u => g y u
  | .bool false => .ok (.bool false)
  | _ => .bad
def eAnd (a b : FE) : FE := fun ρ => (a ρ).bind fun x => match x with
  | .bool true => b ρ
  | .bool false => .ok (.bool false)
  | _ => .bad
def eOr (a b : FE) : FE := fun ρ => (a ρ).bind fun x => match x with
  | .bool false => b ρ
  | .bool true => .ok (.bool true)
  | _ => .bad
def eNot (a : FE) : FE := fun ρ => (a ρ).bind fun x => match x with
  | .bool b => .ok (.bool (!b))
  | _ => .bad
def eIf (t : FT) (a b : FE) : FE := fun ρ => (t ρ).bind fun c => if c = true then a ρ else b ρ
def oNone : FO := fun _ => .ok none
def oSome (a : FE) : FO := fun ρ => (a ρ).bind fun x => match x with
  | .int i => .ok (some i)
  | _ => .bad
def eSlice (a : FE) (l h : FO) : FE := fun ρ => (a ρ).bind fun x => (l ρ).bind fun lo => (h ρ).bind fun hi => dSlice x lo hi
/-- every second item, from the first -/
def every2 {α : Type} : List α → List α
  | x :: _ :: r => x :: every2 r
  | l => l
def dStep2 (k : Nat) : D → R D
  | .tuple xs => .ok (.tuple (every2 (xs.drop k)))
  | _ => .bad
def dRev : D → R D
  | .list xs => .ok (.list xs.reverse)
  | .tuple xs => .ok (.tuple xs.reverse)
  | _ => .bad

/-! ### tests -/
def tB (a : FE) : FT := fun ρ => (a ρ).bind fun x => match x with
  | .bool b => .ok b
  | _ => .bad
def tTru (a : FE) : FT := fun ρ => (a ρ).bind truth
def tAnd (a b : FT) : FT := fun ρ => (a ρ).bind fun c => if c = true then b ρ else .ok false
def tOr (a b : FT) : FT := fun ρ => (a ρ).bind fun c => if c = true then .ok true else b ρ
def tNot (a : FT) : FT := fun ρ => (a ρ).bind fun c => .ok (!c)
def tYes : FT := fun _ => .ok true

/-! ### targets, what is walked, comprehensions -/
def gName (i : Nat) : FG := fun d ρ => .ok (ρ.set i (some d))
def gNil : List D → Env → R Env
  | [], ρ => .ok ρ
  | _ :: _, _ => .bad
def gCons (g : FG) (r : List D → Env → R Env) : List D → Env → R Env
  | d :: ds, ρ => (g d ρ).bind (r ds)
  | [], _ => .bad
def gTup (r : List D → Env → R Env) : FG := fun d ρ => match d with
  | .tuple ds => r ds ρ
  | _ => .bad
def iSeq (a : FE) : FA := fun ρ => (a ρ).bind items
def iDict (a : FE) : FA := fun ρ => (a ρ).bind fun x => match x with
  | .dict kvs => .ok (dKeys kvs)
  | _ => .bad
def rangeD (lo : Int) (n : Nat) : List D := (List.range n).map fun (k : Nat) => (.int (lo + (k : Int)) : D)
def iRng1 (a : FE) : FA := fun ρ => (a ρ).bind fun x => match x with
  | .int n => if -(lim : Int) ≤ n ∧ n ≤ lim then .ok (rangeD 0 n.toNat) else .bad
  | _ => .bad
def iRng2 (a b : FE) : FA := fun ρ => (a ρ).bind fun x => (b ρ).bind fun y => match x, y with
  | .int lo, .int hi => if -(lim : Int) ≤ lo ∧ lo ≤ lim ∧ hi ≤ lim ∧ -(lim : Int) ≤ hi then .ok (rangeD lo (hi - lo).toNat) else .bad
  | _, _ => .bad
def enumD (k : Nat) : List D → List D
  | [] => []
  | x :: r => .tuple [.int (k : Nat), x] :: enumD (k + 1) r
def iEnum (a : FE) : FA := fun ρ => (a ρ).bind fun x => (items x).bind fun xs => .ok (enumD 0 xs)
def zipD : List D → List D → List D
  | x :: xs, y :: ys => .tuple [x, y] :: zipD xs ys
  | _, _ => []
def iZip (a b : FE) : FA := fun ρ => (a ρ).bind fun x => (b ρ).bind fun y => match x, y with
  | .list xs, .list ys => .ok (zipD xs ys)
  | .tuple xs, .tuple ys => .ok (zipD xs ys)
  | _, _ => .bad
def wipeE (ρ : Env) : List Nat → Env
  | [] => ρ
  | v :: vs => (wipeE ρ vs).set v none
def compL (g : FG) (t : FT) (e : FE) (ρ : Env) : List D → R (List D)
  | [] => .ok []
  | d :: ds => (g d ρ).bind fun ρ' => (t ρ').bind fun c => if c = true then ((e ρ').bind fun y => (compL g t e ρ ds).bind fun ys => .ok (y :: ys)) else compL g t e ρ ds
/-- no refusal leaves a comprehension -/
def noX {α : Type} (x : R α) : R α := match x with
  | .ok a => .ok a
  | _ => .bad
def eComp (it : FA) (vs : List Nat) (g : FG) (t : FT) (e : FE) : FE := fun ρ => (it ρ).bind fun ds => (noX (compL g t e (wipeE ρ vs) ds)).bind fun ys => if ds.length ≤ lim then .ok (.list ys) else .bad

/-! ### statements -/
def sNext : FS := fun ρ => .nx ρ
def sSeq (a b : FS) : FS := fun ρ => match a ρ with
  | .nx ρ' => b ρ'
  | r => r
def sRet (a : FE) : FS := fun ρ => match a ρ with
  | .ok d => .ret d
  | .exc e => .exc e
  | .bad => .bad
def sRetN : FS := fun _ => .ret .none
def sBrk : FS := fun ρ => .brk ρ
def sCnt : FS := fun ρ => .cnt ρ
def sIf (t : FT) (a b : FS) : FS := fun ρ => match t ρ with
  | .ok true => a ρ
  | .ok false => b ρ
  | .exc e => .exc e
  | .bad => .bad
def sAsg (a : FE) (g : FG) : FS := fun ρ => match a ρ with
  | .ok d => (match g d ρ with
    | .ok ρ' => .nx ρ'
    | _ => .bad)
  | .exc e => .exc e
  | .bad => .bad
def sPar (i j : Nat) (a b : FE) : FS := fun ρ => match (a ρ).bind fun x => (b ρ).bind fun y => R.ok (x, y) with
  | .ok p => .nx ((ρ.set i (some p.1)).set j (some p.2))
  | .exc e => .exc e
  | .bad => .bad
def sDrop (a : FE) : FS := fun ρ => match a ρ with
  | .ok _ => .nx ρ
  | .exc e => .exc e
  | .bad => .bad
def sRaise (e : Ex) : FS := fun _ => .exc e
def sForget (vs : List Nat) : FS := fun ρ => .nx (wipeE ρ vs)
/-- x.append(e), x.extend(e), x[k] = e at a slot -/
def sApp (i : Nat) (a : FE) : FS := fun ρ => match ρ[i]? with
  | some (some (.list xs)) => (match a ρ with
    | .ok d => if xs.length < lim then .nx (ρ.set i (some (.list (xs ++ [d])))) else .bad
    | .exc e => .exc e
    | .bad => .bad)
  | _ => .bad
def sExt (i : Nat) (a : FE) : FS := fun ρ => match ρ[i]? with
  | some (some (.list xs)) => (match a ρ with
    | .ok (.list ys) => if xs.length + ys.length ≤ lim then .nx (ρ.set i (some (.list (xs ++ ys)))) else .bad
    | .exc e => .exc e
    | _ => .bad)
  | _ => .bad
def sPut (i : Nat) (k v : FE) : FS := fun ρ => match v ρ with
  | .ok y => (match ρ[i]? with
    | some (some (.dict kvs)) => (match k ρ with
      | .ok x => if keyOk kvs x = true ∧ kvs.length < lim then .nx (ρ.set i (some (.dict (dPutK kvs x y)))) else .bad
      | .exc e => .exc e
      | .bad => .bad)
    | _ => .bad)
  | .exc e => .exc e
  | .bad => .bad
def forL (g : FG) (b : FS) : List D → Env → SR
  | [], ρ => .nx ρ
  | d :: ds, ρ => match g d ρ with
    | .ok ρ' => (match b ρ' with
      | .nx ρ2 => forL g b ds ρ2
      | .cnt ρ2 => forL g b ds ρ2
      | .brk ρ2 => .nx ρ2
      | .ret d => .ret d
      | .exc e => .exc e
      | .bad => .bad)
    | _ => .bad
def sFor (it : FA) (g : FG) (b : FS) : FS := fun ρ => match it ρ with
  | .ok ds => forL g b ds ρ
  | .exc e => .exc e
  | .bad => .bad
def whileN (t : FT) (b : FS) : Nat → Env → SR
  | 0, _ => .bad
  | n + 1, ρ => match t ρ with
    | .ok true => (match b ρ with
      | .nx ρ2 => whileN t b n ρ2
      | .cnt ρ2 => whileN t b n ρ2
      | .brk ρ2 => .nx ρ2
      | .ret d => .ret d
      | .exc e => .exc e
      | .bad => .bad)
    | .ok false => .nx ρ
    | .exc e => .exc e
    | .bad => .bad
def sWhile (n : Nat) (t : FT) (b : FS) : FS := whileN t b n
/-- a def: np arguments, N names -/
def runF (np N : Nat) (body : FS) (args : List D) : R D := if args.length = np then (match body (args.map some ++ List.replicate (N - args.length) none) with
  | .nx _ => .ok .none
  | .ret d => .ok d
  | .exc e => .exc e
  | _ => .bad) else .bad
end DL
/-! DLRep -/
set_option Elab.async false
set_option linter.all false
set_option maxRecDepth 100000
set_option maxHeartbeats 2000000
/-! DLRep: what stands for a datum in the abstract heap; the state of a body by data. -/
namespace DL
open PySem PySem.Spec PyProof.Rows L2
abbrev Frag := PySem.W.Frag
/-- the written part, the program, the world -/
structure Wd where
  K : Frag
  P : Program
  w : World
  T : List (Addr × Str)
  A : Ex → Addr
/-- the tables of the lambdas, the classes of the refusals -/
class Tb where
  T : List (Addr × Str)
  A : Ex → Addr
/-- a tuple of which the object is known -/
def TupAt (F : Hp) (a : Addr) (xs : List V) : Prop := ∃ o : Obj, F a = some (.frz o (.tup xs)) ∧ o.dict = none
abbrev KT3 : List (List L2.Key × Addr × V) → List (List L2.Key × Addr × Value) → Prop := Paired fun p q => p.1 = q.1 ∧ p.2.1 = q.2.1 ∧ RelV p.2.2 q.2.2
/-- a dict whose keys are tuples, at a: the keys, where they stand, the values -/
def DX (P : Program) (w : World) (a : Addr) (kvs : List (List L2.Key × Addr × V)) : HO := .ext fun h => kvs.length ≤ sizeLine ∧ (a == sysModules) = false ∧ ∃ xs, KT3 kvs xs ∧
  ∃ o es ep, h.get? a = some o ∧ o.ExactDict ∧ o.data = .dict es ep ∧ es.toList = xs.map (entryOfKey (tupleKind (mixKind P w))) ∧ (xs.map (·.1)).Nodup
def keyD : L2.Key → D
  | .inl i => .int i
  | .inr x => .str x
mutual
inductive Rep (K : Wd) (F : Hp) : V → D → Prop
  | non : Rep K F .non .none
  | bl (b : Bool) : Rep K F (.bl b) (.bool b)
  | int (i : Int) : Rep K F (.int i) (.int i)
  | str (x : Str) : Rep K F (.str x) (.str x)
  | lst {a : Addr} {xs : List V} {ds : List D} : SqL K.K F a xs → RepAll K F xs ds → Rep K F (.ref a) (.list ds)
  | tup {a : Addr} {xs : List V} {ds : List D} : TupAt F a xs → RepAll K F xs ds → Rep K F (.ref a) (.tuple ds)
  | dk {a : Addr} {kvs : List (L2.Key × V)} {es : List (D × D)} : Rd F a (.dK kvs) → RepK K F kvs es → Rep K F (.ref a) (.dict es)
  | dt {a : Addr} {kvs : List (List L2.Key × Addr × V)} {es : List (D × D)} : Rd F a (DX K.P K.w a kvs) → RepT K F kvs es → Rep K F (.ref a) (.dict (markT :: es))
  | ex (a : Addr) : Rep K F (.ref a) (excD a)
inductive RepAll (K : Wd) (F : Hp) : List V → List D → Prop
  | nil : RepAll K F [] []
  | cons {v : V} {vs : List V} {d : D} {ds : List D} : Rep K F v d → RepAll K F vs ds → RepAll K F (v :: vs) (d :: ds)
inductive RepK (K : Wd) (F : Hp) : List (L2.Key × V) → List (D × D) → Prop
  | nil : RepK K F [] []
  | cons {k : L2.Key} {v : V} {kvs : List (L2.Key × V)} {d : D} {es : List (D × D)} : Rep K F v d → RepK K F kvs es → RepK K F ((k, v) :: kvs) ((keyD k, d) :: es)
inductive RepT (K : Wd) (F : Hp) : List (List L2.Key × Addr × V) → List (D × D) → Prop
  | nil : RepT K F [] []
  | cons {k : List L2.Key} {b : Addr} {v : V} {kvs : List (List L2.Key × Addr × V)} {d : D} {es : List (D × D)} : TupAt F b (k.map kV) → Rep K F v d → RepT K F kvs es → RepT K F ((k, b, v) :: kvs) ((.tuple (k.map keyD), d) :: es)
end
def Le (F F' : Hp) : Prop := ∀ b o, F b = some o → F' b = some o
theorem Le.refl (F : Hp) : Le F F := fun _ _ h => h
theorem Le.trans {F F1 F2 : Hp} (a : Le F F1) (b : Le F1 F2) : Le F F2 := fun x o h => b x o (a x o h)
theorem Le.new {F : Hp} {p : Addr} {o : HO} (h : F p = none) : Le F (upd F p o) := fun b u e => by
  rw [upd_ne (ne_of_none e h)]
  exact e
section
variable {K : Wd} {F F' H : Hp} {a : Addr}
theorem Le.rd {u : HO} (e : Le F F') (h : Rd F a u) : Rd F' a u := by
  rcases h with h | ⟨o, h⟩
  · exact .inl (e _ _ h)
  · exact .inr ⟨o, e _ _ h⟩
theorem Le.tupAt {xs : List V} (e : Le F F') (h : TupAt F a xs) : TupAt F' a xs := let ⟨o, h1, h2⟩ := h; ⟨o, e _ _ h1, h2⟩
theorem Le.sql {K : Frag} {xs : List V} (e : Le F F') (h : SqL K F a xs) : SqL K F' a xs := h.imp (fun h => e.rd h) id
mutual
theorem Rep.mono (e : Le F F') : ∀ {v : V} {d : D}, Rep K F v d → Rep K F' v d
  | _, _, .non => .non
  | _, _, .bl b => .bl b
  | _, _, .int i => .int i
  | _, _, .str x => .str x
  | _, _, .lst h r => .lst (e.sql h) (RepAll.mono e r)
  | _, _, .tup h r => .tup (e.tupAt h) (RepAll.mono e r)
  | _, _, .dk h r => .dk (e.rd h) (RepK.mono e r)
  | _, _, .dt h r => .dt (e.rd h) (RepT.mono e r)
  | _, _, .ex a => .ex a
theorem RepAll.mono (e : Le F F') : ∀ {vs : List V} {ds : List D}, RepAll K F vs ds → RepAll K F' vs ds
  | _, _, .nil => .nil
  | _, _, .cons r t => .cons (Rep.mono e r) (RepAll.mono e t)
theorem RepK.mono (e : Le F F') : ∀ {vs : List (L2.Key × V)} {ds : List (D × D)}, RepK K F vs ds → RepK K F' vs ds
  | _, _, .nil => .nil
  | _, _, .cons r t => .cons (Rep.mono e r) (RepK.mono e t)
theorem RepT.mono (e : Le F F') : ∀ {vs : List (List L2.Key × Addr × V)} {ds : List (D × D)}, RepT K F vs ds → RepT K F' vs ds
  | _, _, .nil => .nil
  | _, _, .cons b r t => .cons (e.tupAt b) (Rep.mono e r) (RepT.mono e t)
end
theorem RepAll.length : ∀ {vs : List V} {ds : List D}, RepAll K F vs ds → vs.length = ds.length
  | _, _, .nil => rfl
  | _, _, .cons _ t => congrArg (· + 1) t.length
theorem RepAll.get : ∀ {vs : List V} {ds : List D} {i : Nat} {d : D}, RepAll K F vs ds → ds[i]? = some d → ∃ v, vs[i]? = some v ∧ Rep K F v d
  | _, _, _, _, .nil, e => by simp at e
  | _, _, 0, _, .cons r _, e => by simp at e; subst e; exact ⟨_, rfl, r⟩
  | _, _, i + 1, d, .cons _ t, e => by
    obtain ⟨v, h1, h2⟩ := RepAll.get (i := i) (d := d) t (by simpa using e)
    exact ⟨v, by simpa using h1, h2⟩
theorem RepAll.getV : ∀ {vs : List V} {ds : List D} {i : Nat} {v : V}, RepAll K F vs ds → vs[i]? = some v → ∃ d, ds[i]? = some d ∧ Rep K F v d
  | _, _, _, _, .nil, e => by simp at e
  | _, _, 0, _, .cons r _, e => by simp at e; subst e; exact ⟨_, rfl, r⟩
  | _, _, i + 1, d, .cons _ t, e => by
    obtain ⟨v, h1, h2⟩ := RepAll.getV (i := i) (v := d) t (by simpa using e)
    exact ⟨v, by simpa using h1, h2⟩
theorem RepAll.append : ∀ {vs ws : List V} {ds es : List D}, RepAll K F vs ds → RepAll K F ws es → RepAll K F (vs ++ ws) (ds ++ es)
  | _, _, _, _, .nil, s => s
  | _, _, _, _, .cons r t, s => .cons r (t.append s)
theorem RepAll.take : ∀ {vs : List V} {ds : List D} (n : Nat), RepAll K F vs ds → RepAll K F (vs.take n) (ds.take n)
  | _, _, 0, _ => by rw [List.take_zero, List.take_zero]; exact .nil
  | _, _, _ + 1, .nil => .nil
  | _, _, n + 1, .cons r t => .cons r (t.take n)
theorem RepAll.drop : ∀ {vs : List V} {ds : List D} (n : Nat), RepAll K F vs ds → RepAll K F (vs.drop n) (ds.drop n)
  | _, _, 0, r => r
  | _, _, _ + 1, .nil => .nil
  | _, _, n + 1, .cons _ t => t.drop n
theorem RepAll.reverse {vs : List V} {ds : List D} (h : RepAll K F vs ds) : RepAll K F vs.reverse ds.reverse := by
  induction vs generalizing ds with
  | nil => cases h; exact .nil
  | cons v vs ih =>
    cases h with
    | cons r t =>
      rw [List.reverse_cons, List.reverse_cons]
      exact (ih t).append (.cons r .nil)
theorem RepAll.ints : ∀ {vs : List V} {ds : List D} {ns : List Int}, RepAll K F vs ds → intsOf ds = some ns → vs = ns.map V.int
  | _, _, _, .nil, e => by
    simp only [intsOf, Option.some.injEq] at e
    subst e; rfl
  | _, _, ns, .cons (v := v) (d := d) (ds := ds) r t, e => by
    cases d with
    | int i =>
      cases r
      simp only [intsOf, Option.map_eq_some_iff] at e
      obtain ⟨ms, h1, h2⟩ := e
      subst h2
      rw [t.ints h1]
      rfl
    | _ => simp [intsOf] at e
end

/-! ### the state -/
inductive Kd where
  | l | k | t
def kdOk : Kd → HO → Prop
  | .l, .lst _ => True
  | .k, .dK _ => True
  | .t, .ext _ => True
  | _, _ => False
inductive RepO (K : Wd) (F : Hp) (p : Addr) : HO → D → Prop
  | lst {xs : List V} {ds : List D} : RepAll K F xs ds → RepO K F p (.lst xs) (.list ds)
  | dk {kvs : List (L2.Key × V)} {es : List (D × D)} : RepK K F kvs es → RepO K F p (.dK kvs) (.dict es)
  | dt {kvs : List (List L2.Key × Addr × V)} {es : List (D × D)} : RepT K F kvs es → RepO K F p (DX K.P K.w p kvs) (.dict (markT :: es))
theorem RepO.mono {K : Wd} {F F' : Hp} {p : Addr} {o : HO} {d : D} (e : Le F F') (h : RepO K F p o d) : RepO K F' p o d := by
  cases h with
  | lst r => exact .lst (r.mono e)
  | dk r => exact .dk (r.mono e)
  | dt r => exact .dt (r.mono e)
/-- what a caller keeps: objects of its own that nothing reaches (Z), what is locked (L), the tables (T) -/
structure Gs where
  Z : Hp
  L : Addr → Prop
  T : List (Addr × Str)
def Gs.z (G : Gs) (p : Addr) (o : HO) : Gs := ⟨upd G.Z p o, G.L, G.T⟩
/-- o stands at p, locked or not -/
def Lv (L : Addr → Prop) (H : Hp) (p : Addr) (o : HO) : Prop := (¬ L p ∧ H p = some o) ∨ (L p ∧ Mut (some o) ∧ ∃ ob, H p = some (.frz ob o))
def NoTbl (o : HO) : Prop := ∀ ps, o ≠ .tbl ps
structure StC (G : Gs) (F H : Hp) : Prop where
  le : ∀ b o, F b = some o → NoTbl o ∧ Lv G.L H b o
  zk : ∀ p o, G.Z p = some o → F p = none ∧ H p = some o
  zt : ∀ p o, G.Z p = some o → NoTbl o
  lk : ∀ p, G.L p → ∃ ob o, H p = some (.frz ob o)
  tabs : LamX.Tabs G.T H
  lf : ∀ p, G.L p → (∃ o, F p = some o) ∨ ∃ o, G.Z p = some o
structure St (K : Wd) (G : Gs) (fl : List (Nat × Kd)) (F : Hp) (ρ : Env) (σ : L2.St) (H : Hp) : Prop where
  c : StC G F H
  tt : G.T = K.T
  len : ρ.length = σ.length
  sh : ∀ (i : Nat) (d : D), ρ[i]? = some (some d) → (∀ k, (i, k) ∉ fl) → ∃ v, σ[i]? = some (some v) ∧ Rep K F v d
  ow : ∀ (i : Nat) (k : Kd) (d : D), (i, k) ∈ fl → ρ[i]? = some (some d) → ∃ p o, σ[i]? = some (some (.ref p)) ∧ F p = none ∧ G.Z p = none ∧ Lv G.L H p o ∧ RepO K F p o d ∧ kdOk k o
  ap : ∀ (i j : Nat) (k k' : Kd) (d d' : D) (p : Addr), (i, k) ∈ fl → (j, k') ∈ fl → ρ[i]? = some (some d) → ρ[j]? = some (some d') → σ[i]? = some (some (.ref p)) → σ[j]? = some (some (.ref p)) → i = j
theorem NoTbl.lst {xs : List V} : NoTbl (.lst xs) := fun _ z => nomatch z
theorem NoTbl.tup {xs : List V} : NoTbl (.tup xs) := fun _ z => nomatch z
theorem NoTbl.dK {kvs : List (L2.Key × V)} : NoTbl (.dK kvs) := fun _ z => nomatch z
theorem NoTbl.ext {φ : Heap → Prop} : NoTbl (.ext φ) := fun _ z => nomatch z
theorem NoTbl.frz {o : Obj} {u : HO} : NoTbl (.frz o u) := fun _ z => nomatch z
theorem NoTbl.dX {P : Program} {w : World} {a : Addr} {kvs : List (List L2.Key × Addr × V)} : NoTbl (DX P w a kvs) := NoTbl.ext
theorem kdOk.noTbl {k : Kd} {o : HO} (h : kdOk k o) : NoTbl o := by
  cases k <;> cases o <;> first | exact NoTbl.lst | exact NoTbl.dK | exact NoTbl.ext | exact h.elim
theorem kdOk.mut {k : Kd} {o : HO} (h : kdOk k o) : Mut (some o) := by
  cases k <;> cases o <;> first | trivial | exact h.elim
theorem RepO.noTbl {K : Wd} {F : Hp} {p : Addr} {o : HO} {d : D} (h : RepO K F p o d) : NoTbl o := by
  cases h <;> first | exact NoTbl.lst | exact NoTbl.dK | exact NoTbl.ext
theorem RepO.mut {K : Wd} {F : Hp} {p : Addr} {o : HO} {d : D} (h : RepO K F p o d) : Mut (some o) := by
  cases h <;> trivial
theorem RepO.rep {K : Wd} {F : Hp} {p : Addr} {o : HO} {d : D} (h : RepO K F p o d) (e : F p = some o) : Rep K F (.ref p) d := by
  cases h with
  | lst r => exact .lst (.inl (.inl e)) r
  | dk r => exact .dk (.inl e) r
  | dt r => exact .dt (.inl e) r
/-- a dict is no code object -/
theorem heap_of (n : Nat) : ∃ h : Heap, h.objs.size = n := by
  induction n with
  | zero => exact ⟨{ (default : Heap) with objs := #[] }, rfl⟩
  | succ n ih =>
    obtain ⟨h, e⟩ := ih
    exact ⟨h.push { cls := .none, data := .fields #[] }, by rw [Heap.size_push, e]⟩
theorem dx_ne_code {P : Program} {w : World} {a : Addr} {kvs : List (List L2.Key × Addr × V)} {q : Str} : DX P w a kvs ≠ LamX.CodeO a q := fun z => by
  unfold DX LamX.CodeO at z
  injection z with z
  obtain ⟨h, e⟩ := heap_of a
  have g : (h.push { cls := .none, data := .fields #[.none, .str q default] }).get? a = some { cls := .none, data := .fields #[.none, .str q default] } := by
    rw [← e]; exact Heap.get?_push_size _ rfl
  have c := congrFun z (h.push { cls := .none, data := .fields #[.none, .str q default] })
  have d : ∃ (oc : Obj) (vs : Array Value) (t : Tok), (h.push { cls := .none, data := .fields #[.none, .str q default] }).get? a = some oc ∧ oc.data = .fields vs ∧ vs[1]? = some (.str q t) := ⟨_, _, default, g, rfl, rfl⟩
  rw [← c] at d
  obtain ⟨_, _, _, _, o, es, ep, h1, _, h2, _⟩ := d
  rw [g] at h1
  cases h1
  cases h2
theorem RepO.ne_code {K : Wd} {F : Hp} {p : Addr} {o : HO} {d : D} (h : RepO K F p o d) {q : Str} : o ≠ LamX.CodeO p q := by
  cases h with
  | lst r => exact fun z => by cases z
  | dk r => exact fun z => by cases z
  | dt r => exact dx_ne_code
section
variable {K : Wd} {G : Gs} {fl : List (Nat × Kd)} {F F' H H' : Hp} {ρ : Env} {σ : L2.St} {p a : Addr} {o : HO} {v : V} {d : D}
theorem Lv.ex {L : Addr → Prop} (h : Lv L H p o) : ∃ u, H p = some u := by
  rcases h with ⟨_, h⟩ | ⟨_, _, ob, h⟩
  · exact ⟨_, h⟩
  · exact ⟨_, h⟩
theorem Lv.rd {L : Addr → Prop} (h : Lv L H p o) : Rd H p o := by
  rcases h with ⟨_, h⟩ | ⟨_, _, ob, h⟩
  · exact .inl h
  · exact .inr ⟨ob, h⟩
theorem Lv.mono {L : Addr → Prop} (h : Lv L H p o) (e : ∀ u, H p = some u → H' p = some u) : Lv L H' p o := by
  rcases h with ⟨n, h⟩ | ⟨n, m, ob, h⟩
  · exact .inl ⟨n, e _ h⟩
  · exact .inr ⟨n, m, ob, e _ h⟩
theorem StC.rd (s : StC G F H) {u : HO} (h : Rd F a u) : Rd H a u := by
  rcases h with h | ⟨ob, h⟩
  · exact (s.le _ _ h).2.rd
  · rcases (s.le _ _ h).2 with ⟨_, q⟩ | ⟨_, m, _⟩
    · exact .inr ⟨ob, q⟩
    · exact m.elim
theorem StC.sql (s : StC G F H) {K : Frag} {xs : List V} (h : SqL K F a xs) : SqL K H a xs := h.imp (fun h => s.rd h) id
theorem StC.tup (s : StC G F H) {xs : List V} (h : TupAt F a xs) : TupAt H a xs := by
  obtain ⟨ob, h, hd⟩ := h
  rcases (s.le _ _ h).2 with ⟨_, q⟩ | ⟨_, m, _⟩
  · exact ⟨ob, q, hd⟩
  · exact m.elim
theorem TupAt.sq {K : Frag} {xs : List V} (h : TupAt H a xs) : SqT K H a xs := let ⟨o, h, _⟩ := h; .inl (.inr ⟨o, h⟩)
theorem StC.fnone (s : StC G F H) (h : H p = none) : F p = none := by
  cases e : F p with
  | none => rfl
  | some u =>
    obtain ⟨w, q⟩ := (s.le _ _ e).2.ex
    rw [h] at q; cases q
theorem StC.znone (s : StC G F H) (h : H p = none) : G.Z p = none := by
  cases e : G.Z p with
  | none => rfl
  | some u =>
    have q := (s.zk _ _ e).2
    rw [h] at q; cases q
theorem StC.nlk (s : StC G F H) (h : H p = none) : ¬ G.L p := fun l => by
  obtain ⟨ob, o, q⟩ := s.lk p l
  rw [h] at q; cases q
theorem tabs_new {T : List (Addr × Str)} (t : LamX.Tabs T H) (h : H p = none) : LamX.Tabs T (upd H p o) := t.ext fun b u e => by
  rw [upd_ne (ne_of_none e h)]; exact e
/-- a new object that all may know -/
theorem StC.alloc (s : StC G F H) (h : H p = none) (n : NoTbl o) : StC G (upd F p o) (upd H p o) where
  le b u e := by
    by_cases hb : b = p
    · subst hb
      rw [upd_same] at e; cases e
      exact ⟨n, .inl ⟨s.nlk h, upd_same⟩⟩
    · rw [upd_ne hb] at e
      obtain ⟨n', l⟩ := s.le b u e
      exact ⟨n', l.mono fun w q => by rw [upd_ne hb]; exact q⟩
  zk q u e := by
    obtain ⟨h1, h2⟩ := s.zk q u e
    have hq : q ≠ p := ne_of_none h2 h
    rw [upd_ne hq, upd_ne hq]
    exact ⟨h1, h2⟩
  zt := s.zt
  lk q l := by
    obtain ⟨ob, u, e⟩ := s.lk q l
    exact ⟨ob, u, by rw [upd_ne (ne_of_none e h)]; exact e⟩
  tabs := tabs_new s.tabs h
  lf q l := (s.lf q l).imp (fun ⟨u, e⟩ => ⟨u, Le.new (s.fnone h) q u e⟩) id
/-- a new object of one's own -/
theorem StC.allocZ (s : StC G F H) (h : H p = none) (n : NoTbl o) : StC (G.z p o) F (upd H p o) where
  le b u e := by
    obtain ⟨n', l⟩ := s.le b u e
    obtain ⟨w, q⟩ := l.ex
    exact ⟨n', l.mono fun w q => by rw [upd_ne (ne_of_none q h)]; exact q⟩
  zk q u e := by
    by_cases hq : q = p
    · subst hq
      have e' : upd G.Z q o q = some u := e
      rw [upd_same] at e'; cases e'
      exact ⟨s.fnone h, upd_same⟩
    · have e' : upd G.Z p o q = some u := e
      rw [upd_ne hq] at e'
      rw [upd_ne hq]
      exact s.zk q u e'
  zt q u e := by
    by_cases hq : q = p
    · subst hq
      have e' : upd G.Z q o q = some u := e
      rw [upd_same] at e'; cases e'
      exact n
    · have e' : upd G.Z p o q = some u := e
      rw [upd_ne hq] at e'
      exact s.zt q u e'
  lk q l := by
    obtain ⟨ob, u, e⟩ := s.lk q l
    exact ⟨ob, u, by rw [upd_ne (ne_of_none e h)]; exact e⟩
  tabs := tabs_new s.tabs h
  lf q l := (s.lf q l).imp id fun ⟨u, e⟩ => ⟨u, Le.new (s.znone h) q u e⟩
theorem St.alloc (s : St K G fl F ρ σ H) (h : H p = none) (n : NoTbl o) : St K G fl (upd F p o) ρ σ (upd H p o) where
  c := s.c.alloc h n
  tt := s.tt
  len := s.len
  sh i d e nf := by
    obtain ⟨v, h1, r⟩ := s.sh i d e nf
    exact ⟨v, h1, r.mono (Le.new (s.c.fnone h))⟩
  ow i k d m e := by
    obtain ⟨q, u, h1, h2, h3, h4, h5, h6⟩ := s.ow i k d m e
    obtain ⟨w, h7⟩ := h4.ex
    have hq : q ≠ p := ne_of_none h7 h
    exact ⟨q, u, h1, by rw [upd_ne hq]; exact h2, h3, h4.mono fun w z => by rw [upd_ne hq]; exact z, h5.mono (Le.new (s.c.fnone h)), h6⟩
  ap := s.ap
theorem St.allocZ (s : St K G fl F ρ σ H) (h : H p = none) (n : NoTbl o) : St K (G.z p o) fl F ρ σ (upd H p o) where
  c := s.c.allocZ h n
  tt := s.tt
  len := s.len
  sh := s.sh
  ow i k d m e := by
    obtain ⟨q, u, h1, h2, h3, h4, h5, h6⟩ := s.ow i k d m e
    obtain ⟨w, h7⟩ := h4.ex
    have hq : q ≠ p := ne_of_none h7 h
    exact ⟨q, u, h1, h2, by show upd G.Z p o q = none; rw [upd_ne hq]; exact h3, h4.mono fun w z => by rw [upd_ne hq]; exact z, h5, h6⟩
  ap := s.ap
/-- one's own object is handed over to all -/
theorem StC.share (s : StC (G.z p o) F H) (hz : G.Z p = none) (n : NoTbl o) (hl : ¬ G.L p) : StC G (upd F p o) H where
  le b u e := by
    by_cases hb : b = p
    · subst hb
      rw [upd_same] at e; cases e
      exact ⟨n, .inl ⟨hl, (s.zk b o upd_same).2⟩⟩
    · rw [upd_ne hb] at e
      exact s.le b u e
  zk q u e := by
    have hq : q ≠ p := fun z => by rw [z, hz] at e; cases e
    rw [upd_ne hq]
    exact s.zk q u (by show upd G.Z p o q = some u; rw [upd_ne hq]; exact e)
  zt q u e := by
    have hq : q ≠ p := fun z => by rw [z, hz] at e; cases e
    exact s.zt q u (by show upd G.Z p o q = some u; rw [upd_ne hq]; exact e)
  lk := s.lk
  tabs := s.tabs
  lf q l := by
    have hq : q ≠ p := fun z => hl (z ▸ l)
    rcases s.lf q l with ⟨u, e⟩ | ⟨u, e⟩
    · exact .inl ⟨u, by rw [upd_ne hq]; exact e⟩
    · have e' : upd G.Z p o q = some u := e
      rw [upd_ne hq] at e'
      exact .inr ⟨u, e'⟩
theorem StC.nlz (s : StC (G.z p o) F H) (n : Mut (some o)) : ¬ G.L p := fun l => by
  obtain ⟨ob, u, e⟩ := s.lk p l
  have h := (s.zk p o upd_same).2
  rw [e] at h; cases h
  exact n
theorem StC.fz (s : StC (G.z p o) F H) : F p = none := (s.zk p o upd_same).1
theorem St.share (s : St K (G.z p o) fl F ρ σ H) (hz : G.Z p = none) (n : NoTbl o) (hm : Mut (some o)) : St K G fl (upd F p o) ρ σ H where
  c := s.c.share hz n (s.c.nlz hm)
  tt := s.tt
  len := s.len
  sh i d e nf := by
    obtain ⟨v, h1, r⟩ := s.sh i d e nf
    exact ⟨v, h1, r.mono (Le.new s.c.fz)⟩
  ow i k d m e := by
    obtain ⟨q, u, h1, h2, h3, h4, h5, h6⟩ := s.ow i k d m e
    have hq : q ≠ p := fun z => by
      have h3' : upd G.Z p o q = none := h3
      rw [z, upd_same] at h3'; cases h3'
    have h3' : upd G.Z p o q = none := h3
    rw [upd_ne hq] at h3'
    exact ⟨q, u, h1, by rw [upd_ne hq]; exact h2, h3', h4, h5.mono (Le.new s.c.fz), h6⟩
  ap := s.ap
end
end DL
/-! DLSt -/
set_option Elab.async false
set_option linter.all false
set_option maxRecDepth 100000
set_option maxHeartbeats 2000000
/-! DLSt: how the state goes on: stores, freezing, forgetting, calls, changes of one's own objects. -/
namespace DL
open PySem PySem.Spec PyProof.Rows L2
section
variable {K : Wd} {G : Gs} {fl : List (Nat × Kd)} {F F' H H' : Hp} {ρ : Env} {σ : L2.St} {p a : Addr} {o o' : HO} {v : V} {d : D} {i : Nat} {k : Kd}
/-- the flags without a slot -/
def flNo (fl : List (Nat × Kd)) (i : Nat) : List (Nat × Kd) := fl.filter fun q => decide (q.1 ≠ i)
theorem mem_flNo {fl : List (Nat × Kd)} {i j : Nat} {k : Kd} : (j, k) ∈ flNo fl i ↔ (j, k) ∈ fl ∧ j ≠ i := by
  unfold flNo
  rw [List.mem_filter]
  simp
theorem get_set_self {α : Type} {l : List (Option α)} {i : Nat} {x : α} {y : α} (h : (l.set i (some x))[i]? = some (some y)) : x = y ∧ i < l.length := by
  by_cases hi : i < l.length
  · rw [List.getElem?_set_self hi] at h
    cases h
    exact ⟨rfl, hi⟩
  · rw [List.getElem?_eq_none (by simpa using hi)] at h
    cases h
theorem get_set_ne {α : Type} {l : List α} {i j : Nat} {x : α} (h : j ≠ i) : (l.set i x)[j]? = l[j]? := List.getElem?_set_ne (Ne.symm h)
/-- a shared value is stored -/
theorem St.set (s : St K G fl F ρ σ H) (r : Rep K F v d) : St K G (flNo fl i) F (ρ.set i (some d)) (σ.set i (some v)) H where
  c := s.c
  tt := s.tt
  len := by rw [List.length_set, List.length_set]; exact s.len
  sh j e h nf := by
    by_cases hj : j = i
    · subst hj
      obtain ⟨rfl, hi⟩ := get_set_self h
      exact ⟨v, List.getElem?_set_self (by rw [← s.len]; exact hi), r⟩
    · rw [get_set_ne hj] at h ⊢
      exact s.sh j e h fun k m => nf k (mem_flNo.mpr ⟨m, hj⟩)
  ow j k e m h := by
    obtain ⟨m, hj⟩ := mem_flNo.mp m
    rw [get_set_ne hj] at h ⊢
    exact s.ow j k e m h
  ap j1 j2 k k' d d' q m1 m2 h1 h2 h3 h4 := by
    obtain ⟨m1, n1⟩ := mem_flNo.mp m1
    obtain ⟨m2, n2⟩ := mem_flNo.mp m2
    rw [get_set_ne n1] at h1 h3
    rw [get_set_ne n2] at h2 h4
    exact s.ap j1 j2 k k' d d' q m1 m2 h1 h2 h3 h4
/-- one's own new object is stored -/
theorem St.setFresh (s : St K (G.z p o) fl F ρ σ H) (hz : G.Z p = none) (hk : kdOk k o) (r : RepO K F p o d) : St K G ((i, k) :: flNo fl i) F (ρ.set i (some d)) (σ.set i (some (.ref p))) H where
  c := ⟨s.c.le, fun q u e => by
      have hq : q ≠ p := fun z => by rw [z, hz] at e; cases e
      exact s.c.zk q u (by show upd G.Z p o q = some u; rw [upd_ne hq]; exact e), fun q u e => by
      have hq : q ≠ p := fun z => by rw [z, hz] at e; cases e
      exact s.c.zt q u (by show upd G.Z p o q = some u; rw [upd_ne hq]; exact e), s.c.lk, s.c.tabs, fun q l => by
      have hq : q ≠ p := fun z => s.c.nlz hk.mut (z ▸ l)
      rcases s.c.lf q l with ⟨u, e⟩ | ⟨u, e⟩
      · exact .inl ⟨u, e⟩
      · have e' : upd G.Z p o q = some u := e
        rw [upd_ne hq] at e'
        exact .inr ⟨u, e'⟩⟩
  tt := s.tt
  len := by rw [List.length_set, List.length_set]; exact s.len
  sh j e h nf := by
    by_cases hj : j = i
    · subst hj
      exact absurd List.mem_cons_self (nf k)
    · rw [get_set_ne hj] at h ⊢
      exact s.sh j e h fun k m => nf k (List.mem_cons_of_mem _ (mem_flNo.mpr ⟨m, hj⟩))
  ow j k' e m h := by
    rcases List.mem_cons.mp m with m | m
    · cases m
      obtain ⟨rfl, hi⟩ := get_set_self h
      exact ⟨p, o, List.getElem?_set_self (by rw [← s.len]; exact hi), s.c.fz, hz, .inl ⟨s.c.nlz hk.mut, (s.c.zk p o upd_same).2⟩, r, hk⟩
    · obtain ⟨m, hj⟩ := mem_flNo.mp m
      rw [get_set_ne hj] at h ⊢
      obtain ⟨q, u, h1, h2, h3, h4, h5, h6⟩ := s.ow j k' e m h
      have hq : q ≠ p := fun z => by
        have h3' : upd G.Z p o q = none := h3
        rw [z, upd_same] at h3'; cases h3'
      have h3' : upd G.Z p o q = none := h3
      rw [upd_ne hq] at h3'
      exact ⟨q, u, h1, h2, h3', h4, h5, h6⟩
  ap j1 j2 k1 k2 d1 d2 q m1 m2 h1 h2 h3 h4 := by
    have own : ∀ (j : Nat) (k' : Kd) (e : D), (j, k') ∈ flNo fl i → (ρ.set i (some d))[j]? = some (some e) → (σ.set i (some (V.ref p)))[j]? = some (some (.ref p)) → False := fun j k' e m h hs => by
      obtain ⟨m, hj⟩ := mem_flNo.mp m
      rw [get_set_ne hj] at h hs
      obtain ⟨q, u, h1, h2, h3, h4, h5, h6⟩ := s.ow j k' e m h
      rw [hs] at h1; cases h1
      have h3' : upd G.Z p o p = none := h3
      rw [upd_same] at h3'; cases h3'
    rcases List.mem_cons.mp m1 with m1 | m1
    · cases m1
      rcases List.mem_cons.mp m2 with m2 | m2
      · cases m2; rfl
      · obtain ⟨e1, hi⟩ := get_set_self h3
        cases e1
        exact (own j2 k2 d2 m2 h2 h4).elim
    · rcases List.mem_cons.mp m2 with m2 | m2
      · cases m2
        obtain ⟨e1, hi⟩ := get_set_self h4
        cases e1
        exact (own j1 k1 d1 m1 h1 h3).elim
      · obtain ⟨m1, n1⟩ := mem_flNo.mp m1
        obtain ⟨m2, n2⟩ := mem_flNo.mp m2
        rw [get_set_ne n1] at h1 h3
        rw [get_set_ne n2] at h2 h4
        exact s.ap j1 j2 k1 k2 d1 d2 q m1 m2 h1 h2 h3 h4
/-- forgetting slots -/
theorem wipeE_length (ρ : Env) : ∀ vs : List Nat, (wipeE ρ vs).length = ρ.length
  | [] => rfl
  | v :: vs => by unfold wipeE; rw [List.length_set, wipeE_length ρ vs]
theorem wipeE_some {ρ : Env} {i : Nat} {x : D} : ∀ {vs : List Nat}, (wipeE ρ vs)[i]? = some (some x) → ρ[i]? = some (some x) ∧ i ∉ vs
  | [], h => ⟨h, by simp⟩
  | v :: vs, h => by
    unfold wipeE at h
    by_cases hi : v = i
    · subst hi
      by_cases hv : v < (wipeE ρ vs).length
      · rw [List.getElem?_set_self hv] at h; cases h
      · rw [List.getElem?_eq_none (by simpa using hv)] at h; cases h
    · rw [List.getElem?_set_ne hi] at h
      obtain ⟨h1, h2⟩ := wipeE_some h
      exact ⟨h1, by simp only [List.mem_cons, not_or]; exact ⟨fun e => hi e.symm, h2⟩⟩
theorem wipe_get {σ : L2.St} {i : Nat} : ∀ {vs : List Nat}, i ∉ vs → (wipe σ vs)[i]? = σ[i]?
  | [], _ => rfl
  | v :: vs, h => by
    have h1 : i ≠ v := fun e => h (by simp [e])
    unfold wipe
    rw [get_set_ne h1]
    exact wipe_get fun m => h (List.mem_cons_of_mem _ m)
theorem St.weak {ρ' : Env} (s : St K G fl F ρ σ H) (hl : ρ'.length = ρ.length) (w : ∀ (i : Nat) d, ρ'[i]? = some (some d) → ρ[i]? = some (some d)) : St K G fl F ρ' σ H where
  c := s.c
  tt := s.tt
  len := hl.trans s.len
  sh j e h nf := s.sh j e (w j e h) nf
  ow j k e m h := s.ow j k e m (w j e h)
  ap j1 j2 k k' d d' q m1 m2 h1 h2 h3 h4 := s.ap j1 j2 k k' d d' q m1 m2 (w _ _ h1) (w _ _ h2) h3 h4
theorem St.forget (s : St K G fl F ρ σ H) (vs : List Nat) : St K G fl F (wipeE ρ vs) σ H := s.weak (wipeE_length _ _) fun _ _ h => (wipeE_some h).1
/-- both forgotten: a comprehension's names -/
theorem St.wipe (s : St K G fl F ρ σ H) (vs : List Nat) : St K G fl F (wipeE ρ vs) (L2.wipe σ vs) H where
  c := s.c
  tt := s.tt
  len := by rw [wipeE_length, wipe_length]; exact s.len
  sh j e h nf := by
    obtain ⟨h, hj⟩ := wipeE_some h
    rw [wipe_get hj]
    exact s.sh j e h nf
  ow j k e m h := by
    obtain ⟨h, hj⟩ := wipeE_some h
    rw [wipe_get hj]
    exact s.ow j k e m h
  ap j1 j2 k k' d d' q m1 m2 h1 h2 h3 h4 := by
    obtain ⟨h1, n1⟩ := wipeE_some h1
    obtain ⟨h2, n2⟩ := wipeE_some h2
    rw [wipe_get n1] at h3
    rw [wipe_get n2] at h4
    exact s.ap j1 j2 k k' d d' q m1 m2 h1 h2 h3 h4
/-- a slot's own object is handed over -/
theorem St.freeze (s : St K G fl F ρ σ H) (i : Nat) : ∃ F', Le F F' ∧ St K G (flNo fl i) F' ρ σ H := by
  by_cases hx : ∃ k d, (i, k) ∈ fl ∧ ρ[i]? = some (some d)
  · obtain ⟨k, d, m, h⟩ := hx
    obtain ⟨p, o, h1, h2, h3, h4, h5, h6⟩ := s.ow i k d m h
    have e : Le F (upd F p o) := Le.new h2
    refine ⟨upd F p o, e, ⟨⟨fun b u q => ?_, fun q u z => ?_, s.c.zt, s.c.lk, s.c.tabs, fun q l => (s.c.lf q l).imp (fun ⟨u, z⟩ => ⟨u, e q u z⟩) id⟩, s.tt, s.len, fun j e' h' nf => ?_, fun j k' e' m' h' => ?_, fun j1 j2 k k' d d' q m1 m2 g1 g2 g3 g4 => ?_⟩⟩
    · by_cases hb : b = p
      · subst hb
        rw [upd_same] at q; cases q
        exact ⟨h6.noTbl, h4⟩
      · rw [upd_ne hb] at q
        exact s.c.le b u q
    · have hq : q ≠ p := fun w => by rw [w, h3] at z; cases z
      rw [upd_ne hq]
      exact s.c.zk q u z
    · by_cases hj : j = i
      · subst hj
        rw [h] at h'; cases h'
        exact ⟨_, h1, (h5.mono e).rep upd_same⟩
      · obtain ⟨v, g1, g2⟩ := s.sh j e' h' fun k m => nf k (mem_flNo.mpr ⟨m, hj⟩)
        exact ⟨v, g1, g2.mono e⟩
    · obtain ⟨m', hj⟩ := mem_flNo.mp m'
      obtain ⟨q, u, g1, g2, g3, g4, g5, g6⟩ := s.ow j k' e' m' h'
      have hq : q ≠ p := fun w => hj (s.ap j i k' k e' d p m' m h' h (by rw [g1, w]) h1)
      exact ⟨q, u, g1, by rw [upd_ne hq]; exact g2, g3, g4, g5.mono e, g6⟩
    · exact s.ap j1 j2 k k' d d' q (mem_flNo.mp m1).1 (mem_flNo.mp m2).1 g1 g2 g3 g4
  · refine ⟨F, Le.refl F, ⟨s.c, s.tt, s.len, fun j e h nf => ?_, fun j k e m h => s.ow j k e (mem_flNo.mp m).1 h, fun j1 j2 k k' d d' q m1 m2 => s.ap j1 j2 k k' d d' q (mem_flNo.mp m1).1 (mem_flNo.mp m2).1⟩⟩
    exact s.sh j e h fun k m => by
      by_cases hj : j = i
      · subst hj; exact hx ⟨k, e, m, h⟩
      · exact nf k (mem_flNo.mpr ⟨m, hj⟩)
/-- for a callee: one's own objects lie aside -/
def ownZ (G : Gs) (fl : List (Nat × Kd)) (ρ : Env) (σ : L2.St) (H : Hp) (q : Addr) : Prop := ∃ (i : Nat) (k : Kd) (d : D), (i, k) ∈ fl ∧ ρ[i]? = some (some d) ∧ σ[i]? = some (some (.ref q))
open Classical in
noncomputable def aside (G : Gs) (fl : List (Nat × Kd)) (ρ : Env) (σ : L2.St) (H : Hp) : Gs := ⟨fun q => if ownZ G fl ρ σ H q then H q else G.Z q, G.L, G.T⟩
theorem aside_own {q : Addr} (h : ownZ G fl ρ σ H q) : (aside G fl ρ σ H).Z q = H q := by
  unfold aside
  exact if_pos h
theorem aside_not {q : Addr} (h : ¬ ownZ G fl ρ σ H q) : (aside G fl ρ σ H).Z q = G.Z q := by
  unfold aside
  exact if_neg h
theorem St.aside (s : St K G fl F ρ σ H) : StC (aside G fl ρ σ H) F H where
  le := s.c.le
  zk q u e := by
    by_cases hq : ownZ G fl ρ σ H q
    · rw [aside_own hq] at e
      obtain ⟨i, k, d, m, h1, h2⟩ := hq
      obtain ⟨p, o, g1, g2, g3, g4, g5, g6⟩ := s.ow i k d m h1
      rw [h2] at g1; cases g1
      exact ⟨g2, e⟩
    · rw [aside_not hq] at e
      exact s.c.zk q u e
  zt q u e := by
    by_cases hq : ownZ G fl ρ σ H q
    · rw [aside_own hq] at e
      obtain ⟨i, k, d, m, h1, h2⟩ := hq
      obtain ⟨p, o, g1, g2, g3, g4, g5, g6⟩ := s.ow i k d m h1
      rw [h2] at g1; cases g1
      rcases g4 with ⟨_, z⟩ | ⟨_, _, ob, z⟩
      · rw [e] at z; cases z; exact g6.noTbl
      · rw [e] at z; cases z; exact NoTbl.frz
    · rw [aside_not hq] at e
      exact s.c.zt q u e
  lk := s.c.lk
  tabs := s.c.tabs
  lf q l := by
    by_cases hq : ownZ G fl ρ σ H q
    · obtain ⟨ob, u, e⟩ := s.c.lk q l
      exact .inr ⟨_, (aside_own hq).trans e⟩
    · exact (s.c.lf q l).imp id fun ⟨u, e⟩ => ⟨u, (aside_not hq).trans e⟩
/-- behind the callee -/
theorem St.back (s : St K G fl F ρ σ H) (le : Le F F') (c : StC (DL.aside G fl ρ σ H) F' H') : St K G fl F' ρ σ H' := by
  have zr : ∀ q u, G.Z q = some u → F' q = none ∧ H' q = some u := fun q u e => by
    have hn : ¬ ownZ G fl ρ σ H q := fun ⟨i, k, d, m, h1, h2⟩ => by
      obtain ⟨p, o, g1, g2, g3, g4, g5, g6⟩ := s.ow i k d m h1
      rw [h2] at g1; cases g1
      rw [g3] at e; cases e
    exact c.zk q u (by rw [aside_not hn]; exact e)
  have ow : ∀ q, ownZ G fl ρ σ H q → ∀ u, H q = some u → F' q = none ∧ H' q = some u := fun q hq u e =>
    c.zk q u (by rw [aside_own hq]; exact e)
  refine ⟨⟨c.le, zr, s.c.zt, c.lk, c.tabs, fun q l => (s.c.lf q l).imp (fun ⟨u, e⟩ => ⟨u, le q u e⟩) id⟩, s.tt, s.len, fun j e h nf => ?_, fun j k e m h => ?_, s.ap⟩
  · obtain ⟨v, h1, r⟩ := s.sh j e h nf
    exact ⟨v, h1, r.mono le⟩
  · obtain ⟨p, o, g1, g2, g3, g4, g5, g6⟩ := s.ow j k e m h
    have own : ownZ G fl ρ σ H p := ⟨j, k, e, m, h, g1⟩
    obtain ⟨w, hw⟩ := g4.ex
    exact ⟨p, o, g1, (ow p own w hw).1, g3, g4.mono fun u q => (ow p own u q).2, g5.mono le, g6⟩
/-- a change of a slot's own object -/
theorem tabs_mut {T : List (Addr × Str)} (t : LamX.Tabs T H) (h : H p = some o) (m : Mut (some o)) (hn : ∀ c q, H c = some (LamX.CodeO c q) → c ≠ p) : LamX.Tabs T (upd H p o') := fun q hq => by
  obtain ⟨ps, h1, h2, h3⟩ := t q hq
  have hp : q.1 ≠ p := fun z => by
    rw [z, h] at h1
    cases h1
    exact m
  refine ⟨ps, by rw [upd_ne hp]; exact h1, h2, fun pos cv hc => ?_⟩
  obtain ⟨c, e1, e2⟩ := h3 pos cv hc
  exact ⟨c, e1, by rw [upd_ne (hn c _ e2)]; exact e2⟩
theorem code_ne {c : Addr} {q : Str} (h : H p = some o) (hc : o ≠ LamX.CodeO p q) (e : H c = some (LamX.CodeO c q)) : c ≠ p := fun z => by
  subst z
  rw [h] at e
  injection e with e
  exact hc e
theorem St.mut (s : St K G fl F ρ σ H) (m : (i, k) ∈ fl) (hi : ρ[i]? = some (some d)) (hs : σ[i]? = some (some (.ref p))) (hp : H p = some o) (hko : kdOk k o) {d' : D} (hk : kdOk k o') (r : RepO K F p o' d') :
    St K G fl F (ρ.set i (some d')) σ (upd H p o') := by
  obtain ⟨q, u, g1, g2, g3, g4, g5, g6⟩ := s.ow i k d m hi
  rw [hs] at g1; cases g1
  have nl : ¬ G.L p := fun l => by
    obtain ⟨ob', o2, e2⟩ := s.c.lk p l
    rw [hp] at e2
    cases e2
    cases k <;> exact hko
  have hu : u = o := by
    rcases g4 with ⟨_, z⟩ | ⟨z, _⟩
    · rw [hp] at z; exact (Option.some.inj z).symm
    · exact absurd z nl
  subst hu
  refine ⟨⟨fun b w e => ?_, fun q w e => ?_, s.c.zt, fun q l => ?_, ?_, s.c.lf⟩, s.tt, by rw [List.length_set]; exact s.len, fun j e h nf => ?_, fun j k' e m' h => ?_, fun j1 j2 k1 k2 d1 d2 q m1 m2 h1 h2 h3 h4 => ?_⟩
  · have hb : b ≠ p := fun z => by rw [z, g2] at e; cases e
    obtain ⟨n, l⟩ := s.c.le b w e
    exact ⟨n, l.mono fun w z => by rw [upd_ne hb]; exact z⟩
  · have hb : q ≠ p := fun z => by rw [z, g3] at e; cases e
    rw [upd_ne hb]
    exact s.c.zk q w e
  · have hb : q ≠ p := fun z => nl (z ▸ l)
    rw [upd_ne hb]
    exact s.c.lk q l
  · exact tabs_mut s.c.tabs hp g6.mut fun c q e => code_ne hp g5.ne_code e
  · by_cases hj : j = i
    · subst hj
      exact absurd m (nf k)
    · rw [get_set_ne hj] at h
      exact s.sh j e h nf
  · by_cases hj : j = i
    · subst hj
      obtain ⟨q, u', f1, f2, f3, f4, f5, f6⟩ := s.ow j k' d m' hi
      rw [hs] at f1; cases f1
      have h' := h
      obtain ⟨rfl, _⟩ := get_set_self h
      have hk' : kdOk k' o' := by
        rcases f4 with ⟨_, z⟩ | ⟨z, _⟩
        · rw [hp] at z; cases z
          cases k <;> cases k' <;> cases u <;> cases o' <;> first | trivial | exact hk.elim | exact f6.elim | exact g6.elim
        · exact absurd z nl
      exact ⟨p, o', hs, f2, f3, .inl ⟨nl, upd_same⟩, r, hk'⟩
    · rw [get_set_ne hj] at h
      obtain ⟨q, u', f1, f2, f3, f4, f5, f6⟩ := s.ow j k' e m' h
      have hq : q ≠ p := fun w => hj (s.ap j i k' k e d p m' m h hi (by rw [f1, w]) hs)
      exact ⟨q, u', f1, f2, f3, f4.mono fun w z => by rw [upd_ne hq]; exact z, f5, f6⟩
  · have b : ∀ {j : Nat} {x : D}, (ρ.set i (some d'))[j]? = some (some x) → ∃ y, ρ[j]? = some (some y) := fun {j x} h => by
      by_cases hj : j = i
      · subst hj; exact ⟨d, hi⟩
      · rw [get_set_ne hj] at h; exact ⟨x, h⟩
    obtain ⟨y1, h1⟩ := b h1
    obtain ⟨y2, h2⟩ := b h2
    exact s.ap j1 j2 k1 k2 y1 y2 q m1 m2 h1 h2 h3 h4
end
section
variable {K : Wd} {G : Gs} {fl : List (Nat × Kd)} {F F' H H' : Hp} {ρ : Env} {σ : L2.St} {p a : Addr} {o o' : HO} {v : V} {d : D} {i : Nat} {k : Kd}
/-- a slot's own object is not locked -/
theorem St.own (s : St K G fl F ρ σ H) (m : (i, k) ∈ fl) (h : ρ[i]? = some (some d)) : ∃ p o, σ[i]? = some (some (.ref p)) ∧ F p = none ∧ G.Z p = none ∧ H p = some o ∧ RepO K F p o d ∧ kdOk k o := by
  obtain ⟨p, o, g1, g2, g3, g4, g5, g6⟩ := s.ow i k d m h
  refine ⟨p, o, g1, g2, g3, ?_, g5, g6⟩
  rcases g4 with ⟨_, z⟩ | ⟨l, _⟩
  · exact z
  · rcases s.c.lf p l with ⟨u, e⟩ | ⟨u, e⟩
    · rw [g2] at e; cases e
    · rw [g3] at e; cases e
end
/-! ### views: what all may know, or a slot's own object -/
def RepV (K : Wd) (fl : List (Nat × Kd)) (F : Hp) (ρ : Env) (σ : L2.St) (v : V) (d : D) : Prop := Rep K F v d ∨ ∃ i k, (i, k) ∈ fl ∧ ρ[i]? = some (some d) ∧ σ[i]? = some (some v)
section
variable {K : Wd} {G : Gs} {fl : List (Nat × Kd)} {F F' H H' : Hp} {ρ : Env} {σ : L2.St} {p a : Addr} {o o' : HO} {v : V} {d : D} {i : Nat} {k : Kd}
theorem Rep.toV (h : Rep K F v d) : RepV K fl F ρ σ v d := .inl h
theorem RepV.mono (e : Le F F') (h : RepV K fl F ρ σ v d) : RepV K fl F' ρ σ v d := h.imp (fun r => r.mono e) id
theorem St.view (s : St K G fl F ρ σ H) (h : ρ[i]? = some (some d)) : ∃ v, σ[i]? = some (some v) ∧ RepV K fl F ρ σ v d := by
  by_cases hx : ∃ k, (i, k) ∈ fl
  · obtain ⟨k, m⟩ := hx
    obtain ⟨p, o, g1, g2, g3, g4, g5, g6⟩ := s.ow i k d m h
    exact ⟨_, g1, .inr ⟨i, k, m, h, g1⟩⟩
  · obtain ⟨v, h1, r⟩ := s.sh i d h fun k m => hx ⟨k, m⟩
    exact ⟨v, h1, .inl r⟩
theorem RepV.own (s : St K G fl F ρ σ H) (h : RepV K fl F ρ σ v d) : Rep K F v d ∨ ∃ p o, v = .ref p ∧ Lv G.L H p o ∧ RepO K F p o d := by
  rcases h with h | ⟨i, k, m, h1, h2⟩
  · exact .inl h
  · obtain ⟨p, o, g1, g2, g3, g4, g5, g6⟩ := s.ow i k d m h1
    rw [h2] at g1; cases g1
    exact .inr ⟨p, o, rfl, g4, g5⟩
theorem RepV.list {ds : List D} (s : St K G fl F ρ σ H) (h : RepV K fl F ρ σ v (.list ds)) : ∃ a xs, v = .ref a ∧ SqL K.K H a xs ∧ RepAll K F xs ds := by
  rcases h.own s with h | ⟨p, o, rfl, l, h⟩
  · cases h with
    | lst hq r => exact ⟨_, _, rfl, s.c.sql hq, r⟩
  · cases h with
    | lst r => exact ⟨_, _, rfl, .inl l.rd, r⟩
theorem RepV.rep_tup {ds : List D} (s : St K G fl F ρ σ H) (h : RepV K fl F ρ σ v (.tuple ds)) : Rep K F v (.tuple ds) := by
  rcases h.own s with h | ⟨p, o, rfl, l, h⟩
  · exact h
  · cases h
theorem RepV.tup {ds : List D} (s : St K G fl F ρ σ H) (h : RepV K fl F ρ σ v (.tuple ds)) : ∃ a xs, v = .ref a ∧ TupAt F a xs ∧ TupAt H a xs ∧ RepAll K F xs ds := by
  cases h.rep_tup s with
  | tup hq r => exact ⟨_, _, rfl, hq, s.c.tup hq, r⟩
theorem RepV.int {i : Int} (s : St K G fl F ρ σ H) (h : RepV K fl F ρ σ v (.int i)) : v = .int i := by
  rcases h.own s with h | ⟨p, o, rfl, l, h⟩
  · cases h; rfl
  · cases h
theorem RepV.bool {b : Bool} (s : St K G fl F ρ σ H) (h : RepV K fl F ρ σ v (.bool b)) : v = .bl b := by
  rcases h.own s with h | ⟨p, o, rfl, l, h⟩
  · cases h; rfl
  · cases h
theorem RepV.str {x : Str} (s : St K G fl F ρ σ H) (h : RepV K fl F ρ σ v (.str x)) : v = .str x := by
  rcases h.own s with h | ⟨p, o, rfl, l, h⟩
  · cases h; rfl
  · cases h
theorem RepV.non (s : St K G fl F ρ σ H) (h : RepV K fl F ρ σ v .none) : v = .non := by
  rcases h.own s with h | ⟨p, o, rfl, l, h⟩
  · cases h; rfl
  · cases h
mutual
theorem Rep.dp (c : StC G F H) : ∀ {v : V} {d : D}, Rep K F v d → d.canLay0 = true → Dp K.K H v d
  | _, _, .non, _ => .non
  | _, _, .bl b, _ => .bl b
  | _, _, .int i, _ => .int i
  | _, _, .str x, _ => .str x
  | _, _, .lst h r, e => .lst (c.sql h) (RepAll.dp c r (by simpa [PyData.canLay0] using e))
  | _, _, .tup h r, e => .tup (c.tup h).sq (RepAll.dp c r (by simpa [PyData.canLay0] using e))
  | _, _, .dk h r, e => by simp [PyData.canLay0] at e
  | _, _, .dt h r, e => by simp [PyData.canLay0] at e
  | _, _, .ex a, e => by simp [excD, PyData.canLay0] at e
theorem RepAll.dp (c : StC G F H) : ∀ {vs : List V} {ds : List D}, RepAll K F vs ds → PyData.canLayAll0 ds = true → DpAll K.K H vs ds
  | _, _, .nil, _ => .nil
  | _, _, .cons r t, e => by
    have e' := Bool.and_eq_true_iff.mp (by simpa only [PyData.canLayAll0] using e)
    exact .cons (Rep.dp c r e'.1) (RepAll.dp c t e'.2)
end
theorem lay_of_shaped {d : D} (h : shaped d = true) : d.canLay0 = true := SeqAt.canLay_of_shaped h
theorem RepV.dp (s : St K G fl F ρ σ H) (h : RepV K fl F ρ σ v d) (e : d.canLay0 = true) : Dp K.K H v d := by
  rcases h.own s with h | ⟨p, o, rfl, l, h⟩
  · exact h.dp s.c e
  · cases h with
    | lst r => exact .lst (.inl l.rd) (r.dp s.c (by simpa [PyData.canLay0] using e))
    | dk r => simp [PyData.canLay0] at e
    | dt r => simp [PyData.canLay0] at e
end
end DL
/-! DLRules -/
set_option Elab.async false
set_option linter.all false
set_option maxRecDepth 100000
set_option maxHeartbeats 2000000
/-! DLRules: the judgements by data, one rule a construct. -/
namespace DL
open PySem PySem.Spec PyProof.Rows L2
abbrev wd [Tb] (X : Cx) : Wd := ⟨X.K, X.prog, X.w, Tb.T, Tb.A⟩
variable [Tb]
/-- what a result asks: a value's end, a refusal's wish -/
def RP {α : Type} (K : Wd) (A : Ex → Addr) (W : WX) (G : Gs) (fl : List (Nat × Kd)) (ρ : Env) (σ : L2.St) (F : Hp) (r : R α) (Q : α → Hp → Hp → Prop) : Prop := match r with
  | .ok a => ∀ F' H', Le F F' → St K G fl F' ρ σ H' → Q a F' H'
  | .exc e => ∀ F' H', Le F F' → StC G F' H' → W (.ref (A e)) none σ H'
  | .bad => False
section
variable {α β : Type} {K : Wd} {A : Ex → Addr} {W : WX} {G : Gs} {fl : List (Nat × Kd)} {ρ : Env} {σ : L2.St} {F F1 H : Hp}
theorem RP.lift {r : R α} {Q : α → Hp → Hp → Prop} (h : RP K A W G fl ρ σ F r Q) (e : Le F F1) : RP K A W G fl ρ σ F1 r Q := by
  cases r with
  | ok a => exact fun F' H' le s => h F' H' (e.trans le) s
  | exc x => exact fun F' H' le s => h F' H' (e.trans le) s
  | bad => exact h
theorem RP.bind {r : R α} {f : α → R β} {Q : β → Hp → Hp → Prop} (h : RP K A W G fl ρ σ F (r.bind f) Q) : RP K A W G fl ρ σ F r fun a F1 H1 => RP K A W G fl ρ σ F1 (f a) Q := by
  cases r with
  | ok a => exact fun F' H' le s => RP.lift h le
  | exc x => exact h
  | bad => exact h
theorem RP.imp {r : R α} {Q Q' : α → Hp → Hp → Prop} (h : RP K A W G fl ρ σ F r Q) (g : ∀ a F' H', Le F F' → St K G fl F' ρ σ H' → Q a F' H' → Q' a F' H') : RP K A W G fl ρ σ F r Q' := by
  cases r with
  | ok a => exact fun F' H' le s => g a F' H' le s (h F' H' le s)
  | exc x => exact h
  | bad => exact h
theorem RP.ok {a : α} {Q : α → Hp → Hp → Prop} (h : RP K A W G fl ρ σ F (.ok a) Q) (s : St K G fl F ρ σ H) : Q a F H := h F H (Le.refl F) s
end
/-- an expression: its value may be told to all (tD), is looked at only (tV), is a new object of one's own (tN) -/
def tD (K : Wd) (A : Ex → Addr) (W : WX) (fl : List (Nat × Kd)) (f : FE) : TE := fun σ H Q => ∃ G F ρ, St K G fl F ρ σ H ∧ RP K A W G fl ρ σ F (f ρ) fun d F' H' => ∀ v, Rep K F' v d → Q v H'
def tV (K : Wd) (A : Ex → Addr) (W : WX) (fl : List (Nat × Kd)) (f : FE) : TE := fun σ H Q => ∃ G F ρ, St K G fl F ρ σ H ∧ RP K A W G fl ρ σ F (f ρ) fun d F' H' => ∀ v, RepV K fl F' ρ σ v d → Q v H'
def tN (K : Wd) (A : Ex → Addr) (W : WX) (fl : List (Nat × Kd)) (k : Kd) (f : FE) : TE := fun σ H Q => ∃ G F ρ, St K G fl F ρ σ H ∧ RP K A W G fl ρ σ F (f ρ) fun d F' H' => ∀ p o, H' p = none → kdOk k o → RepO K F' p o d → Q (.ref p) (upd H' p o)
def tTs (K : Wd) (A : Ex → Addr) (W : WX) (fl : List (Nat × Kd)) (f : FT) : TT := fun σ H Q => ∃ G F ρ, St K G fl F ρ σ H ∧ RP K A W G fl ρ σ F (f ρ) fun b F' H' => Q b H'
def tAs (K : Wd) (A : Ex → Addr) (W : WX) (fl : List (Nat × Kd)) (f : FA) : TA := fun σ H Q => ∃ G F ρ, St K G fl F ρ σ H ∧ RP K A W G fl ρ σ F (f ρ) fun ds F' H' => ∀ vs, RepAll K F' vs ds → Q vs H'
def tOs (K : Wd) (A : Ex → Addr) (W : WX) (fl : List (Nat × Kd)) (f : FO) : TO := fun σ H Q => ∃ G F ρ, St K G fl F ρ σ H ∧ RP K A W G fl ρ σ F (f ρ) fun o F' H' => Q o H'
theorem pe_mono {X : Cx} {e : Expr} {t t' : TE} (h : PE X e t) (g : ∀ σ H Q, t' σ H Q → t σ H Q) : PE X e t' := ⟨fun pins s σ H Q I q => h.run pins s σ H Q I (g σ H Q q)⟩
theorem pt_mono {X : Cx} {e : Expr} {t t' : TT} (h : PT X e t) (g : ∀ σ H Q, t' σ H Q → t σ H Q) : PT X e t' := ⟨fun pins s σ H Q I q => h.run pins s σ H Q I (g σ H Q q)⟩
theorem pw_mono {X : Cx} {e : Expr} {t t' : TT} (h : PW X e t) (g : ∀ σ H Q, t' σ H Q → t σ H Q) : PW X e t' := ⟨fun wh pins s σ H Q I q => h.run wh pins s σ H Q I (g σ H Q q)⟩
theorem pa_mono {X : Cx} {e : List Expr} {t t' : TA} (h : PA X e t) (g : ∀ σ H Q, t' σ H Q → t σ H Q) : PA X e t' := ⟨fun pos pins s σ H Q I q => h.run pos pins s σ H Q I (g σ H Q q)⟩
theorem po_mono {X : Cx} {e : Option Expr} {t t' : TO} (h : PO X e t) (g : ∀ σ H Q, t' σ H Q → t σ H Q) : PO X e t' := ⟨fun pins s σ H Q I q => h.run pins s σ H Q I (g σ H Q q)⟩
theorem ps_mono {X : Cx} {st : Stmt} {t t' : TS} (h : PS X st t) (g : ∀ D σ H, t' D σ H → t D σ H) : PS X st t' := ⟨fun pins s σ H D I q => h.run pins s σ H D I (g D σ H q)⟩
theorem pss_mono {X : Cx} {st : List Stmt} {t t' : TS} (h : PSs X st t) (g : ∀ D σ H, t' D σ H → t D σ H) : PSs X st t' := ⟨fun pins s σ H D I q => h.run pins s σ H D I (g D σ H q)⟩
abbrev JD (X : Cx) (A : Ex → Addr) (W : WX) (fl : List (Nat × Kd)) (e : Expr) (f : FE) : Prop := PE X e (tD (wd X) A W fl f)
abbrev JV (X : Cx) (A : Ex → Addr) (W : WX) (fl : List (Nat × Kd)) (e : Expr) (f : FE) : Prop := PE X e (tV (wd X) A W fl f)
abbrev JN (X : Cx) (A : Ex → Addr) (W : WX) (fl : List (Nat × Kd)) (k : Kd) (e : Expr) (f : FE) : Prop := PE X e (tN (wd X) A W fl k f)
abbrev JT (X : Cx) (A : Ex → Addr) (W : WX) (fl : List (Nat × Kd)) (e : Expr) (f : FT) : Prop := PT X e (tTs (wd X) A W fl f)
abbrev JW (X : Cx) (A : Ex → Addr) (W : WX) (fl : List (Nat × Kd)) (e : Expr) (f : FT) : Prop := PW X e (tTs (wd X) A W fl f)
abbrev JA (X : Cx) (A : Ex → Addr) (W : WX) (fl : List (Nat × Kd)) (e : List Expr) (f : FA) : Prop := PA X e (tAs (wd X) A W fl f)
abbrev JO (X : Cx) (A : Ex → Addr) (W : WX) (fl : List (Nat × Kd)) (e : Option Expr) (f : FO) : Prop := PO X e (tOs (wd X) A W fl f)
section
variable {X : Cx} {A : Ex → Addr} {W : WX} {fl : List (Nat × Kd)} {a b c e : Expr} {fa fb fc f : FE} {pos : Pos} {k : Kd}
/-! ### weakening -/
theorem JD.v (h : JD X A W fl e f) : JV X A W fl e f := pe_mono h fun σ H Q ⟨G, F, ρ, s, q⟩ => ⟨G, F, ρ, s, q.imp fun d F' H' _ _ q v r => q v (.inl r)⟩
theorem JN.d (h : JN X A W fl k e f) : JD X A W fl e f := pe_mono h fun σ H Q ⟨G, F, ρ, s, q⟩ => ⟨G, F, ρ, s, by
  cases hf : f ρ with
  | ok d =>
    rw [hf] at q
    refine fun F' H' le s' p o hn hk r => ?_
    have s2 := s'.alloc (o := o) hn hk.noTbl
    have e2 := Le.new (o := o) (s'.c.fnone hn)
    exact q _ _ (le.trans e2) s2 _ ((r.mono e2).rep upd_same)
  | exc x => rw [hf] at q; exact q
  | bad => rw [hf] at q; exact q⟩
theorem JN.v (h : JN X A W fl k e f) : JV X A W fl e f := h.d.v
/-! ### names, constants -/
theorem jv_var {i : Nat} {x : Str} (hN : X.N[i]? = some x := by rfl) (hv : Vis X.env.scope x := by first | exact Or.inl rfl | exact Or.inr (Or.inl rfl) | exact Or.inr (Or.inr rfl)) (hd : (x == ("__debug__" : Str)) = false := by decide)
    (hcd : (x == ("__classdict__" : Str)) = false := by decide) : JV X A W fl (.Name x pos) (eVar i) := pe_mono (pe_var hN hv hd hcd) fun σ H Q ⟨G, F, ρ, s, q⟩ => by
  cases h : ρ[i]? with
  | none => simp only [eVar, h] at q; exact q.elim
  | some o =>
    cases o with
    | none => simp only [eVar, h] at q; exact q.elim
    | some d =>
      simp only [eVar, h] at q
      obtain ⟨v, h1, r⟩ := s.view h
      exact ⟨v, h1, q.ok s v r⟩
theorem jd_var {i : Nat} {x : Str} (hN : X.N[i]? = some x := by rfl) (hv : Vis X.env.scope x := by first | exact Or.inl rfl | exact Or.inr (Or.inl rfl) | exact Or.inr (Or.inr rfl)) (hf : fl.all (fun q => !decide (q.1 = i)) = true := by rfl)
    (hd : (x == ("__debug__" : Str)) = false := by decide) (hcd : (x == ("__classdict__" : Str)) = false := by decide) : JD X A W fl (.Name x pos) (eVar i) := pe_mono (pe_var hN hv hd hcd) fun σ H Q ⟨G, F, ρ, s, q⟩ => by
  cases h : ρ[i]? with
  | none => simp only [eVar, h] at q; exact q.elim
  | some o =>
    cases o with
    | none => simp only [eVar, h] at q; exact q.elim
    | some d =>
      simp only [eVar, h] at q
      obtain ⟨v, h1, r⟩ := s.sh i d h fun k m => by
        have z := List.all_eq_true.mp hf _ m
        simp at z
      exact ⟨v, h1, q.ok s v r⟩
theorem jd_int {i : Int} {j} : JD X A W fl (.Constant (.int i) j pos) (eC (.int i)) := pe_mono pe_int fun σ H Q ⟨G, F, ρ, s, q⟩ => RP.ok q s _ (.int i)
theorem jd_bl {b : Bool} {j} : JD X A W fl (.Constant (.bool b) j pos) (eC (.bool b)) := pe_mono pe_bl fun σ H Q ⟨G, F, ρ, s, q⟩ => RP.ok q s _ (.bl b)
theorem jd_non {j} : JD X A W fl (.Constant .none j pos) (eC .none) := pe_mono pe_non fun σ H Q ⟨G, F, ρ, s, q⟩ => RP.ok q s _ .non
theorem jd_str {x : Str} {j} : JD X A W fl (.Constant (.str x) j pos) (eC (.str x)) := pe_mono pe_str fun σ H Q ⟨G, F, ρ, s, q⟩ => RP.ok q s _ (.str x)
/-- a module's number -/
theorem jd_globI {x : Str} {i : Int} (hg : Gl X x) (hm : ∃ t, X.mg x = some (.int i t)) (hd : (x == ("__debug__" : Str)) = false := by decide) : JD X A W fl (.Name x pos) (eC (.int i)) := by
  obtain ⟨t, hm⟩ := hm
  exact pe_mono (pe_glob (v := .int i) hg hm ⟨t, rfl⟩ hd) fun σ H Q ⟨G, F, ρ, s, q⟩ => RP.ok q s _ (.int i)
theorem jd_globS {x : Str} {z : Str} (hg : Gl X x) (hm : ∃ t, X.mg x = some (.str z t)) (hd : (x == ("__debug__" : Str)) = false := by decide) : JD X A W fl (.Name x pos) (eC (.str z)) := by
  obtain ⟨t, hm⟩ := hm
  exact pe_mono (pe_glob (v := .str z) hg hm ⟨t, rfl⟩ hd) fun σ H Q ⟨G, F, ρ, s, q⟩ => RP.ok q s _ (.str z)
/-! ### two-place operations -/
/-- r is what f says -/
def OpS (X : Cx) (fl : List (Nat × Kd)) (r : R2) (f : D → D → R D) : Prop := ∀ (G : Gs) (F : Hp) (ρ : Env) (σ : L2.St) (H : Hp) (v w : V) (x y : D) (Q : VK), St (wd X) G fl F ρ σ H → RepV (wd X) fl F ρ σ v x → RepV (wd X) fl F ρ σ w y →
  (∀ z, f x y = .ok z → ∀ F' H', Le F F' → St (wd X) G fl F' ρ σ H' → ∀ u, Rep (wd X) F' u z → Q u H') → (∃ z, f x y = .ok z) → r v w H Q
/-- r is what f says: a new object -/
def OpN (X : Cx) (fl : List (Nat × Kd)) (k : Kd) (r : R2) (f : D → D → R D) : Prop := ∀ (G : Gs) (F : Hp) (ρ : Env) (σ : L2.St) (H : Hp) (v w : V) (x y : D) (Q : VK), St (wd X) G fl F ρ σ H → RepV (wd X) fl F ρ σ v x → RepV (wd X) fl F ρ σ w y →
  (∀ z, f x y = .ok z → ∀ p o, H p = none → kdOk k o → RepO (wd X) F p o z → Q (.ref p) (upd H p o)) → (∃ z, f x y = .ok z) → r v w H Q
/-- an operation refuses nothing -/
def NoEx (f : D → D → R D) : Prop := ∀ x y e, f x y ≠ .exc e
theorem two_of {r : R2} {g : D → D → R D} (os : OpS X fl r g) (ne : NoEx g) {σ : L2.St} {H : Hp} {Q : VK} (h : tD (wd X) A W fl (e2 g fa fb) σ H Q) : tOp r (tV (wd X) A W fl fa) (tV (wd X) A W fl fb) σ H Q := by
  obtain ⟨G, F, ρ, s, q⟩ := h
  refine ⟨G, F, ρ, s, (RP.bind q).imp fun x F1 H1 le1 s1 q1 v rv => ?_⟩
  refine ⟨G, F1, ρ, s1, (RP.bind q1).imp fun y F2 H2 le2 s2 q2 w rw => ?_⟩
  cases hg : g x y with
  | ok z =>
    rw [hg] at q2
    exact os G F2 ρ σ H2 v w x y Q s2 (rv.mono le2) rw (fun z' e F' H' le s' u r => by rw [hg] at e; cases e; exact q2 F' H' le s' u r) ⟨z, hg⟩
  | exc e => exact absurd hg (ne x y e)
  | bad => rw [hg] at q2; exact q2.elim
theorem two_ofN {r : R2} {g : D → D → R D} (os : OpN X fl k r g) (ne : NoEx g) {σ : L2.St} {H : Hp} {Q : VK} (h : tN (wd X) A W fl k (e2 g fa fb) σ H Q) : tOp r (tV (wd X) A W fl fa) (tV (wd X) A W fl fb) σ H Q := by
  obtain ⟨G, F, ρ, s, q⟩ := h
  refine ⟨G, F, ρ, s, (RP.bind q).imp fun x F1 H1 le1 s1 q1 v rv => ?_⟩
  refine ⟨G, F1, ρ, s1, (RP.bind q1).imp fun y F2 H2 le2 s2 q2 w rw => ?_⟩
  cases hg : g x y with
  | ok z =>
    rw [hg] at q2
    exact os G F2 ρ σ H2 v w x y Q s2 (rv.mono le2) rw (fun z' e p o hp hk r => by rw [hg] at e; cases e; exact q2 F2 H2 (Le.refl _) s2 p o hp hk r) ⟨z, hg⟩
  | exc e => exact absurd hg (ne x y e)
  | bad => rw [hg] at q2; exact q2.elim
theorem jd_op {op : Operator} {r : R2} {g : D → D → R D} (ho : OpR X (binaryOp op) r) (os : OpS X fl r g) (ne : NoEx g) (ha : JV X A W fl a fa) (hb : JV X A W fl b fb) : JD X A W fl (.BinOp a op b pos) (e2 g fa fb) := pe_mono (pe_op ho ha hb) fun _ _ _ h => two_of os ne h
theorem jn_op {op : Operator} {r : R2} {g : D → D → R D} (ho : OpR X (binaryOp op) r) (os : OpN X fl k r g) (ne : NoEx g) (ha : JV X A W fl a fa) (hb : JV X A W fl b fb) : JN X A W fl k (.BinOp a op b pos) (e2 g fa fb) := pe_mono (pe_op ho ha hb) fun _ _ _ h => two_ofN os ne h
theorem jd_cmp {op : CmpOp} {r : R2} {g : D → D → R D} (ho : OpR X (compareOp op) r) (os : OpS X fl r g) (ne : NoEx g) (ha : JV X A W fl a fa) (hb : JV X A W fl b fb) (hm : behindInMarks op b = false) : JD X A W fl (.Compare a [op] [b] pos) (e2 g fa fb) := pe_mono (pe_cmpR ho ha hb hm) fun _ _ _ h => two_of os ne h
theorem tB_of {σ : L2.St} {H : Hp} {Q : Bool → Hp → Prop} {t : TE} (h : tTs (wd X) A W fl (DL.tB f) σ H Q) (g : ∀ Q', tD (wd X) A W fl f σ H Q' → t σ H Q') : t σ H fun x H' => ∃ k, x = .bl k ∧ Q k H' := by
  obtain ⟨G, F, ρ, s, q⟩ := h
  refine g _ ⟨G, F, ρ, s, (RP.bind q).imp fun x F1 H1 le1 s1 q1 v rv => ?_⟩
  cases x with
  | bool b =>
    cases rv
    exact ⟨b, rfl, q1.ok s1⟩
  | _ => exact q1.elim
theorem jt_cmp {op : CmpOp} {r : R2} {g : D → D → R D} (ho : OpR X (compareOp op) r) (os : OpS X fl r g) (ne : NoEx g) (ha : JV X A W fl a fa) (hb : JV X A W fl b fb) (hm : behindInMarks op b = false) : JT X A W fl (.Compare a [op] [b] pos) (DL.tB (e2 g fa fb)) := pt_mono (pt_cmpR ho ha hb hm) fun _ _ _ h => tB_of h fun _ h => two_of os ne h
/-- an expression that gives a bool, as a test -/
theorem jt_val (h : JD X A W fl e f) (he : ∀ whole, isTrue e X.env whole = (do let v ← whole; standAt e.pos; holding [v] (truthy v)) := by intro _; rfl) : JT X A W fl e (DL.tB f) := pt_mono (pt_val h he) fun _ _ _ h => tB_of h fun _ h => h
theorem jt_tru (h : JV X A W fl e f) (he : ∀ whole, isTrue e X.env whole = (do let v ← whole; standAt e.pos; holding [v] (truthy v)) := by intro _; rfl) : JT X A W fl e (tTru f) := pt_mono (pt_truth h he) fun σ H Q ⟨G, F, ρ, s, q⟩ => by
  refine ⟨G, F, ρ, s, (RP.bind q).imp fun x F1 H1 le1 s1 q1 v rv => ?_⟩
  cases x with
  | none => obtain rfl := rv.non s1; exact ⟨false, rfl, q1.ok s1⟩
  | bool b => obtain rfl := rv.bool s1; exact ⟨b, rfl, q1.ok s1⟩
  | int i => obtain rfl := rv.int s1; exact ⟨_, rfl, q1.ok s1⟩
  | str x => exact q1.elim
  | list ds =>
    obtain ⟨p, xs, rfl, h1, r⟩ := rv.list s1
    refine ⟨_, .inl ⟨xs, h1, rfl⟩, ?_⟩
    have e : (!xs.isEmpty) = !ds.isEmpty := by
      cases r <;> rfl
    rw [e]
    exact q1.ok s1
  | tuple ds =>
    obtain ⟨p, xs, rfl, _, h1, r⟩ := rv.tup s1
    refine ⟨_, .inr (.inl ⟨xs, h1.sq, rfl⟩), ?_⟩
    have e : (!xs.isEmpty) = !ds.isEmpty := by
      cases r <;> rfl
    rw [e]
    exact q1.ok s1
  | dict kvs => exact q1.elim
end
end DL
/-! DLTup -/
set_option Elab.async false
set_option linter.all false
set_option maxRecDepth 100000
set_option maxHeartbeats 2000000
/-! DLTup: new tuples whose object is known. -/
namespace DL
open PySem PySem.Spec PyProof.Rows L2
/-- a new tuple of xs -/
def NT (H : Hp) (xs : List V) (Q : VK) : Prop := ∀ p o, H p = none → o.dict = none → Q (.ref p) (upd H p (.frz o (.tup xs)))
section
variable {X : Cx} {pins : List (Addr × Obj)} {σ : L2.St} {H : Hp} {s : Shared} {xs : List V} {its : List Value}
theorem inv_tup (I : Inv X pins σ H s) (r : Vals xs its) (hz : xs.length ≤ sizeLine) {t : Nat} : Inv X pins σ (upd H s.heap.objs.size (.frz { cls := .type "tuple", data := .seq its.toArray } (.tup xs))) { s with heap := s.heap.push { cls := .type "tuple", data := .seq its.toArray }, toks := t } :=
  I.laid (t' := t) (fun b o e => Heap.get?_push_of_some _ e) (Nat.le_refl _) ⟨Heap.get?_push_size _ rfl, hz, its, r, IsTup.new _ _⟩
theorem nt_end {Q : VK} (I : Inv X pins σ H s) (r : Vals xs its) (hz : xs.length ≤ sizeLine) (q : NT H xs Q) : EP X pins σ Q (.ref s.heap.objs.size) { s with heap := s.heap.push { cls := .type "tuple", data := .seq its.toArray } } :=
  ⟨.ref s.heap.objs.size, _, inv_tup (t := s.toks) I r hz, rfl, q _ _ (I.hok.fresh (Nat.le_refl _)) rfl⟩
end
section
variable {X : Cx} {e : Expr} {es : List Expr} {t : TA} {pos : Pos}
def tTupX (t : TA) : TE := fun σ H Q => t σ H fun xs H1 => xs.length ≤ sizeLine ∧ NT H1 xs Q
theorem pe_tupX {x1} (h : PA X es t) : PE X (.Tuple es x1 pos) (tTupX t) := by
  refine ⟨fun pins s σ H Q I hq => ?_⟩
  refine wpAny_Tuple_spliced (thn (h.run pos pins s σ H _ I hq) fun us s1 ⟨xs, H1, I1, r, z, q⟩ => ⟨by rw [← r.length]; exact z, ?_⟩)
  exact nt_end I1 r z q
/-- t + u -/
def rCatX (K : Frag) : R2 := fun x y H Q => ∃ a b xs ys, x = .ref a ∧ y = .ref b ∧ SqT K H a xs ∧ SqT K H b ys ∧ xs.length + ys.length ≤ sizeLine ∧ (xs = [] → Q (.ref b) H) ∧ (xs ≠ [] → ys = [] → Q (.ref a) H) ∧ NT H (xs ++ ys) Q
theorem op_catX : OpR X (binaryOp .Add) (rCatX X.K) := by
  intro pins s σ H x y v u Q I rx ry h
  obtain ⟨a, b, xs, ys, rfl, rfl, ha, hb, hz, q0, q1, q2⟩ := h
  cases rx
  cases ry
  obtain ⟨its, r1, p1, _⟩ := I.tuple ha
  obtain ⟨its2, r2, p2, _⟩ := I.tuple hb
  by_cases hx : xs = []
  · subst hx
    cases r1
    exact cat_tup0 p1 p2 ⟨.ref b, H, I, rfl, q0 rfl⟩
  · refine HT.cat_tup p1 p2 (fun z => hx (r1.nil_iff.mp z)) (fun z => ⟨.ref a, H, I, rfl, q1 hx (r2.nil_iff.mp z)⟩) (fun z => ?_) (by rw [← r1.length, ← r2.length]; exact hz)
    exact nt_end I (r1.append r2) (by rw [List.length_append]; exact hz) q2
/-- t[lo:hi] -/
def rSlX (K : Frag) : V → Option Int → Option Int → Hp → VK → Prop := fun x lo hi H Q => ∃ a xs, x = .ref a ∧ SqT K H a xs ∧
  (HT.sIx xs.length 0 lo = 0 ∧ HT.sIx xs.length xs.length hi = xs.length → Q (.ref a) H) ∧ NT H (cutV xs lo hi) Q
theorem sl_tupX : SlR X (rSlX X.K) := by
  intro pins s σ H x v vl vu lo hi sl Q I rx hs pl pu h
  obtain ⟨a, xs, rfl, hx, q1, q2⟩ := h
  cases rx
  obtain ⟨its, r, ht, hz⟩ := I.tuple hx
  have hlen : its.toArray.size = xs.length := by rw [List.size_toArray]; exact r.length.symm
  refine ⟨"tuple", _, PyProof.Rows.slot_tuple_getitem.lookup, ht.typeIs, ?_⟩
  by_cases hw : HT.sIx xs.length 0 lo = 0 ∧ HT.sIx xs.length xs.length hi = xs.length
  · exact getItem_tuple_whole ht hs pl pu (by rw [hlen]; exact hw) ⟨.ref a, H, I, rfl, q1 hw⟩
  · refine HT.getItem_tuple_cut ht hs pl pu (by rw [hlen]; exact hw) ?_ (by rw [hlen]; exact hz)
    rw [hlen]
    exact nt_end I ((r.drop (HT.sIx xs.length 0 lo)).take (HT.sIx xs.length xs.length hi - HT.sIx xs.length 0 lo)) (Nat.le_trans (cutV_length xs lo hi) hz) q2
/-- tuple(x) -/
theorem call_tupleX : CallR X (.type "tuple") (fun xs H Q => ∃ p ys, xs = [.ref p] ∧ ((SqL X.K H p ys ∧ NT H ys Q) ∨ (SqT X.K H p ys ∧ Q (.ref p) H))) := by
  intro pins s σ H xs us Q I r h
  obtain ⟨p, ys, rfl, h⟩ := h
  obtain ⟨u, rfl, rx⟩ := vals1 r
  cases rx
  rcases h with ⟨hq, q⟩ | ⟨hq, q⟩
  · obtain ⟨its, r', pl, hz⟩ := I.list hq
    have hlen := r'.length
    refine call_tuple_list pl.isList (fun h' kp => ?_) (by simp only [List.size_toArray] <;> omega)
    have I1 : Inv X pins σ H { s with heap := h' } := I.kept (t' := s.toks) kp
    exact nt_end I1 r' hz q
  · obtain ⟨its, r', pl, hz⟩ := I.tuple hq
    exact call_tuple_same pl ⟨.ref p, H, I, rfl, q⟩
/-- t * k -/
def rRepX (K : Frag) : R2 := fun x y H Q => ∃ l k xs, x = .ref l ∧ y = .int k ∧ SqT K H l xs ∧ xs ≠ [] ∧ 2 ≤ k ∧ k ≤ 1000 ∧ xs.length ≤ 1000 ∧ NT H (List.replicate k.toNat xs).flatten Q
theorem op_repX : OpR X (binaryOp .Mult) (rRepX X.K) := by
  intro pins s σ H x y v u Q I rx ry h
  obtain ⟨l, k, xs, rfl, rfl, hT, hne, h1, h2, hz, q⟩ := h
  cases rx
  obtain ⟨t, rfl⟩ := ry
  obtain ⟨its, r, ⟨⟨cls, dd, data, sl⟩, ho, hc, n, hd⟩, hs⟩ := I.tuple hT
  simp only at hc hd
  subst hc hd
  have hle : its.length = xs.length := r.length.symm
  have hn : its ≠ [] := fun e => hne (by
    rw [e] at hle
    exact List.eq_nil_of_length_eq_zero hle.symm)
  have hi : its.toArray.isEmpty = false := by
    cases its with
    | nil => exact absurd rfl hn
    | cons a b => rfl
  have hsz0 : its.toArray.size = xs.length := by rw [List.size_toArray, hle]
  have hm : ((its.toArray.size : Nat) : Int) * k ≤ 1000000 := by
    rw [hsz0]
    have a1 : ((xs.length : Nat) : Int) * k ≤ 1000 * k := Int.mul_le_mul_of_nonneg_right (by omega) (by omega)
    omega
  have flen : (List.replicate k.toNat its).flatten.length ≤ sizeLine := by
    rw [PyProof.Rows.lm_len_rep_flat, hle, sizeLine_eq]
    have a1 : k.toNat * xs.length ≤ 1000 * 1000 := Nat.mul_le_mul (by omega) hz
    omega
  have c0 : (decide (k < -(2 ^ 63)) || decide (k ≥ 2 ^ 63)) = false := by
    rw [decide_eq_false (by omega), decide_eq_false (by omega)] <;> rfl
  have c1 : (its.toArray.isEmpty || k == 1) = false := by
    rw [hi, Bool.false_or]
    exact beq_eq_false_iff_ne.mpr (by omega)
  have c2 : (decide (k ≤ 0) || its.toArray.isEmpty) = false := by
    rw [hi, Bool.or_false]
    exact decide_eq_false (by omega)
  have c4 : Builtin.Tuple.tupleTooMany (((its.toArray.size : Nat) : Int) * k) = false := by
    unfold Builtin.Tuple.tupleTooMany
    rw [sizeLine_eq]
    exact decide_eq_false (by omega)
  refine wpAny_binaryOp_repeat_ref (T := "tuple") (U := "int") (by decide) ⟨_, ho, rfl⟩ (fun s' => typeIs_int s' k t) noFill_tuple_mul F.fills_int_mul F.slot_int_rmul repeat_tuple F.slot_int_index.lookup
    (call_meets F.slot_int_rmul (typeIs_int s k t) F.entry_int_rmul (F.args_int_rmul_2 _ _) (int_rmul_tuple k t l its.toArray n dd sl)
      ⟨ho, rfl, ⟨_, ho, rfl⟩, call_meets F.slot_tuple_mul ⟨_, ho, rfl⟩ F.entry_tuple_mul (F.args_tuple_mul_2 _ _) (tuple_mulW l its.toArray n dd sl k t c0 c1 c2 (by omega) c4 (by rw [size_rep, List.size_toArray]; exact flen)) ⟨ho, ?_⟩⟩)
  rw [size_rep]
  exact nt_end I (r.rep k.toNat) (by rw [PyProof.Rows.lm_len_rep_flat, sizeLine_eq]; have a1 : k.toNat * xs.length ≤ 1000 * 1000 := Nat.mul_le_mul (by omega) hz; omega) q
end
end DL
/-! DLDict -/
set_option Elab.async false
set_option linter.all false
set_option maxRecDepth 100000
set_option maxHeartbeats 2000000
/-! DLDict: dicts whose keys are tuples of which the objects are known. -/
namespace DL
open PySem PySem.Spec PyProof.Rows L2
abbrev KX := List (List L2.Key × Addr × V)
def valX (kvs : KX) (k : List L2.Key) : Option V := (kvs.find? fun t => decide (t.1 = k)).map (·.2.2)
def putX (kvs : KX) (k : List L2.Key) (b : Addr) (v : V) : KX := if (valX kvs k).isSome = true then kvs.map (fun t => if t.1 = k then (t.1, t.2.1, v) else t) else kvs ++ [(k, b, v)]
def dropX (kvs : KX) (k : List L2.Key) : KX := kvs.filter fun t => decide (t.1 ≠ k)
theorem valX_pos {t : List L2.Key × Addr × V} {r : KX} {k : List L2.Key} (e : t.1 = k) : valX (t :: r) k = some t.2.2 := by
  unfold valX
  rw [List.find?_cons_of_pos (by simpa using e)]
  rfl
theorem valX_neg {t : List L2.Key × Addr × V} {r : KX} {k : List L2.Key} (e : ¬ t.1 = k) : valX (t :: r) k = valX r k := by
  unfold valX
  rw [List.find?_cons_of_neg (by simpa using e)]
theorem KT3.val {kvs : KX} {xs : List (List L2.Key × Addr × Value)} (r : KT3 kvs xs) (k : List L2.Key) : RelO (valX kvs k) ((atKey xs k).map (·.2)) := by
  induction r with
  | nil => exact True.intro
  | @cons p q ps qs h t ih =>
    obtain ⟨h1, _, h2⟩ := h
    by_cases e : p.1 = k
    · have e' : q.1 = k := h1.symm.trans e
      have b : atKey (q :: qs) k = some q.2 := by simp [atKey, List.find?_cons, e']
      rw [valX_pos e, b]; exact h2
    · have e' : ¬ q.1 = k := fun z => e (h1.trans z)
      have b : atKey (q :: qs) k = atKey qs k := by simp [atKey, List.find?_cons, e']
      rw [valX_neg e, b]; exact ih
theorem KT3.repl {kvs : KX} {xs : List (List L2.Key × Addr × Value)} (r : KT3 kvs xs) (k : List L2.Key) {y : V} {u : Value} (ry : RelV y u) :
    KT3 (kvs.map fun t => if t.1 = k then (t.1, t.2.1, y) else t) (xs.map (putAt k u)) := by
  induction r with
  | nil => exact .nil
  | @cons p q ps qs h t ih =>
    rw [List.map_cons, List.map_cons]
    refine .cons ?_ ih
    obtain ⟨h1, h2, h3⟩ := h
    unfold putAt
    by_cases e : p.1 = k
    · rw [if_pos e, if_pos (h1.symm.trans e)]; exact ⟨h1, h2, ry⟩
    · rw [if_neg e, if_neg (fun z => e (h1.trans z))]; exact ⟨h1, h2, h3⟩
theorem KT3.put {kvs : KX} {xs : List (List L2.Key × Addr × Value)} (r : KT3 kvs xs) (k : List L2.Key) {b : Addr} {y : V} {u : Value} (ry : RelV y u) : KT3 (putX kvs k b y) (storedH xs k b u) := by
  have e : (valX kvs k).isSome = (atKey xs k).isSome := by
    rw [(r.val k).isSome_eq, Option.isSome_map]
  unfold putX storedH
  rw [e]
  by_cases q : (atKey xs k).isSome = true
  · rw [if_pos q, if_pos q]; exact r.repl k ry
  · rw [if_neg q, if_neg q]; exact Paired.snoc r ⟨rfl, rfl, ry⟩
theorem KT3.drop {kvs : KX} {xs : List (List L2.Key × Addr × Value)} (r : KT3 kvs xs) (k : List L2.Key) : KT3 (dropX kvs k) (withoutH xs k) := by
  unfold dropX withoutH
  induction r with
  | nil => exact .nil
  | @cons p q ps qs h t ih =>
    by_cases e : p.1 = k
    · rw [List.filter_cons_of_neg (by simpa using e), List.filter_cons_of_neg (by simpa using h.1.symm.trans e)]
      exact ih
    · rw [List.filter_cons_of_pos (by simpa using e), List.filter_cons_of_pos (by simpa using fun z => e (h.1.trans z))]
      exact .cons h ih
theorem putX_length (kvs : KX) (k : List L2.Key) (b : Addr) (v : V) : (putX kvs k b v).length ≤ kvs.length + 1 := by
  unfold putX
  split
  · rw [List.length_map]; omega
  · simp
/-- the keys' tuples -/
def KAll (H : Hp) (kvs : KX) : Prop := ∀ t ∈ kvs, TupAt H t.2.1 (t.1.map kV)
section
variable {X : Cx} {pins : List (Addr × Obj)} {σ : L2.St} {H : Hp} {s : Shared} {a b : Addr} {kvs : KX} {k : List L2.Key} {y v : V} {u r : Value} {A : Around} {E : Value → Shared → Prop}
theorem key_at (I : Inv X pins σ H s) (h : TupAt H b (k.map kV)) : (tupleKind (mixKind X.prog X.w)).is s.heap k b := by
  obtain ⟨its, rv, ⟨o, h1, h2, n, h3⟩, _⟩ := I.tuple (h.sq (K := X.K))
  exact ⟨o, its.toArray, n, h1, h2, h3, by simpa using items_are rv⟩
theorem dx_dict (I : Inv X pins σ H s) (e : Rd H a (DX X.prog X.w a kvs)) (hk : KAll H kvs) : kvs.length ≤ sizeLine ∧ (a == sysModules) = false ∧ ∃ xs, KT3 kvs xs ∧ s.heap.DictOfH (tupleKind (mixKind X.prog X.w)) a xs := by
  obtain ⟨⟨z, hs, xs, rel, o, es, ep, h1, h2, h3, h4, h5⟩, _, _⟩ := (show ObjOk X.prog X.w H s.heap a (DX X.prog X.w a kvs) from rd_of I.hok e)
  refine ⟨z, hs, xs, rel, o, es, ep, h1, h2, h3, h4, fun x hx => ?_, h5⟩
  have all : ∀ {l : KX} {m : List (List L2.Key × Addr × Value)}, KT3 l m → KAll H l → ∀ x ∈ m, (tupleKind (mixKind X.prog X.w)).is s.heap x.1 x.2.1 := by
    intro l m q
    induction q with
    | nil => intro _ x hx; exact nomatch hx
    | @cons p q ps qs hq t ih =>
      intro hl x hx
      rcases List.mem_cons.mp hx with e | hx
      · subst e
        have z := key_at I (hl p List.mem_cons_self)
        rw [hq.1, hq.2.1] at z
        exact z
      · exact ih (fun t ht => hl t (List.mem_cons_of_mem _ ht)) x hx
  exact all rel hk x hx
theorem dx_new {H' : Hp} {h' : Heap} {kvs : KX} {xs : List (List L2.Key × Addr × Value)} {P : Program} {w : World} (z : kvs.length ≤ sizeLine) (hd : (a == sysModules) = false) (rel : KT3 kvs xs) (dd : h'.DictOfH (tupleKind (mixKind P w)) a xs) : ObjOk P w H' h' a (DX P w a kvs) := by
  obtain ⟨o, es, ep, h1, h2, h3, h4, _, h5⟩ := dd
  refine ⟨⟨z, hd, xs, rel, o, es, ep, h1, h2, h3, h4, h5⟩, ⟨o, h1⟩, fun g1 g2 ⟨z, hd, xs, rel, o, es, ep, h1, h2, h3, h4, h5⟩ st => ⟨z, hd, xs, rel, o, es, ep, st o h1, h2, h3, h4, h5⟩⟩
theorem x_getItem {Q : Value → Shared → Prop} (hu : A.units + 1 < cLine) (I : Inv X pins σ H s) (e : Rd H a (DX X.prog X.w a kvs)) (hk : KAll H kvs) (hb : TupAt H b (k.map kV)) (l : valX kvs k = some v) (h : ∀ w' s', Inv X pins σ H s' → RelV v w' → Q w' s') :
    wpAny (model X.prog X.w) A (getItem (.ref a) (.ref b)) Q E s := by
  obtain ⟨z, hd, xs, rel, dd⟩ := dx_dict I e hk
  obtain ⟨w', hw, rw'⟩ := RelO.some_of (v := v) (o := (atKey xs k).map (·.2)) (by rw [← l]; exact rel.val k)
  obtain ⟨p, hp, hp2⟩ := Option.map_eq_some_iff.mp hw
  refine wpAny_getItem_heap (tupleKind_room_in1 hu) (key_at I hb) dd hp ?_
  rw [hp2]
  exact h w' _ (I.tok _) rw'
theorem x_in {Q : Value → Shared → Prop} (hu : A.units + 1 < cLine) (I : Inv X pins σ H s) (e : Rd H a (DX X.prog X.w a kvs)) (hk : KAll H kvs) (hb : TupAt H b (k.map kV)) (h : ∀ s', Inv X pins σ H s' → Q (.bool (valX kvs k).isSome) s') :
    wpAny (model X.prog X.w) A (compareOp .In (.ref b) (.ref a)) Q E s := by
  obtain ⟨z, hd, xs, rel, dd⟩ := dx_dict I e hk
  refine wpAny_in_heap (tupleKind_room_in1 hu) (key_at I hb) hd dd ?_
  have q := (rel.val k).isSome_eq
  rw [Option.isSome_map] at q
  rw [← q]
  exact h _ (I.tok _)
theorem x_notIn {Q : Value → Shared → Prop} (hu : A.units + 1 < cLine) (I : Inv X pins σ H s) (e : Rd H a (DX X.prog X.w a kvs)) (hk : KAll H kvs) (hb : TupAt H b (k.map kV)) (h : ∀ s', Inv X pins σ H s' → Q (.bool (!(valX kvs k).isSome)) s') :
    wpAny (model X.prog X.w) A (compareOp .NotIn (.ref b) (.ref a)) Q E s := by
  obtain ⟨z, hd, xs, rel, dd⟩ := dx_dict I e hk
  refine wpAny_notIn_heap (tupleKind_room_in1 hu) (key_at I hb) hd dd ?_
  have q := (rel.val k).isSome_eq
  rw [Option.isSome_map] at q
  rw [← q]
  exact h _ (I.tok _)
theorem x_setItem {Q : Unit → Shared → Prop} (hu : A.units + 1 < cLine) (I : Inv X pins σ H s) (e : H a = some (DX X.prog X.w a kvs)) (hk : KAll H kvs) (hb : TupAt H b (k.map kV)) (hl : kvs.length < sizeLine) (rv : RelV v r) (h : ∀ s', Inv X pins σ (upd H a (DX X.prog X.w a (putX kvs k b v))) s' → Q () s') :
    wpAny (model X.prog X.w) A (setItem (.ref a) (.ref b) r) Q E s := by
  obtain ⟨z, hd, xs, rel, dd⟩ := dx_dict I (.inl e) hk
  have hz : xs.length ≤ sizeLine := by rw [← Paired.length rel]; exact z
  have hl' : (putX kvs k b v).length ≤ sizeLine := by have := putX_length kvs k b v; omega
  refine wpAny_setItem_heap (hsz := hz) (tupleKind_room_in1 hu) (key_at I hb) dd fun h' dd' hs => h _ ?_
  have he : ∃ q, h'.get? a = some q := let ⟨q, _, _, hq, _⟩ := dd'; ⟨q, hq⟩
  exact d_write I (by rw [e]; exact True.intro) hs he (dx_new hl' hd (rel.put k rv) dd')
theorem inv_dx (I : Inv X pins σ H s) : Inv X pins σ (upd H s.heap.objs.size (DX X.prog X.w s.heap.objs.size [])) { s with heap := s.heap.push { cls := .type "dict", data := .dict #[] } } :=
  I.laid (t' := s.toks) (fun _ _ q => Heap.get?_push_of_some _ q) (Nat.le_refl _) (dx_new (Nat.zero_le _) (beq_eq_false_iff_ne.mpr (Ne.symm (Nat.ne_of_lt I.big))) .nil (Heap.DictOfH.new s.heap))
theorem dx_typeIs (I : Inv X pins σ H s) (e : Rd H a (DX X.prog X.w a kvs)) : s.TypeIs (.ref a) "dict" ∧ (∀ b, Value.ref a = .ref b → ∃ ob, s.heap.get? b = some ob ∧ ob.dict = none) ∧ (a == sysModules) = false := by
  obtain ⟨⟨z, hs, xs, rel, o, es, ep, h1, h2, h3, h4, h5⟩, _, _⟩ := (show ObjOk X.prog X.w H s.heap a (DX X.prog X.w a kvs) from rd_of I.hok e)
  exact ⟨⟨o, h1, h2.1⟩, fun b q => by cases q; exact ⟨o, h1, h2.2.1⟩, hs⟩
theorem x_get2 {d : V} {Q : Value → Shared → Prop} (hu : A.units + 1 < cLine) (I : Inv X pins σ H s) (e : Rd H a (DX X.prog X.w a kvs)) (hk : KAll H kvs) (hb : TupAt H b (k.map kV)) (rd : RelV d r) (h : ∀ w' s', Inv X pins σ H s' → RelV ((valX kvs k).getD d) w' → Q w' s') :
    wpAny (model X.prog X.w) A (call (.builtin "dict.get") [.ref a, .ref b, r]) Q E s := by
  obtain ⟨z, hd, xs, rel, dd⟩ := dx_dict I e hk
  refine getOr_keyed (knd := tupleKind (mixKind X.prog X.w)) (tupleKind_room_in1 hu) (key_at I hb) hd ⟨xs, dd, rfl⟩ ?_
  rw [valueAt_pairsH]
  exact h _ _ (I.tok _) ((rel.val k).getD rd)
end
section
variable {X : Cx} {pos : Pos}
def tDNewX (P : Program) (w : World) : TE := fun _ H Q => ∀ p, H p = none → Q (.ref p) (upd H p (DX P w p []))
theorem pe_dnewX : PE X (.Dict [] [] pos) (tDNewX X.prog X.w) := ⟨fun pins s σ H Q I h => wpAny_Dict_empty ⟨.ref s.heap.objs.size, _, inv_dx I, rfl, h _ (I.hok.fresh (Nat.le_refl _))⟩⟩
end
end DL
/-! DLOps -/
set_option Elab.async false
set_option linter.all false
set_option maxRecDepth 100000
set_option maxHeartbeats 2000000
/-! DLOps: the operations' rules by data. -/
namespace DL
open PySem PySem.Spec PyProof.Rows L2
variable [Tb]
theorem lim_line {n : Nat} (h : n ≤ lim) : n ≤ sizeLine := Nat.le_trans h (by rw [sizeLine_eq]; decide)
theorem lim_lt {n : Nat} (h : n < lim) : n < sizeLine := Nat.lt_of_lt_of_le h (by rw [sizeLine_eq]; decide)
section
variable {X : Cx} {fl : List (Nat × Kd)}
/-! ### ends of OpS -/
section
variable {G : Gs} {F : Hp} {ρ : Env} {σ : L2.St} {H : Hp} {Q : VK} {r : R D} {z : D}
theorem q_same (s : St (wd X) G fl F ρ σ H) (q : ∀ z, r = .ok z → ∀ F' H', Le F F' → St (wd X) G fl F' ρ σ H' → ∀ u, Rep (wd X) F' u z → Q u H') (e : r = .ok z) {u : V} (h : Rep (wd X) F u z) : Q u H := q z e F H (Le.refl F) s u h
theorem q_tup (s : St (wd X) G fl F ρ σ H) (q : ∀ z, r = .ok z → ∀ F' H', Le F F' → St (wd X) G fl F' ρ σ H' → ∀ u, Rep (wd X) F' u z → Q u H') {ds : List D} (e : r = .ok (.tuple ds)) {xs : List V} (h : RepAll (wd X) F xs ds) : NT H xs Q := fun p o hp hd =>
  q _ e _ _ (Le.new (s.c.fnone hp)) (s.alloc hp NoTbl.frz) _ (.tup ⟨o, upd_same, hd⟩ (h.mono (Le.new (s.c.fnone hp))))
theorem q_lst (s : St (wd X) G fl F ρ σ H) (q : ∀ z, r = .ok z → ∀ F' H', Le F F' → St (wd X) G fl F' ρ σ H' → ∀ u, Rep (wd X) F' u z → Q u H') {ds : List D} (e : r = .ok (.list ds)) {xs : List V} (h : RepAll (wd X) F xs ds) : ∀ p, H p = none → Q (.ref p) (upd H p (.lst xs)) := fun p hp =>
  q _ e _ _ (Le.new (s.c.fnone hp)) (s.alloc hp NoTbl.lst) _ (.lst (.inl (.inl upd_same)) (h.mono (Le.new (s.c.fnone hp))))
end
/-! ### + -/
theorem list_addW (l : Addr) (items : Array Value) (n : Nat) (sl : Array (Option Value)) (b : Addr) (items2 : Array Value) (n2 : Nat) (sl2 : Array (Option Value)) (hc0 : items.size + items2.size ≤ sizeLine) :
    Meets (Builtin.«list.__add__» ⟨[.ref l, .ref b], []⟩) (fun _ R s => s.heap.get? l = some { cls := .type "list", dict := none, data := .seq items n, slots := sl } ∧ s.heap.get? b = some { cls := .type "list", dict := none, data := .seq items2 n2, slots := sl2 } ∧ R (.ok (.ret (Value.ref s.heap.objs.size))) { s with heap := s.heap.push { cls := Value.type "list", data := Data.seq (items ++ items2) }, toks := s.toks }) :=
  .of_wp fun prog w A R s h => by obtain ⟨hp, g, d, tk, os⟩ := s; obtain ⟨hl, hb, h⟩ := h; have f1 := AutoSeq1.idx_int; have f2 := AutoSeq1.sub_tuple_tuple; have f3 := AutoSeq1.sub_list_list; have f4 := AutoSeq1.sub_tuple_list; have f5 := AutoSeq1.sub_list_tuple; wp_walk using wpAny_loadPart' hl, wpAny_loadPart' hb; exact ⟨_, rfl, h⟩
def rCatR (K : Frag) : R2 := fun x y H Q => ∃ l b xs zs, x = .ref l ∧ y = .ref b ∧ SqL K H l xs ∧ SqL K H b zs ∧ xs.length + zs.length ≤ sizeLine ∧ ∀ p, H p = none → Q (.ref p) (upd H p (.lst (xs ++ zs)))
theorem op_catR : OpR X (binaryOp .Add) (rCatR X.K) := by
  intro pins s σ H x y v u Q I rx ry h
  obtain ⟨l, b, xs, zs, rfl, rfl, hH, hB, hz, q⟩ := h
  cases rx
  cases ry
  obtain ⟨its, r, ⟨⟨oc, od, oda, osl⟩, n, e, h1, h2, h3⟩, _⟩ := I.list hH
  obtain ⟨its2, r2, ⟨⟨oc2, od2, oda2, osl2⟩, n2, e2, h4, h5, h6⟩, _⟩ := I.list hB
  simp only at h1 h2 h3 h4 h5 h6
  subst h1 h2 h3 h4 h5 h6
  have hl := r.length
  have hl2 := r2.length
  refine concat_meets ⟨_, e, rfl⟩ ⟨_, e2, rfl⟩ noFill_list_add seq_list_add F.slot_list_add F.entry_list_add (F.args_list_add_2 _ _) (list_addW l its.toArray n osl b its2.toArray n2 osl2 (by rw [List.size_toArray, List.size_toArray]; omega)) ⟨e, e2, ?_⟩
  have ea : its.toArray ++ its2.toArray = (its ++ its2).toArray := by simp
  rw [ea]
  exact ⟨.ref _, _, I.lnew (t' := s.toks) (r.append r2) (by rw [List.length_append]; omega), rfl, q _ I.fresh⟩
def rStrCat : R2 := fun x y H Q => ∃ i j, x = .str i ∧ y = .str j ∧ i.length + j.length ≤ sizeLine ∧ Q (.str (i ++ j)) H
def rAddAll (K : Frag) : R2 := fun x y H Q => rI0 (fun i j => .int (i + j)) x y H Q ∨ rCatX K x y H Q ∨ rStrCat x y H Q ∨ rCatR K x y H Q
theorem op_addAll : OpR X (binaryOp .Add) (rAddAll X.K) := op_add.or (op_catX.or (OpR.or (op_add_str) op_catR))
theorem ops_add : OpS X fl (rAddAll X.K) dAdd := by
  intro G F ρ σ H v w x y Q s rv rw' q ⟨z, hz⟩
  cases x <;> cases y <;> simp only [dAdd] at hz q <;> try (first | cases hz; done | skip)
  case int.int i j =>
    obtain rfl := rv.int s
    obtain rfl := rw'.int s
    cases hz
    exact .inl ⟨i, j, rfl, rfl, q_same s q rfl (.int _)⟩
  case str.str i j =>
    obtain rfl := rv.str s
    obtain rfl := rw'.str s
    split at hz
    · rename_i hl
      rw [if_pos hl] at q
      cases hz
      exact .inr (.inr (.inl ⟨i, j, rfl, rfl, lim_line hl, q_same s q rfl (.str _)⟩))
    · cases hz
  case list.list xs ys =>
    obtain ⟨a, as, rfl, ha, ra⟩ := rv.list s
    obtain ⟨b, bs, rfl, hb, rb⟩ := rw'.list s
    split at hz
    · rename_i hl
      rw [if_pos hl] at q
      cases hz
      refine .inr (.inr (.inr ⟨a, b, as, bs, rfl, rfl, ha, hb, ?_, q_lst s q rfl (ra.append rb)⟩))
      rw [ra.length, rb.length]
      exact lim_line hl
    · cases hz
  case tuple.tuple xs ys =>
    obtain ⟨a, as, rfl, fa, ha, ra⟩ := rv.tup s
    obtain ⟨b, bs, rfl, fb, hb, rb⟩ := rw'.tup s
    split at hz
    · rename_i hl
      rw [if_pos hl] at q
      cases hz
      refine .inr (.inl ⟨a, b, as, bs, rfl, rfl, ha.sq, hb.sq, ?_, fun e => ?_, fun _ e => ?_, q_tup s q rfl (ra.append rb)⟩)
      · rw [ra.length, rb.length]
        exact lim_line hl
      · have e2 : xs = [] := List.eq_nil_of_length_eq_zero (by rw [← ra.length, e]; rfl)
        subst e2
        exact q_same s q rfl (.tup fb rb)
      · have e2 : ys = [] := List.eq_nil_of_length_eq_zero (by rw [← rb.length, e]; rfl)
        subst e2
        exact q_same s q rfl (by rw [List.append_nil]; exact .tup fa ra)
    · cases hz
theorem ne_add : NoEx dAdd := by
  intro x y e h
  cases x <;> cases y <;> simp only [dAdd] at h <;> first | cases h | (split at h <;> cases h)
theorem opn_addL : OpN X fl .l (rCatR X.K) dAddL := by
  intro G F ρ σ H v w x y Q s rv rw' q ⟨z, hz⟩
  cases x <;> cases y <;> simp only [dAddL] at hz q <;> try (first | cases hz; done | skip)
  case list.list xs ys =>
    obtain ⟨a, as, rfl, ha, ra⟩ := rv.list s
    obtain ⟨b, bs, rfl, hb, rb⟩ := rw'.list s
    split at hz
    · rename_i hl
      rw [if_pos hl] at q
      cases hz
      exact ⟨a, b, as, bs, rfl, rfl, ha, hb, by rw [ra.length, rb.length]; exact lim_line hl, fun p hp => q _ rfl p _ hp trivial (.lst (ra.append rb))⟩
    · cases hz
theorem ne_addL : NoEx dAddL := by
  intro x y e h
  cases x <;> cases y <;> simp only [dAddL] at h <;> first | cases h | (split at h <;> cases h)
/-! ### ints -/
theorem ops_int {g : D → D → R D} {C : Int → Int → Prop} {f : Int → Int → Int} (h : ∀ x y z, g x y = .ok z → ∃ i j, x = .int i ∧ y = .int j ∧ C i j ∧ z = .int (f i j)) : OpS X fl (rI C fun i j => .int (f i j)) g := by
  intro G F ρ σ H v w x y Q s rv rw' q ⟨z, hz⟩
  obtain ⟨i, j, rfl, rfl, c, rfl⟩ := h x y z hz
  obtain rfl := rv.int s
  obtain rfl := rw'.int s
  exact ⟨i, j, rfl, rfl, c, q_same s q hz (.int _)⟩
theorem ops_int0 {g : D → D → R D} {f : Int → Int → Int} (h : ∀ x y z, g x y = .ok z → ∃ i j, x = .int i ∧ y = .int j ∧ z = .int (f i j)) : OpS X fl (rI0 fun i j => .int (f i j)) g := by
  intro G F ρ σ H v w x y Q s rv rw' q ⟨z, hz⟩
  obtain ⟨i, j, rfl, rfl, rfl⟩ := h x y z hz
  obtain rfl := rv.int s
  obtain rfl := rw'.int s
  exact ⟨i, j, rfl, rfl, q_same s q hz (.int _)⟩
theorem ops_sub : OpS X fl (rI0 fun i j => .int (i - j)) dSub := ops_int0 fun x y z h => by
  cases x <;> cases y <;> simp only [dSub] at h <;> cases h
  exact ⟨_, _, rfl, rfl, rfl⟩
theorem ne_sub : NoEx dSub := by
  intro x y e h
  cases x <;> cases y <;> simp only [dSub] at h <;> cases h
theorem ops_mod : OpS X fl (rI (fun _ j => 0 < j) fun i j => .int (i % j)) dMod := ops_int fun x y z h => by
  cases x <;> cases y <;> simp only [dMod] at h <;> first | (cases h; done) | skip
  split at h
  · rename_i c
    cases h
    exact ⟨_, _, rfl, rfl, c, rfl⟩
  · cases h
theorem ne_mod : NoEx dMod := by
  intro x y e h
  cases x <;> cases y <;> simp only [dMod] at h <;> first | cases h | (split at h <;> cases h)
theorem ops_div : OpS X fl (rI CDivW fun i j => .int (i / j)) dDiv := ops_int fun x y z h => by
  cases x <;> cases y <;> simp only [dDiv] at h <;> first | (cases h; done) | skip
  split at h
  · rename_i c
    cases h
    exact ⟨_, _, rfl, rfl, wide_div c.1 c.2 (by decide) (by decide), rfl⟩
  · cases h
theorem ne_div : NoEx dDiv := by
  intro x y e h
  cases x <;> cases y <;> simp only [dDiv] at h <;> first | cases h | (split at h <;> cases h)
theorem ops_pow : OpS X fl (rI CPow fun i j => .int (i ^ j.toNat)) dPow := ops_int fun x y z h => by
  cases x <;> cases y <;> simp only [dPow] at h <;> first | (cases h; done) | skip
  split at h
  · rename_i c
    cases h
    exact ⟨_, _, rfl, rfl, ⟨c.1, by have := c.2.1; omega, by have := c.2.2; omega⟩, rfl⟩
  · cases h
theorem ne_pow : NoEx dPow := by
  intro x y e h
  cases x <;> cases y <;> simp only [dPow] at h <;> first | cases h | (split at h <;> cases h)
/-! ### * -/
def rMulI : R2 := fun x y H Q => rI CMul (fun i j => .int (i * j)) x y H Q ∨ rI CMulW (fun i j => .int (i * j)) x y H Q
theorem op_mulI : OpR X (binaryOp .Mult) rMulI := OpR.or op_mul op_mulW
def dMulI : D → D → R D
  | .int i, .int j => if mulOk i j = true then .ok (.int (i * j)) else .bad
  | _, _ => .bad
theorem ops_mulI : OpS X fl rMulI dMulI := by
  intro G F ρ σ H v w x y Q s rv rw' q ⟨z, hz⟩
  cases x <;> cases y <;> simp only [dMulI] at hz q <;> try (first | cases hz; done | skip)
  case int.int i j =>
    obtain rfl := rv.int s
    obtain rfl := rw'.int s
    split at hz
    · rename_i c
      rw [if_pos c] at q
      cases hz
      have q' := q_same s q rfl (u := .int (i * j)) (.int _)
      unfold mulOk at c
      simp only [Bool.or_eq_true, Bool.and_eq_true, decide_eq_true_eq] at c
      rcases c with (c | c) | c
      · exact .inl ⟨i, j, rfl, rfl, .inl ⟨by omega, by omega⟩, q'⟩
      · exact .inl ⟨i, j, rfl, rfl, .inr ⟨by omega, by omega⟩, q'⟩
      · exact .inr ⟨i, j, rfl, rfl, wide_mul c.1 c.2 (by decide) (by decide) (by decide), q'⟩
    · cases hz
theorem ne_mulI : NoEx dMulI := by
  intro x y e h
  cases x <;> cases y <;> simp only [dMulI] at h <;> first | cases h | (split at h <;> cases h)
/-! ### ==, != -/
theorem ops_eq : OpS X fl (rEqD X.K) dEq := by
  intro G F ρ σ H v w x y Q s rv rw' q ⟨z, hz⟩
  unfold dEq at hz q
  split at hz
  · rename_i c
    rw [if_pos c] at q
    cases hz
    exact ⟨x, y, rv.dp s (lay_of_shaped c.1), rw'.dp s (lay_of_shaped c.2), c.1, c.2, q_same s q rfl (.bl _)⟩
  · cases hz
theorem ops_ne : OpS X fl (rNeD X.K) dNe := by
  intro G F ρ σ H v w x y Q s rv rw' q ⟨z, hz⟩
  unfold dNe at hz q
  split at hz
  · rename_i c
    rw [if_pos c] at q
    cases hz
    exact ⟨x, y, rv.dp s (lay_of_shaped c.1), rw'.dp s (lay_of_shaped c.2), c.1, c.2, q_same s q rfl (.bl _)⟩
  · cases hz
theorem ne_eq : NoEx dEq := by
  intro x y e h
  unfold dEq at h
  split at h <;> cases h
theorem ne_ne : NoEx dNe := by
  intro x y e h
  unfold dNe at h
  split at h <;> cases h
/-! ### <, <=, >, >= -/
theorem ops_cmpI {g : D → D → R D} {f : Int → Int → Bool} (h : ∀ x y z, g x y = .ok z → ∃ i j, x = .int i ∧ y = .int j ∧ z = .bool (f i j)) : OpS X fl (rI0 fun i j => .bl (f i j)) g := by
  intro G F ρ σ H v w x y Q s rv rw' q ⟨z, hz⟩
  obtain ⟨i, j, rfl, rfl, rfl⟩ := h x y z hz
  obtain rfl := rv.int s
  obtain rfl := rw'.int s
  exact ⟨i, j, rfl, rfl, q_same s q hz (.bl _)⟩
theorem ops_le : OpS X fl (rI0 fun i j => .bl (decide (i ≤ j))) dLe := ops_cmpI fun x y z h => by
  cases x <;> cases y <;> simp only [dLe] at h <;> cases h
  exact ⟨_, _, rfl, rfl, rfl⟩
theorem ops_gt : OpS X fl (rI0 fun i j => .bl (decide (j < i))) dGt := ops_cmpI fun x y z h => by
  cases x <;> cases y <;> simp only [dGt] at h <;> cases h
  exact ⟨_, _, rfl, rfl, rfl⟩
theorem ops_ge : OpS X fl (rI0 fun i j => .bl (decide (j ≤ i))) dGe := ops_cmpI fun x y z h => by
  cases x <;> cases y <;> simp only [dGe] at h <;> cases h
  exact ⟨_, _, rfl, rfl, rfl⟩
theorem ne_le : NoEx dLe := by
  intro x y e h
  cases x <;> cases y <;> simp only [dLe] at h <;> cases h
theorem ne_gt : NoEx dGt := by
  intro x y e h
  cases x <;> cases y <;> simp only [dGt] at h <;> cases h
theorem ne_ge : NoEx dGe := by
  intro x y e h
  cases x <;> cases y <;> simp only [dGe] at h <;> cases h
def rLt (K : Frag) : R2 := fun x y H Q => rI0 (fun i j => .bl (decide (i < j))) x y H Q ∨ rLtT K x y H Q
theorem op_ltA (hu : X.A.units < cLine) : OpR X (compareOp .Lt) (rLt X.K) := OpR.or op_lt (op_ltT hu)
theorem lexLt_eq : ∀ ns ms : List Int, HT.lexLt ns ms = lexLt ns ms
  | [], [] => rfl
  | [], _ :: _ => rfl
  | _ :: _, [] => rfl
  | x :: xs, y :: ys => by
    simp only [HT.lexLt, lexLt]
    rw [lexLt_eq xs ys]
theorem ops_lt : OpS X fl (rLt X.K) dLt := by
  intro G F ρ σ H v w x y Q s rv rw' q ⟨z, hz⟩
  cases x <;> cases y <;> simp only [dLt] at hz q <;> try (first | cases hz; done | skip)
  case int.int i j =>
    obtain rfl := rv.int s
    obtain rfl := rw'.int s
    cases hz
    exact .inl ⟨i, j, rfl, rfl, q_same s q rfl (.bl _)⟩
  case tuple.tuple xs ys =>
    obtain ⟨a, as, rfl, fa, ha, ra⟩ := rv.tup s
    obtain ⟨b, bs, rfl, fb, hb, rb⟩ := rw'.tup s
    cases e1 : intsOf xs with
    | none => rw [e1] at hz; cases hz
    | some ns =>
      cases e2 : intsOf ys with
      | none => rw [e1, e2] at hz; cases hz
      | some ms =>
        rw [e1, e2] at q hz
        have h1 := ra.ints e1
        have h2 := rb.ints e2
        subst h1 h2
        refine .inr ⟨a, b, ns, ms, rfl, rfl, ha.sq, hb.sq, ?_⟩
        rw [lexLt_eq]
        exact q_same s q rfl (.bl _)
theorem ne_lt : NoEx dLt := by
  intro x y e h
  cases x <;> cases y <;> simp only [dLt] at h <;> first | cases h | (split at h <;> cases h)
/-! ### is -/
def rIsA : R2 := fun x y H Q => (y = .non ∧ Q (.bl (decide (x = .non))) H) ∨ rIsB x y H Q
def rIsNA : R2 := fun x y H Q => (y = .non ∧ Q (.bl (!decide (x = .non))) H) ∨ rNotB x y H Q
theorem op_isA : OpR X (compareOp .Is) rIsA := OpR.or op_isN op_isBl
theorem op_isNA : OpR X (compareOp .IsNot) rIsNA := OpR.or op_notN op_notBl
theorem isNone_of {G : Gs} {F H : Hp} {ρ : Env} {σ : L2.St} {v : V} {x : D} (s : St (wd X) G fl F ρ σ H) (rv : RepV (wd X) fl F ρ σ v x) : decide (v = .non) = isNone x := by
  rcases rv.own s with h | ⟨p, o, rfl, l, h⟩
  · cases h <;> rfl
  · cases h <;> rfl
theorem ops_is : OpS X fl rIsA dIs := by
  intro G F ρ σ H v w x y Q s rv rw' q ⟨z, hz⟩
  cases y with
  | none =>
    obtain rfl := rw'.non s
    refine .inl ⟨rfl, ?_⟩
    rw [isNone_of s rv]
    cases x <;> exact q_same s q rfl (.bl _)
  | bool b =>
    cases x with
    | bool a =>
      obtain rfl := rv.bool s
      obtain rfl := rw'.bool s
      refine .inr ⟨a, b, rfl, rfl, ?_⟩
      have e : decide (a = b) = (a == b) := by cases a <;> cases b <;> rfl
      rw [e]
      exact q_same s q rfl (.bl _)
    | _ => cases hz
  | _ => cases x <;> cases hz
theorem ops_isNot : OpS X fl rIsNA dIsNot := by
  intro G F ρ σ H v w x y Q s rv rw' q ⟨z, hz⟩
  cases y with
  | none =>
    obtain rfl := rw'.non s
    refine .inl ⟨rfl, ?_⟩
    rw [isNone_of s rv]
    cases x <;> exact q_same s q rfl (.bl _)
  | bool b =>
    cases x with
    | bool a =>
      obtain rfl := rv.bool s
      obtain rfl := rw'.bool s
      refine .inr ⟨a, b, rfl, rfl, ?_⟩
      have e : decide (a = b) = (a == b) := by cases a <;> cases b <;> rfl
      rw [e]
      exact q_same s q rfl (.bl _)
    | _ => cases hz
  | _ => cases x <;> cases hz
theorem ne_is : NoEx dIs := by
  intro x y e h
  cases x <;> cases y <;> cases h
theorem ne_isNot : NoEx dIsNot := by
  intro x y e h
  cases x <;> cases y <;> cases h
end
end DL
/-! DLOps2 -/
set_option Elab.async false
set_option linter.all false
set_option maxRecDepth 100000
set_option maxHeartbeats 2000000
/-! DLOps2: in, subscripts, slices. -/
namespace DL
open PySem PySem.Spec PyProof.Rows L2
variable [Tb]
/-! ### keys of dicts -/
theorem eqv_keyD (a b : L2.Key) : PyData.eqv (keyD a) (keyD b) = decide (a = b) := by
  cases a with
  | inl i =>
    cases b with
    | inl j => simp only [keyD, PyData.eqv]; rw [key_ll]
    | inr y => simp only [keyD, PyData.eqv]; rw [key_lr]
  | inr x =>
    cases b with
    | inl j => simp only [keyD, PyData.eqv]; rw [key_rl]
    | inr y => simp only [keyD, PyData.eqv]; rw [key_rr]; by_cases h : x = y <;> simp [h]
theorem eqvAll_keyD : ∀ a b : List L2.Key, PyData.eqvAll (a.map keyD) (b.map keyD) = decide (a = b)
  | [], [] => by simp [PyData.eqvAll]
  | [], _ :: _ => by simp [PyData.eqvAll]
  | _ :: _, [] => by simp [PyData.eqvAll]
  | x :: xs, y :: ys => by
    simp only [List.map_cons, PyData.eqvAll]
    rw [eqv_keyD, eqvAll_keyD xs ys]
    by_cases h1 : x = y <;> by_cases h2 : xs = ys <;> simp [h1, h2]
theorem eqv_keyT (a b : List L2.Key) : PyData.eqv (.tuple (a.map keyD)) (.tuple (b.map keyD)) = decide (a = b) := by
  rw [PyData.eqv]; exact eqvAll_keyD a b
theorem isK_key {x : D} (h : isK x = true) : ∃ k, x = keyD k := by
  cases x with
  | int i => exact ⟨.inl i, rfl⟩
  | str s => exact ⟨.inr s, rfl⟩
  | _ => cases h
theorem isKs_keys : ∀ {xs : List D}, xs.all isK = true → ∃ ks : List L2.Key, xs = ks.map keyD
  | [], _ => ⟨[], rfl⟩
  | x :: xs, h => by
    rw [List.all_cons, Bool.and_eq_true] at h
    obtain ⟨k, rfl⟩ := isK_key h.1
    obtain ⟨ks, rfl⟩ := isKs_keys h.2
    exact ⟨k :: ks, rfl⟩
theorem isKT_key {x : D} (h : isKT x = true) : ∃ ks : List L2.Key, x = .tuple (ks.map keyD) := by
  cases x with
  | tuple xs =>
    obtain ⟨ks, rfl⟩ := isKs_keys (xs := xs) h
    exact ⟨ks, rfl⟩
  | _ => cases h
section
variable {K : Wd} {F F' H : Hp}
theorem Rep.key {v : V} {k : L2.Key} (h : Rep K F v (keyD k)) : v = kV k := by
  cases k <;> cases h <;> rfl
theorem RepAll.keys : ∀ {vs : List V} {ks : List L2.Key}, RepAll K F vs (ks.map keyD) → vs = ks.map kV
  | _, [], .nil => rfl
  | _, k :: ks, .cons r t => by rw [r.key, t.keys]; rfl
theorem RepK.val {kvs : List (L2.Key × V)} {es : List (D × D)} (h : RepK K F kvs es) (k : L2.Key) : (∀ d, dGetK es (keyD k) = some d → ∃ v, valV kvs k = some v ∧ Rep K F v d) ∧ (dGetK es (keyD k) = none → valV kvs k = none) := by
  induction kvs generalizing es with
  | nil => cases h; exact ⟨fun d e => by simp [dGetK] at e, fun _ => rfl⟩
  | cons p kvs ih =>
    cases h with
    | @cons k' v _ d' es' r t =>
      by_cases hk : k' = k
      · subst hk
        have e1 : dGetK ((keyD k', d') :: es') (keyD k') = some d' := by
          unfold dGetK
          rw [List.find?_cons_of_pos (by rw [eqv_keyD]; simp)]
          rfl
        have e2 : valV ((k', v) :: kvs) k' = some v := valV_pos rfl
        refine ⟨fun d e => ?_, fun e => ?_⟩
        · rw [e1] at e; cases e
          exact ⟨v, e2, r⟩
        · rw [e1] at e; cases e
      · have e1 : dGetK ((keyD k', d') :: es') (keyD k) = dGetK es' (keyD k) := by
          unfold dGetK
          rw [List.find?_cons_of_neg (by rw [eqv_keyD]; simp [hk])]
        have e2 : valV ((k', v) :: kvs) k = valV kvs k := valV_neg hk
        rw [e1, e2]
        exact ih t
theorem RepT.val {kvs : KX} {es : List (D × D)} (h : RepT K F kvs es) (k : List L2.Key) : (∀ d, dGetK es (.tuple (k.map keyD)) = some d → ∃ v, valX kvs k = some v ∧ Rep K F v d) ∧ (dGetK es (.tuple (k.map keyD)) = none → valX kvs k = none) := by
  induction kvs generalizing es with
  | nil => cases h; exact ⟨fun d e => by simp [dGetK] at e, fun _ => rfl⟩
  | cons p kvs ih =>
    cases h with
    | @cons k' b v _ d' es' hb r t =>
      by_cases hk : k' = k
      · subst hk
        have e1 : dGetK ((.tuple (k'.map keyD), d') :: es') (.tuple (k'.map keyD)) = some d' := by
          unfold dGetK
          rw [List.find?_cons_of_pos (by rw [eqv_keyT]; simp)]
          rfl
        have e2 : valX ((k', b, v) :: kvs) k' = some v := valX_pos rfl
        refine ⟨fun d e => ?_, fun e => ?_⟩
        · rw [e1] at e; cases e
          exact ⟨v, e2, r⟩
        · rw [e1] at e; cases e
      · have e1 : dGetK ((.tuple (k'.map keyD), d') :: es') (.tuple (k.map keyD)) = dGetK es' (.tuple (k.map keyD)) := by
          unfold dGetK
          rw [List.find?_cons_of_neg (by rw [eqv_keyT]; simp [hk])]
        have e2 : valX ((k', b, v) :: kvs) k = valX kvs k := valX_neg hk
        rw [e1, e2]
        exact ih t
theorem RepT.kall {kvs : KX} {es : List (D × D)} (h : RepT K F kvs es) : KAll F kvs := by
  induction kvs generalizing es with
  | nil => exact fun t ht => nomatch ht
  | cons p kvs ih =>
    cases h with
    | cons hb r t =>
      intro t' ht
      rcases List.mem_cons.mp ht with e | ht
      · subst e; exact hb
      · exact ih t t' ht
theorem dGetK_mark {es : List (D × D)} {k : D} (h : isKT k = true) : dGetK (markT :: es) k = dGetK es k := by
  unfold dGetK markT
  obtain ⟨ks, rfl⟩ := isKT_key h
  rw [List.find?_cons_of_neg (by simp [PyData.eqv])]
theorem isTd_mark {es : List (D × D)} : isTd (markT :: es) = true := rfl
theorem RepK.isTd {kvs : List (L2.Key × V)} {es : List (D × D)} (h : RepK K F kvs es) : isTd es = false := by
  cases h with
  | nil => rfl
  | @cons k v kvs d es r t => cases k <;> rfl
end
/-- a dict as it can be looked into -/
theorem RepV.dict {K : Wd} {G : Gs} {fl : List (Nat × Kd)} {F H : Hp} {ρ : Env} {σ : L2.St} {v : V} {es : List (D × D)} (s : St K G fl F ρ σ H) (h : RepV K fl F ρ σ v (.dict es)) (hx : isXd es = false) :
    ∃ a, v = .ref a ∧ ((∃ kvs, Rd H a (.dK kvs) ∧ RepK K F kvs es) ∨ ∃ kvs es', es = markT :: es' ∧ Rd H a (DX K.P K.w a kvs) ∧ RepT K F kvs es') := by
  rcases h.own s with h | ⟨p, o, rfl, l, h⟩
  · cases h with
    | dk hq r => exact ⟨_, rfl, .inl ⟨_, s.c.rd hq, r⟩⟩
    | dt hq r => exact ⟨_, rfl, .inr ⟨_, _, rfl, s.c.rd hq, r⟩⟩
    | ex => cases hx
  · cases h with
    | dk r => exact ⟨_, rfl, .inl ⟨_, l.rd, r⟩⟩
    | dt r => exact ⟨_, rfl, .inr ⟨_, _, rfl, l.rd, r⟩⟩
/-- what a dict tells of a key: o -/
def DGetA (P : Program) (w : World) (H : Hp) (a : Addr) (y : V) (o : Option V) : Prop := DGet H a y o ∨ ∃ kvs k b, Rd H a (DX P w a kvs) ∧ KAll H kvs ∧ y = .ref b ∧ TupAt H b (k.map kV) ∧ o = valX kvs k
theorem StC.kall {G : Gs} {F H : Hp} (c : StC G F H) {kvs : KX} (h : KAll F kvs) : KAll H kvs := fun t ht => c.tup (h t ht)
theorem dget_of {K : Wd} {G : Gs} {fl : List (Nat × Kd)} {F H : Hp} {ρ : Env} {σ : L2.St} {v w : V} {es : List (D × D)} {k : D} (s : St K G fl F ρ σ H) (h : RepV K fl F ρ σ v (.dict es)) (hw : RepV K fl F ρ σ w k) (ok : keyOk es k = true) :
    ∃ a o, v = .ref a ∧ DGetA K.P K.w H a w o ∧ (∀ d, dGetK es k = some d → ∃ u, o = some u ∧ Rep K F u d) ∧ (dGetK es k = none → o = none) := by
  obtain ⟨ox, ok⟩ := Bool.and_eq_true_iff.mp (show (!isXd es && (if isTd es = true then isKT k else isK k)) = true from ok)
  obtain ⟨a, rfl, ⟨kvs, hd, r⟩ | ⟨kvs, es', rfl, hd, r⟩⟩ := h.dict s (by simpa using ox)
  · rw [r.isTd, if_neg Bool.false_ne_true] at ok
    obtain ⟨q, rfl⟩ := isK_key ok
    have hv := r.val q
    have ew : w = kV q := by
      rcases hw.own s with h | ⟨p, o, rfl, l, h⟩
      · exact h.key
      · cases q <;> cases h
    exact ⟨a, valV kvs q, rfl, .inl (.inl ⟨kvs, q, hd, ew, rfl⟩), hv.1, hv.2⟩
  · rw [isTd_mark, if_pos rfl] at ok
    have em : dGetK (markT :: es') k = dGetK es' k := dGetK_mark ok
    obtain ⟨ks, rfl⟩ := isKT_key ok
    have hv := r.val ks
    obtain ⟨b, bs, rfl, _, hb, rb⟩ := hw.tup s
    rw [rb.keys] at hb
    refine ⟨a, valX kvs ks, rfl, .inr ⟨kvs, ks, b, hd, s.c.kall r.kall, rfl, hb, rfl⟩, fun d e => hv.1 d (em ▸ e), fun e => hv.2 (em ▸ e)⟩
/-! ### in -/
def rInAll (K : Wd) : R2 := fun x y H Q => rInD K.K x y H Q ∨ rIn K.K false x y H Q ∨ ∃ a o, y = .ref a ∧ DGetA K.P K.w H a x o ∧ Q (.bl o.isSome) H
def rNotInAll (K : Wd) : R2 := fun x y H Q => rNotInD K.K x y H Q ∨ rIn K.K true x y H Q ∨ ∃ a o, y = .ref a ∧ DGetA K.P K.w H a x o ∧ Q (.bl (!o.isSome)) H
section
variable {X : Cx} {fl : List (Nat × Kd)}
theorem op_inDict (hu : X.A.units + 1 < cLine) : OpR X (compareOp .In) (fun x y H Q => ∃ a o, y = .ref a ∧ DGetA X.prog X.w H a x o ∧ Q (.bl o.isSome) H) := by
  intro pins s σ H x y v u Q I rx ry h
  obtain ⟨a, o, rfl, g | ⟨kvs, k, b, hd, hk, rfl, hb, rfl⟩, q⟩ := h
  · cases ry
    exact d_in hu I g rx fun s' I' => ⟨.bl _, H, I', rfl, q⟩
  · cases ry
    cases rx
    exact x_in hu I hd hk hb fun s' I' => ⟨.bl _, H, I', rfl, q⟩
theorem op_notInDict (hu : X.A.units + 1 < cLine) : OpR X (compareOp .NotIn) (fun x y H Q => ∃ a o, y = .ref a ∧ DGetA X.prog X.w H a x o ∧ Q (.bl (!o.isSome)) H) := by
  intro pins s σ H x y v u Q I rx ry h
  obtain ⟨a, o, rfl, g | ⟨kvs, k, b, hd, hk, rfl, hb, rfl⟩, q⟩ := h
  · cases ry
    exact d_notIn hu I g rx fun s' I' => ⟨.bl _, H, I', rfl, q⟩
  · cases ry
    cases rx
    exact x_notIn hu I hd hk hb fun s' I' => ⟨.bl _, H, I', rfl, q⟩
theorem op_inAll (hu : X.A.units + 65 < cLine) : OpR X (compareOp .In) (rInAll (wd X)) := (op_inD hu).or (op_in_seq.or (op_inDict (by omega)))
theorem op_notInAll (hu : X.A.units + 65 < cLine) : OpR X (compareOp .NotIn) (rNotInAll (wd X)) := (op_notInD hu).or (op_notIn_seq.or (op_notInDict (by omega)))
theorem flat_rep {K : Wd} {F : Hp} {v : V} {d : D} (h : Rep K F v d) (f : flat d = true) : flatV v = true := by
  cases h <;> first | rfl | cases f
theorem flat_all {K : Wd} {F : Hp} : ∀ {vs : List V} {ds : List D}, RepAll K F vs ds → ds.all flat = true → vs.all flatV = true
  | _, _, .nil, _ => rfl
  | _, _, .cons r t, f => by
    rw [List.all_cons, Bool.and_eq_true] at f
    rw [List.all_cons, flat_rep r f.1, flat_all t f.2]
    rfl
theorem eqV_rep {K : Wd} {F : Hp} {v w : V} {d e : D} (h : Rep K F v d) (h' : Rep K F w e) (f : flat d = true) (f' : flat e = true) : eqV v w = PyData.eqv d e := by
  cases h <;> cases h' <;> first | rfl | (cases f; done) | (cases f'; done) | skip
theorem inV_rep {K : Wd} {F : Hp} {w : V} {e : D} (h' : Rep K F w e) (f' : flat e = true) : ∀ {vs : List V} {ds : List D}, RepAll K F vs ds → ds.all flat = true → inV w vs = ds.any fun z => PyData.eqv z e
  | _, _, .nil, _ => rfl
  | v :: vs, d :: ds, .cons r t, f => by
    rw [List.all_cons, Bool.and_eq_true] at f
    have ih := inV_rep h' f' t f.2
    unfold inV at ih ⊢
    rw [List.any_cons, List.any_cons, eqV_rep r h' f.1 f', ih]
theorem flat_own {K : Wd} {G : Gs} {F H : Hp} {ρ : Env} {σ : L2.St} {v : V} {d : D} (s : St K G fl F ρ σ H) (h : RepV K fl F ρ σ v d) (f : flat d = true) : Rep K F v d := by
  rcases h.own s with h | ⟨p, o, rfl, l, h⟩
  · exact h
  · cases h <;> cases f
theorem in_core {G : Gs} {F H : Hp} {ρ : Env} {σ : L2.St} {v w : V} {x y : D} {b : Bool} (neg : Bool) (s : St (wd X) G fl F ρ σ H) (rv : RepV (wd X) fl F ρ σ v x) (rw' : RepV (wd X) fl F ρ σ w y) (h : dInB x y = .ok b) {Q : VK} (q : Q (.bl (if neg then !b else b)) H) :
    (if neg then rNotInAll (wd X) else rInAll (wd X)) v w H Q := by
  cases y with
  | list ys =>
    simp only [dInB] at h
    split at h
    · rename_i c
      cases h
      have h1 := rv.dp s (lay_of_shaped c.1)
      have h2 := rw'.dp s (lay_of_shaped c.2)
      cases neg
      · exact .inl ⟨x, ys, h1, h2, c.1, c.2, q⟩
      · exact .inl ⟨x, ys, h1, h2, c.1, c.2, q⟩
    · cases h
  | tuple ys =>
    simp only [dInB] at h
    split at h
    · rename_i c
      cases h
      obtain ⟨a, as, rfl, _, ha, ra⟩ := rw'.tup s
      have rx := flat_own s rv c.1
      have e := inV_rep rx c.1 ra c.2
      rw [← e] at q
      cases neg
      · exact .inr (.inl ⟨a, as, rfl, .inr ha.sq, flat_rep rx c.1, flat_all ra c.2, q⟩)
      · exact .inr (.inl ⟨a, as, rfl, .inr ha.sq, flat_rep rx c.1, flat_all ra c.2, q⟩)
    · cases h
  | dict es =>
    simp only [dInB] at h
    split at h
    · rename_i c
      cases h
      obtain ⟨a, o, rfl, g, g1, g2⟩ := dget_of s rw' rv c
      have e : (dGetK es x).isSome = o.isSome := by
        cases hd : dGetK es x with
        | none => rw [g2 hd]; rfl
        | some d =>
          obtain ⟨u, hu, _⟩ := g1 d hd
          rw [hu]; rfl
      rw [e] at q
      cases neg
      · exact .inr (.inr ⟨a, o, rfl, g, q⟩)
      · exact .inr (.inr ⟨a, o, rfl, g, q⟩)
    · cases h
  | _ => cases x <;> cases h
theorem bind_ok {α β : Type} {r : R α} {f : α → R β} {b : β} (h : r.bind f = .ok b) : ∃ a, r = .ok a ∧ f a = .ok b := by
  cases r with
  | ok a => exact ⟨a, rfl, h⟩
  | _ => cases h
theorem ops_in : OpS X fl (rInAll (wd X)) dIn := by
  intro G F ρ σ H v w x y Q s rv rw' q ⟨z, hz⟩
  obtain ⟨b, hb, e⟩ := bind_ok hz
  cases e
  exact in_core false s rv rw' hb (q_same s q hz (.bl _))
theorem ops_notIn : OpS X fl (rNotInAll (wd X)) dNotIn := by
  intro G F ρ σ H v w x y Q s rv rw' q ⟨z, hz⟩
  obtain ⟨b, hb, e⟩ := bind_ok hz
  cases e
  exact in_core true s rv rw' hb (q_same s q hz (.bl _))
theorem inB_ne (x y : D) (e : Ex) : dInB x y ≠ .exc e := by
  intro h
  cases y <;> simp only [dInB] at h <;> first | cases h | (split at h <;> cases h) | (cases x <;> cases h)
theorem ne_in : NoEx dIn := by
  intro x y e h
  unfold dIn at h
  cases hb : dInB x y with
  | ok b => rw [hb] at h; cases h
  | exc e' => exact inB_ne x y e' hb
  | bad => rw [hb] at h; cases h
theorem ne_notIn : NoEx dNotIn := by
  intro x y e h
  unfold dNotIn at h
  cases hb : dInB x y with
  | ok b => rw [hb] at h; cases h
  | exc e' => exact inB_ne x y e' hb
  | bad => rw [hb] at h; cases h
/-! ### subscripts -/
def rIxAll (K : Wd) : R2 := fun x y H Q => rIxL K.K x y H Q ∨ rIxT K.K x y H Q ∨ ∃ a v, x = .ref a ∧ DGetA K.P K.w H a y (some v) ∧ Q v H
theorem ix_dict (hu : X.A.units + 1 < cLine) : IxR X (fun x y H Q => ∃ a v, x = .ref a ∧ DGetA X.prog X.w H a y (some v) ∧ Q v H) := by
  intro value slice pins s σ H x y v u Q I rx ry h hs
  obtain ⟨a, z, rfl, g | ⟨kvs, k, b, hd, hk, rfl, hb, e⟩, q⟩ := h
  · cases rx
    exact tail_any (dict_typeIs I g) PySem.slot_dict_getitem.lookup (d_getItem hu I g ry fun w' s' I' r => ⟨z, H, I', r, q⟩) hs
  · cases rx
    cases ry
    exact tail_any (dx_typeIs I hd).1 PySem.slot_dict_getitem.lookup (x_getItem hu I hd hk hb e.symm fun w' s' I' r => ⟨z, H, I', r, q⟩) hs
theorem ix_all (hu : X.A.units + 1 < cLine) : IxR X (rIxAll (wd X)) := ix_list.or (ix_tup.or (ix_dict hu))
theorem atI_rep {K : Wd} {F : Hp} {vs : List V} {ds : List D} {i : Int} {d : D} (r : RepAll K F vs ds) (h : atI ds i = some d) : ∃ v, L2.atI vs i = some v ∧ Rep K F v d := by
  unfold atI at h
  cases e : ixN ds.length i with
  | none => rw [e] at h; cases h
  | some j =>
    rw [e] at h
    obtain ⟨v, h1, h2⟩ := r.get (i := j) h
    refine ⟨v, ?_, h2⟩
    unfold L2.atI
    rw [r.length]
    show (ixN ds.length i).bind _ = _
    rw [e]
    exact h1
theorem ops_idx : OpS X fl (rIxAll (wd X)) dIdx := by
  intro G F ρ σ H v w x y Q s rv rw' q ⟨z, hz⟩
  cases x with
  | list xs =>
    cases y with
    | int i =>
      obtain ⟨a, as, rfl, ha, ra⟩ := rv.list s
      obtain rfl := rw'.int s
      simp only [dIdx] at hz q
      cases e : atI xs i with
      | none => rw [e] at hz; cases hz
      | some d =>
        rw [e] at q hz
        obtain ⟨u, h1, h2⟩ := atI_rep ra e
        exact .inl ⟨a, as, i, u, rfl, rfl, ha, h1, q_same s q rfl h2⟩
    | _ => cases hz
  | tuple xs =>
    cases y with
    | int i =>
      obtain ⟨a, as, rfl, _, ha, ra⟩ := rv.tup s
      obtain rfl := rw'.int s
      simp only [dIdx] at hz q
      cases e : atI xs i with
      | none => rw [e] at hz; cases hz
      | some d =>
        rw [e] at q hz
        obtain ⟨u, h1, h2⟩ := atI_rep ra e
        exact .inr (.inl ⟨a, as, i, u, rfl, rfl, ha.sq, h1, q_same s q rfl h2⟩)
    | _ => cases hz
  | dict es =>
    simp only [dIdx] at hz q
    split at hz
    · rename_i c
      rw [if_pos c] at q
      cases hd : dGetK es y with
      | none => rw [hd] at hz; cases hz
      | some d =>
        rw [hd] at q hz
        obtain ⟨a, o, rfl, g, g1, g2⟩ := dget_of s rv rw' c
        obtain ⟨u, rfl, r⟩ := g1 d hd
        exact .inr (.inr ⟨a, u, rfl, g, q_same s q rfl r⟩)
    · cases hz
  | _ => cases hz
theorem ne_idx : NoEx dIdx := by
  intro x y e h
  cases x <;> cases y <;> simp only [dIdx] at h <;> first | (cases h; done) | (split at h <;> first | (cases h; done) | (split at h <;> cases h))
variable {A : Ex → Addr} {W : WX} {a b : Expr} {fa fb : FE} {pos : Pos}
theorem jd_idx (hu : X.A.units + 1 < cLine) (ha : JV X A W fl a fa) (hb : JV X A W fl b fb) (hs : PlainIx b := by exact fun _ _ => rfl) : JD X A W fl (.Subscript a b pos) (e2 dIdx fa fb) := pe_mono (pe_ix (ix_all hu) ha hb hs) fun _ _ _ h => two_of ops_idx ne_idx h
end
end DL
/-! DLExpr -/
set_option Elab.async false
set_option linter.all false
set_option maxRecDepth 100000
set_option maxHeartbeats 2000000
/-! DLExpr: lists of arguments, displays, calls of built-ins, and, or, not, if, chains, slices. -/
namespace DL
open PySem PySem.Spec PyProof.Rows L2
variable [Tb]
section
variable {X : Cx} {A : Ex → Addr} {W : WX} {fl : List (Nat × Kd)} {a b c e : Expr} {fa fb fc f : FE} {pos : Pos} {k : Kd} {es : List Expr} {fr : FA} {ft fu : FT}
/-! ### arguments -/
theorem ja_nil : JA X A W fl [] aNil := pa_mono pa_nil fun σ H Q ⟨G, F, ρ, s, q⟩ => RP.ok q s [] .nil
theorem ja_cons (ha : JD X A W fl a fa) (hr : JA X A W fl es fr) (hs : starEach (a :: es) X.env = (false, eval a X.env) :: starEach es X.env := by rfl) : JA X A W fl (a :: es) (aCons fa fr) := pa_mono (pa_cons ha hr hs) fun σ H Q ⟨G, F, ρ, s, q⟩ => by
  refine ⟨G, F, ρ, s, (RP.bind q).imp fun x F1 H1 le1 s1 q1 v rv => ?_⟩
  refine ⟨G, F1, ρ, s1, (RP.bind q1).imp fun xs F2 H2 le2 s2 q2 vs rvs => ?_⟩
  exact RP.ok q2 s2 _ (.cons (rv.mono le2) rvs)
/-! ### displays -/
theorem jd_tup {x1} (h : JA X A W fl es fr) (hl : es.length ≤ lim := by decide) (hlen : ∀ ρ ds, fr ρ = .ok ds → ds.length ≤ lim) : JD X A W fl (.Tuple es x1 pos) (eF fTup fr) := pe_mono (pe_tupX h) fun σ H Q ⟨G, F, ρ, s, q⟩ => by
  refine ⟨G, F, ρ, s, ?_⟩
  have q' := RP.bind q
  cases hf : fr ρ with
  | ok ds =>
    rw [hf] at q'
    have hl := hlen ρ ds hf
    refine fun F1 H1 le1 s1 vs rv => ⟨by rw [rv.length]; exact lim_line hl, fun p o hp hd => ?_⟩
    exact q' F1 H1 le1 s1 _ _ (Le.new (s1.c.fnone hp)) (s1.alloc hp NoTbl.frz) _ (.tup ⟨o, upd_same, hd⟩ (rv.mono (Le.new (s1.c.fnone hp))))
  | exc e => rw [hf] at q'; exact q'
  | bad => rw [hf] at q'; exact q'
theorem jn_lst (h : JA X A W fl es fr) (hlen : ∀ ρ ds, fr ρ = .ok ds → ds.length ≤ lim) : JN X A W fl .l (.List es pos) (eF fLst fr) := pe_mono (pe_lst h) fun σ H Q ⟨G, F, ρ, s, q⟩ => by
  refine ⟨G, F, ρ, s, ?_⟩
  have q' := RP.bind q
  cases hf : fr ρ with
  | ok ds =>
    rw [hf] at q'
    have hl := hlen ρ ds hf
    refine fun F1 H1 le1 s1 vs rv => ⟨by rw [rv.length]; exact lim_line hl, fun p hp => ?_⟩
    exact q' F1 H1 le1 s1 _ _ (Le.refl _) s1 p _ hp trivial (.lst rv)
  | exc e => rw [hf] at q'; exact q'
  | bad => rw [hf] at q'; exact q'
/-- how many arguments come -/
theorem len_nil : ∀ ρ ds, aNil ρ = .ok ds → ds.length ≤ 0 := fun ρ ds h => by cases h; exact Nat.le_refl _
theorem len_cons {n : Nat} (h : ∀ ρ ds, fr ρ = .ok ds → ds.length ≤ n) : ∀ ρ ds, aCons fa fr ρ = .ok ds → ds.length ≤ n + 1 := fun ρ ds e => by
  obtain ⟨x, _, e⟩ := bind_ok e
  obtain ⟨xs, hx, e⟩ := bind_ok e
  cases e
  have := h ρ xs hx
  rw [List.length_cons]; omega
theorem len_lim {n : Nat} (h : ∀ ρ ds, fr ρ = .ok ds → ds.length ≤ n) (hn : n ≤ lim := by decide) : ∀ ρ ds, fr ρ = .ok ds → ds.length ≤ lim := fun ρ ds e => Nat.le_trans (h ρ ds e) hn
/-! ### and, or, not, if, as values -/
theorem jd_one {op} (h : JD X A W fl a fa) : JD X A W fl (.BoolOp op [a] pos) fa := pe_one h
theorem jd_and {rest : List Expr} (ha : JD X A W fl a fa) (hb : JD X A W fl (.BoolOp .And (b :: rest) pos) fb) : JD X A W fl (.BoolOp .And (a :: b :: rest) pos) (eAnd fa fb) := pe_mono (pe_and ha hb) fun σ H Q ⟨G, F, ρ, s, q⟩ => by
  refine ⟨G, F, ρ, s, (RP.bind q).imp fun x F1 H1 le1 s1 q1 v rv => ?_⟩
  cases x with
  | bool b =>
    cases rv
    refine ⟨b, rfl, ?_⟩
    cases b with
    | true => rw [if_pos rfl]; exact ⟨G, F1, ρ, s1, q1⟩
    | false => rw [if_neg Bool.false_ne_true]; exact RP.ok q1 s1 _ (.bl false)
  | _ => exact q1.elim
theorem jd_or {rest : List Expr} (ha : JD X A W fl a fa) (hb : JD X A W fl (.BoolOp .Or (b :: rest) pos) fb) : JD X A W fl (.BoolOp .Or (a :: b :: rest) pos) (eOr fa fb) := pe_mono (pe_or ha hb) fun σ H Q ⟨G, F, ρ, s, q⟩ => by
  refine ⟨G, F, ρ, s, (RP.bind q).imp fun x F1 H1 le1 s1 q1 v rv => ?_⟩
  cases x with
  | bool b =>
    cases rv
    refine ⟨b, rfl, ?_⟩
    cases b with
    | true => rw [if_pos rfl]; exact RP.ok q1 s1 _ (.bl true)
    | false => rw [if_neg Bool.false_ne_true]; exact ⟨G, F1, ρ, s1, q1⟩
  | _ => exact q1.elim
theorem jd_not (ha : JD X A W fl a fa) : JD X A W fl (.UnaryOp .Not a pos) (eNot fa) := pe_mono (pe_not ha) fun σ H Q ⟨G, F, ρ, s, q⟩ => by
  refine ⟨G, F, ρ, s, (RP.bind q).imp fun x F1 H1 le1 s1 q1 v rv => ?_⟩
  cases x with
  | bool b =>
    cases rv
    exact ⟨b, rfl, RP.ok q1 s1 _ (.bl _)⟩
  | _ => exact q1.elim
theorem jd_if {t : Expr} (ht : JT X A W fl t ft) (ha : JD X A W fl a fa) (hb : JD X A W fl b fb) : JD X A W fl (.IfExp t a b pos) (eIf ft fa fb) := pe_mono (pe_ifExp ht ha hb) fun σ H Q ⟨G, F, ρ, s, q⟩ => by
  refine ⟨G, F, ρ, s, (RP.bind q).imp fun c F1 H1 le1 s1 q1 => ?_⟩
  cases c with
  | true => rw [if_pos rfl] at q1 ⊢; exact ⟨G, F1, ρ, s1, q1⟩
  | false => rw [if_neg Bool.false_ne_true] at q1 ⊢; exact ⟨G, F1, ρ, s1, q1⟩
theorem jd_neg (ha : JV X A W fl a fa) : JD X A W fl (.UnaryOp .USub a pos) (e1 dNeg fa) := pe_mono (pe_un un_neg ha) fun σ H Q ⟨G, F, ρ, s, q⟩ => by
  refine ⟨G, F, ρ, s, (RP.bind q).imp fun x F1 H1 le1 s1 q1 v rv => ?_⟩
  cases x with
  | int i =>
    obtain rfl := rv.int s1
    exact ⟨i, rfl, RP.ok q1 s1 _ (.int _)⟩
  | _ => exact q1.elim
/-! ### tests -/
theorem jt_and1 (h : JT X A W fl a ft) : JW X A W fl (.BoolOp .And [a] pos) ft := pw_and1 h
theorem jt_or1 (h : JT X A W fl a ft) : JW X A W fl (.BoolOp .Or [a] pos) ft := pw_or1 h
theorem jt_and {rest : List Expr} (ha : JT X A W fl a ft) (hb : JW X A W fl (.BoolOp .And (b :: rest) pos) fu) : JW X A W fl (.BoolOp .And (a :: b :: rest) pos) (DL.tAnd ft fu) := pw_mono (pw_and ha hb) fun σ H Q ⟨G, F, ρ, s, q⟩ => by
  refine ⟨G, F, ρ, s, (RP.bind q).imp fun c F1 H1 le1 s1 q1 => ?_⟩
  cases c with
  | true => rw [if_pos rfl] at q1 ⊢; exact ⟨G, F1, ρ, s1, q1⟩
  | false => rw [if_neg Bool.false_ne_true] at q1 ⊢; exact q1.ok s1
theorem jt_or {rest : List Expr} (ha : JT X A W fl a ft) (hb : JW X A W fl (.BoolOp .Or (b :: rest) pos) fu) : JW X A W fl (.BoolOp .Or (a :: b :: rest) pos) (DL.tOr ft fu) := pw_mono (pw_or ha hb) fun σ H Q ⟨G, F, ρ, s, q⟩ => by
  refine ⟨G, F, ρ, s, (RP.bind q).imp fun c F1 H1 le1 s1 q1 => ?_⟩
  cases c with
  | true => rw [if_pos rfl] at q1 ⊢; exact q1.ok s1
  | false => rw [if_neg Bool.false_ne_true] at q1 ⊢; exact ⟨G, F1, ρ, s1, q1⟩
theorem JW.t (h : JW X A W fl e ft) : JT X A W fl e ft := PW.pt h
theorem jt_not (ha : JT X A W fl a ft) : JT X A W fl (.UnaryOp .Not a pos) (DL.tNot ft) := pt_mono (pt_not ha) fun σ H Q ⟨G, F, ρ, s, q⟩ => ⟨G, F, ρ, s, (RP.bind q).imp fun c F1 H1 le1 s1 q1 => q1.ok s1⟩
/-! ### a op1 b op2 c -/
theorem jd_chain {op op' : CmpOp} {r r' : R2} {g g' : D → D → R D} (ho : OpR X (compareOp op) r) (ho' : OpR X (compareOp op') r') (os : OpS X fl r g) (ne : NoEx g) (os' : OpS X fl r' g') (ne' : NoEx g') (ha : JV X A W fl a fa) (hb : JV X A W fl b fb) (hc : JV X A W fl c fc)
    (hm : lastMarks [op, op'] [b, c] = false := by with_unfolding_all rfl) : JD X A W fl (.Compare a [op, op'] [b, c] pos) (eChain g g' fa fb fc) := pe_mono (pe_chain ho ho' ha hb hc hm) fun σ H Q ⟨G, F, ρ, s, q⟩ => by
  refine ⟨G, F, ρ, s, (RP.bind q).imp fun x F1 H1 le1 s1 q1 v rv => ?_⟩
  refine ⟨G, F1, ρ, s1, (RP.bind q1).imp fun y F2 H2 le2 s2 q2 w rw' => ?_⟩
  have q3 := RP.bind q2
  cases hg : g x y with
  | ok z =>
    rw [hg] at q3
    refine os G F2 ρ σ H2 v w x y _ s2 (rv.mono le2) rw' (fun z' e F' H' le s' u r => ?_) ⟨z, hg⟩
    rw [hg] at e; cases e
    have q4 := q3 F' H' le s'
    cases z with
    | bool bb =>
      cases r
      refine ⟨bb, rfl, ?_⟩
      cases bb with
      | true =>
        rw [if_pos rfl]
        refine ⟨G, F', ρ, s', (RP.bind q4).imp fun t F3 H3 le3 s3 q5 u' ru => ?_⟩
        cases hg' : g' y t with
        | ok z' =>
          rw [hg'] at q5
          exact os' G F3 ρ σ H3 w u' y t Q s3 (rw'.mono (le.trans le3)) ru (fun z2 e F' H' le s' u r => by rw [hg'] at e; cases e; exact q5 F' H' le s' u r) ⟨z', hg'⟩
        | exc e => exact absurd hg' (ne' _ _ _)
        | bad => rw [hg'] at q5; exact q5.elim
      | false =>
        rw [if_neg Bool.false_ne_true]
        exact RP.ok q4 s' _ (.bl false)
    | _ => exact q4.elim
  | exc e => exact absurd hg (ne _ _ _)
  | bad => rw [hg] at q3; exact q3.elim
/-! ### slices -/
theorem jo_none : JO X A W fl none oNone := po_mono po_none fun σ H Q ⟨G, F, ρ, s, q⟩ => RP.ok q s
theorem jo_some (h : JV X A W fl a fa) : JO X A W fl (some a) (oSome fa) := po_mono (po_some h) fun σ H Q ⟨G, F, ρ, s, q⟩ => by
  refine ⟨G, F, ρ, s, (RP.bind q).imp fun x F1 H1 le1 s1 q1 v rv => ?_⟩
  cases x with
  | int i =>
    obtain rfl := rv.int s1
    exact ⟨i, rfl, q1.ok s1⟩
  | _ => exact q1.elim
theorem cut_rep {K : Wd} {F : Hp} {vs : List V} {ds : List D} (r : RepAll K F vs ds) (lo hi : Option Int) : RepAll K F (cutV vs lo hi) (cut ds lo hi) := by
  have e : ∀ n d (o : Option Int), HT.sIx n d o = sIx n d o := fun n d o => by cases o <;> rfl
  unfold cutV cut
  rw [e, e, r.length]
  exact (r.drop _).take _
theorem cut_whole {ds : List D} {lo hi : Option Int} (h : sIx ds.length 0 lo = 0 ∧ sIx ds.length ds.length hi = ds.length) : cut ds lo hi = ds := by
  unfold cut
  rw [h.1, h.2]
  simp
theorem jd_slice {lo hi : Option Expr} {fl' fh : FO} {p2} (ha : JV X A W fl a fa) (hl : JO X A W fl lo fl') (hh : JO X A W fl hi fh) : JD X A W fl (.Subscript a (.Slice lo hi none p2) pos) (eSlice fa fl' fh) := pe_mono (pe_slice (sl_list.or sl_tupX) ha hl hh) fun σ H Q ⟨G, F, ρ, s, q⟩ => by
  refine ⟨G, F, ρ, s, (RP.bind q).imp fun x F1 H1 le1 s1 q1 v rv => ?_⟩
  refine ⟨G, F1, ρ, s1, (RP.bind q1).imp fun l F2 H2 le2 s2 q2 => ?_⟩
  refine ⟨G, F2, ρ, s2, (RP.bind q2).imp fun h F3 H3 le3 s3 q3 => ?_⟩
  have rv3 := rv.mono (le2.trans le3)
  cases x with
  | list xs =>
    obtain ⟨p, as, rfl, hp, ra⟩ := rv3.list s3
    refine .inl ⟨p, as, rfl, hp, fun p hn => ?_⟩
    exact q3 _ _ (Le.new (s3.c.fnone hn)) (s3.alloc hn NoTbl.lst) _ (.lst (.inl (.inl upd_same)) ((cut_rep ra l h).mono (Le.new (s3.c.fnone hn))))
  | tuple xs =>
    obtain ⟨p, as, rfl, fp, hp, ra⟩ := rv3.tup s3
    refine .inr ⟨p, as, rfl, hp.sq, fun hw => ?_, fun p o hn hd => ?_⟩
    · have e : ∀ n d (o : Option Int), HT.sIx n d o = sIx n d o := fun n d o => by cases o <;> rfl
      rw [e, e, ra.length] at hw
      refine RP.ok q3 s3 _ ?_
      rw [cut_whole hw]
      exact .tup fp ra
    · exact q3 _ _ (Le.new (s3.c.fnone hn)) (s3.alloc hn NoTbl.frz) _ (.tup ⟨o, upd_same, hd⟩ ((cut_rep ra l h).mono (Le.new (s3.c.fnone hn))))
  | _ => exact q3.elim
/-- a new list: a list's slice -/
def eSliceL (a : FE) (l h : FO) : FE := fun ρ => (a ρ).bind fun x => (l ρ).bind fun lo => (h ρ).bind fun hi => match x with
  | .list xs => .ok (.list (cut xs lo hi))
  | _ => .bad
theorem jn_slice {lo hi : Option Expr} {fl' fh : FO} {p2} (ha : JV X A W fl a fa) (hl : JO X A W fl lo fl') (hh : JO X A W fl hi fh) : JN X A W fl .l (.Subscript a (.Slice lo hi none p2) pos) (eSliceL fa fl' fh) := pe_mono (pe_slice sl_list ha hl hh) fun σ H Q ⟨G, F, ρ, s, q⟩ => by
  refine ⟨G, F, ρ, s, (RP.bind q).imp fun x F1 H1 le1 s1 q1 v rv => ?_⟩
  refine ⟨G, F1, ρ, s1, (RP.bind q1).imp fun l F2 H2 le2 s2 q2 => ?_⟩
  refine ⟨G, F2, ρ, s2, (RP.bind q2).imp fun h F3 H3 le3 s3 q3 => ?_⟩
  have rv3 := rv.mono (le2.trans le3)
  cases x with
  | list xs =>
    obtain ⟨p, as, rfl, hp, ra⟩ := rv3.list s3
    exact ⟨p, as, rfl, hp, fun p hn => q3 _ _ (Le.refl _) s3 p _ hn trivial (.lst (cut_rep ra l h))⟩
  | _ => exact q3.elim
end
end DL
/-! DLCall -/
set_option Elab.async false
set_option linter.all false
set_option maxRecDepth 100000
set_option maxHeartbeats 2000000
/-! DLCall: calls of built-in functions and types. -/
namespace DL
open PySem PySem.Spec PyProof.Rows L2
variable [Tb]
section
variable {X : Cx} {A : Ex → Addr} {W : WX} {fl : List (Nat × Kd)} {a b c e : Expr} {fa fb fc f : FE} {pos p : Pos} {k : Kd} {x : Str} {id T : String}
def CallS (X : Cx) (fl : List (Nat × Kd)) (r : List V → Hp → VK → Prop) (f : D → R D) : Prop := ∀ (G : Gs) (F : Hp) (ρ : Env) (σ : L2.St) (H : Hp) (v : V) (x : D) (Q : VK), St (wd X) G fl F ρ σ H → RepV (wd X) fl F ρ σ v x →
  (∀ z, f x = .ok z → ∀ F' H', Le F F' → St (wd X) G fl F' ρ σ H' → ∀ u, Rep (wd X) F' u z → Q u H') → (∃ z, f x = .ok z) → r [v] H Q
def CallN (X : Cx) (fl : List (Nat × Kd)) (k : Kd) (r : List V → Hp → VK → Prop) (f : D → R D) : Prop := ∀ (G : Gs) (F : Hp) (ρ : Env) (σ : L2.St) (H : Hp) (v : V) (x : D) (Q : VK), St (wd X) G fl F ρ σ H → RepV (wd X) fl F ρ σ v x →
  (∀ z, f x = .ok z → ∀ p o, H p = none → kdOk k o → RepO (wd X) F p o z → Q (.ref p) (upd H p o)) → (∃ z, f x = .ok z) → r [v] H Q
def NoEx1 (f : D → R D) : Prop := ∀ x e, f x ≠ .exc e
theorem call1_of {r : List V → Hp → VK → Prop} {g : D → R D} (cs : CallS X fl r g) (ne : NoEx1 g) {σ : L2.St} {H : Hp} {Q : VK} (h : tD (wd X) A W fl (e1 g fa) σ H Q) : tCB r (tCons (tV (wd X) A W fl fa) tNil) σ H Q := by
  obtain ⟨G, F, ρ, s, q⟩ := h
  refine ⟨G, F, ρ, s, (RP.bind q).imp fun x F1 H1 le1 s1 q1 v rv => ?_⟩
  cases hg : g x with
  | ok z =>
    rw [hg] at q1
    exact cs G F1 ρ σ H1 v x Q s1 rv (fun z' e F' H' le s' u r => by rw [hg] at e; cases e; exact q1 F' H' le s' u r) ⟨z, hg⟩
  | exc e => exact absurd hg (ne x e)
  | bad => rw [hg] at q1; exact q1.elim
theorem call1_ofN {r : List V → Hp → VK → Prop} {g : D → R D} (cs : CallN X fl k r g) (ne : NoEx1 g) {σ : L2.St} {H : Hp} {Q : VK} (h : tN (wd X) A W fl k (e1 g fa) σ H Q) : tCB r (tCons (tV (wd X) A W fl fa) tNil) σ H Q := by
  obtain ⟨G, F, ρ, s, q⟩ := h
  refine ⟨G, F, ρ, s, (RP.bind q).imp fun x F1 H1 le1 s1 q1 v rv => ?_⟩
  cases hg : g x with
  | ok z =>
    rw [hg] at q1
    exact cs G F1 ρ σ H1 v x Q s1 rv (fun z' e p o hp hk r => by rw [hg] at e; cases e; exact q1 F1 H1 (Le.refl _) s1 p o hp hk r) ⟨z, hg⟩
  | exc e => exact absurd hg (ne x e)
  | bad => rw [hg] at q1; exact q1.elim
/-- f(e), f a built-in function -/
theorem jd_callB {r : List V → Hp → VK → Prop} {g : D → R D} (hc : CallR X (.builtin id) r) (cs : CallS X fl r g) (ne : NoEx1 g) (hg : Gl X x) (hm : X.mg x = none) (hv : bootBuiltins x = some (.builtin id)) (ha : JV X A W fl a fa) (hn : x ≠ "__name__" := by decide) (hdb : (x == ("__debug__" : Str)) = false := by decide)
    (hs : starEach [a] X.env = (false, eval a X.env) :: starEach [] X.env := by rfl) (hpl : (backTo pos (starEach [] X.env)).any (·.1) = false := by rfl) : JD X A W fl (.Call (.Name x p) [a] [] pos) (e1 g fa) := pe_mono (pe_callB hc hg hm hv (pa_cons ha pa_nil hs) hn hdb hs hpl) fun _ _ _ h => call1_of cs ne h
theorem jn_callB {r : List V → Hp → VK → Prop} {g : D → R D} (hc : CallR X (.builtin id) r) (cs : CallN X fl k r g) (ne : NoEx1 g) (hg : Gl X x) (hm : X.mg x = none) (hv : bootBuiltins x = some (.builtin id)) (ha : JV X A W fl a fa) (hn : x ≠ "__name__" := by decide) (hdb : (x == ("__debug__" : Str)) = false := by decide)
    (hs : starEach [a] X.env = (false, eval a X.env) :: starEach [] X.env := by rfl) (hpl : (backTo pos (starEach [] X.env)).any (·.1) = false := by rfl) : JN X A W fl k (.Call (.Name x p) [a] [] pos) (e1 g fa) := pe_mono (pe_callB hc hg hm hv (pa_cons ha pa_nil hs) hn hdb hs hpl) fun _ _ _ h => call1_ofN cs ne h
theorem jd_callT {r : List V → Hp → VK → Prop} {g : D → R D} (hc : CallR X (.type T) r) (cs : CallS X fl r g) (ne : NoEx1 g) (hg : Gl X x) (hm : X.mg x = none) (hv : bootBuiltins x = some (.type T)) (ha : JV X A W fl a fa) (hn : x ≠ "__name__" := by decide) (hdb : (x == ("__debug__" : Str)) = false := by decide)
    (hs : starEach [a] X.env = (false, eval a X.env) :: starEach [] X.env := by rfl) (hpl : (backTo pos (starEach [] X.env)).any (·.1) = false := by rfl) : JD X A W fl (.Call (.Name x p) [a] [] pos) (e1 g fa) := pe_mono (pe_callTy hc hg hm hv (pa_cons ha pa_nil hs) hn hdb hs hpl) fun _ _ _ h => call1_of cs ne h
theorem jn_callT {r : List V → Hp → VK → Prop} {g : D → R D} (hc : CallR X (.type T) r) (cs : CallN X fl k r g) (ne : NoEx1 g) (hg : Gl X x) (hm : X.mg x = none) (hv : bootBuiltins x = some (.type T)) (ha : JV X A W fl a fa) (hn : x ≠ "__name__" := by decide) (hdb : (x == ("__debug__" : Str)) = false := by decide)
    (hs : starEach [a] X.env = (false, eval a X.env) :: starEach [] X.env := by rfl) (hpl : (backTo pos (starEach [] X.env)).any (·.1) = false := by rfl) : JN X A W fl k (.Call (.Name x p) [a] [] pos) (e1 g fa) := pe_mono (pe_callTy hc hg hm hv (pa_cons ha pa_nil hs) hn hdb hs hpl) fun _ _ _ h => call1_ofN cs ne h
/-! ### len -/
theorem cs_len : CallS X fl (fun xs H Q => ∃ x n, xs = [x] ∧ LenV X.K x H n ∧ Q (.int n) H) dLen := by
  intro G F ρ σ H v x Q s rv q ⟨z, hz⟩
  cases x <;> simp only [dLen] at hz q <;> try (first | cases hz; done | skip)
  case list ds =>
    obtain ⟨p, as, rfl, hp, ra⟩ := rv.list s
    cases hz
    refine ⟨_, ds.length, rfl, .inl ⟨as, hp, ra.length.symm⟩, q_same s q rfl (.int _)⟩
  case tuple ds =>
    obtain ⟨p, as, rfl, fp, hp, ra⟩ := rv.tup s
    cases hz
    refine ⟨_, ds.length, rfl, .inr ⟨as, hp.sq, ra.length.symm⟩, q_same s q rfl (.int _)⟩
  case str z =>
    obtain rfl := rv.str s
    split at hz
    · rename_i hl
      rw [if_pos hl] at q
      cases hz
      exact ⟨_, _, rfl, ⟨lim_line hl, rfl⟩, q_same s q rfl (.int _)⟩
    · cases hz
theorem ne_len : NoEx1 dLen := by
  intro x e h
  cases x <;> simp only [dLen] at h <;> first | (cases h; done) | (split at h <;> cases h)
/-! ### isinstance -/
def typeName : D → String
  | .none => "NoneType"
  | .bool _ => "bool"
  | .int _ => "int"
  | .str _ => "str"
  | .list _ => "list"
  | .tuple _ => "tuple"
  | .dict _ => "dict"
/-- which data are of a type -/
def dIsi (f : D → Bool) : D → R D
  | .dict _ => .bad
  | d => .ok (.bool (f d))
def KitsOk (T : String) (f : D → Bool) : Prop := ∀ d : D, (∀ es, d ≠ .dict es) → kitB (typeName d) T = some (f d)
theorem kits_int : KitsOk "int" isI := fun d h => by cases d <;> first | exact absurd rfl (h _) | (show kitB _ _ = _; first | decide +kernel | rfl)
theorem kits_bool : KitsOk "bool" isB := fun d h => by cases d <;> first | exact absurd rfl (h _) | (show kitB _ _ = _; first | decide +kernel | rfl)
theorem kits_str : KitsOk "str" isS := fun d h => by cases d <;> first | exact absurd rfl (h _) | (show kitB _ _ = _; first | decide +kernel | rfl)
theorem kits_tuple : KitsOk "tuple" isT := fun d h => by cases d <;> first | exact absurd rfl (h _) | (show kitB _ _ = _; first | decide +kernel | rfl)
theorem kits_list : KitsOk "list" isL := fun d h => by cases d <;> first | exact absurd rfl (h _) | (show kitB _ _ = _; first | decide +kernel | rfl)
theorem tyX_of {G : Gs} {F H : Hp} {ρ : Env} {σ : L2.St} {v : V} {d : D} (s : St (wd X) G fl F ρ σ H) (rv : RepV (wd X) fl F ρ σ v d) (h : ∀ es, d ≠ .dict es) : TyX X.K H v (.type (typeName d)) := by
  cases d with
  | none => obtain rfl := rv.non s; exact .base .non
  | bool b => obtain rfl := rv.bool s; exact .base (.bl b)
  | int i => obtain rfl := rv.int s; exact .base (.int i)
  | str z => obtain rfl := rv.str s; exact .base (.str z)
  | list ds =>
    obtain ⟨p, as, rfl, hp, ra⟩ := rv.list s
    rcases hp with (hp | ⟨o, hp⟩) | ⟨o, _, _, hk, hc, _⟩
    · exact .base (.lst hp)
    · exact .base (.frz hp)
    · exact .kList hk hc
  | tuple ds =>
    obtain ⟨p, as, rfl, fp, ⟨o, hp, _⟩, ra⟩ := rv.tup s
    exact .fTuple hp
  | dict es => exact absurd rfl (h es)
theorem jd_isi {g : D → Bool} {y : Str} {p2 : Pos} (ks : KitsOk T g) (ha : JV X A W fl a fa) (hg : Gl X "isinstance") (hm : X.mg "isinstance" = none) (hgy : Gl X y) (hmy : X.mg y = none) (hvy : bootBuiltins y = some (.type T)) (hny : y ≠ "__name__" := by decide) (hdy : (y == ("__debug__" : Str)) = false := by decide)
    (hs : starEach [a, .Name y p2] X.env = (false, eval a X.env) :: starEach [.Name y p2] X.env := by rfl) (hs2 : starEach [.Name y p2] X.env = (false, eval (.Name y p2) X.env) :: starEach [] X.env := by rfl) (hpl : (backTo pos (starEach [.Name y p2] X.env)).any (·.1) = false := by rfl) :
    JD X A W fl (.Call (.Name "isinstance" p) [a, .Name y p2] [] pos) (e1 (dIsi g) fa) := by
  refine pe_mono (pe_callB call_isi hg hm (by decide +kernel) (pa_cons ha (pa_cons (pe_bltn (v := .ty T) hgy hmy hvy rfl hny hdy) pa_nil hs2) hs) (by decide) (by decide) hs hpl) fun σ H Q ⟨G, F, ρ, s, q⟩ => ?_
  refine ⟨G, F, ρ, s, (RP.bind q).imp fun x F1 H1 le1 s1 q1 v rv => ?_⟩
  show rIsi X.K [v, .ty T] H1 Q
  have nd : ∀ es, x ≠ .dict es := fun es e => by subst e; exact q1
  have hd : dIsi g x = .ok (.bool (g x)) := by
    cases x <;> first | rfl | exact absurd rfl (nd _)
  rw [hd] at q1
  exact ⟨v, .ty T, _, _, g x, rfl, .ty T, tyX_of s1 rv nd, kit_ty (ks x nd), RP.ok q1 s1 _ (.bl _)⟩
/-! ### all, any, sum -/
theorem allB_of {K : Wd} {F : Hp} : ∀ {ds : List D} {b : Bool} {vs : List V}, allB ds = .ok b → RepAll K F vs ds → ∃ bs : List Bool, vs = bs.map V.bl ∧ b = bs.all _root_.id
  | [], b, _, e, .nil => by
    cases e
    exact ⟨[], rfl, rfl⟩
  | d :: ds, b, _, e, .cons r t => by
    cases d with
    | bool b' =>
      simp only [allB] at e
      obtain ⟨c, hc, e⟩ := bind_ok e
      cases e
      obtain ⟨bs, h1, h2⟩ := allB_of hc t
      cases r
      exact ⟨b' :: bs, by rw [h1]; rfl, by rw [h2]; rfl⟩
    | _ => cases e
theorem anyB_of {K : Wd} {F : Hp} : ∀ {ds : List D} {b : Bool} {vs : List V}, anyB ds = .ok b → RepAll K F vs ds → ∃ bs : List Bool, vs = bs.map V.bl ∧ b = bs.any _root_.id
  | [], b, _, e, .nil => by
    cases e
    exact ⟨[], rfl, rfl⟩
  | d :: ds, b, _, e, .cons r t => by
    cases d with
    | bool b' =>
      simp only [anyB] at e
      obtain ⟨c, hc, e⟩ := bind_ok e
      cases e
      obtain ⟨bs, h1, h2⟩ := anyB_of hc t
      cases r
      exact ⟨b' :: bs, by rw [h1]; rfl, by rw [h2]; rfl⟩
    | _ => cases e
theorem cs_all : CallS X fl (rAll X.K) dAll := by
  intro G F ρ σ H v x Q s rv q ⟨z, hz⟩
  cases x <;> simp only [dAll] at hz q <;> try (first | cases hz; done | skip)
  case list ds =>
    obtain ⟨b, hb, e⟩ := bind_ok hz
    cases e
    obtain ⟨p, as, rfl, hp, ra⟩ := rv.list s
    obtain ⟨bs, rfl, rfl⟩ := allB_of hb ra
    exact ⟨p, bs, rfl, hp, q_same s q hz (.bl _)⟩
theorem cs_any : CallS X fl (rAny X.K) dAny := by
  intro G F ρ σ H v x Q s rv q ⟨z, hz⟩
  cases x <;> simp only [dAny] at hz q <;> try (first | cases hz; done | skip)
  case list ds =>
    obtain ⟨b, hb, e⟩ := bind_ok hz
    cases e
    obtain ⟨p, as, rfl, hp, ra⟩ := rv.list s
    obtain ⟨bs, rfl, rfl⟩ := anyB_of hb ra
    exact ⟨p, bs, rfl, hp, q_same s q hz (.bl _)⟩
theorem allB_ne : ∀ (ds : List D) (e : Ex), allB ds ≠ .exc e
  | [], e => fun h => by cases h
  | d :: ds, e => fun h => by
    cases d with
    | bool b =>
      simp only [allB] at h
      cases hb : allB ds with
      | ok c => rw [hb] at h; cases h
      | exc e' => exact allB_ne ds e' hb
      | bad => rw [hb] at h; cases h
    | _ => cases h
theorem anyB_ne : ∀ (ds : List D) (e : Ex), anyB ds ≠ .exc e
  | [], e => fun h => by cases h
  | d :: ds, e => fun h => by
    cases d with
    | bool b =>
      simp only [anyB] at h
      cases hb : anyB ds with
      | ok c => rw [hb] at h; cases h
      | exc e' => exact anyB_ne ds e' hb
      | bad => rw [hb] at h; cases h
    | _ => cases h
theorem ne_all : NoEx1 dAll := by
  intro x e h
  cases x <;> simp only [dAll] at h <;> try (first | cases h; done | skip)
  case list ds =>
    cases hb : allB ds with
    | ok c => rw [hb] at h; cases h
    | exc e' => exact allB_ne ds e' hb
    | bad => rw [hb] at h; cases h
theorem ne_any : NoEx1 dAny := by
  intro x e h
  cases x <;> simp only [dAny] at h <;> try (first | cases h; done | skip)
  case list ds =>
    cases hb : anyB ds with
    | ok c => rw [hb] at h; cases h
    | exc e' => exact anyB_ne ds e' hb
    | bad => rw [hb] at h; cases h
theorem cs_sum : CallS X fl (rSum X.K) dSum := by
  intro G F ρ σ H v x Q s rv q ⟨z, hz⟩
  cases x <;> simp only [dSum] at hz q <;> try (first | cases hz; done | skip)
  case list ds =>
    cases hi : intsOf ds with
    | none => rw [hi] at hz; cases hz
    | some ns =>
      rw [hi] at q hz
      obtain ⟨p, as, rfl, hp, ra⟩ := rv.list s
      obtain rfl := ra.ints hi
      exact ⟨p, ns, rfl, hp, q_same s q rfl (.int _)⟩
theorem ne_sum : NoEx1 dSum := by
  intro x e h
  cases x <;> simp only [dSum] at h <;> first | (cases h; done) | (split at h <;> cases h)
/-! ### int, list, tuple -/
theorem cs_int : CallS X fl (fun xs H Q => (∃ i, xs = [.int i] ∧ Q (.int i) H) ∨ ∃ k, xs = [.bl k] ∧ Q (.int (if k then 1 else 0)) H) dInt := by
  intro G F ρ σ H v x Q s rv q ⟨z, hz⟩
  cases x <;> simp only [dInt] at hz q <;> try (first | cases hz; done | skip)
  case int i =>
    obtain rfl := rv.int s
    exact .inl ⟨i, rfl, q_same s q rfl (.int _)⟩
  case bool b =>
    obtain rfl := rv.bool s
    exact .inr ⟨b, rfl, q_same s q rfl (.int _)⟩
theorem ne_int : NoEx1 dInt := by
  intro x e h
  cases x <;> cases h
theorem cn_list : CallN X fl .l (fun xs H Q => ∃ p ys, xs = [.ref p] ∧ (SqL X.K H p ys ∨ SqT X.K H p ys) ∧ ∀ l, H l = none → Q (.ref l) (upd H l (.lst ys))) dList := by
  intro G F ρ σ H v x Q s rv q ⟨z, hz⟩
  cases x <;> simp only [dList] at hz q <;> try (first | cases hz; done | skip)
  case list ds =>
    obtain ⟨p, as, rfl, hp, ra⟩ := rv.list s
    exact ⟨p, as, rfl, .inl hp, fun l hl => q _ rfl l _ hl trivial (.lst ra)⟩
  case tuple ds =>
    obtain ⟨p, as, rfl, fp, hp, ra⟩ := rv.tup s
    exact ⟨p, as, rfl, .inr hp.sq, fun l hl => q _ rfl l _ hl trivial (.lst ra)⟩
theorem ne_list : NoEx1 dList := by
  intro x e h
  cases x <;> cases h
theorem cs_tuple : CallS X fl (fun xs H Q => ∃ p ys, xs = [.ref p] ∧ ((SqL X.K H p ys ∧ NT H ys Q) ∨ (SqT X.K H p ys ∧ Q (.ref p) H))) dTuple := by
  intro G F ρ σ H v x Q s rv q ⟨z, hz⟩
  cases x <;> simp only [dTuple] at hz q <;> try (first | cases hz; done | skip)
  case list ds =>
    obtain ⟨p, as, rfl, hp, ra⟩ := rv.list s
    exact ⟨p, as, rfl, .inl ⟨hp, q_tup s q rfl ra⟩⟩
  case tuple ds =>
    obtain ⟨p, as, rfl, fp, hp, ra⟩ := rv.tup s
    exact ⟨p, as, rfl, .inr ⟨hp.sq, q_same s q rfl (.tup fp ra)⟩⟩
theorem ne_tuple : NoEx1 dTuple := by
  intro x e h
  cases x <;> cases h
/-! ### min, max of two ints -/
theorem call2_of {r : List V → Hp → VK → Prop} {g : D → D → R D} (h0 : ∀ x y z, g x y = .ok z → ∃ i j l, x = .int i ∧ y = .int j ∧ z = .int l ∧ ∀ (H : Hp) (Q : VK), Q (.int l) H → r [.int i, .int j] H Q) (ne : NoEx g) {σ : L2.St} {H : Hp} {Q : VK} (h : tD (wd X) A W fl (e2 g fa fb) σ H Q) :
    tCB r (tCons (tV (wd X) A W fl fa) (tCons (tV (wd X) A W fl fb) tNil)) σ H Q := by
  obtain ⟨G, F, ρ, s, q⟩ := h
  refine ⟨G, F, ρ, s, (RP.bind q).imp fun x F1 H1 le1 s1 q1 v rv => ?_⟩
  refine ⟨G, F1, ρ, s1, (RP.bind q1).imp fun y F2 H2 le2 s2 q2 w rw' => ?_⟩
  cases hg : g x y with
  | ok z =>
    rw [hg] at q2
    obtain ⟨i, j, l, rfl, rfl, rfl, h⟩ := h0 x y z hg
    obtain rfl := rv.int s1
    obtain rfl := rw'.int s2
    exact h H2 Q (RP.ok q2 s2 _ (.int _))
  | exc e => exact absurd hg (ne x y e)
  | bad => rw [hg] at q2; exact q2.elim
theorem ne_max2 : NoEx dMax2 := by
  intro x y e h
  cases x <;> cases y <;> cases h
theorem ne_min2 : NoEx dMin2 := by
  intro x y e h
  cases x <;> cases y <;> cases h
theorem jd_max2 (hc : X.calm = true) (hg : Gl X "max") (hm : X.mg "max" = none) (ha : JV X A W fl a fa) (hb : JV X A W fl b fb)
    (hs : starEach [a, b] X.env = (false, eval a X.env) :: starEach [b] X.env := by rfl) (hs2 : starEach [b] X.env = (false, eval b X.env) :: starEach [] X.env := by rfl) (hpl : (backTo pos (starEach [b] X.env)).any (·.1) = false := by rfl) :
    JD X A W fl (.Call (.Name "max" p) [a, b] [] pos) (e2 dMax2 fa fb) := pe_mono (pe_callB (call_max2 hc) hg hm (by decide +kernel) (pa_cons ha (pa_cons hb pa_nil hs2) hs) (by decide) (by decide) hs hpl) fun _ _ _ h => call2_of (fun x y z h => by
  cases x <;> cases y <;> simp only [dMax2] at h <;> first | (cases h; done) | skip
  cases h
  exact ⟨_, _, _, rfl, rfl, rfl, fun H Q q => ⟨_, _, rfl, q⟩⟩) ne_max2 h
theorem jd_min2 (hc : X.calm = true) (hg : Gl X "min") (hm : X.mg "min" = none) (ha : JV X A W fl a fa) (hb : JV X A W fl b fb)
    (hs : starEach [a, b] X.env = (false, eval a X.env) :: starEach [b] X.env := by rfl) (hs2 : starEach [b] X.env = (false, eval b X.env) :: starEach [] X.env := by rfl) (hpl : (backTo pos (starEach [b] X.env)).any (·.1) = false := by rfl) :
    JD X A W fl (.Call (.Name "min" p) [a, b] [] pos) (e2 dMin2 fa fb) := pe_mono (pe_callB (call_min2 hc) hg hm (by decide +kernel) (pa_cons ha (pa_cons hb pa_nil hs2) hs) (by decide) (by decide) hs hpl) fun _ _ _ h => call2_of (fun x y z h => by
  cases x <;> cases y <;> simp only [dMin2] at h <;> first | (cases h; done) | skip
  cases h
  exact ⟨_, _, _, rfl, rfl, rfl, fun H Q q => ⟨_, _, rfl, q⟩⟩) ne_min2 h
end
end DL
/-! DLStmt -/
set_option Elab.async false
set_option linter.all false
set_option maxRecDepth 100000
set_option maxHeartbeats 2000000
/-! DLStmt: targets and statements. -/
namespace DL
open PySem PySem.Spec PyProof.Rows L2
variable [Tb]
/-! ### targets; vs: the slots that they may store -/
def GE (K : Wd) (G : Gs) (fl' : List (Nat × Kd)) (F : Hp) (vs : List Nat) (σ : L2.St) (r : R Env) (Q : L2.St → Hp → Prop) : Prop := match r with
  | .ok ρ' => ∀ F' σ' H', Le F F' → St K G fl' F' ρ' σ' H' → wipe σ' vs = wipe σ vs → Q σ' H'
  | _ => False
def tG (K : Wd) (fl fl' : List (Nat × Kd)) (vs : List Nat) (g : FG) : TG := fun v σ H Q => ∃ G F ρ d, St K G fl F ρ σ H ∧ Rep K F v d ∧ GE K G fl' F vs σ (g d ρ) Q
def tGs (K : Wd) (fl fl' : List (Nat × Kd)) (ws : List Nat) (g : List D → Env → R Env) : TGs := fun vs σ H Q => ∃ G F ρ ds, St K G fl F ρ σ H ∧ RepAll K F vs ds ∧ GE K G fl' F ws σ (g ds ρ) Q
/-- a pair that an iterator has just made -/
def tGp (K : Wd) (fl fl' : List (Nat × Kd)) (vs : List Nat) (g : FG) : TG := fun v σ H Q => ∃ G F ρ T x y dx dy, v = .ref T ∧ H T = some (.tup [x, y]) ∧ St K G fl F ρ σ H ∧ Rep K F x dx ∧ Rep K F y dy ∧ GE K G fl' F vs σ (g (.tuple [dx, dy]) ρ) Q
theorem pg_mono {X : Cx} {e : Expr} {t t' : TG} (h : PG X e t) (g : ∀ v σ H Q, t' v σ H Q → t v σ H Q) : PG X e t' := ⟨fun pins s σ H v u Q I r q => h.run pins s σ H v u Q I r (g v σ H Q q)⟩
theorem pgs_mono {X : Cx} {e : List Expr} {t t' : TGs} (h : PGs X e t) (g : ∀ v σ H Q, t' v σ H Q → t v σ H Q) : PGs X e t' := ⟨fun pins s σ H v u Q I r q => h.run pins s σ H v u Q I r (g v σ H Q q)⟩
abbrev JG (X : Cx) (fl fl' : List (Nat × Kd)) (vs : List Nat) (e : Expr) (g : FG) : Prop := PG X e (tG (wd X) fl fl' vs g)
abbrev JGs (X : Cx) (fl fl' : List (Nat × Kd)) (vs : List Nat) (e : List Expr) (g : List D → Env → R Env) : Prop := PGs X e (tGs (wd X) fl fl' vs g)
abbrev JGp (X : Cx) (fl fl' : List (Nat × Kd)) (vs : List Nat) (e : Expr) (g : FG) : Prop := PG X e (tGp (wd X) fl fl' vs g)
theorem GE.lift {K : Wd} {G : Gs} {fl' : List (Nat × Kd)} {F F1 : Hp} {vs : List Nat} {σ σ1 : L2.St} {r : R Env} {Q : L2.St → Hp → Prop} (h : GE K G fl' F vs σ r Q) (e : Le F F1) (ew : wipe σ1 vs = wipe σ vs) : GE K G fl' F1 vs σ1 r Q := by
  cases r with
  | ok ρ' => exact fun F' σ' H' le s w => h F' σ' H' (e.trans le) s (w.trans ew)
  | exc x => exact h
  | bad => exact h
/-- storing within vs -/
theorem wipe_set {σ : L2.St} {i : Nat} {x : Option V} : ∀ {vs : List Nat}, i ∈ vs → wipe (σ.set i x) vs = wipe σ vs
  | v :: vs, h => by
    unfold wipe
    by_cases hv : i ∈ vs
    · rw [wipe_set hv]
    · have e : v = i := by
        rcases List.mem_cons.mp h with e | e
        · exact e.symm
        · exact absurd e hv
      subst e
      have c : ∀ (us : List Nat), v ∉ us → (wipe (σ.set v x) us).set v none = (wipe σ us).set v none := by
        intro us
        induction us with
        | nil => intro _; unfold wipe; rw [List.set_set]
        | cons u us ih =>
          intro hn
          have hu : v ≠ u := fun z => hn (by simp [z])
          have hn2 : v ∉ us := fun z => hn (List.mem_cons_of_mem _ z)
          unfold wipe
          rw [List.set_comm _ _ (Ne.symm hu), ih hn2, List.set_comm _ _ hu]
      exact c vs hv
theorem wipeE_set {σ : Env} {i : Nat} {x : Option D} : ∀ {vs : List Nat}, i ∈ vs → wipeE (σ.set i x) vs = wipeE σ vs
  | v :: vs, h => by
    unfold wipeE
    by_cases hv : i ∈ vs
    · rw [wipeE_set hv]
    · have e : v = i := by
        rcases List.mem_cons.mp h with e | e
        · exact e.symm
        · exact absurd e hv
      subst e
      have c : ∀ (us : List Nat), v ∉ us → (wipeE (σ.set v x) us).set v none = (wipeE σ us).set v none := by
        intro us
        induction us with
        | nil => intro _; unfold wipeE; rw [List.set_set]
        | cons u us ih =>
          intro hn
          have hu : v ≠ u := fun z => hn (by simp [z])
          have hn2 : v ∉ us := fun z => hn (List.mem_cons_of_mem _ z)
          unfold wipeE
          rw [List.set_comm _ _ (Ne.symm hu), ih hn2, List.set_comm _ _ hu]
      exact c vs hv
/-- a target's denotation stores within vs -/
def GIn (vs : List Nat) (g : FG) : Prop := ∀ d ρ ρ', g d ρ = .ok ρ' → wipeE ρ' vs = wipeE ρ vs
def GsIn (vs : List Nat) (g : List D → Env → R Env) : Prop := ∀ ds ρ ρ', g ds ρ = .ok ρ' → wipeE ρ' vs = wipeE ρ vs
theorem gin_name {i : Nat} {vs : List Nat} (h : i ∈ vs := by decide) : GIn vs (DL.gName i) := fun d ρ ρ' e => by
  cases e
  exact wipeE_set h
theorem gsin_nil {vs : List Nat} : GsIn vs DL.gNil := fun ds ρ ρ' e => by
  cases ds <;> cases e
  rfl
theorem gsin_cons {vs : List Nat} {g : FG} {gs : List D → Env → R Env} (h1 : GIn vs g) (h2 : GsIn vs gs) : GsIn vs (DL.gCons g gs) := fun ds ρ ρ' e => by
  cases ds with
  | nil => cases e
  | cons d ds =>
    obtain ⟨ρ1, e1, e2⟩ := bind_ok e
    rw [h2 ds ρ1 ρ' e2, h1 d ρ ρ1 e1]
theorem gin_tup {vs : List Nat} {gs : List D → Env → R Env} (h : GsIn vs gs) : GIn vs (DL.gTup gs) := fun d ρ ρ' e => by
  cases d with
  | tuple ds => exact h ds ρ ρ' e
  | _ => cases e
section
variable {X : Cx} {A : Ex → Addr} {W : WX} {fl fl1 fl' flb : List (Nat × Kd)} {vs : List Nat} {a b c e tg : Expr} {fa fb fc f : FE} {pos : Pos} {k : Kd} {es : List Expr} {fr : FA} {ft fu : FT} {i : Nat} {x : Str}
theorem jg_name (hN : X.N.Nodup) (hi : X.N[i]? = some x := by rfl) (hx : Loc X.env.scope x := by first | exact Or.inl rfl | exact Or.inr rfl) (hf : X.fn x = true ∨ X.env.scope.names.lookup x = some .local := by first | exact .inl rfl | exact .inr rfl) (hfl : flNo fl i = fl' := by rfl) (hv : i ∈ vs := by decide) : JG X fl fl' vs (.Name x pos) (DL.gName i) := pg_mono (pg_name hN hi hx hf) fun v σ H Q ⟨G, F, ρ, d, s, r, q⟩ => by
  subst hfl
  exact q F _ H (Le.refl F) (s.set r) (wipe_set hv)
theorem jgs_nil : JGs X fl fl vs [] DL.gNil := pgs_mono pgs_nil fun vs σ H Q ⟨G, F, ρ, ds, s, r, q⟩ => by
  cases r with
  | nil => exact ⟨rfl, q F σ H (Le.refl F) s rfl⟩
  | cons r t => exact q.elim
theorem jgs_cons {g : FG} {gs : List D → Env → R Env} (h1 : JG X fl fl1 vs e g) (h2 : JGs X fl1 fl' vs es gs) (hs : (assignEach (e :: es) X.env).map (·.2) = assign e X.env :: (assignEach es X.env).map (·.2) := by rfl) : JGs X fl fl' vs (e :: es) (DL.gCons g gs) := pgs_mono (pgs_cons h1 h2 hs) fun vs σ H Q ⟨G, F, ρ, ds, s, r, q⟩ => by
  cases r with
  | nil => exact q.elim
  | @cons v vs d ds r t =>
    refine ⟨v, vs, rfl, G, F, ρ, d, s, r, ?_⟩
    simp only [DL.gCons] at q
    cases hg : g d ρ with
    | ok ρ1 =>
      rw [hg] at q
      exact fun F' σ' H' le s' w => ⟨G, F', ρ1, ds, s', t.mono le, q.lift le w⟩
    | exc x => rw [hg] at q; exact q.elim
    | bad => rw [hg] at q; exact q.elim
theorem jg_tup {gs : List D → Env → R Env} {n kk : Nat} (hc : X.calm = true) (h : JGs X fl fl' vs es gs) (hlen : ∀ ds ρ ρ', gs ds ρ = .ok ρ' → ds.length = n) (hn : (assignEach es X.env).length = n := by rfl) (hst : (assignEach es X.env).findIdx? (·.1) = none := by rfl) : JG X fl fl' vs (.Tuple es kk pos) (DL.gTup gs) := pg_mono (pg_tup hc h hn hst) fun v σ H Q ⟨G, F, ρ, d, s, r, q⟩ => by
  cases d with
  | tuple ds =>
    cases r with
    | @tup a xs _ ha ra =>
      refine ⟨a, xs, rfl, (s.c.tup ha).sq, ?_, G, F, ρ, ds, s, ra, q⟩
      simp only [DL.gTup] at q
      cases hg : gs ds ρ with
      | ok ρ1 => rw [ra.length]; exact hlen ds ρ ρ1 hg
      | exc x => rw [hg] at q; exact q.elim
      | bad => rw [hg] at q; exact q.elim
  | _ => exact q.elim
theorem jgp_tup {gs : List D → Env → R Env} {kk : Nat} (hc : X.calm = true) (h : JGs X fl fl' vs es gs) (hn : (assignEach es X.env).length = 2 := by rfl) (hst : (assignEach es X.env).findIdx? (·.1) = none := by rfl) : JGp X fl fl' vs (.Tuple es kk pos) (DL.gTup gs) := pg_mono (pg_tup hc h hn hst) fun v σ H Q ⟨G, F, ρ, T, x, y, dx, dy, ev, hT, s, rx, ry, q⟩ => by
  refine ⟨T, [x, y], ev, SqT.of hT, rfl, G, F, ρ, [dx, dy], s, .cons rx (.cons ry .nil), q⟩
/-- a, b = a list -/
def gLstD (r : List D → Env → R Env) : FG := fun d ρ => match d with
  | .list ds => r ds ρ
  | _ => .bad
theorem jg_lst {gs : List D → Env → R Env} {n kk : Nat} (hc : X.calm = true) (h : JGs X fl fl' vs es gs) (hlen : ∀ ds ρ ρ', gs ds ρ = .ok ρ' → ds.length = n) (hn : (assignEach es X.env).length = n := by rfl) (hst : (assignEach es X.env).findIdx? (·.1) = none := by rfl) : JG X fl fl' vs (.Tuple es kk pos) (gLstD gs) := pg_mono (pg_lst hc h hn hst) fun v σ H Q ⟨G, F, ρ, d, s, r, q⟩ => by
  cases d with
  | list ds =>
    cases r with
    | @lst a xs _ ha ra =>
      refine ⟨a, xs, rfl, s.c.sql ha, ?_, G, F, ρ, ds, s, ra, q⟩
      simp only [gLstD] at q
      cases hg : gs ds ρ with
      | ok ρ1 => rw [ra.length]; exact hlen ds ρ ρ1 hg
      | exc x => rw [hg] at q; exact q.elim
      | bad => rw [hg] at q; exact q.elim
  | _ => exact q.elim
theorem glen_nil : ∀ ds ρ ρ', DL.gNil ds ρ = .ok ρ' → ds.length = 0 := fun ds ρ ρ' h => by
  cases ds with
  | nil => rfl
  | cons d ds => cases h
theorem glen_cons {g : FG} {gs : List D → Env → R Env} {n : Nat} (h : ∀ ds ρ ρ', gs ds ρ = .ok ρ' → ds.length = n) : ∀ ds ρ ρ', DL.gCons g gs ds ρ = .ok ρ' → ds.length = n + 1 := fun ds ρ ρ' e => by
  cases ds with
  | nil => cases e
  | cons d ds =>
    obtain ⟨ρ1, _, e⟩ := bind_ok e
    rw [List.length_cons, h ds ρ1 ρ' e]
/-! ### statements -/
def SE (K : Wd) (A : Ex → Addr) (W : WX) (G : Gs) (flb fl' : List (Nat × Kd)) (F : Hp) (D : L2.Ends) (r : SR) : Prop := match r with
  | .nx ρ' => ∀ F' σ' H', Le F F' → St K G fl' F' ρ' σ' H' → D.nx σ' H'
  | .brk ρ' => ∀ F' σ' H', Le F F' → St K G flb F' ρ' σ' H' → D.bk σ' H'
  | .cnt ρ' => ∀ F' σ' H', Le F F' → St K G flb F' ρ' σ' H' → D.ct σ' H'
  | .ret d => ∀ v F' H', Le F F' → StC G F' H' → Rep K F' v d → D.rt v H'
  | .exc e => ∀ F' σ' H', Le F F' → StC G F' H' → W (.ref (A e)) none σ' H'
  | .bad => False
theorem SE.lift {K : Wd} {G : Gs} {F F1 : Hp} {D : L2.Ends} {r : SR} (h : SE K A W G flb fl' F D r) (e : Le F F1) : SE K A W G flb fl' F1 D r := by
  cases r with
  | nx ρ' => exact fun F' σ' H' le s => h F' σ' H' (e.trans le) s
  | brk ρ' => exact fun F' σ' H' le s => h F' σ' H' (e.trans le) s
  | cnt ρ' => exact fun F' σ' H' le s => h F' σ' H' (e.trans le) s
  | ret d => exact fun v F' H' le s => h v F' H' (e.trans le) s
  | exc x => exact fun F' σ' H' le s => h F' σ' H' (e.trans le) s
  | bad => exact h
def tS (K : Wd) (A : Ex → Addr) (W : WX) (fl flb fl' : List (Nat × Kd)) (f : FS) : TS := fun D σ H => ∃ G F ρ, St K G fl F ρ σ H ∧ SE K A W G flb fl' F D (f ρ)
abbrev JS (X : Cx) (A : Ex → Addr) (W : WX) (fl flb fl' : List (Nat × Kd)) (st : Stmt) (f : FS) : Prop := PS X st (tS (wd X) A W fl flb fl' f)
abbrev JSs (X : Cx) (A : Ex → Addr) (W : WX) (fl flb fl' : List (Nat × Kd)) (st : List Stmt) (f : FS) : Prop := PSs X st (tS (wd X) A W fl flb fl' f)
variable {st : Stmt} {sts sts2 : List Stmt} {fs gs : FS}
theorem jss_nil : JSs X A W fl flb fl [] sNext := pss_mono pss_nil fun D σ H ⟨G, F, ρ, s, q⟩ => q F σ H (Le.refl F) s
theorem jss_cons (h1 : JS X A W fl flb fl1 st fs) (h2 : JSs X A W fl1 flb fl' sts gs) : JSs X A W fl flb fl' (st :: sts) (sSeq fs gs) := pss_mono (pss_cons h1 h2) fun D σ H ⟨G, F, ρ, s, q⟩ => by
  refine ⟨G, F, ρ, s, ?_⟩
  simp only [sSeq] at q
  cases hf : fs ρ with
  | nx ρ1 =>
    rw [hf] at q
    exact fun F' σ' H' le s' => ⟨G, F', ρ1, s', q.lift le⟩
  | brk ρ1 => rw [hf] at q; exact q
  | cnt ρ1 => rw [hf] at q; exact q
  | ret d => rw [hf] at q; exact q
  | exc x => rw [hf] at q; exact q
  | bad => rw [hf] at q; exact q
theorem jss_one (h1 : JS X A W fl flb fl' st fs) : JSs X A W fl flb fl' [st] fs := pss_mono (pss_one h1) fun D σ H h => h
/-- the flags weakened ahead of a block -/
theorem jss_frz (i : Nat) (h : JSs X A W fl1 flb fl' sts fs) (hfl : flNo fl i = fl1 := by rfl) : JSs X A W fl flb fl' sts fs := pss_mono h fun D σ H ⟨G, F, ρ, s, q⟩ => by
  subst hfl
  obtain ⟨F', le, s'⟩ := s.freeze i
  exact ⟨G, F', ρ, s', q.lift le⟩
/-- slots forgotten ahead of a block -/
theorem jss_fgt (vs : List Nat) (h : JSs X A W fl flb fl' sts fs) : JSs X A W fl flb fl' sts (sSeq (sForget vs) fs) := pss_mono h fun D σ H ⟨G, F, ρ, s, q⟩ => ⟨G, F, wipeE ρ vs, s.forget vs, q⟩
theorem js_pass : JS X A W fl flb fl (.Pass pos) sNext := ps_mono ps_pass fun D σ H ⟨G, F, ρ, s, q⟩ => q F σ H (Le.refl F) s
theorem js_brk : JS X A W fl fl fl' (.Break pos) sBrk := ps_mono ps_break fun D σ H ⟨G, F, ρ, s, q⟩ => q F σ H (Le.refl F) s
theorem js_cnt : JS X A W fl fl fl' (.Continue pos) sCnt := ps_mono ps_continue fun D σ H ⟨G, F, ρ, s, q⟩ => q F σ H (Le.refl F) s
theorem js_doc {z j pos'} : JS X A W fl flb fl (.Expr (.Constant (.str z) j pos) pos') sNext := ps_mono ps_doc fun D σ H ⟨G, F, ρ, s, q⟩ => q F σ H (Le.refl F) s
/-- the flags of one's own objects that a value needs are none: handed out -/
theorem St.out {K : Wd} {G : Gs} {F H : Hp} {ρ : Env} {σ : L2.St} (s : St K G fl F ρ σ H) : StC G F H := s.c
theorem js_ret (h : JD X A W fl e f) : JS X A W fl flb fl' (.Return (some e) pos) (sRet f) := ps_mono (ps_ret h) fun D σ H ⟨G, F, ρ, s, q⟩ => by
  refine ⟨G, F, ρ, s, ?_⟩
  simp only [sRet] at q
  cases hf : f ρ with
  | ok d => rw [hf] at q; exact fun F' H' le s' v r => q v F' H' le s'.c r
  | exc x => rw [hf] at q; exact fun F' H' le c => q F' σ H' le c
  | bad => rw [hf] at q; exact q
theorem js_retN : JS X A W fl flb fl' (.Return none pos) sRetN := ps_mono ps_retN fun D σ H ⟨G, F, ρ, s, q⟩ => q .non F H (Le.refl F) s.c .non
theorem js_if (ht : JT X A W fl c ft) (ha : JSs X A W fl flb fl' sts fs) (hb : JSs X A W fl flb fl' sts2 gs) : JS X A W fl flb fl' (.If c sts sts2 pos) (sIf ft fs gs) := ps_mono (ps_if ht ha hb) fun D σ H ⟨G, F, ρ, s, q⟩ => by
  refine ⟨G, F, ρ, s, ?_⟩
  simp only [sIf] at q
  cases hf : ft ρ with
  | ok b =>
    rw [hf] at q
    cases b with
    | true => exact fun F' H' le s' => ⟨G, F', ρ, s', SE.lift q le⟩
    | false => exact fun F' H' le s' => ⟨G, F', ρ, s', SE.lift q le⟩
  | exc x => rw [hf] at q; exact fun F' H' le c => q F' σ H' le c
  | bad => rw [hf] at q; exact q
theorem js_asg {g : FG} (he : JD X A W fl e f) (hg : JG X fl fl' vs tg g) (hs : swapsWithSole [tg] e pos.line X.env = pure false := by rfl) (hw : swappedStores [tg] e X.env = pure none := by rfl) (h1 : (assignEach [tg] X.env).map (·.2) = [assign tg X.env] := by rfl) : JS X A W fl flb fl' (.Assign [tg] e pos) (sAsg f g) := ps_mono (ps_asg he hg hs hw h1) fun D σ H ⟨G, F, ρ, s, q⟩ => by
  refine ⟨G, F, ρ, s, ?_⟩
  simp only [sAsg] at q
  cases hf : f ρ with
  | ok d =>
    rw [hf] at q
    refine fun F' H' le s' v r => ⟨G, F', ρ, d, s', r, ?_⟩
    simp only at q
    cases hg : g d ρ with
    | ok ρ1 => rw [hg] at q; exact fun F2 σ2 H2 le2 s2 _ => q F2 σ2 H2 (le.trans le2) s2
    | exc x => rw [hg] at q; exact q.elim
    | bad => rw [hg] at q; exact q.elim
  | exc x =>
    rw [hf] at q
    exact fun F' H' le c => q F' σ H' le c
  | bad => rw [hf] at q; exact q
/-- a, b = x, y -/
theorem aCons2 {ρ : Env} : aCons fa (aCons fb aNil) ρ = (fa ρ).bind fun x => (fb ρ).bind fun y => .ok [x, y] := by
  unfold aCons aNil
  cases fa ρ <;> simp only [R.bind_ok, R.bind_exc, R.bind_bad]
  cases fb ρ <;> rfl
theorem js_par {i j : Nat} {y : Str} {px py pt : Pos} {kt k2 pt2} (hc : X.calm = true) (hN : X.N.Nodup) (ha : JD X A W fl a fa) (hb : JD X A W fl b fb) (hi : X.N[i]? = some x := by rfl) (hj : X.N[j]? = some y := by rfl) (hij : i ≠ j := by decide)
    (hx : X.env.scope.names.lookup x = some .local := by rfl) (hy : X.env.scope.names.lookup y = some .local := by rfl) (hw : swappedStores [.Tuple [.Name x px, .Name y py] kt pt] (.Tuple [a, b] k2 pt2) X.env = pure (some [x, y]) := by rfl)
    (hs : swapsWithSole [.Tuple [.Name x px, .Name y py] kt pt] (.Tuple [a, b] k2 pt2) pos.line X.env = pure false := by rfl) (hfl : flNo (flNo fl i) j = fl' := by rfl)
    (hs1 : starEach [a, b] X.env = (false, eval a X.env) :: starEach [b] X.env := by rfl) (hs2 : starEach [b] X.env = (false, eval b X.env) :: starEach [] X.env := by rfl) :
    JS X A W fl flb fl' (.Assign [.Tuple [.Name x px, .Name y py] kt pt] (.Tuple [a, b] k2 pt2) pos) (sPar i j fa fb) := ps_mono (ps_par hc hN hi hj hij hx hy (ja_cons ha (ja_cons hb ja_nil hs2) hs1) hw hs) fun D σ H ⟨G, F, ρ, s, q⟩ => by
  subst hfl
  refine ⟨G, F, ρ, s, ?_⟩
  rw [aCons2]
  simp only [sPar] at q
  cases hf : fa ρ with
  | ok d =>
    rw [hf] at q
    simp only [R.bind_ok] at q ⊢
    cases hg : fb ρ with
    | ok d2 =>
      rw [hg] at q
      simp only [R.bind_ok] at q ⊢
      intro F' H' le s' vs r
      cases r with
      | @cons v _ _ _ r1 t =>
        cases t with
        | @cons w _ _ _ r2 t =>
          cases t
          refine ⟨v, w, rfl, ?_⟩
          exact q F' _ H' le ((s'.set r1).set r2)
    | exc x => rw [hg] at q; exact fun F' H' le c => q F' σ H' le c
    | bad => rw [hg] at q; exact q
  | exc x => rw [hf] at q; exact fun F' H' le c => q F' σ H' le c
  | bad => rw [hf] at q; exact q
/-- name = a new object, of one's own from now on -/
theorem js_setN {y : Str} {py : Pos} (hN : X.N.Nodup) (he : JN X A W fl k e f) (hi : X.N[i]? = some y := by rfl) (hx : Loc X.env.scope y := by first | exact Or.inl rfl | exact Or.inr rfl) (hs : swapsWith e (some (.Name y py)) pos.line X.env = pure false := by rfl) (hf : X.fn y = true ∨ X.env.scope.names.lookup y = some .local := by first | exact .inl rfl | exact .inr rfl)
    (hfl : (i, k) :: flNo fl i = fl' := by rfl) : JS X A W fl flb fl' (.Assign [.Name y py] e pos) (sAsg f (DL.gName i)) := ps_mono (ps_set hN hi hx he hs hf) fun D σ H ⟨G, F, ρ, s, q⟩ => by
  subst hfl
  refine ⟨G, F, ρ, s, ?_⟩
  simp only [sAsg] at q
  cases hf : f ρ with
  | ok d =>
    rw [hf] at q
    refine fun F' H' le s' p o hp hk r => ?_
    exact q F' _ _ le ((s'.allocZ hp hk.noTbl).setFresh (s'.c.znone hp) hk r)
  | exc x => rw [hf] at q; exact fun F' H' le c => q F' σ H' le c
  | bad => rw [hf] at q; exact q
/-- a value dropped -/
theorem js_expr (he : JD X A W fl e f) (hs : swapsWith e none pos.line X.env = pure false := by rfl) : JS X A W fl flb fl (.Expr e pos) (sDrop f) := ps_mono (ps_expr he hs) fun D σ H ⟨G, F, ρ, s, q⟩ => by
  refine ⟨G, F, ρ, s, ?_⟩
  simp only [sDrop] at q
  cases hf : f ρ with
  | ok d => rw [hf] at q; exact fun F' H' le s' v r => q F' σ H' le s'
  | exc x => rw [hf] at q; exact fun F' H' le c => q F' σ H' le c
  | bad => rw [hf] at q; exact q
end
end DL
/-! DLLoop -/
set_option Elab.async false
set_option linter.all false
set_option maxRecDepth 100000
set_option maxHeartbeats 2000000
/-! DLLoop: what is walked, for, while, comprehensions. -/
namespace DL
open PySem PySem.Spec PyProof.Rows L2
variable [Tb]
/-- what a turn gives: the next of ds, or a new pair -/
def YD (K : Wd) (pr : Bool) (F : Hp) (ds : List D) (i : Nat) (H : Hp) (x : V) (H' : Hp) : Prop := match pr with
  | false => H' = H ∧ ∃ d, ds[i]? = some d ∧ Rep K F x d
  | true => ∃ T a b da db, x = .ref T ∧ H T = none ∧ H' = upd H T (.tup [a, b]) ∧ ds[i]? = some (.tuple [da, db]) ∧ Rep K F a da ∧ Rep K F b db
def WalkD (K : Wd) (pr : Bool) (F : Hp) (J : It) (ds : List D) : Prop := ∃ (Gd : Hp → Prop) (Y : Nat → Hp → V → Hp → Prop), Walk J ds.length Gd Y ∧ (∀ G F' H, Le F F' → StC G F' H → Gd H) ∧ ∀ i H x H', i < ds.length → Y i H x H' → YD K pr F ds i H x H'
def tI (K : Wd) (A : Ex → Addr) (W : WX) (fl : List (Nat × Kd)) (pr : Bool) (f : FA) : TI := fun σ H R => ∃ G F ρ, St K G fl F ρ σ H ∧ RP K A W G fl ρ σ F (f ρ) fun ds F' H' => ∀ J, WalkD K pr F' J ds → R J H'
abbrev JI (X : Cx) (A : Ex → Addr) (W : WX) (fl : List (Nat × Kd)) (pr : Bool) (tg e : Expr) (f : FA) : Prop := PI X tg e (tI (wd X) A W fl pr f)
theorem pi_mono {X : Cx} {tg e : Expr} {t t' : TI} (h : PI X tg e t) (g : ∀ σ H R, t' σ H R → t σ H R) : PI X tg e t' := ⟨fun pins s σ H R I q => h.run pins s σ H R I (g σ H R q)⟩
/-- a target, by what is walked -/
def tGa (K : Wd) (pr : Bool) (fl fl' : List (Nat × Kd)) (vs : List Nat) (g : FG) : TG := match pr with
  | false => tG K fl fl' vs g
  | true => tGp K fl fl' vs g
abbrev JGa (X : Cx) (pr : Bool) (fl fl' : List (Nat × Kd)) (vs : List Nat) (e : Expr) (g : FG) : Prop := PG X e (tGa (wd X) pr fl fl' vs g)
theorem tga_of {K : Wd} {pr : Bool} {fl fl' : List (Nat × Kd)} {vs : List Nat} {g : FG} {G : Gs} {F F1 : Hp} {ρ : Env} {σ : L2.St} {H H' : Hp} {ds : List D} {i : Nat} {x : V} {Q : L2.St → Hp → Prop} (y : YD K pr F1 ds i H x H') (le : Le F1 F) (s : St K G fl F ρ σ H) (q : ∀ d, ds[i]? = some d → GE K G fl' F vs σ (g d ρ) Q) : tGa K pr fl fl' vs g x σ H' Q := by
  cases pr with
  | false =>
    obtain ⟨rfl, d, h, r⟩ := y
    exact ⟨G, F, ρ, d, s, r.mono le, q d h⟩
  | true =>
    obtain ⟨T, a, b, da, db, rfl, hT, rfl, h, ra, rb⟩ := y
    refine ⟨G, F, ρ, T, a, b, da, db, rfl, upd_same, ?_, ra.mono le, rb.mono le, q _ h⟩
    exact ⟨⟨fun c o e => by
        obtain ⟨n, l⟩ := s.c.le c o e
        exact ⟨n, l.mono fun w z => by rw [upd_ne (ne_of_none z hT)]; exact z⟩, fun c o e => by
        obtain ⟨h1, h2⟩ := s.c.zk c o e
        exact ⟨h1, by rw [upd_ne (ne_of_none h2 hT)]; exact h2⟩, s.c.zt, fun c l => by
        obtain ⟨ob, o, e⟩ := s.c.lk c l
        exact ⟨ob, o, by rw [upd_ne (ne_of_none e hT)]; exact e⟩, tabs_new s.c.tabs hT, s.c.lf⟩, s.tt, s.len, s.sh, fun j k d m e => by
        obtain ⟨p, o, g1, g2, g3, g4, g5, g6⟩ := s.ow j k d m e
        exact ⟨p, o, g1, g2, g3, g4.mono fun w z => by rw [upd_ne (ne_of_none z hT)]; exact z, g5, g6⟩, s.ap⟩
section
variable {X : Cx} {A : Ex → Addr} {W : WX} {fl fl1 fl' flb : List (Nat × Kd)} {vs : List Nat} {a b c e tg : Expr} {fa fb fc f : FE} {pos : Pos} {k : Kd} {es : List Expr} {fi : FA} {ft fu : FT} {i : Nat} {x : Str} {pr : Bool} {g : FG} {fs : FS} {body : List Stmt} {iter : Expr}
/-! ### what is walked -/
def iAny (K : PySem.W.Frag) (tl : TE) : TI := fun σ H R => tl σ H fun x H1 => ∃ a, x = .ref a ∧ ((∃ xs, SqL K H1 a xs ∧ R (Itl K a) H1) ∨ (∃ xs, SqT K H1 a xs ∧ R (Itt K a) H1))
theorem pi_any {l : Expr} {tl : TE} (hl : PE X l tl) : PI X tg l (iAny X.K tl) := by
  refine ⟨fun pins s σ H R I h => ?_⟩
  refine thn (hl.run pins s σ H _ I h) fun v s1 ⟨x, H1, I1, r1, q1⟩ => ?_
  obtain ⟨a, e, q1⟩ := q1
  subst e
  cases r1
  rcases q1 with ⟨xs, hq, q⟩ | ⟨xs, hq, q⟩
  · obtain ⟨its, rv, p, hz⟩ := I1.list hq
    refine wpAny_pyIter_list p.isList ?_
    refine ⟨s1.heap.objs.size, [s1.heap.objs.size], _, _, H1, rfl, I1.kept (t' := s1.toks) fun b o e => Heap.get?_push_of_some _ e, turn_list a _, ⟨_, Heap.get?_push_size _ rfl, rfl, rfl⟩, fun b hb => ?_, q⟩
    have e : b = s1.heap.objs.size := by simpa using hb
    subst e
    exact I1.fpOk (Nat.le_refl _) (I1.hok.fresh (Nat.le_refl _))
  · obtain ⟨its, rv, p, hz⟩ := I1.tuple hq
    refine wpAny_pyIter_tuple (show s1.heap.IsTuple a its.toArray from p) ?_
    refine ⟨s1.heap.objs.size, [s1.heap.objs.size], _, _, H1, rfl, I1.kept (t' := s1.toks) fun b o e => Heap.get?_push_of_some _ e, turn_tuple a _, ⟨_, Heap.get?_push_size _ rfl, rfl, rfl⟩, fun b hb => ?_, q⟩
    have e : b = s1.heap.objs.size := by simpa using hb
    subst e
    exact I1.fpOk (Nat.le_refl _) (I1.hok.fresh (Nat.le_refl _))
theorem yat_d {K : Wd} {F : Hp} {xs : List V} {ds : List D} (r : RepAll K F xs ds) {i : Nat} {H H' : Hp} {x : V} (y : YAt xs i H x H') : YD K false F ds i H x H' := by
  obtain ⟨rfl, y⟩ := y
  exact ⟨rfl, r.getV y⟩
theorem ji_seq (h : JD X A W fl e f) : JI X A W fl false tg e (DL.iSeq f) := pi_mono (pi_any h) fun σ H Z ⟨G, F, ρ, s, q⟩ => by
  refine ⟨G, F, ρ, s, (RP.bind q).imp fun d F1 H1 le1 s1 q1 v rv => ?_⟩
  cases d with
  | list ds =>
    cases rv with
    | @lst p xs _ hp r =>
      refine ⟨p, rfl, .inl ⟨xs, s1.c.sql hp, ?_⟩⟩
      refine q1 F1 H1 (Le.refl _) s1 _ ⟨fun H => SqL X.K H p xs, YAt xs, ?_, fun G F' H le c => c.sql (le.sql hp), fun i H x H' hi y => yat_d r y⟩
      rw [← r.length]
      exact walk_list
  | tuple ds =>
    cases rv with
    | @tup p xs _ hp r =>
      refine ⟨p, rfl, .inr ⟨xs, (s1.c.tup hp).sq, ?_⟩⟩
      refine q1 F1 H1 (Le.refl _) s1 _ ⟨fun H => SqT X.K H p xs, YAt xs, ?_, fun G F' H le c => (c.tup (le.tupAt hp)).sq, fun i H x H' hi y => yat_d r y⟩
      rw [← r.length]
      exact walk_tup
  | none => exact q1.elim
  | bool b => exact q1.elim
  | int i => exact q1.elim
  | str z => exact q1.elim
  | dict kvs => exact q1.elim
theorem rangeD_length {lo : Int} {n : Nat} : (rangeD lo n).length = n := by unfold rangeD; simp
theorem rangeD_get {lo : Int} {n i : Nat} (h : i < n) : (rangeD lo n)[i]? = some (.int (lo + (i : Int))) := by unfold rangeD; simp [h]
theorem range_d {K : Wd} {F : Hp} {lo : Int} {n : Nat} : WalkD K false F (Itr lo n) (rangeD lo n) := ⟨fun _ => True, _, by rw [rangeD_length]; exact walk_range, fun _ _ _ _ _ => True.intro, fun i H x H' hi y => by
  obtain ⟨rfl, rfl⟩ := y
  rw [rangeD_length] at hi
  exact ⟨rfl, _, rangeD_get hi, .int _⟩⟩
theorem aCons1 {ρ : Env} : aCons fa aNil ρ = (fa ρ).bind fun x => .ok [x] := by
  unfold aCons aNil
  cases fa ρ <;> rfl
theorem lim_62 {n : Int} (h : n ≤ (lim : Nat)) : n < 2 ^ 62 := Int.lt_of_le_of_lt h (by decide)
theorem lim_62' {n : Int} (h : -((lim : Nat) : Int) ≤ n) : -(2 ^ 62) ≤ n := Int.le_trans (by decide) h
theorem ji_rng1 {p : Pos} (ha : JD X A W fl a fa) (hg : Gl X "range") (hm : X.mg "range" = none) (hs : starEach [a] X.env = [(false, eval a X.env)] := by rfl) : JI X A W fl false tg (.Call (.Name "range" p) [a] [] pos) (DL.iRng1 fa) := pi_mono (pi_range1 hg hm (ja_cons ha ja_nil hs) hs) fun σ H Z ⟨G, F, ρ, s, q⟩ => by
  refine ⟨G, F, ρ, s, ?_⟩
  rw [aCons1]
  simp only [DL.iRng1] at q
  cases hf : fa ρ with
  | ok d =>
    rw [hf] at q
    simp only [R.bind_ok] at q ⊢
    intro F' H' le s' vs rv
    cases rv with
    | cons r t =>
      cases t
      cases d with
      | int n =>
        cases r
        by_cases hn : -((lim : Nat) : Int) ≤ n ∧ n ≤ (lim : Nat)
        · simp only [if_pos hn] at q
          exact ⟨n, rfl, lim_62' hn.1, lim_62 hn.2, q F' H' le s' _ range_d⟩
        · simp only [if_neg hn] at q; exact q.elim
      | _ => exact q.elim
  | exc x => rw [hf] at q; exact q
  | bad => rw [hf] at q; exact q
theorem ji_rng2 {p : Pos} (ha : JD X A W fl a fa) (hb : JD X A W fl b fb) (hg : Gl X "range") (hm : X.mg "range" = none) (hs : starEach [a, b] X.env = [(false, eval a X.env), (false, eval b X.env)] := by rfl) (hs2 : starEach [b] X.env = [(false, eval b X.env)] := by rfl) : JI X A W fl false tg (.Call (.Name "range" p) [a, b] [] pos) (DL.iRng2 fa fb) := pi_mono (pi_range2 hg hm (ja_cons ha (ja_cons hb ja_nil hs2) (hs.trans (by rw [hs2]))) hs hs2) fun σ H Z ⟨G, F, ρ, s, q⟩ => by
  refine ⟨G, F, ρ, s, ?_⟩
  rw [aCons2]
  simp only [DL.iRng2] at q
  cases hf : fa ρ with
  | ok d =>
    rw [hf] at q
    simp only [R.bind_ok] at q ⊢
    cases hf2 : fb ρ with
    | ok d2 =>
      rw [hf2] at q
      simp only [R.bind_ok] at q ⊢
      intro F' H' le s' vs rv
      cases rv with
      | cons r t =>
        cases t with
        | cons r2 t =>
          cases t
          cases d with
          | int n =>
            cases d2 with
            | int m =>
              cases r
              cases r2
              by_cases hn : -(lim : Int) ≤ n ∧ n ≤ lim ∧ m ≤ lim ∧ -(lim : Int) ≤ m
              · simp only [if_pos hn] at q
                exact ⟨n, m, rfl, ⟨lim_62' hn.1, lim_62 hn.2.1, lim_62' hn.2.2.2, lim_62 hn.2.2.1⟩, q F' H' le s' _ range_d⟩
              · simp only [if_neg hn] at q; exact q.elim
            | _ => exact q.elim
          | _ => exact q.elim
    | exc x => rw [hf2] at q; exact q
    | bad => rw [hf2] at q; exact q
  | exc x => rw [hf] at q; exact q
  | bad => rw [hf] at q; exact q
theorem enumD_length : ∀ {ds : List D} {k : Nat}, (enumD k ds).length = ds.length
  | [], _ => rfl
  | _ :: r, k => congrArg (· + 1) (enumD_length (ds := r) (k := k + 1))
theorem enumD_get : ∀ {ds : List D} {k i : Nat} {d : D}, ds[i]? = some d → (enumD k ds)[i]? = some (.tuple [.int ((k + i : Nat) : Int), d])
  | [], _, _, _, h => by simp at h
  | x :: r, k, 0, d, h => by
    simp at h; subst h
    simp [enumD]
  | x :: r, k, i + 1, d, h => by
    have ih := enumD_get (k := k + 1) (by simpa using h : r[i]? = some d)
    rw [show k + 1 + i = k + (i + 1) by omega] at ih
    simpa [enumD] using ih
theorem zipD_length : ∀ {ds es : List D}, (zipD ds es).length = min ds.length es.length
  | [], es => by cases es <;> simp [zipD]
  | _ :: _, [] => by simp [zipD]
  | _ :: r, _ :: t => by simp [zipD, zipD_length (ds := r) (es := t)]
theorem zipD_get : ∀ {ds es : List D} {i : Nat} {d e : D}, ds[i]? = some d → es[i]? = some e → (zipD ds es)[i]? = some (.tuple [d, e])
  | [], _, _, _, _, h, _ => by simp at h
  | _ :: _, [], _, _, _, _, h => by simp at h
  | x :: r, y :: t, 0, d, e, h, h2 => by
    simp at h h2; subst h; subst h2
    rfl
  | x :: r, y :: t, i + 1, d, e, h, h2 => by
    simpa [zipD] using zipD_get (by simpa using h : r[i]? = some d) (by simpa using h2 : t[i]? = some e)
theorem ji_enumL {es : List Expr} {kk : Nat} {tpos p : Pos} (ha : JD X A W fl a fa) (hl : ∀ ρ d, fa ρ = .ok d → isT d = false) (hg : Gl X "enumerate") (hm : X.mg "enumerate" = none) (hs : starEach [a] X.env = [(false, eval a X.env)] := by rfl) : JI X A W fl true (.Tuple es kk tpos) (.Call (.Name "enumerate" p) [a] [] pos) (DL.iEnum fa) := pi_mono (pi_enum hg hm (ja_cons ha ja_nil hs) hs) fun σ H Z ⟨G, F, ρ, s, q⟩ => by
  refine ⟨G, F, ρ, s, ?_⟩
  rw [aCons1]
  simp only [DL.iEnum] at q
  cases hf : fa ρ with
  | ok d =>
    rw [hf] at q
    simp only [R.bind_ok] at q ⊢
    intro F' H' le s' vs rv
    cases rv with
    | cons r t =>
      cases t
      cases d with
      | list ds =>
        cases r with
        | @lst p xs _ hp r =>
          refine ⟨p, xs, rfl, s'.c.sql hp, ?_⟩
          refine q F' H' le s' _ ⟨fun H => SqL X.K H p xs, YPair (fun i => some (.int (i : Nat))) (fun i => xs[i]?), ?_, fun G F' H le c => c.sql (le.sql hp), fun i H x H' hi y => ?_⟩
          · rw [enumD_length, ← r.length]
            exact walk_enum
          · obtain ⟨T, a, b, h1, h2, h3, h4, h5⟩ := y
            cases h4
            obtain ⟨d, e1, e2⟩ := r.getV h5
            have z := enumD_get (k := 0) e1
            rw [Nat.zero_add] at z
            exact ⟨T, _, b, _, d, h1, h2, h3, z, .int _, e2⟩
      | tuple ds => exact absurd (hl ρ _ hf) (by simp [isT])
      | _ => exact q.elim
  | exc x => rw [hf] at q; exact q
  | bad => rw [hf] at q; exact q
theorem walk_zipT {K : PySem.W.Frag} {a b : Addr} {xs ys : List V} {n : Nat} (hn : n = min xs.length ys.length) : Walk (RZ.ItzT K a b) n (fun H => SqT K H a xs ∧ SqT K H b ys) (YPair (fun i => xs[i]?) (fun i => ys[i]?)) := by
  subst hn
  refine ⟨fun i _ hi q => ?_, fun _ q => ⟨xs, ys, q.1, q.2, by omega⟩, fun i H v H' _ q y => ?_⟩
  · have h1 : i < xs.length := by omega
    have h2 : i < ys.length := by omega
    exact ⟨xs, ys, xs[i], ys[i], q.1, q.2, by simp [h1], by simp [h2]⟩
  · obtain ⟨T, x, z, h1, h2, h3, h4, h5⟩ := y
    exact ⟨T, x, z, h1, h2, h3, h4 xs q.1, h5 ys q.2⟩
theorem ypair_d {K : Wd} {F : Hp} {xs ys : List V} {ds es : List D} (r : RepAll K F xs ds) (r2 : RepAll K F ys es) {i : Nat} {H H' : Hp} {x : V} (y : YPair (fun i => xs[i]?) (fun i => ys[i]?) i H x H') : YD K true F (zipD ds es) i H x H' := by
  obtain ⟨T, a, b, h1, h2, h3, h4, h5⟩ := y
  obtain ⟨d, e1, e2⟩ := r.getV h4
  obtain ⟨d', e3, e4⟩ := r2.getV h5
  exact ⟨T, a, b, d, d', h1, h2, h3, zipD_get e1 e3, e2, e4⟩
theorem ji_zip {es : List Expr} {kk : Nat} {tpos p : Pos} (ha : JD X A W fl a fa) (hb : JD X A W fl b fb) (hg : Gl X "zip") (hm : X.mg "zip" = none) (hs : starEach [a, b] X.env = (false, eval a X.env) :: starEach [b] X.env := by rfl) (hs2 : starEach [b] X.env = (false, eval b X.env) :: starEach [] X.env := by rfl) (hpl : (backTo pos (starEach [b] X.env)).any (·.1) = false := by rfl) : JI X A W fl true (.Tuple es kk tpos) (.Call (.Name "zip" p) [a, b] [] pos) (DL.iZip fa fb) := pi_mono (RZ.pi_zipA hg hm (ja_cons ha (ja_cons hb ja_nil hs2) hs) hs hpl) fun σ H Z ⟨G, F, ρ, s, q⟩ => by
  refine ⟨G, F, ρ, s, ?_⟩
  rw [aCons2]
  simp only [DL.iZip] at q
  cases hf : fa ρ with
  | ok d =>
    rw [hf] at q
    simp only [R.bind_ok] at q ⊢
    cases hf2 : fb ρ with
    | ok d2 =>
      rw [hf2] at q
      simp only [R.bind_ok] at q ⊢
      intro F' H' le s' vs rv
      cases rv with
      | cons r t =>
        cases t with
        | cons r2 t =>
          cases t
          cases d with
          | list ds =>
            cases d2 with
            | list ds2 =>
              cases r with
              | @lst p1 xs _ hp r =>
                cases r2 with
                | @lst p2 ys _ hp2 r2 =>
                  refine ⟨p1, p2, xs, ys, rfl, .inl ⟨s'.c.sql hp, s'.c.sql hp2, q F' H' le s' _ ⟨fun H => SqL X.K H p1 xs ∧ SqL X.K H p2 ys, YPair (fun i => xs[i]?) (fun i => ys[i]?), walk_zip (by rw [zipD_length, r.length, r2.length]), fun G F' H le c => ⟨c.sql (le.sql hp), c.sql (le.sql hp2)⟩, fun i H x H' hi y => ypair_d r r2 y⟩⟩⟩
            | _ => exact q.elim
          | tuple ds =>
            cases d2 with
            | tuple ds2 =>
              cases r with
              | @tup p1 xs _ hp r =>
                cases r2 with
                | @tup p2 ys _ hp2 r2 =>
                  refine ⟨p1, p2, xs, ys, rfl, .inr ⟨(s'.c.tup hp).sq, (s'.c.tup hp2).sq, q F' H' le s' _ ⟨fun H => SqT X.K H p1 xs ∧ SqT X.K H p2 ys, YPair (fun i => xs[i]?) (fun i => ys[i]?), walk_zipT (by rw [zipD_length, r.length, r2.length]), fun G F' H le c => ⟨(c.tup (le.tupAt hp)).sq, (c.tup (le.tupAt hp2)).sq⟩, fun i H x H' hi y => ypair_d r r2 y⟩⟩⟩
            | _ => exact q.elim
          | _ => exact q.elim
    | exc x => rw [hf2] at q; exact q
    | bad => rw [hf2] at q; exact q
  | exc x => rw [hf] at q; exact q
  | bad => rw [hf] at q; exact q
/-! ### for -/
theorem js_for (hp : PassesOwn (model X.prog X.w) X.A X.env X.xe) (hc : X.calm = true) (hi : JI X A W fl pr tg iter fi) (hg : JGa X pr fl fl1 vs tg g) (hb : JSs X A W fl1 fl fl body fs) (hs : ∀ x, foldedSetIterable iter X.env x = pure x := by intro _; rfl) : JS X A W fl flb fl (.For tg iter body [] pos) (sFor fi g fs) := ps_mono (ps_for hp hc hi hg hb hs) fun D σ H ⟨G, F, ρ, s, q⟩ => by
  refine ⟨G, F, ρ, s, ?_⟩
  simp only [sFor] at q
  cases hf : fi ρ with
  | exc x => rw [hf] at q; exact fun F' H' le c => q F' σ H' le c
  | bad => rw [hf] at q; exact q
  | ok ds =>
    rw [hf] at q
    intro F1 H1 le1 s1 J ⟨Gd, Y, w, gd, yd⟩
    refine for_it w (fun i σ H => ∃ F2 ρ2, Le F1 F2 ∧ St (wd X) G fl F2 ρ2 σ H ∧ SE (wd X) A W G flb fl F2 D (forL g fs (ds.drop i) ρ2)) ⟨F1, ρ, Le.refl _, s1, SE.lift q le1⟩ (fun i σ H hi ⟨F2, ρ2, le2, s2, q2⟩ => gd G F2 H le2 s2.c) (fun i x σ H H' hi ⟨F2, ρ2, le2, s2, q2⟩ y => ?_) (fun σ H ⟨F2, ρ2, le2, s2, q2⟩ => ?_)
    · have hd : ds.drop i = ds[i] :: ds.drop (i + 1) := List.drop_eq_getElem_cons hi
      refine tga_of (yd i H x H' hi y) le2 s2 fun d hd' => ?_
      rw [List.getElem?_eq_getElem hi] at hd'
      cases hd'
      rw [hd] at q2
      simp only [forL] at q2
      cases hg : g ds[i] ρ2 with
      | exc x => rw [hg] at q2; exact q2.elim
      | bad => rw [hg] at q2; exact q2.elim
      | ok ρ3 =>
        rw [hg] at q2
        refine fun F3 σ3 H3 le3 s3 _ => ⟨G, F3, ρ3, s3, ?_⟩
        simp only at q2
        cases hb : fs ρ3 with
        | nx ρ4 =>
          rw [hb] at q2
          exact fun F4 σ4 H4 le4 s4 => ⟨F4, ρ4, le2.trans (le3.trans le4), s4, SE.lift q2 (le3.trans le4)⟩
        | cnt ρ4 =>
          rw [hb] at q2
          exact fun F4 σ4 H4 le4 s4 => ⟨F4, ρ4, le2.trans (le3.trans le4), s4, SE.lift q2 (le3.trans le4)⟩
        | brk ρ4 =>
          rw [hb] at q2
          exact fun F4 σ4 H4 le4 s4 => q2 F4 σ4 H4 (le3.trans le4) s4
        | ret d =>
          rw [hb] at q2
          exact fun v F4 H4 le4 c4 r => q2 v F4 H4 (le3.trans le4) c4 r
        | exc x =>
          rw [hb] at q2
          exact fun F4 σ4 H4 le4 c4 => q2 F4 σ4 H4 (le3.trans le4) c4
        | bad => rw [hb] at q2; exact q2
    · rw [List.drop_eq_nil_of_le (Nat.le_refl _)] at q2
      exact q2 F2 σ H (Le.refl _) s2
/-! ### while, n turns at most -/
theorem js_while (n : Nat) (hp : PassesOwn (model X.prog X.w) X.A X.env X.xe) (ht : JT X A W fl c ft) (hb : JSs X A W fl fl fl body fs) : JS X A W fl flb fl (.While c body [] pos) (sWhile n ft fs) := ps_mono (ps_while hp ht hb) fun D σ H ⟨G, F, ρ, s, q⟩ => by
  refine ⟨fun m σ H => ∃ F2 ρ2, Le F F2 ∧ St (wd X) G fl F2 ρ2 σ H ∧ SE (wd X) A W G flb fl F2 D (whileN ft fs m ρ2), ⟨n, F, ρ, Le.refl _, s, q⟩, ?_⟩
  rintro m σ H ⟨F2, ρ2, le2, s2, q2⟩
  refine ⟨G, F2, ρ2, s2, ?_⟩
  cases m with
  | zero => exact q2.elim
  | succ m =>
    simp only [whileN] at q2
    cases ht : ft ρ2 with
    | exc x => rw [ht] at q2; exact fun F' H' le c => q2 F' σ H' le c
    | bad => rw [ht] at q2; exact q2
    | ok b =>
      rw [ht] at q2
      intro F3 H3 le3 s3
      cases b with
      | false =>
        rw [if_neg Bool.false_ne_true]
        exact q2 F3 σ H3 le3 s3
      | true =>
        rw [if_pos rfl]
        refine ⟨fun σ H => ∃ F2 ρ2, Le F F2 ∧ St (wd X) G fl F2 ρ2 σ H ∧ SE (wd X) A W G flb fl F2 D (whileN ft fs m ρ2), fun σ' H' z => ⟨m, Nat.lt_succ_self m, z⟩, G, F3, ρ2, s3, ?_⟩
        simp only at q2
        cases hb : fs ρ2 with
        | nx ρ4 =>
          rw [hb] at q2
          exact fun F4 σ4 H4 le4 s4 => ⟨F4, ρ4, le2.trans (le3.trans le4), s4, SE.lift q2 (le3.trans le4)⟩
        | cnt ρ4 =>
          rw [hb] at q2
          exact fun F4 σ4 H4 le4 s4 => ⟨F4, ρ4, le2.trans (le3.trans le4), s4, SE.lift q2 (le3.trans le4)⟩
        | brk ρ4 =>
          rw [hb] at q2
          exact fun F4 σ4 H4 le4 s4 => q2 F4 σ4 H4 (le3.trans le4) s4
        | ret d =>
          rw [hb] at q2
          exact fun v F4 H4 le4 c4 r => q2 v F4 H4 (le3.trans le4) c4 r
        | exc x =>
          rw [hb] at q2
          exact fun F4 σ4 H4 le4 c4 => q2 F4 σ4 H4 (le3.trans le4) c4
        | bad => rw [hb] at q2; exact q2
end
end DL
/-! DLComp -/
set_option Elab.async false
set_option linter.all false
set_option maxRecDepth 100000
set_option maxHeartbeats 2000000
/-! DLComp: comprehensions. -/
namespace DL
open PySem PySem.Spec PyProof.Rows L2
variable [Tb]
section
variable {K : Wd} {G G2 : Gs} {fl : List (Nat × Kd)} {F F2 F' H H2 H' : Hp} {ρ ρ2 : Env} {σ σ2 : L2.St} {p a : Addr} {o o' : HO} {v : V} {d : D} {i : Nat} {k : Kd} {vs : List Nat}
theorem wipeE_get {ρ : Env} {i : Nat} : ∀ {vs : List Nat}, i ∉ vs → (wipeE ρ vs)[i]? = ρ[i]?
  | [], _ => rfl
  | v :: vs, h => by
    have h1 : i ≠ v := fun e => h (by simp [e])
    unfold wipeE
    rw [get_set_ne h1]
    exact wipeE_get fun m => h (List.mem_cons_of_mem _ m)
theorem wipe_noop {σ : L2.St} {v : Nat} : ∀ {vs : List Nat}, v ∈ vs → (wipe σ vs).set v none = wipe σ vs
  | w :: vs, h => by
    unfold wipe
    by_cases hw : v = w
    · rw [hw, List.set_set]
    · have hv : v ∈ vs := by
        rcases List.mem_cons.mp h with e | e
        · exact absurd e hw
        · exact e
      rw [List.set_comm _ _ (fun z => hw z.symm), wipe_noop hv]
theorem wipe_sub {σ : L2.St} {ws : List Nat} : ∀ {vs : List Nat}, (∀ v ∈ vs, v ∈ ws) → wipe (wipe σ ws) vs = wipe σ ws
  | [], _ => rfl
  | v :: vs, h => by
    have e : wipe (wipe σ ws) vs = wipe σ ws := wipe_sub fun x m => h x (List.mem_cons_of_mem _ m)
    show (wipe (wipe σ ws) vs).set v none = _
    rw [e, wipe_noop (h v List.mem_cons_self)]
theorem wipe_wipe {σ : L2.St} {vs : List Nat} : wipe (wipe σ vs) vs = wipe σ vs := wipe_sub fun _ h => h
theorem wipeE_noop {σ : Env} {v : Nat} : ∀ {vs : List Nat}, v ∈ vs → (wipeE σ vs).set v none = wipeE σ vs
  | w :: vs, h => by
    unfold wipeE
    by_cases hw : v = w
    · rw [hw, List.set_set]
    · have hv : v ∈ vs := by
        rcases List.mem_cons.mp h with e | e
        · exact absurd e hw
        · exact e
      rw [List.set_comm _ _ (fun z => hw z.symm), wipeE_noop hv]
theorem wipeE_sub {σ : Env} {ws : List Nat} : ∀ {vs : List Nat}, (∀ v ∈ vs, v ∈ ws) → wipeE (wipeE σ ws) vs = wipeE σ ws
  | [], _ => rfl
  | v :: vs, h => by
    have e : wipeE (wipeE σ ws) vs = wipeE σ ws := wipeE_sub fun x m => h x (List.mem_cons_of_mem _ m)
    show (wipeE (wipeE σ ws) vs).set v none = _
    rw [e, wipeE_noop (h v List.mem_cons_self)]
theorem wipeE_wipeE {σ : Env} {vs : List Nat} : wipeE (wipeE σ vs) vs = wipeE σ vs := wipeE_sub fun _ h => h
/-- the outer slots again, the heap gone on -/
theorem St.rejoin (s : St K G fl F ρ σ H) (s2 : St K G2 fl F2 ρ2 σ2 H2) (le : Le F F2) (w : L2.wipe σ2 vs = L2.wipe σ vs) (wE : wipeE ρ2 vs = wipeE ρ vs) (hv : ∀ j k, (j, k) ∈ fl → j ∉ vs) : St K G2 fl F2 ρ σ H2 where
  c := s2.c
  tt := s2.tt
  len := s.len
  sh j e h nf := by
    obtain ⟨u, h1, r⟩ := s.sh j e h nf
    exact ⟨u, h1, r.mono le⟩
  ow j k e m h := by
    have hj := hv j k m
    have e1 : ρ2[j]? = ρ[j]? := by rw [← wipeE_get hj, wE, wipeE_get hj]
    have e2 : σ2[j]? = σ[j]? := by rw [← wipe_get hj, w, wipe_get hj]
    obtain ⟨q, u, h1, h2⟩ := s2.ow j k e m (by rw [e1]; exact h)
    exact ⟨q, u, by rw [← e2]; exact h1, h2⟩
  ap := s.ap
/-- one's own object is another -/
theorem StC.modZ (s : StC (G.z p o) F H) (n' : NoTbl o') (m : Mut (some o)) (hc : ∀ q, o ≠ LamX.CodeO p q) : StC (G.z p o') F (upd H p o') := by
  have hp : H p = some o := (s.zk p o upd_same).2
  have nl : ¬ G.L p := s.nlz m
  refine ⟨fun b u e => ?_, fun q u e => ?_, fun q u e => ?_, fun q l => ?_, tabs_mut s.tabs hp m fun c q e => code_ne hp (hc q) e, fun q l => by
    have hq : q ≠ p := fun z => nl (z ▸ l)
    rcases s.lf q l with ⟨u, e⟩ | ⟨u, e⟩
    · exact .inl ⟨u, e⟩
    · have e' : upd G.Z p o q = some u := e
      rw [upd_ne hq] at e'
      exact .inr ⟨u, by show upd G.Z p o' q = some u; rw [upd_ne hq]; exact e'⟩⟩
  · have hb : b ≠ p := fun z => by rw [z, s.fz] at e; cases e
    obtain ⟨n, l⟩ := s.le b u e
    exact ⟨n, l.mono fun w z => by rw [upd_ne hb]; exact z⟩
  · by_cases hq : q = p
    · subst hq
      have e' : upd G.Z q o' q = some u := e
      rw [upd_same] at e'; cases e'
      exact ⟨s.fz, upd_same⟩
    · have e' : upd G.Z p o' q = some u := e
      rw [upd_ne hq] at e'
      rw [upd_ne hq]
      exact s.zk q u (by show upd G.Z p o q = some u; rw [upd_ne hq]; exact e')
  · by_cases hq : q = p
    · subst hq
      have e' : upd G.Z q o' q = some u := e
      rw [upd_same] at e'; cases e'
      exact n'
    · have e' : upd G.Z p o' q = some u := e
      rw [upd_ne hq] at e'
      exact s.zt q u (by show upd G.Z p o q = some u; rw [upd_ne hq]; exact e')
  · have hq : q ≠ p := fun z => nl (z ▸ l)
    rw [upd_ne hq]
    exact s.lk q l
theorem St.zne (s : St K (G.z p o) fl F ρ σ H) {q : Addr} (h : (G.z p o).Z q = none) : q ≠ p := fun z => by
  have h3' : upd G.Z p o q = none := h
  rw [z, upd_same] at h3'; cases h3'
theorem zget {q : Addr} (h : q ≠ p) : (G.z p o).Z q = G.Z q := upd_ne h
theorem St.modZ (s : St K (G.z p o) fl F ρ σ H) (n' : NoTbl o') (m : Mut (some o)) (hc : ∀ q, o ≠ LamX.CodeO p q) : St K (G.z p o') fl F ρ σ (upd H p o') where
  c := s.c.modZ n' m hc
  tt := s.tt
  len := s.len
  sh := s.sh
  ow j k e m' h := by
    obtain ⟨q, u, g1, g2, g3, g4, g5, g6⟩ := s.ow j k e m' h
    have hq := s.zne g3
    exact ⟨q, u, g1, g2, by rw [zget hq] at g3 ⊢; exact g3, g4.mono fun w z => by rw [upd_ne hq]; exact z, g5, g6⟩
  ap := s.ap
def del (H : Hp) (p : Addr) : Hp := fun b => if b = p then none else H b
theorem del_self : del H p p = none := if_pos rfl
theorem del_ne {q : Addr} (h : q ≠ p) : del H p q = H q := if_neg h
theorem upd_del (h : H p = some o) : upd (del H p) p o = H := funext fun b => by
  by_cases hb : b = p
  · subst hb; rw [upd_same, h]
  · rw [upd_ne hb, del_ne hb]
/-- as if one's own object were still to come -/
theorem St.unZ (s : St K (G.z p o) fl F ρ σ H) (hz : G.Z p = none) (m : Mut (some o)) (hn : NoTbl o) (hc : ∀ q, o ≠ LamX.CodeO p q) : St K G fl F ρ σ (del H p) := by
  have hp : H p = some o := (s.c.zk p o upd_same).2
  have nl : ¬ G.L p := s.c.nlz m
  refine ⟨⟨fun b u e => ?_, fun q u e => ?_, fun q u e => ?_, fun q l => ?_, fun q hq => ?_, fun q l => by
      have hq : q ≠ p := fun z => nl (z ▸ l)
      rcases s.c.lf q l with ⟨u, e⟩ | ⟨u, e⟩
      · exact .inl ⟨u, e⟩
      · rw [zget hq] at e
        exact .inr ⟨u, e⟩⟩, s.tt, s.len, s.sh, fun j k e m' h => ?_, s.ap⟩
  · have hb : b ≠ p := fun z => by rw [z, s.c.fz] at e; cases e
    obtain ⟨n, l⟩ := s.c.le b u e
    refine ⟨n, ?_⟩
    rcases l with ⟨n, h⟩ | ⟨n, m, ob, h⟩
    · exact .inl ⟨n, by rw [del_ne hb]; exact h⟩
    · exact .inr ⟨n, m, ob, by rw [del_ne hb]; exact h⟩
  · have hq : q ≠ p := fun z => by rw [z, hz] at e; cases e
    rw [del_ne hq]
    exact s.c.zk q u (by rw [zget hq]; exact e)
  · have hq : q ≠ p := fun z => by rw [z, hz] at e; cases e
    exact s.c.zt q u (by rw [zget hq]; exact e)
  · have hq : q ≠ p := fun z => nl (z ▸ l)
    rw [del_ne hq]
    exact s.c.lk q l
  · obtain ⟨ps, h1, h2, h3⟩ := s.c.tabs q hq
    have hp' : q.1 ≠ p := fun z => by
      rw [z, hp] at h1
      exact hn ps (Option.some.inj h1)
    refine ⟨ps, by rw [del_ne hp']; exact h1, h2, fun pos cv hcv => ?_⟩
    obtain ⟨c, e1, e2⟩ := h3 pos cv hcv
    exact ⟨c, e1, by rw [del_ne (code_ne hp (hc _) e2)]; exact e2⟩
  · obtain ⟨q, u, g1, g2, g3, g4, g5, g6⟩ := s.ow j k e m' h
    have hq := s.zne g3
    refine ⟨q, u, g1, g2, by rw [zget hq] at g3; exact g3, ?_, g5, g6⟩
    rcases g4 with ⟨n, h⟩ | ⟨n, m, ob, h⟩
    · exact .inl ⟨n, by rw [del_ne hq]; exact h⟩
    · exact .inr ⟨n, m, ob, by rw [del_ne hq]; exact h⟩
end
theorem lst_ne_code {p : Addr} {xs : List V} : ∀ q, (HO.lst xs) ≠ LamX.CodeO p q := fun q z => by cases z
section
variable {X : Cx} {A : Ex → Addr} {W : WX} {fl fl1 fl' flb : List (Nat × Kd)} {vs : List Nat} {a b c e tg elt : Expr} {fa fb fc f fe : FE} {pos : Pos} {k : Kd} {es ifs : List Expr} {fi : FA} {ft fu : FT} {i : Nat} {x : Str} {pr : Bool} {g : FG} {fs : FS} {body : List Stmt} {iter : Expr} {scope : Scope} {own : List (Str × Nat)}
abbrev WN : WX := fun _ _ _ _ => False
theorem pts_mono {X : Cx} {e : List Expr} {t t' : TT} (h : PTs X e t) (g : ∀ σ H Q, t' σ H Q → t σ H Q) : PTs X e t' := ⟨fun pins s σ H Q I q => h.run pins s σ H Q I (g σ H Q q)⟩
abbrev JTs (X : Cx) (A : Ex → Addr) (W : WX) (fl : List (Nat × Kd)) (e : List Expr) (f : FT) : Prop := PTs X e (tTs (wd X) A W fl f)
theorem jts_nil : JTs X A W fl [] DL.tYes := pts_mono pts_nil fun σ H Q ⟨G, F, ρ, s, q⟩ => q F H (Le.refl F) s
theorem jts_one (h : JT X A W fl e ft) : JTs X A W fl [e] ft := pts_one h
/-- within a comprehension -/
abbrev Blk (X : Cx) (scope : Scope) (J : Cx → Prop) : Prop := ∀ (s : Shared) (H : Hp) (C : Addr) (cl : List (Str × Addr)) (fp : List Addr), J (X.blk s H scope (compEnvC scope cl C X.env) fp)
theorem tlc_of (hvs : own.map (·.2) = vs) (hg0 : GIn vs g) (hfl : ∀ j k, (j, k) ∈ fl → j ∉ vs) {σ : L2.St} {H : Hp} {Q : VK} (h : tN (wd X) A W fl .l (eComp fi vs g ft fe) σ H Q) :
    tLc (tI (wd X) A W fl pr fi) (tGa (wd X) pr fl fl vs g) (tTs (wd X) A WN fl ft) (tD (wd X) A WN fl fe) (own.map (·.2)) σ H Q := by
  obtain ⟨G, F, ρ, s, q⟩ := h
  rw [hvs]
  refine ⟨G, F, ρ, s, (RP.bind q).imp fun ds F1 H1 le1 s1 q1 J ⟨Gd, Y, w, gd, yd⟩ D hD => ?_⟩
  cases hc : compL g ft fe (wipeE ρ vs) ds with
  | exc x => rw [hc] at q1; exact q1.elim
  | bad => rw [hc] at q1; exact q1.elim
  | ok ys =>
    rw [hc] at q1
    simp only [noX, R.bind_ok] at q1
    by_cases hl : ds.length ≤ lim
    case neg => simp only [if_neg hl] at q1; exact q1.elim
    simp only [if_pos hl] at q1
    have hz : G.Z D = none := s1.c.znone hD
    refine lc_it w (fun i H => ∃ F2 acc ys0 ys1, Le F1 F2 ∧ St (wd X) (G.z D (.lst acc)) fl F2 ρ σ H ∧ RepAll (wd X) F2 acc ys0 ∧ compL g ft fe (wipeE ρ vs) (ds.drop i) = .ok ys1 ∧ ys0 ++ ys1 = ys ∧ acc.length ≤ i)
      ⟨F1, [], [], ys, Le.refl _, s1.allocZ hD NoTbl.lst, .nil, hc, rfl, Nat.le_refl _⟩ (fun i H hi ⟨F2, acc, ys0, ys1, le2, s2, _⟩ => gd (G.z D (.lst acc)) F2 H le2 s2.c) (fun i x H H' hi ⟨F2, acc, ys0, ys1, le2, s2, ra, hcc, hy, hal⟩ y => ?_) (fun H ⟨F2, acc, ys0, ys1, le2, s2, ra, hcc, hy, hal⟩ => ?_)
    · have hd : ds.drop i = ds[i] :: ds.drop (i + 1) := List.drop_eq_getElem_cons hi
      rw [hd] at hcc
      simp only [compL] at hcc
      refine tga_of (yd i H x H' hi y) le2 (s2.wipe vs) fun d hd' => ?_
      rw [List.getElem?_eq_getElem hi] at hd'
      cases hd'
      cases hgd : g ds[i] (wipeE ρ vs) with
      | exc x => rw [hgd] at hcc; cases hcc
      | bad => rw [hgd] at hcc; cases hcc
      | ok ρ3 =>
        rw [hgd] at hcc
        simp only [R.bind_ok] at hcc
        have wE : wipeE ρ3 vs = wipeE ρ vs := by rw [hg0 _ _ _ hgd, wipeE_wipeE]
        intro F3 σ3 H3 le3 s3 w3
        have w3' : wipe σ3 vs = wipe σ vs := w3.trans wipe_wipe
        refine ⟨w3', G.z D (.lst acc), F3, ρ3, s3, ?_⟩
        cases hft : ft ρ3 with
        | exc x => rw [hft] at hcc; cases hcc
        | bad => rw [hft] at hcc; cases hcc
        | ok t =>
          rw [hft] at hcc
          simp only [R.bind_ok] at hcc
          intro F4 H4 le4 s4
          cases t with
          | false =>
            simp only [if_neg Bool.false_ne_true] at hcc ⊢
            exact ⟨F4, acc, ys0, ys1, le2.trans (le3.trans le4), s2.rejoin s4 (le3.trans le4) w3' wE hfl, ra.mono (le3.trans le4), hcc, hy, Nat.le_succ_of_le hal⟩
          | true =>
            simp only [if_pos rfl] at hcc ⊢
            refine ⟨G.z D (.lst acc), F4, ρ3, s4, ?_⟩
            cases hfe : fe ρ3 with
            | exc x => rw [hfe] at hcc; cases hcc
            | bad => rw [hfe] at hcc; cases hcc
            | ok z =>
              rw [hfe] at hcc
              simp only [R.bind_ok] at hcc
              obtain ⟨ys2, e1, e2⟩ := bind_ok hcc
              cases e2
              intro F5 H5 le5 s5 v rv
              have s6 := s2.rejoin s5 (le3.trans (le4.trans le5)) w3' wE hfl
              refine ⟨acc, (s5.c.zk D _ upd_same).2, Nat.lt_of_lt_of_le (Nat.lt_of_le_of_lt hal hi) (lim_line hl), F5, acc ++ [v], ys0 ++ [z], ys2, le2.trans (le3.trans (le4.trans le5)), ?_, (ra.mono (le3.trans (le4.trans le5))).append (.cons rv .nil), e1, by rw [List.append_assoc]; exact hy, by rw [List.length_append]; exact Nat.succ_le_succ hal⟩
              exact s6.modZ NoTbl.lst trivial lst_ne_code
    · rw [List.drop_eq_nil_of_le (Nat.le_refl _)] at hcc
      simp only [compL] at hcc
      cases hcc
      rw [List.append_nil] at hy
      subst hy
      have hp := (s2.c.zk D _ upd_same).2
      have := q1 F2 (del H D) le2 (s2.unZ hz trivial NoTbl.lst lst_ne_code) D (.lst acc) del_self trivial (.lst ra)
      rw [upd_del hp] at this
      exact this
theorem jn_comp (hc : X.calm = true) (hN : X.N.Nodup) (hi : JI X A W fl pr tg iter fi) (ok : BlkOk X.N X.env.scope scope own) (hvs : own.map (·.2) = vs) (hg0 : GIn vs g) (hfl : ∀ j k, (j, k) ∈ fl → j ∉ vs) (hg : Blk X scope fun Y => JGa Y pr fl fl vs tg g) (ht : Blk X scope fun Y => JTs Y A WN fl ifs ft) (he : Blk X scope fun Y => JD Y A WN fl elt fe)
    (hs : ∀ x, foldedSetIterable iter X.env x = pure x := by intro _; rfl) : JN X A W fl .l (.ListComp elt [⟨tg, iter, ifs, 0⟩] scope pos) (eComp fi vs g ft fe) :=
  pe_mono (pe_lc hc hN hi ok hg ht he hs) fun σ H Q h => tlc_of hvs hg0 hfl h
/-- y = [..], y a local -/
theorem js_setLc {y : Str} {py spos : Pos} (hc : X.calm = true) (hN : X.N.Nodup) (hi : JI X A W fl pr tg iter fi) (ok : BlkOk X.N X.env.scope scope own) (hvs : own.map (·.2) = vs) (hg0 : GIn vs g) (hfl : ∀ j k, (j, k) ∈ fl → j ∉ vs) (hg : Blk X scope fun Y => JGa Y pr fl fl vs tg g) (ht : Blk X scope fun Y => JTs Y A WN fl ifs ft) (he : Blk X scope fun Y => JD Y A WN fl elt fe)
    (hy : X.N[i]? = some y) (hyl : X.env.scope.names.lookup y = some .local) (hsw : swapsWith (.ListComp elt [⟨tg, iter, ifs, 0⟩] scope pos) (some (.Name y py)) spos.line X.env = pure true) (hfl' : (i, .l) :: flNo fl i = fl') (hs : ∀ x, foldedSetIterable iter X.env x = pure x := by intro _; rfl) :
    JS X A W fl flb fl' (.Assign [.Name y py] (.ListComp elt [⟨tg, iter, ifs, 0⟩] scope pos) spos) (sAsg (eComp fi vs g ft fe) (DL.gName i)) := ps_mono (ps_setLc (g := tGa (wd X) pr fl fl vs g) (tt := tTs (wd X) A WN fl ft) (te := tD (wd X) A WN fl fe) hc hN hy hyl hsw hi ok hg ht he hs) fun D σ H ⟨G, F, ρ, s, q⟩ => by
  subst hfl'
  show tLc _ _ _ _ _ σ H _
  refine tlc_of hvs hg0 hfl ⟨G, F, ρ, s, ?_⟩
  simp only [sAsg] at q
  cases hf : eComp fi vs g ft fe ρ with
  | ok d =>
    rw [hf] at q
    refine fun F' H' le s' p o hp hk r => ?_
    exact q F' _ _ le ((s'.allocZ hp hk.noTbl).setFresh (s'.c.znone hp) hk r)
  | exc x => rw [hf] at q; exact fun F' H' le c => q F' σ H' le c
  | bad => rw [hf] at q; exact q
end
end DL
/-! DLDef -/
set_option Elab.async false
set_option linter.all false
set_option maxRecDepth 100000
set_option maxHeartbeats 2000000
/-! DLDef: defs, their promises, calls, raises. -/
namespace DL
open PySem PySem.Spec PyProof.Rows L2
variable [Tb]
abbrev kw [Tb] (P : Program) (w : World) (K : Frag) : Wd := ⟨K, P, w, Tb.T, Tb.A⟩
/-- a def's promise -/
def spD (K : Wd) (f : List D → R D) : Sp := fun vs H Q E => ∃ (G : Gs) (F : Hp) (ds : List D), G.T = K.T ∧ StC G F H ∧ RepAll K F vs ds ∧ match f ds with
  | .ok d => ∀ v F' H', Le F F' → StC G F' H' → Rep K F' v d → Q v H'
  | .exc e => ∀ F' H', Le F F' → StC G F' H' → E (.ref (K.A e)) none H'
  | .bad => False
/-- a def of the module that may be called by its name -/
structure CalD (P : Program) (w : World) (K : Frag) (mg : Str → Option Value) (base : Heap) (k : Nat) (x : Str) (f : List D → R D) : Prop where
  ex : ∃ (fa : Addr) (fd : FuncData) (ps : List Str), FnOk P w K mg base (L2N.CX P w) k fa fd ps (spD (kw P w K) f) ∧ mg x = some (.ref fa) ∧ PySem.W.keepIn K (.ref fa) = true ∧ Binds K fd ps []
theorem CalD.mono {P : Program} {w : World} {K : Frag} {mg : Str → Option Value} {base : Heap} {j k : Nat} {x : Str} {f : List D → R D} (c : CalD P w K mg base j x f) (h : j ≤ k) : CalD P w K mg base k x f := by
  obtain ⟨fa, fd, ps, F, h1, h2, h3⟩ := c.ex
  exact ⟨fa, fd, ps, F.mono h, h1, h2, h3⟩
/-- what a body's context gives -/
structure Bd (X : Cx) (W : WX) (k : Nat) : Prop where
  tk : L2N.Takes X W
  po : PassesOwn (model X.prog X.w) X.A X.env X.xe
  hr : Room k X.A
theorem Bd.hu {X : Cx} {W : WX} {k : Nat} (b : Bd X W k) : X.A.units + 65 < cLine := by have := b.hr.un; omega
theorem Bd.hrT {X : Cx} {W : WX} {k : Nat} (b : Bd X W (k + 2)) : Room (k + 2) X.A := b.hr
theorem Bd.hu1 {X : Cx} {W : WX} {k : Nat} (b : Bd X W k) : X.A.units + 1 < cLine := by have := b.hr.un; omega
abbrev WofE (E : XK) : WX := fun cls d _ H => E cls d H
section
variable {X : Cx} {W : WX} {fl : List (Nat × Kd)} {e : Expr} {es : List Expr} {fa : FA} {g : List D → R D} {k j : Nat} {x m : Str} {p pos : Pos}
theorem jd_call (c : CalD X.prog X.w X.K X.mg X.base k x g) (tk : L2N.Takes X W) (hr : Room j X.A) (hk : k ≤ j) (hg : Gl X x) (ha : JA X Tb.A W fl (e :: es) fa) (hdb : (x == ("__debug__" : Str)) = false := by decide) (he : starEach (e :: es) X.env = (false, eval e X.env) :: starEach es X.env := by rfl) (hpl : (backTo pos (starEach es X.env)).any (·.1) = false := by rfl) :
    JD X Tb.A W fl (.Call (.Name x p) (e :: es) [] pos) (eF g fa) := by
  obtain ⟨f, fd, ps, Fn, h1, h2, h3⟩ := c.ex
  refine pe_mono (pe_callS Fn (hr.mono hk) hg h1 h2 h3 (fun σ => L2N.passAt tk σ) ha hdb he hpl) fun σ H Q ⟨G, F, ρ, s, q⟩ => ?_
  refine ⟨G, F, ρ, s, (RP.bind q).imp fun ds F1 H1 le1 s1 q1 vs rv => ⟨DL.aside G fl ρ σ H1, F1, ds, s1.tt, s1.aside, rv, ?_⟩⟩
  cases hg : g ds with
  | ok d =>
    rw [hg] at q1
    exact fun v F' H' le c r => q1 F' H' le (s1.back le c) v r
  | exc x =>
    rw [hg] at q1
    exact fun F' H' le c => q1 F' H' le (s1.back le c).c
  | bad => rw [hg] at q1; exact q1
end
/-- a body's slots at the start -/
theorem st_start {K : Wd} {G : Gs} {F H : Hp} {N : List Str} {vs : List V} {ds : List D} (c : StC G F H) (hT : G.T = K.T) (r : RepAll K F vs ds) : St K G [] F (ds.map some ++ List.replicate (N.length - ds.length) none) (L2.start N vs) H where
  c := c
  tt := hT
  len := by unfold L2.start; simp [r.length]
  sh i d e _ := by
    by_cases hi : i < ds.length
    · rw [List.getElem?_append_left (by simpa using hi), List.getElem?_map] at e
      cases hd : ds[i]? with
      | none => rw [hd] at e; cases e
      | some d' =>
        rw [hd] at e
        cases e
        obtain ⟨v, hv, rv⟩ := r.get hd
        refine ⟨v, ?_, rv⟩
        unfold L2.start
        rw [List.getElem?_append_left (by simpa [r.length] using hi), List.getElem?_map, hv]
        rfl
    · rw [List.getElem?_append_right (by simpa using hi)] at e
      obtain ⟨_, e⟩ := List.getElem?_eq_some_iff.mp e
      simp at e
  ow i k d m := nomatch m
  ap i j k k' d d' p m := nomatch m
section
variable {P : Program} {w : World} {K : Frag} {mg : Str → Option Value} {base : Heap} {x : Str} {st : Stmt} {f : Addr} {fd : FuncData} {N ps : List Str} {k : Nat} {fl' : List (Nat × Kd)} {fs : FS}
theorem fn_okN {sp : Sp} {CX : CXT} (F : Fun K x x st f fd) (S : FnScope N ps (defScope st)) (len : ∀ vs H Q E, sp vs H Q E → vs.length = ps.length)
    (hbody : ∀ (cdv : Value) (A : Around) (outer : List PySem.Env) (s : Shared) (H : Hp) (vs : List V) (Q : VK) (E : XK), Room k (A.deeper (envOfC x (defScope st) s.heap.objs.size f cdv)) → sp vs H Q E →
      ∃ t, PSs (cxOf CX P w K mg base N x (defScope st) f cdv A outer s H E) (defBody st) t ∧ t { nx := fun _ H' => Q .non H', rt := Q } (L2.start N vs) H) : FnOk P w K mg base CX (k + 1) f fd ps sp := by
  obtain ⟨oc, od, kV, doc, pm, an, cdv, ct, osl, rfl, lk, hcd⟩ := F.ex
  exact fn_of lk hcd S len fun A outer s H vs Q E hr hsp => hbody cdv A outer s H vs Q E hr hsp
/-- a def by its body -/
theorem cal_def (F : Fun K x x st f fd) (hm : mg x = some (.ref f)) (hb : Binds K fd ps []) (S : FnScope N ps (defScope st))
    (hbody : ∀ (cdv : Value) (A : Around) (outer : List PySem.Env) (s : Shared) (H : Hp) (E : XK), Bd (cxOf (L2N.CX P w) P w K mg base N x (defScope st) f cdv A outer s H E) (WofE E) k → JSs (cxOf (L2N.CX P w) P w K mg base N x (defScope st) f cdv A outer s H E) Tb.A (WofE E) [] [] fl' (defBody st) fs) :
    CalD P w K mg base (k + 1) x (runF ps.length N.length fs) := by
  have rl : ∀ {vs : List V} {H : Hp} {Q : VK} {E : XK}, spD (kw P w K) (runF ps.length N.length fs) vs H Q E → vs.length = ps.length := by
    rintro vs H Q E ⟨G, F, ds, hT, c, r, q⟩
    rw [r.length]
    by_cases hn : ds.length = ps.length
    · exact hn
    · unfold runF at q
      rw [if_neg hn] at q; exact q.elim
  refine ⟨f, fd, ps, fn_okN F S (fun vs H Q E h => rl h) (fun cdv A outer s H vs Q E hr h => ?_), hm, F.kp, hb⟩
  have hl := rl h
  obtain ⟨G, F2, ds, hT, c, r, q⟩ := h
  refine ⟨_, hbody cdv A outer s H E ⟨L2N.takes_of rfl rfl rfl rfl, passes_of rfl, hr⟩, G, F2, _, st_start c hT r, ?_⟩
  unfold runF at q
  rw [if_pos (by rw [← hl, r.length])] at q
  cases hf : fs (ds.map some ++ List.replicate (N.length - ds.length) none) with
  | nx ρ' =>
    rw [hf] at q
    exact fun F' σ' H' le s' => q .non F' H' le s'.c .non
  | ret d =>
    rw [hf] at q
    exact fun v F' H' le c' rv => q v F' H' le c' rv
  | exc e =>
    rw [hf] at q
    exact fun F' σ' H' le c' => q F' H' le c'
  | brk ρ' => rw [hf] at q; exact q.elim
  | cnt ρ' => rw [hf] at q; exact q.elim
  | bad => rw [hf] at q; exact q.elim
/-- .. where the code object is known (it holds a lambda); the promise itself -/
theorem fn_defC {oc : Value} {od : Option Addr} {kV doc pm ct : Value} {an : Option Addr} {osl : Array (Option Value)} {c : Addr} (lk : K.lookup f = some ⟨oc, od, .func (PySem.W.fnOf x x (defArgs st) (defBody st) (defScope st) .none kV doc pm an (.ref c) ct), osl⟩) (hcd : PySem.W.codeIn K (.ref c) x = true) (S : FnScope N ps (defScope st))
    (hbody : ∀ (A : Around) (outer : List PySem.Env) (s : Shared) (H : Hp) (E : XK), Bd (cxOf (L2N.CX P w) P w K mg base N x (defScope st) f (.ref c) A outer s H E) (WofE E) k → JSs (cxOf (L2N.CX P w) P w K mg base N x (defScope st) f (.ref c) A outer s H E) Tb.A (WofE E) [] [] fl' (defBody st) fs) :
    FnOk P w K mg base (L2N.CX P w) (k + 1) f (PySem.W.fnOf x x (defArgs st) (defBody st) (defScope st) .none kV doc pm an (.ref c) ct) ps (spD (kw P w K) (runF ps.length N.length fs)) := by
  have rl : ∀ {vs : List V} {H : Hp} {Q : VK} {E : XK}, spD (kw P w K) (runF ps.length N.length fs) vs H Q E → vs.length = ps.length := by
    rintro vs H Q E ⟨G, F, ds, hT, c, r, q⟩
    rw [r.length]
    by_cases hn : ds.length = ps.length
    · exact hn
    · unfold runF at q
      rw [if_neg hn] at q; exact q.elim
  refine fn_of lk hcd S (fun vs H Q E h => rl h) (fun A outer s H vs Q E hr h => ?_)
  have hl := rl h
  obtain ⟨G, F2, ds, hT, c, r, q⟩ := h
  refine ⟨_, hbody A outer s H E ⟨L2N.takes_of rfl rfl rfl rfl, passes_of rfl, hr⟩, G, F2, _, st_start c hT r, ?_⟩
  unfold runF at q
  rw [if_pos (by rw [← hl, r.length])] at q
  cases hf : fs (ds.map some ++ List.replicate (N.length - ds.length) none) with
  | nx ρ' =>
    rw [hf] at q
    exact fun F' σ' H' le s' => q .non F' H' le s'.c .non
  | ret d =>
    rw [hf] at q
    exact fun v F' H' le c' rv => q v F' H' le c' rv
  | exc e =>
    rw [hf] at q
    exact fun F' σ' H' le c' => q F' H' le c'
  | brk ρ' => rw [hf] at q; exact q.elim
  | cnt ρ' => rw [hf] at q; exact q.elim
  | bad => rw [hf] at q; exact q.elim
/-- a def of which nothing is asked -/
theorem cal_bad (hm : mg x = some (.ref f)) (hk : PySem.W.keepIn K (.ref f) = true) (hb : Binds K fd ps []) : CalD P w K mg base k x (fun _ => .bad) :=
  ⟨f, fd, ps, ⟨fun vs H Q E ⟨_, _, _, _, _, _, q⟩ => q.elim, fun A outer s H args us vs Q E _ _ _ _ ⟨_, _, _, _, _, _, q⟩ => q.elim⟩, hm, hk, hb⟩
end
/-! ### raise -/
/-- an own class of refusals -/
structure ExcK (K : Frag) (mg : Str → Option Value) (x : Str) (C : Addr) (B newId initId : String) (bmB : List Value) : Prop where
  f : ExcBaseFacts B newId initId bmB
  q : PySem.W.excIn K C bmB newId = true
  g : mg x = some (.ref C)
  k : PySem.W.keepIn K (.ref C) = true
  s : PySem.W.subIn K (.ref C) (.type "BaseException") = some true
  t : PySem.W.typeIn K (.ref C) = some (.type "type")
theorem js_raise {X : Cx} {W : WX} {fl flb fl' : List (Nat × Kd)} {x m : Str} {C : Addr} {B newId initId : String} {bmB : List Value} {j : Nat} {p p2 pos pos2 : Pos} (e : Ex) (T : ExcK X.K X.mg x C B newId initId bmB) (hA : Tb.A e = C) (hc : X.calm = true) (tk : L2N.Takes X W) (hg : Gl X x) (hdb : (x == ("__debug__" : Str)) = false := by decide) :
    JS X Tb.A W fl flb fl' (.Raise (some (.Call (.Name x p) [.Constant (.str m) j p2] [] pos)) none pos2) (sRaise e) := ps_mono (L2N.ps_raise hc tk (L2N.pmk_own T.f T.q T.g T.k (raises_own T.s T.t) hg hdb)) fun D σ H ⟨G, F, ρ, s, q⟩ => by
  subst hA
  exact q F σ H (Le.refl F) s.c
/-- an expression of which the value is not needed: f(..) -/
theorem js_exprD {X : Cx} {A : Ex → Addr} {W : WX} {fl flb : List (Nat × Kd)} {e : Expr} {f : FE} {pos : Pos} (he : JD X A W fl e f) (hs : swapsWith e none pos.line X.env = pure false := by rfl) : JS X A W fl flb fl (.Expr e pos) (sDrop f) := js_expr he hs
end DL
/-! DLHot -/
set_option Elab.async false
set_option linter.all false
set_option maxRecDepth 100000
set_option maxHeartbeats 2000000
/-! DLHot: a comprehension over a list while an exception is handled. -/
namespace DL
open PySem PySem.Spec PyProof.Rows L2
section
variable {prog : Program} {w : World} {A : Around} {E : Value → Shared → Prop} {s : Shared}
theorem next_list_end_hot {it l x1 : Addr} {i : Nat} {items} {Q : Option Value → Shared → Prop} (hot : HotX.HotAt A x1 s.heap) (hx1 : x1 ≠ it) (hit : s.heap.IsListIter it l i) (hl : s.heap.IsList l items) (hx : items[i]? = none)
    (hQ : ∀ h', Heap.ExtBut it s.heap h' → Q none { s with heap := h' }) : wpAny (model prog w) A (pyNext (.ref it)) Q E s := by
  obtain ⟨o, ho, hc, hd⟩ := id hit
  obtain ⟨ol, hol, _, nl, hdl⟩ := hl
  obtain ⟨hh, o1, vs1, h1, d1, c1⟩ := hot
  unfold pyNext
  refine wpAny_bind (wpAny_attempt (wpAny_callSpecial?_slot (name := Str.ofString "__next__") hit.typeIs slot_listiter_next
    (wpAny_call_entry slot_listiter_next hit.typeIs entry_listiter_next ?_ (args_listiter_next _))))
  show wpAny _ _ (field (.ref it) 0 >>= _) _ _ s
  refine wpAny_bind (wpAny_field ho hd (x := .ref l) rfl ?_)
  show wpAny _ _ (if (Value.ref l == Value.none) = true then _ else _) _ _ s
  rw [if_neg (show ¬ ((Value.ref l == Value.none) = true) from Bool.false_ne_true)]
  show wpAny _ _ (field (.ref it) 1 >>= _) _ _ s
  refine wpAny_bind (wpAny_field ho hd (x := .int i 0) rfl ?_)
  show wpAny _ _ (seqItems? (.ref l) >>= _) _ _ s
  refine wpAny_bind (wpAny_seqItems hol hdl ?_)
  simp only [Int.toNat_natCast, hx]
  refine wpAny_bind (wpAny_rule (wpAny_bind (wpAny_setField ho hd (by simp) ?_)))
  show wpAny _ _ (newExc (.type "StopIteration") [] >>= _) _ _ _
  refine wpAny_bind ?_
  simp only [newExc, newTuple]
  refine wpAny_bind (wpAny_newObj_type ?_ (by size_fits))
  refine wpAny_bind (m := firstArgMember _ _) (wpAny_of_eq (a := Value.none) (by first | rfl | (simp only [firstArgMember]; rfl)) ?_)
  refine wpAny_newObj_type ?_ (by size_fits)
  have k0 : (s.heap.update it (Obj.mapFields (·.setIfInBounds 0 .none))).get? x1 = some o1 := by rw [Heap.get?_update_other _ _ (Ne.symm hx1)]; exact h1
  refine HotX.raiseNew_hot ⟨hh, o1, vs1, Heap.get?_push_of_some _ (Heap.get?_push_of_some _ k0), d1, c1⟩ (Nat.ne_of_lt (Heap.lt_size (Heap.get?_push_of_some _ k0))) (Heap.get?_push_size _ rfl) rfl (by first | (simp; done) | (simp; omega) | (simp only [Array.size_append]; simp; omega)) ?_
  refine wpAny_bind (wpAny_isInstance (T := "StopIteration") (b := true) ⟨_, Heap.get?_update_self _ (Heap.get?_push_size _ rfl) rfl, rfl⟩ isSubtype_stop ?_)
  refine wpAny_pure (hQ _ ?_)
  intro b o hb e
  rw [Heap.get?_update_other _ _ (fun z => ?_)]
  · exact (((Heap.SameBut.update ..).extBut.push _).push _) b o hb e
  · have hlt : b < s.heap.objs.size := Heap.lt_size e
    have z' : ((s.heap.update it (Obj.mapFields fun x => x.setIfInBounds 0 Value.none)).push { cls := Value.type "tuple", data := Data.seq #[] }).objs.size = b := z
    rw [Heap.size_push, Heap.size_update] at z'
    exact absurd hlt (by rw [← z']; exact Nat.not_lt.mpr (Nat.le_succ _))
end
section
variable {X : Cx}
theorem hot_item {tg : Expr} {a it : Addr} {i : Nat} {pins : List (Addr × Obj)} {s : Shared} {σ : L2.St} {H : Hp} {E : Value → Shared → Prop} (I : Inv X pins σ H s) (hf : FpOk X pins H it) (st : s.heap.IsListIter it a i) (hg : (Itl X.K a).go i H) :
    wpAny (model X.prog X.w) X.A (pyNext (.ref it)) (fun r s1 => ∃ u, r = some u ∧
      wpAny (model X.prog X.w) X.A (letOwnedTupleGo tg (.ref it) u) (fun _ s2 => ∃ x H', Inv X pins σ H' s2 ∧ RelV x u ∧ (Itl X.K a).yld i H x H' ∧ s2.heap.IsListIter it a (i + 1) ∧ H' it = none) E s1) E s := by
  obtain ⟨xs, x, hq, hx⟩ := hg
  obtain ⟨its, rv, p, hz⟩ := I.list hq
  obtain ⟨u, hu, ru⟩ := rv.get hx
  obtain ⟨f0, f1, f2, f3, f4, f5⟩ := hf
  refine wpAny_pyNext_list_item st p.isList (x := u) (by simpa using hu) fun h' st' sb => ?_
  have I1 : Inv X pins σ H { s with heap := h' } := I.turned (t' := s.toks) (fun b o hb e => (sb.2 b hb).trans e) f0 f1 f3 f4 f5
  obtain ⟨o, e, c, d⟩ := id st'
  exact ⟨u, rfl, go_of (s := { s with heap := h' }) e c d (by decide) ⟨x, H, I1, ru, ⟨rfl, fun ys hy => by rw [I.list_inj hy hq]; exact hx⟩, st', f0⟩⟩
theorem hot_done {a it x1 : Addr} {i : Nat} {pins : List (Addr × Obj)} {s : Shared} {σ : L2.St} {H : Hp} {E : Value → Shared → Prop} (hot : HotX.HotAt X.A x1 s.heap) (hx1 : x1 ≠ it) (I : Inv X pins σ H s) (hf : FpOk X pins H it) (st : s.heap.IsListIter it a i) (hg : (Itl X.K a).stop i H) :
    wpAny (model X.prog X.w) X.A (pyNext (.ref it)) (fun r s1 => r = none ∧ Inv X pins σ H s1) E s := by
  obtain ⟨xs, hq, hx⟩ := hg
  obtain ⟨its, rv, p, hz⟩ := I.list hq
  obtain ⟨f0, f1, f2, f3, f4, f5⟩ := hf
  have hl := rv.length
  exact next_list_end_hot hot hx1 st p.isList (by simp; omega) fun h' eb => ⟨rfl, I.turned (t' := s.toks) (fun b o hb e => eb b o hb e) f0 f1 f3 f4 f5⟩
theorem pe_lcHot {elt tg iter : Expr} {ifs : List Expr} {scope : Scope} {own : List (Str × Nat)} {pos : Pos} {tl : TE} {g : TG} {tt : TT} {te : TE} (hc : L2H.HotC X) (hN : X.N.Nodup) (hi : PE X iter tl) (ok : BlkOk X.N X.env.scope scope own)
    (hg : ∀ (s : Shared) (H : Hp) (C : Addr) (cl : List (Str × Addr)) (fp : List Addr), PG (X.blk s H scope (compEnvC scope cl C X.env) fp) tg g) (ht : ∀ (s : Shared) (H : Hp) (C : Addr) (cl : List (Str × Addr)) (fp : List Addr), PTs (X.blk s H scope (compEnvC scope cl C X.env) fp) ifs tt)
    (he : ∀ (s : Shared) (H : Hp) (C : Addr) (cl : List (Str × Addr)) (fp : List Addr), PE (X.blk s H scope (compEnvC scope cl C X.env) fp) elt te) (hs : ∀ x, foldedSetIterable iter X.env x = pure x := by intro _; rfl) :
    PE X (.ListComp elt [⟨tg, iter, ifs, 0⟩] scope pos) (tLc (iList X.K tl) g tt te (own.map (·.2))) := by
  refine ⟨fun pins s σ H Q I h => ?_⟩
  rw [eval_ListComp]
  have hfree : ∀ y ∈ scope.names, y.2 = .free → ∃ c, X.env.cells.lookup y.1 = some c := fun y hy e => by
    rcases ok.free y hy e with k | k
    · exact I.ok.has _ (.inl k)
    · exact I.ok.has _ (.inr k)
  refine wpAny_comprehension_free (use := none) rfl hs (closure_ok hfree) ok.kind (fun y hy e => by rw [ok.uniq y hy, e]) (thn (hi.run pins s σ H _ I h) fun xv s1 ⟨x, H1, I1, r1, q1⟩ => ?_)
  obtain ⟨a, rfl, ⟨xs, hq⟩, q⟩ := q1
  cases r1
  obtain ⟨its, rv, pl, hz⟩ := I1.list hq
  refine wpAny_pyIter_list pl.isList ?_
  generalize hitz : s1.heap.objs.size = it
  generalize hs2 : ({ s1 with heap := s1.heap.push { cls := .type "list_iterator", data := .fields #[.ref a, .int 0 0] } } : Shared) = s2
  have h2 : s2.heap = s1.heap.push { cls := .type "list_iterator", data := .fields #[.ref a, .int 0 0] } := by rw [← hs2]
  have st2 : s2.heap.IsListIter it a 0 := by
    rw [h2, ← hitz]
    exact ⟨_, Heap.get?_push_size _ rfl, rfl, rfl⟩
  have I2 : Inv X pins σ H1 s2 := by
    rw [← hs2]
    exact I1.kept (t' := s1.toks) fun b o e => Heap.get?_push_of_some _ e
  have f2 : FpOk X pins H1 it := by
    rw [← hitz]
    exact I1.fpOk (Nat.le_refl _) (I1.hok.fresh (Nat.le_refl _))
  obtain ⟨p, hot, hpX⟩ := hc
  have P1 := I1.pin p (List.mem_append_left _ hpX)
  have pit : p.1 ≠ it := by
    rw [← hitz]
    exact Nat.ne_of_lt (Heap.lt_size P1.1)
  refine wpAny_newObj_type (newEnv_comp ?_) (by show 0 ≤ sizeLine; decide)
  generalize hD : s2.heap.objs.size = D
  have hDn : H1 D = none := I2.hok.fresh (Nat.le_of_eq hD)
  obtain ⟨W, ⟨m0, w0⟩, turn⟩ := q D hDn
  generalize hs3 : ({ s2 with heap := s2.heap.push { cls := .type "list", data := .seq ([] : List Value).toArray } } : Shared) = s3
  have I3 : Inv X pins σ (upd H1 D (.lst [])) s3 := by
    rw [← hs3]
    refine I2.laid (t' := s2.toks) (fun b o e => Heap.get?_push_of_some _ e) (Nat.le_of_eq hD) ⟨Nat.zero_le _, [], 0, .nil, ?_⟩
    rw [← hD]
    exact Heap.get?_push_size _ rfl
  have h3 : s3.heap = s2.heap.push { cls := .type "list", data := .seq ([] : List Value).toArray } := by rw [← hs3]
  have sz : it < s2.heap.objs.size := by
    obtain ⟨o, e, _⟩ := st2
    exact Heap.lt_size e
  have f3 : ∀ b ∈ [it], FpOk X pins (upd H1 D (.lst [])) b ∧ b < s3.heap.objs.size := fun b hb => by
    have e : b = it := by simpa using hb
    subst e
    refine ⟨⟨?_, f2.2⟩, by rw [h3, Heap.size_push]; exact Nat.lt_succ_of_lt sz⟩
    rw [upd_ne (by rw [← hD]; exact Nat.ne_of_lt sz)]
    exact f2.1
  have st3 : s3.heap.IsListIter it a 0 := st2.at fun o e => by rw [h3]; exact Heap.get?_push_of_some _ e
  have P3 := I3.pin p (List.mem_append_left _ hpX)
  have I4 := block_start I3 ok hN f3
  have pg := hg s3 (upd H1 D (.lst [])) s3.heap.objs.size (cellsFrom (s3.heap.objs.size + 1) scope.names (cloFrom X.env.cells scope.names [])) [it]
  have pt := ht s3 (upd H1 D (.lst [])) s3.heap.objs.size (cellsFrom (s3.heap.objs.size + 1) scope.names (cloFrom X.env.cells scope.names [])) [it]
  have pe := he s3 (upd H1 D (.lst [])) s3.heap.objs.size (cellsFrom (s3.heap.objs.size + 1) scope.names (cloFrom X.env.cells scope.names [])) [it]
  show codeAny _ _ (.compStart (.ListComp elt [⟨tg, iter, ifs, 0⟩] scope pos) 0 (.ref it) (.ref D) (compEnvC scope (cellsFrom (s3.heap.objs.size + 1) scope.names (cloFrom X.env.cells scope.names [])) s3.heap.objs.size X.env)) (compPost (model X.prog X.w) X.A X.xe none _ (.ref D) s3.heap.objs.size) { s3 with heap := pushCells (s3.heap.push { cls := .type "dict", data := .dict #[] }) scope.names }
  generalize hce : compEnvC scope (cellsFrom (s3.heap.objs.size + 1) scope.names (cloFrom X.env.cells scope.names [])) s3.heap.objs.size X.env = ce at I4 pg pt pe ⊢
  have cL : ce.locals = s3.heap.objs.size := by subst hce; rfl
  generalize hH3 : upd H1 D (.lst []) = H3 at I3 I4 pg pt pe w0 f3 P3
  have nfp : H3 it = none := (f3 it (by simp)).1.1
  generalize hs4 : ({ s3 with heap := pushCells (s3.heap.push { cls := .type "dict", data := .dict #[] }) scope.names } : Shared) = s4 at I4 ⊢
  have st4 : s4.heap.IsListIter it a 0 := st3.at fun o e => by rw [← hs4]; exact pushCells_keeps _ _ _ _ (Heap.get?_push_of_some _ e)
  have stat : ∀ {σ' : L2.St} {H' : Hp} {s' : Shared}, Inv (X.blk s3 H3 scope ce [it]) [] σ' H' s' → H' it = none → FpOk (X.blk s3 H3 scope ce [it]) [] H' it := fun {σ' H' s'} I' hn =>
    ⟨hn, (I'.ok.exf it (by simp)).1, I'.ok.exfs it (by simp), .inl (by simp), fun x c e => (I'.ok.exf it (by simp)).2 x c e, fun p hp => absurd (show p ∈ ([] : List (Addr × Obj)) ++ [] from hp) (by simp)⟩
  have hotAt : ∀ {σ' : L2.St} {H' : Hp} {s' : Shared}, Inv (X.blk s3 H3 scope ce [it]) [] σ' H' s' → HotX.HotAt X.A p.1 s'.heap := fun {σ' H' s'} I' => by
    obtain ⟨hh, vs, hd, hv⟩ := hot
    refine ⟨hh, p.2, vs, ?_, hd, hv⟩
    refine I'.base.keep p.1 p.2 P3.1 P3.2.1 (fun hm => ?_) (fun hm => pit (by simpa using (show p.1 ∈ [it] from hm)))
    exact (List.mem_cons.mp (I3.stkSub p.1 hm)).elim P3.2.2.1 P3.2.2.2.1
  have loop : codeAny (model X.prog X.w) X.A (.compLoop (.ListComp elt [⟨tg, iter, ifs, 0⟩] scope pos) 0 (.ref it) (.ref D) ce) (compPost (model X.prog X.w) X.A X.xe none (EP X pins σ Q) (.ref D) s3.heap.objs.size) s4 := by
    refine compLoop_any (fun n s' => ∃ i H', Inv (X.blk s3 H3 scope ce [it]) [] (L2.wipe σ (own.map (·.2))) H' s' ∧ s'.heap.IsListIter it a i ∧ H' it = none ∧ W i n H') ?_ m0 ⟨0, H3, I4, st4, nfp, w0⟩
    rintro n s5 ⟨i, H5, I5, st5, n5, w5⟩
    rcases turn i n H5 w5 with ⟨stop, qq⟩ | ⟨go, Nx, hNx, step⟩
    · have td := hot_done (X := X.blk s3 H3 scope ce [it]) (E := fun _ _ => False) (hotAt I5) pit I5 (stat I5 n5) st5 stop
      refine thnF td fun r s6 ⟨hr, I6⟩ => ?_
      subst hr
      have I7 : Inv X pins σ H5 s6 := I3.call' (ch := [it]) I6.os I6.base I6.hok I6.bare fun b hb => ⟨(f3 b hb).1.2.2.2.1, (f3 b hb).1.2.1, (f3 b hb).1.2.2.2.2.1, (f3 b hb).1.2.2.2.2.2⟩
      have nC : H5 s3.heap.objs.size = none := by
        have z : H5 ce.locals = none := I6.free
        rw [cL] at z
        exact z
      obtain ⟨m, hn, _⟩ := I6.loc
      have hn : s6.heap.Ns ce.locals m := hn
      rw [cL] at hn
      refine ⟨m, hn, fun h'' sb => ?_⟩
      obtain ⟨f0, f1, f2, f3, f4, f5⟩ := I3.fpOk (Nat.le_refl _) nC
      exact ⟨.ref D, H5, I7.turned (t' := s6.toks) (fun b o hb e => (sb.2 b hb).trans e) f0 f1 f3 f4 f5, rfl, qq⟩
    · have ti := hot_item (X := X.blk s3 H3 scope ce [it]) (tg := tg) (E := fun _ _ => False) I5 (stat I5 n5) st5 go
      refine thnF ti fun r s6 ⟨u, hr, h6⟩ => ?_
      subst hr
      refine thnF h6 fun _ s7 ⟨x, H7, I7, r7, y7, st7, n7⟩ => ?_
      obtain ⟨oi, ei, ci, di⟩ := id st7
      have I7' := I7.pinned (fp := [it]) (fun b hb => by
        have e : b = it := by simpa using hb
        subst e
        exact stat I7 n7) (fun b hb => by
        have e : b = it := by simpa using hb
        subst e
        exact ⟨oi, ei, fun v q => by rw [di] at q; cases q⟩)
      refine thnF (pg.run _ s7 _ H7 x u _ I7' r7 (step x H7 y7)) fun _ s8 ⟨σ8, H8, I8, hw8, q8⟩ => ?_
      refine thnF (pt.run _ s8 σ8 H8 _ I8 q8) fun b s9 ⟨H9, I9, q9⟩ => ?_
      have fin : ∀ {s' : Shared} {H' : Hp}, Inv (X.blk s3 H3 scope ce [it]) ([] ++ pinsAt [it] s7.heap) σ8 H' s' → Nx H' → ∃ m, m < n ∧ ∃ i H', Inv (X.blk s3 H3 scope ce [it]) [] (L2.wipe σ (own.map (·.2))) H' s' ∧ s'.heap.IsListIter it a i ∧ H' it = none ∧ W i m H' := fun {s' H'} I' nx => by
        obtain ⟨m', hm, w'⟩ := hNx H' nx
        have z := I'.pin (it, oi) (List.mem_append_right _ (List.mem_append_right _ (mem_pinsAt (by simp) ei)))
        have hl : (L2.wipe σ (own.map (·.2))).length = σ8.length := by rw [← hw8, wipe_length]
        refine ⟨m', hm, i + 1, H', (I'.unpinned (pins := [])).weak hl (fun j v e => ?_), st7.at fun o e => ?_, z.2.1, w'⟩
        · rw [← hw8] at e
          exact (wipe_some e).1
        · rw [ei] at e; cases e; exact z.1
      cases b with
      | false =>
        simp only [Bool.false_eq_true, if_false] at q9 ⊢
        exact fin I9 q9
      | true =>
        simp only [if_true] at q9 ⊢
        refine thnF (pe.run _ s9 σ8 H9 _ I9 q9) fun z s10 ⟨yv, H10, I10, r10, acc, hD10, hz10, nx⟩ => ?_
        exact app_ok (X := X.blk s3 H3 scope ce [it]) I10 hD10 hz10 r10 fun s11 I11 => fin I11 nx
  exact codeAny_compStart_list loop (wpAny_pyIter_listiter st4 loop)
end
/-! ### sum there -/
theorem Walks.listHot {prog : Program} {w : World} {A : Around} {x1 : Addr} {o1 : Obj} {vs1 : Array Value} (hh : A.handled = some (.ref x1)) (d1 : o1.data = .fields vs1) (c1 : vs1[2]? = some .none) (I ax : Addr) (hne : ax ≠ I) (hx : x1 ≠ I) (items : Array Value) :
    Walks prog w A I [I, ax, x1] [I] items.size (fun i v => items[i]? = some v) (fun i h => (h.IsListIter I ax i ∧ h.IsList ax items) ∧ h.get? x1 = some o1) where
  sub := fun b hb => by simp at hb; simp [hb]
  frame := fun _ _ _ st hk => ⟨⟨st.1.1.at fun o e => hk I (by simp) o e, st.1.2.at fun o e => hk ax (by simp) o e⟩, hk x1 (by simp) _ st.2⟩
  item := fun i s Q E hi st hQ => by
    refine wpAny_pyNext_list_item st.1.1 st.1.2 (x := items[i]) (by simp [hi]) fun h' hit' hs' => ?_
    exact hQ _ h' s.toks (by simp [hi]) ⟨⟨hit', st.1.2.extBut hs'.extBut hne⟩, hs'.extBut x1 _ hx st.2⟩ fun b o hb e => hs'.extBut b o (fun h => hb (by simp [h])) e
  done := fun s Q E st hQ => next_list_end_hot ⟨hh, o1, vs1, st.2, d1, c1⟩ hx st.1.1 st.1.2 (by simp) fun h' he' => hQ h' s.toks fun b o hb e => he' b o (fun h => hb (by simp [h])) e
  self := fun _ _ _ _ st hQ => wpAny_pyIter_listiter st.1.1 hQ
theorem sum_rawHot {prog : Program} {w : World} {A : Around} {E : Value → Shared → Prop} {s : Shared} {l : Addr} {its : List Value} {ns : List Int} {Q : Value → Shared → Prop} {x1 : Addr} (hot : HotX.HotAt A x1 s.heap) (hl : s.heap.IsList l its.toArray) (hi : IntsAre its ns)
    (h : ∀ h' tk t', (∀ b o, s.heap.get? b = some o → h'.get? b = some o) → Q (.int ns.sum t') { s with heap := h', toks := tk }) : wpAny (model prog w) A (call (.builtin "sum") [.ref l]) Q E s := by
  obtain ⟨xs, e⟩ := hi.allInts.items
  have hn : numsOf (intItems xs).toList = ns := by rw [← e]; exact hi.numsOf
  rw [nums_intItems] at hn
  rw [e] at hl
  obtain ⟨hh, o1, vs1, h1, d1, c1⟩ := hot
  refine PySem.call_sum_walkG (iter_intList hl fun s₂ e st hfp hlI => ?_)
  subst e
  have hx : x1 ≠ s.heap.objs.size := Nat.ne_of_lt (Heap.lt_size h1)
  refine ⟨_, _, _, _, _, _, numAt xs, rfl, Walks.listHot (A := A.in1) hh d1 c1 _ l hlI hx (intItems xs), ⟨st, Heap.get?_push_of_some _ h1⟩, (fun b hb => ?_), (fun _ _ => intItems_at), fun h' tk t' hk => ?_⟩
  · have hb' : b = s.heap.objs.size ∨ b = l ∨ b = x1 := by simpa using hb
    rcases hb' with rfl | rfl | rfl
    · exact hfp _ (by simp)
    · exact hfp _ (by simp)
    · exact Nat.lt_trans (Heap.lt_size h1) (hfp _ (by simp))
  · have := h h' tk t' (old_kept hk)
    rw [← hn] at this
    have e2 : preSum (numAt xs) xs.size = (List.map (·.1) xs.toList).sum := by rw [preSum_eq, List.take_of_length_le (by simp)]
    simpa [intItems, e2] using this
theorem cr_sumHot {X : Cx} (hc : L2H.HotC X) : CallR X (.builtin "sum") (rSum X.K) := by
  intro pins s σ H vs us Q I r h
  obtain ⟨a, ns, rfl, hs, q⟩ := h
  obtain ⟨its, rv, hl, _⟩ := I.list hs
  obtain ⟨x1, hot⟩ := hc.at I
  rw [Vals.ref1 r]
  exact sum_rawHot hot hl.isList rv.ints fun h' tk t' hk => ⟨.int _, H, I.kept hk, ⟨_, rfl⟩, q⟩
end DL
/-! DLTold -/
set_option Elab.async false
set_option linter.all false
set_option maxRecDepth 100000
set_option maxHeartbeats 2000000
/-! DLTold: an exception that is held; a def that is called in an except suite; a lambda that is told of. -/
namespace DL
open PySem PySem.Spec PyProof.Rows L2
variable [Tb]
/-! ### an exception that is held -/
theorem RepK.isXd {K : Wd} {F : Hp} {kvs : List (L2.Key × V)} {es : List (D × D)} (h : RepK K F kvs es) : isXd es = false := by
  cases h with
  | nil => rfl
  | @cons k v kvs d es r t => cases k <;> rfl
theorem RepV.exc {K : Wd} {G : Gs} {fl : List (Nat × Kd)} {F H : Hp} {ρ : Env} {σ : L2.St} {v : V} {es : List (D × D)} (s : St K G fl F ρ σ H) (h : RepV K fl F ρ σ v (.dict es)) (hx : isXd es = true) : ∃ a : Addr, v = .ref a ∧ (.dict es : D) = excD a := by
  rcases h.own s with h | ⟨p, o, rfl, l, h⟩
  · cases h with
    | dk hq r => rw [r.isXd] at hx; cases hx
    | dt hq r => cases hx
    | ex a => exact ⟨a, rfl, rfl⟩
  · cases h with
    | dk r => rw [r.isXd] at hx; cases hx
    | dt r => cases hx
/-- isinstance of the exception at a -/
def dIsP (a : Nat) (b : Bool) : D → R D
  | .dict [(.bool true, .int n)] => if n = (a : Int) then .ok (.bool b) else .bad
  | _ => .bad
omit [Tb] in
theorem isP_self {a : Nat} {b : Bool} : dIsP a b (excD a) = .ok (.bool b) := by simp [dIsP, excD]
section
variable {X : Cx} {A : Ex → Addr} {W : WX} {fl : List (Nat × Kd)} {a e o : Expr} {fa fe fo : FE} {pos p apos cpos : Pos} {y : Str} {p2 : Pos} {q : Addr × Obj} {C Dc : Addr} {b : Bool} {T : String}
theorem call_isP {c : V} {cv : Value} (hp : q ∈ X.pn) (E : ExcC X.K Dc) (hz : Zc (.ref Dc) none q.2) (hf : ∃ vs, q.2.data = .fields vs) (hcv : ∀ u, RelV c u → u = cv) (hk : PySem.W.kitOne X.K (.ref Dc) cv = some b) :
    CallR X (.builtin "isinstance") (fun xs H Q => xs = [.ref q.1, c] ∧ Q (.bl b) H) := by
  intro pins s σ H xs us Q I r h
  obtain ⟨rfl, qq⟩ := h
  cases r with
  | cons rx rr =>
    cases rr with
    | cons rt rr =>
      cases rr
      cases rx
      have ec := hcv _ rt
      subst ec
      obtain ⟨hget, _⟩ := I.pin q (List.mem_append.mpr (.inl hp))
      obtain ⟨vs, hv⟩ := hf
      have J : PySem.W.InstAt s.heap q.1 q.2 Dc none := by
        obtain ⟨qa, oc, od, oda, osl⟩ := q
        obtain ⟨h1, h2⟩ := hz
        dsimp only at h1 h2 hv
        subst h1 h2 hv
        exact ⟨hget, rfl, rfl, trivial⟩
      exact PySem.W.kia_one (PySem.W.handS_kitx_exc E.hg E.hk E.hs E.hd E.ha E.hn E.ht E.hm) I.kIn J hk (fun z => nomatch z) fun tk => ⟨.bl b, H, I.kept (t' := tk) fun _ _ z => z, rfl, qq⟩
theorem isp_of {c : V} {σ : L2.St} {H : Hp} {Q : VK} (h : tD (wd X) A W fl (e1 (dIsP q.1 b) fa) σ H Q) : tCB (fun xs H Q => xs = [.ref q.1, c] ∧ Q (.bl b) H) (tCons (tV (wd X) A W fl fa) (tCons (tC c) tNil)) σ H Q := by
  obtain ⟨G, F, ρ, s, h⟩ := h
  refine ⟨G, F, ρ, s, (RP.bind h).imp fun x F1 H1 le1 s1 q1 v rv => ?_⟩
  show ([v, c] : List V) = [.ref q.1, c] ∧ Q (.bl b) H1
  unfold dIsP at q1
  split at q1
  · rename_i n
    obtain ⟨a', rfl, e'⟩ := rv.exc s1 rfl
    have en : n = (a' : Int) := by
      unfold excD at e'
      injection e' with e'
      injection e' with e' _
      injection e' with _ e'
      injection e'
    subst en
    split at q1
    · rename_i hn
      have : a' = q.1 := Int.ofNat.inj hn
      subst this
      exact ⟨rfl, q1.ok s1 _ (.bl b)⟩
    · exact q1.elim
  · exact q1.elim
theorem jd_isPc (hp : q ∈ X.pn) (E : ExcC X.K Dc) (hz : Zc (.ref Dc) none q.2) (hf : ∃ vs, q.2.data = .fields vs) (hk : PySem.W.kitOne X.K (.ref Dc) (.ref C) = some b) (ha : JV X A W fl a fa) (hg : Gl X "isinstance") (hm : X.mg "isinstance" = none) (hgy : Gl X y) (hmy : X.mg y = some (.ref C)) (hdy : (y == ("__debug__" : Str)) = false := by decide)
    (hs : starEach [a, .Name y p2] X.env = (false, eval a X.env) :: starEach [.Name y p2] X.env := by rfl) (hs2 : starEach [.Name y p2] X.env = (false, eval (.Name y p2) X.env) :: starEach [] X.env := by rfl) (hpl : (backTo pos (starEach [.Name y p2] X.env)).any (·.1) = false := by rfl) :
    JD X A W fl (.Call (.Name "isinstance" p) [a, .Name y p2] [] pos) (e1 (dIsP q.1 b) fa) :=
  pe_mono (pe_callB (call_isP (c := .ref C) hp E hz hf (fun u r => r) hk) hg hm (by decide +kernel) (pa_cons ha (pa_cons (pe_glob (v := .ref C) hgy hmy rfl hdy) pa_nil hs2) hs) (by decide) (by decide) hs hpl) fun σ H Q h => isp_of h
theorem jd_isPt (hp : q ∈ X.pn) (E : ExcC X.K Dc) (hz : Zc (.ref Dc) none q.2) (hf : ∃ vs, q.2.data = .fields vs) (hk : PySem.W.kitOne X.K (.ref Dc) (.type T) = some b) (ha : JV X A W fl a fa) (hg : Gl X "isinstance") (hm : X.mg "isinstance" = none) (hgy : Gl X y) (hmy : X.mg y = none) (hvy : bootBuiltins y = some (.type T)) (hny : y ≠ "__name__" := by decide) (hdy : (y == ("__debug__" : Str)) = false := by decide)
    (hs : starEach [a, .Name y p2] X.env = (false, eval a X.env) :: starEach [.Name y p2] X.env := by rfl) (hs2 : starEach [.Name y p2] X.env = (false, eval (.Name y p2) X.env) :: starEach [] X.env := by rfl) (hpl : (backTo pos (starEach [.Name y p2] X.env)).any (·.1) = false := by rfl) :
    JD X A W fl (.Call (.Name "isinstance" p) [a, .Name y p2] [] pos) (e1 (dIsP q.1 b) fa) :=
  pe_mono (pe_callB (call_isP (c := .ty T) hp E hz hf (fun u r => r) hk) hg hm (by decide +kernel) (pa_cons ha (pa_cons (pe_bltn (v := .ty T) hgy hmy hvy rfl hny hdy) pa_nil hs2) hs) (by decide) (by decide) hs hpl) fun σ H Q h => isp_of h
/-! ### xs.index(x) -/
def dIndex (ds : List D) (d : D) : R D := if shaped (.list ds) = true ∧ shaped d = true then (match ds.findIdx? fun z => PyData.eqv z d with
  | some j => .ok (.int (j : Nat))
  | none => .bad) else .bad
def eIndex (o a : FE) : FE := fun ρ => (o ρ).bind fun x => match x with
  | .list ds => (a ρ).bind (dIndex ds)
  | _ => .bad
theorem jd_index (hu : X.A.units + 65 < cLine) (ho : JV X A W fl o fo) (ha : JV X A W fl a fa) (hbase : attributeBase o "index" X.env (eval o X.env) = eval o X.env := by rfl)
    (hfew : ((backTo cpos (starEach [a] X.env)).all (fun x => !x.1) && (backToKw cpos (keywordEach [] X.env)).all (fun x => x.1.isSome)
      && decide (([a] : List Expr).length + ([] : List Keyword).length + (if ([] : List Keyword).isEmpty then 0 else 1) < 30)) = true := by rfl)
    (hline : (apos.endLine == cpos.line) = true := by rfl) (hs : starEach [a] X.env = (false, eval a X.env) :: starEach [] X.env := by rfl) (hplain : (backTo cpos (starEach [] X.env)).any (·.1) = false := by rfl) :
    JD X A W fl (.Call (.Attribute o "index" apos) [a] [] cpos) (eIndex fo fa) := by
  refine pe_mono (pe_bm PySem.F.plainAttrs_list PySem.F.slot_list_index PySem.F.type_list_index (mt_indexD hu) ho (pa_cons ha pa_nil hs) hbase hfew hline hs hplain) fun σ H Q ⟨G, F, ρ, s, q⟩ => ?_
  refine ⟨G, F, ρ, s, (RP.bind q).imp fun x F1 H1 le1 s1 q1 v rv => ?_⟩
  cases hx : x with
  | list ds =>
    subst hx
    obtain ⟨p, xs, rfl, hp, ra⟩ := rv.list s1
    refine ⟨.inl ⟨rfl, xs, hp⟩, G, F1, ρ, s1, (RP.bind q1).imp fun y F2 H2 le2 s2 q2 w rw' => ?_⟩
    show rIndexD X.K (.ref p) [w] H2 Q
    simp only [dIndex] at q2
    by_cases hsh : shaped (.list ds) = true ∧ shaped y = true
    · rw [if_pos hsh] at q2
      cases hf : ds.findIdx? (fun z => PyData.eqv z y) with
      | none => rw [hf] at q2; exact q2.elim
      | some j =>
        rw [hf] at q2
        obtain ⟨hj, hj1, hj2⟩ := List.findIdx?_eq_some_iff_getElem.mp hf
        refine ⟨p, w, y, ds, j, ds[j], rfl, rfl, (rv.mono le2).dp s2 (lay_of_shaped hsh.1), rw'.dp s2 (lay_of_shaped hsh.2), hsh.1, hsh.2, by simp [hj], hj1, fun m z' hm hz => ?_, q2.ok s2 _ (.int _)⟩
        obtain ⟨hml, ez⟩ := List.getElem?_eq_some_iff.mp hz
        rw [← ez]
        have := hj2 m hm
        simpa using this
    · rw [if_neg hsh] at q2; exact q2.elim
  | _ => subst hx; exact q1.elim
end
end DL
/-! DLTold2 -/
set_option Elab.async false
set_option linter.all false
set_option maxRecDepth 100000
set_option maxHeartbeats 2000000
/-! DLTold2: a def called in an except suite (it may look at the exception); a lambda that is told of. -/
namespace DL
open PySem PySem.Spec PyProof.Rows L2
variable [Tb]
/-! ### a comprehension over a list in such a def -/
def iLst (a : FE) : FA := fun ρ => (a ρ).bind fun x => match x with
  | .list xs => .ok xs
  | _ => .bad
section
variable {X : Cx} {A : Ex → Addr} {W : WX} {fl : List (Nat × Kd)} {vs : List Nat} {tg elt iter : Expr} {fa fe : FE} {pos : Pos} {ifs : List Expr} {ft : FT} {g : FG} {scope : Scope} {own : List (Str × Nat)}
theorem ilst_of {σ : L2.St} {H : Hp} {Q : It → Hp → Prop} (h : tI (wd X) A W fl false (iLst fa) σ H Q) : iList X.K (tD (wd X) A W fl fa) σ H Q := by
  obtain ⟨G, F, ρ, s, q⟩ := h
  refine ⟨G, F, ρ, s, (RP.bind q).imp fun d F1 H1 le1 s1 q1 v rv => ?_⟩
  cases d with
  | list ds =>
    cases rv with
    | @lst p xs _ hp r =>
      refine ⟨p, rfl, ⟨xs, s1.c.sql hp⟩, q1 F1 H1 (Le.refl _) s1 _ ⟨fun H => SqL X.K H p xs, YAt xs, ?_, fun G F' H le c => c.sql (le.sql hp), fun i H x H' hi y => yat_d r y⟩⟩
      rw [← r.length]
      exact walk_list
  | none => exact q1.elim
  | bool b => exact q1.elim
  | int i => exact q1.elim
  | str z => exact q1.elim
  | tuple z => exact q1.elim
  | dict kvs => exact q1.elim
theorem jn_compHot (hc : L2H.HotC X) (hN : X.N.Nodup) (hi : JD X A W fl iter fa) (ok : BlkOk X.N X.env.scope scope own) (hvs : own.map (·.2) = vs) (hg0 : GIn vs g) (hfl : ∀ j k, (j, k) ∈ fl → j ∉ vs) (hg : Blk X scope fun Y => JGa Y false fl fl vs tg g) (ht : Blk X scope fun Y => JTs Y A WN fl ifs ft) (he : Blk X scope fun Y => JD Y A WN fl elt fe)
    (hs : ∀ x, foldedSetIterable iter X.env x = pure x := by intro _; rfl) : JN X A W fl .l (.ListComp elt [⟨tg, iter, ifs, 0⟩] scope pos) (eComp (iLst fa) vs g ft fe) :=
  pe_mono (pe_lcHot (g := tGa (wd X) false fl fl vs g) (tt := tTs (wd X) A WN fl ft) (te := tD (wd X) A WN fl fe) hc hN hi ok hg ht he hs) fun σ H Q h => ilst_of (tlc_of hvs hg0 hfl h)
end
/-! ### a def called in an except suite; p: the exception -/
structure FnHp (P : Program) (w : World) (K : Frag) (mg : Str → Option Value) (base : Heap) (CX : CXT) (k : Nat) (f : Addr) (fd : FuncData) (ps : List Str) (sp : Addr × Obj → Sp) : Prop where
  len : ∀ p vs H Q E, sp p vs H Q E → vs.length = ps.length
  run : ∀ (A : Around) (outer : List PySem.Env) (s : Shared) (H : Hp) (args : Args) (us : List Value) (vs : List V) (Q : VK) (E : XK) (p : Addr × Obj), L2H.RoomH k A → L2H.Hot1 A p → L2H.PinOk outer H s p → Env0 P w K mg base A outer s H → BindsTo s fd args (ps.zip us) → Vals vs us → sp p vs H Q E →
    codeAny (model P w) A (.call (.ref f) args) (CR CX outer P w H s Q E) s
theorem fn_ofHp {CX : CXT} {P : Program} {w : World} {K : Frag} {mg : Str → Option Value} {base : Heap} {k : Nat} {f : Addr} {x qual : Str} {st : Stmt} {fd : FuncData} {N ps : List Str} {sp : Addr × Obj → Sp} (F : Fun K x qual st f fd) (S : FnScope N ps (defScope st)) (len : ∀ p vs H Q E, sp p vs H Q E → vs.length = ps.length)
    (hbody : ∀ (cdv : Value) (A : Around) (outer : List PySem.Env) (s : Shared) (H : Hp) (vs : List V) (Q : VK) (E : XK) (p : Addr × Obj), L2H.Hot1 A p → L2H.RoomH k (A.deeper (envOfC qual (defScope st) s.heap.objs.size f cdv)) → sp p vs H Q E →
      ∃ t, PSs (L2H.cxH CX P w K mg base N qual (defScope st) f cdv A outer s H E p) (defBody st) t ∧ t { nx := fun _ H' => Q .non H', rt := Q } (L2.start N vs) H) :
    FnHp P w K mg base CX (k + 1) f fd ps sp := by
  obtain ⟨oc, od, kV, doc, pm, an, cdv, ct, osl, rfl, lk, hcd⟩ := F.ex
  refine ⟨len, fun A outer s H args us vs Q E p hr hot hpin e0 hb r hsp => ?_⟩
  have hl := len _ _ _ _ _ hsp
  have KX : K.In s.heap := e0.mod.kin.keeps fun b o e => (e0.bs b o e).1
  have lim : s.heap.NoLimit := e0.mod.nolimit.keeps fun b o e => (e0.bs b o e).1
  have hkind : ∀ y ∈ ps.zip us, (defScope st).names.lookup y.1 = some .local ∨ ((defScope st).names.lookup y.1 = some .cell ∧ ((cellsFrom (s.heap.objs.size + 1) (defScope st).names []).lookup y.1).isSome = true) := fun ⟨n, v⟩ hy => by
    rcases S.par n (List.of_mem_zip hy).1 with q | q
    · exact .inl q
    · exact .inr ⟨q, PySem.W.cellsFrom_some _ _ _ (.inl q)⟩
  refine codeAny_call_function hr.depth (KX _ _ lk) rfl S.co S.gen rfl (PySem.W.codeRec_of KX hcd) (hb _ _ _ _ ?_)
  refine wpAny_newFunctionEnv_cells S.kind hkind fun env he s1 x => ?_
  subst he
  refine ⟨lim.keeps x.toInCall.keep, codeAny_func ?_⟩
  obtain ⟨t, ht, hq⟩ := hbody cdv A outer s H vs Q E p hot (hr.deeper _) hsp
  have I : Inv (L2H.cxH CX P w K mg base N qual (defScope st) f cdv A outer s H E p) [] (L2.start N vs) H s1 := L2H.inv_startH S hpin e0 hl r x
  refine wpAny_mono (ht.run [] s1 (L2.start N vs) H _ I hq) (fun fl s' hs => ?_) fun e s' hs => hs
  have fin : ∀ {σ' : L2.St} {H' : Hp} {v : V} {u : Value}, Inv (L2H.cxH CX P w K mg base N qual (defScope st) f cdv A outer s H E p) [] σ' H' s' → RelV v u → Q v H' → CE outer P w H s Q u s' :=
    fun {σ' H' v u} J rv q => ⟨v, H', J.os, J.bare, J.base, J.hok, rv, q⟩
  cases fl with
  | ret u =>
    obtain ⟨v, σ', H', J, rv, q⟩ := hs
    exact fin J rv q
  | next =>
    obtain ⟨σ', H', J, q⟩ := hs
    exact fin (v := V.non) (u := Value.none) J rfl q
  | brk =>
    obtain ⟨_, _, _, q⟩ := hs
    exact False.elim q
  | cont =>
    obtain ⟨_, _, _, q⟩ := hs
    exact False.elim q
/-- the word that a def tells of an exception -/
def spW (K : Wd) (word : Ex → Str) : Addr × Obj → Sp := fun p vs H Q _ => ∃ (G : Gs) (F : Hp) (e : Ex), G.T = K.T ∧ StC G F H ∧ vs = [.ref p.1] ∧ Zc (.ref (K.A e)) none p.2 ∧ (∃ fs, p.2.data = .fields fs) ∧ ∀ F' H', Le F F' → StC G F' H' → Q (.str (word e)) H'
/-- what such a body's context gives -/
structure BdH (X : Cx) (p : Addr × Obj) : Prop where
  hot : L2H.HotC X
  pn : p ∈ X.pn
  hu : X.A.units + 65 < cLine
  fs : ∃ fs, p.2.data = .fields fs
theorem BdH.hu1 {X : Cx} {p : Addr × Obj} (b : BdH X p) : X.A.units + 1 < cLine := by have := b.hu; omega
theorem word_def {P : Program} {w : World} {K : Frag} {mg : Str → Option Value} {base : Heap} {k : Nat} {f : Addr} {x x0 : Str} {st : Stmt} {fd : FuncData} {N : List Str} {word : Ex → Str} {fs : Addr → Ex → FS} {fl' : List (Nat × Kd)} (F : Fun K x x st f fd) (S : FnScope N [x0] (defScope st))
    (hbody : ∀ (cdv : Value) (A : Around) (outer : List PySem.Env) (s : Shared) (H : Hp) (E : XK) (p : Addr × Obj) (e : Ex), Zc (.ref (Tb.A e)) none p.2 → BdH (L2H.cxH (L2N.CX P w) P w K mg base N x (defScope st) f cdv A outer s H E p) p →
      JSs (L2H.cxH (L2N.CX P w) P w K mg base N x (defScope st) f cdv A outer s H E p) Tb.A WN [] [] fl' (defBody st) (fs p.1 e))
    (hw : ∀ a e, runF 1 N.length (fs a e) [excD a] = .ok (.str (word e))) : FnHp P w K mg base (L2N.CX P w) (k + 1) f fd [x0] (spW (kw P w K) word) := by
  refine fn_ofHp F S (fun p vs H Q E ⟨_, _, _, _, _, e, _⟩ => by rw [e]; rfl) fun cdv A outer s H vs Q E p hot hr h => ?_
  obtain ⟨G, F, e, hT, c, rfl, hz, hf, q⟩ := h
  have hw := hw p.1 e
  refine ⟨_, hbody cdv A outer s H E p e hz ⟨⟨p, hot, List.mem_cons_self⟩, List.mem_cons_self, by have := hr.un; show _ < _; have e : (L2H.cxH (L2N.CX P w) P w K mg base N x (defScope st) f cdv A outer s H E p).A = A.deeper (envOfC x (defScope st) s.heap.objs.size f cdv) := rfl; rw [e]; omega, hf⟩, G, F, _, st_start (vs := [.ref p.1]) (ds := [excD p.1]) c hT (.cons (.ex p.1) .nil), ?_⟩
  unfold runF at hw
  rw [if_pos (show ([excD p.1] : List D).length = 1 from rfl)] at hw
  cases hr : fs p.1 e (([excD p.1] : List D).map some ++ List.replicate (N.length - ([excD p.1] : List D).length) none) with
  | ret d =>
    rw [hr] at hw
    cases hw
    intro v F' H' le c' rv
    cases rv
    exact q F' H' le c'
  | nx ρ => rw [hr] at hw; cases hw
  | exc e => rw [hr] at hw; cases hw
  | brk ρ => rw [hr] at hw; cases hw
  | cnt ρ => rw [hr] at hw; cases hw
  | bad => rw [hr] at hw; cases hw
/-- word(e) in the suite -/
theorem pe_word {X : Cx} {k : Nat} {f : Addr} {fd : FuncData} {x0 : Str} {sp : Addr × Obj → Sp} {a : Addr} {oe : Obj} {pn : List (Addr × Obj)} {x n : Str} {i : Nat} {p q pos : Pos} (F : FnHp X.prog X.w X.K X.mg X.base (L2N.CX X.prog X.w) k f fd [x0] sp) (hr : Room k X.A) (hf : ∃ fs, oe.data = .fields fs) (hn2 : PXN.CtxN oe)
    (hg : Gl X x) (hm : X.mg x = some (.ref f)) (hk : PySem.W.keepIn X.K (.ref f) = true) (hb : Binds X.K fd [x0] []) (hN : X.N[i]? = some n) (hv : Vis X.env.scope n) (hd : (n == ("__debug__" : Str)) = false := by decide) (hcd : (n == ("__classdict__" : Str)) = false := by decide) (hdb : (x == ("__debug__" : Str)) = false := by decide)
    (he : starEach [.Name n p] X.env = (false, eval (.Name n p) X.env) :: starEach [] X.env := by rfl) (hpl : (backTo pos (starEach [] X.env)).any (·.1) = false := by rfl) :
    PE (X.suite a ((a, oe) :: pn)) (.Call (.Name x q) [.Name n p] [] pos) (fun σ H Q => σ[i]? = some (some (.ref a)) ∧ sp (a, oe) [.ref a] H Q fun _ _ _ => False) := by
  refine ⟨fun pins s σ H Q I h => ?_⟩
  obtain ⟨h1, h2⟩ := h
  refine wpAny_Call_Name_kw (ld_glob (X := X.suite a ((a, oe) :: pn)) I hg hm ?_ hdb)
  have ha : PA (X.suite a ((a, oe) :: pn)) [.Name n p] (tCons (tVar i) tNil) := pa_cons (pe_var hN hv hd hcd) pa_nil he
  refine PySem.W.callWith_K (h₀ := X.base) I.ok.mod.kin hk (thn (ha.run pos pins s σ H (fun vs H1 => vs = [V.ref a] ∧ H1 = H) I ⟨.ref a, h1, rfl, rfl⟩) fun us s1 ⟨vs, H1, I1, r, ev, eH⟩ => ⟨I1.kIn, ?_⟩) he hpl
  subst ev
  rw [eH] at I1
  have b := hb s1 us I1.kIn (by rw [List.append_nil, ← r.length]; rfl)
  rw [List.append_nil] at b
  have hp : (a, oe) ∈ (X.suite a ((a, oe) :: pn)).pn := List.mem_cons_self
  have P1 := I1.pin (a, oe) (List.mem_append_left _ hp)
  have hpin : L2H.PinOk (X.suite a ((a, oe) :: pn)).stack H s1 (a, oe) := ⟨P1.1, P1.2.1, fun hm => (List.mem_cons.mp (I1.stkSub a hm)).elim P1.2.2.1 P1.2.2.2.1, P1.2.2.2.2⟩
  obtain ⟨fs, hfs⟩ := hf
  refine wpAny_call (codeAny_mono (F.run (X.suite a ((a, oe) :: pn)).A (X.suite a ((a, oe) :: pn)).stack s1 H ⟨us, []⟩ us [.ref a] Q (fun _ _ _ => False) (a, oe) ⟨hr.dp, hr.un⟩ ⟨rfl, fs, hfs, hn2 fs hfs⟩ hpin I1.env0 b r h2) fun r s' hq => ?_)
  cases r with
  | error e =>
    obtain ⟨_, _, _, _, _, _, _, _, _, _, _, _, z⟩ := hq
    exact z.elim
  | ok fl =>
    cases fl with
    | ret u => exact I1.after hq
    | next => exact False.elim hq
    | brk => exact False.elim hq
    | cont => exact False.elim hq
end DL
/-! DLTold3 -/
set_option Elab.async false
set_option linter.all false
set_option maxRecDepth 100000
set_option maxHeartbeats 2000000
/-! DLTold3: told(lambda: e): what e gives, or the word of the refusal. -/
namespace DL
open PySem PySem.Spec PyProof.Rows L2
variable [Tb]
def eTold (vs : List Nat) (word : Ex → Str) (f : FE) : FE := fun ρ => match f (wipeE ρ vs) with
  | .ok d => .ok d
  | .exc e => .ok (.str (word e))
  | .bad => .bad
theorem takes0N {X : Cx} : L2N.Takes X (fun _ _ _ _ => False) := fun _ _ x => by
  obtain ⟨_, _, _, _, _, _, _, _, _, _, _, _, _, _, _, _, z⟩ := x
  exact z.elim
section
variable {K : Wd} {G : Gs} {fl : List (Nat × Kd)} {F H H' : Hp} {ρ : Env} {σ : L2.St}
theorem StC.extN (s : StC G F H) (e : LamX.ExtN H H') (t : LamX.Tabs G.T H') : StC G F H' where
  le b o h := by
    obtain ⟨n, l⟩ := s.le b o h
    refine ⟨n, ?_⟩
    rcases l with ⟨h1, h2⟩ | ⟨h1, h2, ob, h3⟩
    · exact .inl ⟨h1, e _ _ h2 n⟩
    · exact .inr ⟨h1, h2, ob, e _ _ h3 NoTbl.frz⟩
  zk p o h := by
    obtain ⟨h1, h2⟩ := s.zk p o h
    exact ⟨h1, e _ _ h2 (s.zt p o h)⟩
  zt := s.zt
  lk p h := by
    obtain ⟨ob, o, h1⟩ := s.lk p h
    exact ⟨ob, o, e _ _ h1 NoTbl.frz⟩
  tabs := t
  lf := s.lf
theorem St.extN (s : St K G fl F ρ σ H) (e : LamX.ExtN H H') (t : LamX.Tabs G.T H') : St K G fl F ρ σ H' where
  c := s.c.extN e t
  tt := s.tt
  len := s.len
  sh := s.sh
  ow i k d m h := by
    obtain ⟨p, o, g1, g2, g3, g4, g5, g6⟩ := s.ow i k d m h
    refine ⟨p, o, g1, g2, g3, ?_, g5, g6⟩
    rcases g4 with ⟨h1, h2⟩ | ⟨h1, h2, ob, h3⟩
    · exact .inl ⟨h1, e _ _ h2 g6.noTbl⟩
    · exact .inr ⟨h1, h2, ob, e _ _ h3 NoTbl.frz⟩
  ap := s.ap
/-- one's own objects aside, their slots forgotten -/
theorem St.shut (s : St K G fl F ρ σ H) : St K (DL.aside G fl ρ σ H) [] F (wipeE ρ (fl.map (·.1))) σ H where
  c := s.aside
  tt := s.tt
  len := by rw [wipeE_length]; exact s.len
  sh i d e _ := by
    obtain ⟨h, hi⟩ := wipeE_some e
    exact s.sh i d h fun k m => hi (List.mem_map.mpr ⟨(i, k), m, rfl⟩)
  ow i k d m := nomatch m
  ap i j k k' d d' p m := nomatch m
end
/-- the context of a lambda's body -/
abbrev lamN (X : Cx) (A : Around) (outer : List PySem.Env) (s : Shared) (H : Hp) (E : XK) (scope : Scope) (f c' : Addr) : Cx :=
  (LamX.lamCx X A outer s H E scope f c').tr [] fun e s' => wpAny (model X.prog X.w) (A.deeper (LamX.lamEnv X scope s.heap.objs.size f c')) (leaving (LamX.lamEnv X scope s.heap.objs.size f c') e) (fun _ s'' => L2N.CX X.prog X.w outer H s E e s'') (fun e' s'' => L2N.CX X.prog X.w outer H s E e' s'') s'
section
variable {X : Cx} {pins : List (Addr × Obj)} {σ : L2.St} {H : Hp} {s : Shared}
theorem pe_actN {CXg : CXT} {Eg : XK} {Ng : List Str} {qg : Str} {sg : Scope} {g f c' : Addr} {cdg pm ctv : Value} {params : Arguments} {body : Expr} {scope : Scope} {k i : Nat} {a : Str} {pn : List (Addr × Obj)} {xe : Value → Shared → Prop} {W : WX} {tb : XK → TE} {p1 p2 : Pos}
    (I : Inv X pins σ H s) (L : LamX.LamS X.env.scope scope) (hf : s.heap.get? f = some (PySem.W.kla_obj "<lambda>" (X.env.qual ++ "<lambda>") params body scope (cloFrom X.env.cells scope.names []) pm c' ctv)) (hfn : H f = none) (hfr : f ∉ frs X.stack)
    (hbind : bindArgs (PySem.W.kla_fn "<lambda>" (X.env.qual ++ "<lambda>") params body scope (cloFrom X.env.cells scope.names []) pm (.ref c') ctv) ⟨[], []⟩ = pure [])
    (tk : L2N.Takes ((cxOf CXg X.prog X.w X.K X.mg X.base Ng qg sg g cdg X.A X.stack s H Eg).tr pn xe) W) (hr : Room (k + 1) (X.A.deeper (envOfC qg sg s.heap.objs.size g cdg)))
    (hbody : ∀ (A : Around) (outer : List PySem.Env) (s : Shared) (H : Hp) (E : XK), Room k (A.deeper (LamX.lamEnv X scope s.heap.objs.size f c')) → PE (lamN X A outer s H E scope f c') body (tb E))
    (hN : Ng[i]? = some a) (hv : Vis sg a) (hd : (a == ("__debug__" : Str)) = false := by decide) (hcd : (a == ("__classdict__" : Str)) = false := by decide) :
    PE ((cxOf CXg X.prog X.w X.K X.mg X.base Ng qg sg g cdg X.A X.stack s H Eg).tr pn xe) (.Call (.Name a p1) [] [] p2)
      (fun σZ HZ Q => σZ[i]? = some (some (.ref f)) ∧ HZ c' = some (LamX.CodeO c' (X.env.qual ++ "<lambda>")) ∧ tb (WE W σZ) σ HZ Q) := by
  refine ⟨fun pinsZ sZ σZ HZ Q IZ h => ?_⟩
  obtain ⟨hs, hc, ht⟩ := h
  refine wpAny_Call_Name_kw (thn ((pe_var (pos := p1) (i := i) hN hv hd hcd).run pinsZ sZ σZ HZ (fun v H1 => v = .ref f ∧ H1 = HZ) IZ ⟨.ref f, hs, rfl, rfl⟩) fun u s1 ⟨v, H1, I1, r1, q1⟩ => ?_)
  obtain ⟨ev, eH⟩ := q1
  subst ev
  rw [eH] at I1
  obtain rfl : u = Value.ref f := r1
  have of1 : s1.heap.get? f = some (PySem.W.kla_obj "<lambda>" (X.env.qual ++ "<lambda>") params body scope (cloFrom X.env.cells scope.names []) pm c' ctv) := I1.base.keep f _ hf hfn hfr (fun z => nomatch (show f ∈ ([] : List Addr) from z))
  refine PySem.W.callWith_F0 ⟨_, _, _, _, of1⟩ ?_
  have un : Un (frs X.stack) [] H HZ s.heap s1.heap := I1.base
  obtain ⟨⟨oc, vs, t, hoc, hdc, hvc⟩, _, _⟩ := I1.hok c' _ hc
  have rc : codeAny (model X.prog X.w) (X.A.deeper (envOfC qg sg s.heap.objs.size g cdg)) (.call (.ref f) ⟨[], []⟩) (CR (L2N.CX X.prog X.w) (envOfC qg sg s.heap.objs.size g cdg :: X.stack) X.prog X.w HZ s1 Q (WE W σZ)) s1 := by
    refine PySem.W.kla_callFunE hr.depth of1 rfl L.co L.gen rfl ⟨c', oc, vs, t, rfl, hoc, hdc, hvc⟩ ?_
    rw [hbind]
    refine wpAny_pure (wpAny_newFunctionEnv (fun y hy => (L.own y hy).2) (fun y hy => absurd hy (by simp)) (fun h₁ hns hsb => ⟨I1.nolimit.fresh _ hsb, ?_⟩) L.kind)
    show codeAny _ _ (.expr body (LamX.lamEnv X scope s1.heap.objs.size f c')) _ _
    have kp : ∀ b o, s1.heap.get? b = some o → h₁.get? b = some o := fun b o e => hsb.extBut b o (Nat.ne_of_lt (Heap.lt_size e)) (Heap.get?_push_of_some _ e)
    have J : Inv (LamX.lamCx X (X.A.deeper (envOfC qg sg s.heap.objs.size g cdg)) (envOfC qg sg s.heap.objs.size g cdg :: X.stack) s1 HZ (WE W σZ) scope f c') [] σ HZ { s1 with heap := h₁, toks := s1.toks + ([] : List (Str × Value)).length } :=
      LamX.lam_start2 I L I1.env0 hr.hd un hns kp
    have J' : Inv (lamN X (X.A.deeper (envOfC qg sg s.heap.objs.size g cdg)) (envOfC qg sg s.heap.objs.size g cdg :: X.stack) s1 HZ (WE W σZ) scope f c') [] σ HZ { s1 with heap := h₁, toks := s1.toks + ([] : List (Str × Value)).length } := J.toTry _
    refine PySem.W.kla_codeExpr (wpAny_mono ((hbody _ _ s1 HZ _ (hr.deeper _)).run [] _ _ HZ Q J' ht) (fun v s' hq => ?_) fun e s' hq => hq)
    obtain ⟨w', H', J', rv, q⟩ := hq
    exact ⟨w', H', J'.os, J'.bare, J'.base, J'.hok, rv, q⟩
  have hx := L2N.passAt tk σZ
  refine wpAny_call (codeAny_mono rc fun r s' hq => ?_)
  cases r with
  | error e => exact hx pinsZ HZ s1 e s' I1 hq
  | ok fl =>
    cases fl with
    | ret u => exact I1.after hq
    | next => exact False.elim hq
    | brk => exact False.elim hq
    | cont => exact False.elim hq
end
/-- told: what the module has of it, and of the word -/
structure ToldK (P : Program) (w : World) (K : Frag) (mg : Str → Option Value) (base : Heap) (k : Nat) (x : Str) (word : Ex → Str) : Prop where
  ex : ∃ (g : Addr) (st : Stmt) (fd : FuncData) (a n e wd n0 : Str) (CS fw : Addr) (fdw : FuncData) (Ng : List Str) (p1 p2 p3 p4 p6 p7 p8 q1 q2 q3 : Pos),
    Fun K x x st g fd ∧ Binds K fd [a] [] ∧ FnScope Ng [a] (defScope st) ∧ mg x = some (.ref g) ∧
    defBody st = [.Try [.Return (some (.Call (.Name a p1) [] [] p2)) p3] [.ExceptHandler (some (.Name e p4)) (some n) [.Return (some (.Call (.Name wd q1) [.Name n q2] [] q3)) p6] p7] [] [] p8] ∧
    Ng = [a, n] ∧ (defScope st).names.lookup a = some .local ∧ (defScope st).names.lookup n = some .local ∧ (defScope st).names.lookup e = some .globalImplicit ∧ (defScope st).names.lookup wd = some .globalImplicit ∧
    (a == ("__debug__" : Str)) = false ∧ (a == ("__classdict__" : Str)) = false ∧ (n == ("__debug__" : Str)) = false ∧ (n == ("__classdict__" : Str)) = false ∧ (e == ("__debug__" : Str)) = false ∧ (wd == ("__debug__" : Str)) = false ∧
    mg e = some (.ref CS) ∧ (∀ c : Ex, PySem.W.exmOne K (.ref (Tb.A c)) (.ref CS) = some true) ∧
    FnHp P w K mg base (L2N.CX P w) k fw fdw [n0] (spW (kw P w K) word) ∧ mg wd = some (.ref fw) ∧ PySem.W.keepIn K (.ref fw) = true ∧ Binds K fdw [n0] []
section
variable {X : Cx} {W : WX} {fl : List (Nat × Kd)} {x : Str} {word : Ex → Str} {k kt : Nat} {params : Arguments} {body : Expr} {scope : Scope} {fb : FE} {p lpos pos : Pos} {c P : Addr}
theorem jd_told (T : ToldK X.prog X.w X.K X.mg X.base kt x word) (hkt : kt ≤ k) (TB : LamX.TabB X.base X.mg c P) (hmT : (P, X.env.qual ++ "<lambda>") ∈ Tb.T) (hu : ∀ p ∈ Tb.T, p.1 = P → p.2 = X.env.qual ++ "<lambda>") (hr : Room (k + 2) X.A)
    (hbody : ∀ (A : Around) (outer : List PySem.Env) (s : Shared) (H : Hp) (E : XK) (f c' : Addr), Bd (lamN X A outer s H E scope f c') (WofE E) k → JD (lamN X A outer s H E scope f c') Tb.A (WofE E) [] body fb)
    {vs : List Nat} (hvs : fl.map (·.1) = vs := by rfl) (hg : Gl X x := by rfl) (hcode : X.env.code = .ref c := by rfl) (L : LamX.LamS X.env.scope scope := by exact LamX.lamS_by (by decide +kernel)) (hdef : defaultsOf params X.env = ([], []) := by rfl)
    (hbind : ∀ (q : Str) (cl : List (Str × Addr)) (pm cv ctv : Value), bindArgs (PySem.W.kla_fn "<lambda>" q params body scope cl pm cv ctv) ⟨[], []⟩ = pure [] := by intro _ _ _ _ _; rfl) (hdb : (x == ("__debug__" : Str)) = false := by decide) :
    JD X Tb.A W fl (.Call (.Name x p) [.Lambda params body scope lpos] [] pos) (eTold vs word fb) := by
  subst hvs
  obtain ⟨g, st, fd, a, n, e, wd', n0, CS, fw, fdw, Ng, p1, p2, p3, p4, p6, p7, p8, q1, q2, q3, Fg, bg, Sg, mgg, eb, rfl, la, ln, le, lw, d1, d2, d3, d4, d5, d6, me, exm, Fw, mgw, kw', bw⟩ := T.ex
  refine ⟨fun pins s σ H Q I ⟨G, F, ρ, hst, q⟩ => ?_⟩
  refine wpAny_Call_Name_kw (ld_glob I hg mgg ?_ hdb)
  refine PySem.W.callWith_K (h₀ := X.base) I.ok.mod.kin Fg.kp ?_ (by rfl) (by rfl)
  show wpAny _ _ (spliced ((false, eval (.Lambda params body scope lpos) X.env) :: backTo pos (starEach [] X.env))) _ _ s
  refine Calls.spliced_cons (LamX.lam_make2 I TB hcode hmT hu (by have := hst.c.tabs; rw [hst.tt] at this; exact this) hdef (L.has I.ok) fun f c' pm' ctv H1 s' I1 eN T1 hf hfn hfr hco => ?_)
  refine Calls.spliced_nil ⟨I1.kIn, ?_⟩
  have hst1 : DL.St (wd X) G fl F ρ σ H1 := hst.extN eN (by rw [hst.tt]; exact T1)
  have rc : codeAny (model X.prog X.w) X.A (.call (.ref g) ⟨[.ref f], []⟩) (CR C8.CX0 X.stack X.prog X.w H1 s' Q C8.E0) s' := by
    obtain ⟨oc, od, kV, doc, pm, an, cdv, ct, osl, rfl, lk, hcd⟩ := Fg.ex
    refine LamX.run_ofS (N := [a, n]) (ps := [a]) (us := [.ref f]) (vs := [.ref f]) lk hcd Sg hr I1.env0 (bg s' [.ref f] I1.kIn rfl) (.cons rfl .nil) rfl fun hr' => ?_
    rw [eb]
    have hgl : ∀ y, (defScope st).names.lookup y = some .globalImplicit → Gl (cxOf C8.CX0 X.prog X.w X.K X.mg X.base [a, n] x (defScope st) g cdv X.A X.stack s' H1 C8.E0).nox y := fun y h => h
    refine ⟨_, PSs.nox (pss_one (L2N.ps_try_as (X := (cxOf C8.CX0 X.prog X.w X.K X.mg X.base [a, n] x (defScope st) g cdv X.A X.stack s' H1 C8.E0).nox) (i := 1) (c := .ref CS)
      (tb := fun W D σZ HZ => σZ[0]? = some (some (.ref f)) ∧ HZ c' = some (LamX.CodeO c' (X.env.qual ++ "<lambda>")) ∧ tD (wd X) Tb.A (WofE (WE W σZ)) [] fb σ HZ D.rt)
      (ts := fun a cls d D σZ HZ => σZ[1]? = some (some (.ref a)) ∧ ∃ (G : Gs) (F : Hp) (e : Ex), G.T = Tb.T ∧ StC G F HZ ∧ cls = .ref (Tb.A e) ∧ d = none ∧ ∀ F' H', Le F F' → StC G F' H' → D.rt (.str (word e)) H')
      rfl rfl Sg.nd rfl ln ⟨hgl _ le, d5, .inl me⟩ takes0N (fun W pn xe tk _ => ?_) (fun a' oe cls d pn hz hf => ?_))), ?_⟩
    · have hp := pe_actN (CXg := C8.CX0) (Eg := C8.E0) (Ng := [a, n]) (qg := x) (sg := defScope st) (g := g) (cdg := cdv) (pn := pn) (xe := xe) (W := W) (tb := fun E => tD (wd X) Tb.A (WofE E) [] fb) (i := 0) (a := a) (p1 := p1) (p2 := p2) I1 L hf hfn hfr (hbind _ _ _ _ _) tk hr' (fun A outer s H E hr2 => hbody A outer s H E f c' ⟨L2N.takes_of rfl rfl rfl rfl, passes_of rfl, hr2⟩) rfl (.inl la) d1 d2
      have hq := pss_one (ps_ret (pos := p3) hp)
      exact ⟨fun pins s' σ H' D I h' => hq.run pins s' σ H' D I h'⟩
    · have hp := pe_word (X := (cxOf C8.CX0 X.prog X.w X.K X.mg X.base [a, n] x (defScope st) g cdv X.A X.stack s' H1 C8.E0).nox) (a := a') (oe := oe) (pn := pn) (x := wd') (n := n) (i := 1) (p := q2) (q := q1) (pos := q3) Fw (hr'.mono (Nat.le_succ_of_le hkt)) hf hz.2.2 (hgl _ lw) mgw kw' bw rfl (.inl ln) d3 d4 d6
      refine pss_mono (pss_one (ps_ret (pos := p6) hp)) fun D σZ HZ h => ?_
      obtain ⟨h1, G, F, e, hT, cc, rfl, rfl, k'⟩ := h
      exact ⟨h1, G, F, e, hT, cc, rfl, hz.zc, hf, k'⟩
    · refine ⟨rfl, hco, DL.aside G fl ρ σ H1, F, wipeE ρ (fl.map (·.1)), hst1.shut, ?_⟩
      unfold eTold at q
      cases hfb : fb (wipeE ρ (fl.map (·.1))) with
      | ok d =>
        rw [hfb] at q
        exact fun F' H' le s2 v rv => q F' H' le (hst1.back le s2.c) v rv
      | exc e' =>
        rw [hfb] at q
        refine fun F' H' le c2 => ⟨true, exm e', fun _ a' na => ⟨rfl, DL.aside G fl ρ σ H1, F', e', hst1.tt, c2, rfl, rfl, fun F'' H'' le' c3 => ?_⟩, fun z => nomatch z⟩
        exact q F'' H'' (le.trans le') (hst1.back (le.trans le') c3) _ (.str _)
      | bad => rw [hfb] at q; exact q
  refine wpAny_call (codeAny_mono rc fun r s2 hq => ?_)
  cases r with
  | error e => exact (show False from hq).elim
  | ok fl =>
    cases fl with
    | ret u => exact I1.after hq
    | next => exact False.elim hq
    | brk => exact False.elim hq
    | cont => exact False.elim hq
end
end DL
/-! DLMore1 -/
set_option Elab.async false
set_option linter.all false
set_option maxRecDepth 100000
set_option maxHeartbeats 2000000
/-! DLMore1: t * k, t[a:b:c], a module's dict of texts, sorted pairs. -/
namespace DL
open PySem PySem.Spec PyProof.Rows L2
variable [Tb]
section
variable {X : Cx} {A : Ex → Addr} {W : WX} {fl : List (Nat × Kd)} {a b e : Expr} {fa fb fe : FE} {pos p : Pos} {k : Kd} {y : Str} {d : Addr}
/-! ### t * k -/
def dMulT : D → D → R D
  | .tuple xs, .int k => if xs ≠ [] ∧ 2 ≤ k ∧ k ≤ 1000 ∧ xs.length ≤ 1000 then .ok (.tuple (List.replicate k.toNat xs).flatten) else .bad
  | _, _ => .bad
theorem rep_flat {K : Wd} {F : Hp} {xs : List V} {ds : List D} (r : RepAll K F xs ds) : ∀ n, RepAll K F (List.replicate n xs).flatten (List.replicate n ds).flatten
  | 0 => .nil
  | n + 1 => by rw [List.replicate_succ, List.replicate_succ, List.flatten_cons, List.flatten_cons]; exact r.append (rep_flat r n)
theorem q_tupN {G : Gs} {F H : Hp} {ρ : Env} {σ : L2.St} {Q : VK} {r : R D} (s : St (wd X) G fl F ρ σ H) (q : ∀ z, r = .ok z → ∀ F' H', Le F F' → St (wd X) G fl F' ρ σ H' → ∀ u, Rep (wd X) F' u z → Q u H') {ds : List D} (e : r = .ok (.tuple ds)) {xs : List V} (h : RepAll (wd X) F xs ds) : NT H xs Q := fun p o hp hd =>
  q _ e _ _ (Le.new (s.c.fnone hp)) (s.alloc hp NoTbl.frz) _ (.tup ⟨o, upd_same, hd⟩ (h.mono (Le.new (s.c.fnone hp))))
theorem ops_mulT : OpS X fl (rRepX X.K) dMulT := by
  intro G F ρ σ H v w x y Q s rv rw' q ⟨z, hz⟩
  cases x <;> cases y <;> simp only [dMulT] at hz q <;> try (first | cases hz; done | skip)
  case tuple.int ds k =>
    obtain ⟨t, xs, rfl, ft, ht, r⟩ := rv.tup s
    obtain rfl := rw'.int s
    split at hz
    · rename_i hl
      rw [if_pos hl] at q
      cases hz
      refine ⟨t, k, xs, rfl, rfl, ht.sq, fun e => hl.1 ?_, hl.2.1, hl.2.2.1, by rw [r.length]; exact hl.2.2.2, q_tupN s q rfl (rep_flat r _)⟩
      subst e; cases r; rfl
    · cases hz
theorem ne_mulT : NoEx dMulT := by
  intro x y e h
  cases x <;> cases y <;> simp only [dMulT] at h <;> first | cases h | (split at h <;> cases h)
/-! ### t[a:b:c] -/
def cut3 {α : Type} (xs : List α) (lo hi : Option Int) (c : Int) : List α :=
  (List.range (Builtin.Slice.slicePlaces (Builtin.Slice.sliceAdjust lo hi c xs.length).1 (Builtin.Slice.sliceAdjust lo hi c xs.length).2 c)).filterMap fun (m : Nat) => xs[((Builtin.Slice.sliceAdjust lo hi c xs.length).1 + (m : Int) * c).toNat]?
def dCut3 (lo hi : Option Int) (c : Int) : D → R D
  | .tuple xs => if c ≠ 0 ∧ c ≠ 1 ∧ (cut3 xs lo hi c).length ≤ lim then .ok (.tuple (cut3 xs lo hi c)) else .bad
  | _ => .bad
theorem getItem_tuple_step {prog : Program} {w : World} {A : Around} {E : Value → Shared → Prop} {s : Shared} {t sl : Addr} {items : Array Value} {vl vu vs : Value} {lo hi : Option Int} {c : Int} {Q : Value → Shared → Prop} (ht : IsTup s.heap t items) (hs : s.heap.IsSliceOf sl vl vu vs) (pl : IsPart vl lo) (pu : IsPart vu hi) (ps : IsPart vs (some c)) (h0 : c ≠ 0) (h1 : c ≠ 1)
    (h : Q (.ref s.heap.objs.size) { s with heap := s.heap.push { cls := .type "tuple", data := .seq (cut3 items.toList lo hi c).toArray } }) (hsz : (cut3 items.toList lo hi c).length ≤ sizeLine) : wpAny (model prog w) A (getItem (.ref t) (.ref sl)) Q E s := by
  have htake : sizeOk (.seq (cut3 items.toList lo hi c).toArray) := by
    show (cut3 items.toList lo hi c).toArray.size ≤ sizeLine
    rw [List.size_toArray]
    exact hsz
  obtain ⟨os, hos, hcs, hds⟩ := id hs
  have hTs : s.TypeIs (.ref sl) "slice" := ⟨os, hos, hcs⟩
  unfold getItem
  try with_reducible refine wpAny_holding ?_
  first | refine wpAny_bind (wpAny_pure ?_) | skip
  refine wpAny_bind (wpAny_sequenceKey ht.typeIs (by decide) ?_)
  refine wpAny_bind (wpAny_callSpecial?_slot (name := Str.ofString "__getitem__") ht.typeIs PyProof.Rows.slot_tuple_getitem
    (wpAny_call_entry PyProof.Rows.slot_tuple_getitem ht.typeIs entry_tuple_getitem ?_ (args_tuple_getitem _ _)))
  show wpAny _ _ (Builtin.Tuple.tupleItemsOf (.ref t) >>= _) _ _ s
  refine wpAny_bind (tupleItemsOf_ ht ?_)
  refine wpAny_bind (wpAny_typeOf hTs ?_)
  rw [if_pos (by decide)]
  have step : ∀ {Q : Int × Int × Nat → Shared → Prop}, Q ((Builtin.Slice.sliceAdjust lo hi c items.size).1, c, Builtin.Slice.slicePlaces (Builtin.Slice.sliceAdjust lo hi c items.size).1 (Builtin.Slice.sliceAdjust lo hi c items.size).2 c) s → ∀ {A : Around} {E : Value → Shared → Prop}, wpAny (model prog w) A (Builtin.Slice.sliceApplied (.ref sl) (pure (items.size : Int))) Q E s := by
    intro Q hq A E
    unfold Builtin.Slice.sliceApplied Builtin.Slice.sliceFields
    refine wpAny_bind (wpAny_bind (wpAny_field hos hds (x := vl) rfl (wpAny_bind (wpAny_field hos hds (x := vu) rfl (wpAny_bind (wpAny_field hos hds (x := vs) rfl (wpAny_pure ?_)))))))
    refine wpAny_bind (HT.slicePart_ ps ?_)
    show wpAny _ _ (if (c == 0) = true then _ else _) _ _ s
    rw [if_neg (by simpa using h0)]
    refine wpAny_bind (HT.slicePart_ pl (wpAny_bind (HT.slicePart_ pu (wpAny_bind (wpAny_pure ?_)))))
    exact wpAny_pure hq
  refine wpAny_bind (step ?_)
  have hno : ¬ (((Builtin.Slice.sliceAdjust lo hi c items.size).1 == 0 && c == 1 && (Builtin.Slice.slicePlaces (Builtin.Slice.sliceAdjust lo hi c items.size).1 (Builtin.Slice.sliceAdjust lo hi c items.size).2 c) == items.size) = true) := by
    intro q
    rw [Bool.and_eq_true, Bool.and_eq_true] at q
    exact h1 (eq_of_beq q.1.2)
  show wpAny _ _ (if ((Builtin.Slice.sliceAdjust lo hi c items.size).1 == 0 && c == 1 && (Builtin.Slice.slicePlaces (Builtin.Slice.sliceAdjust lo hi c items.size).1 (Builtin.Slice.sliceAdjust lo hi c items.size).2 c) == items.size) = true then _ else _) _ _ s
  rw [if_neg hno]
  have pick : ((List.range (Builtin.Slice.slicePlaces (Builtin.Slice.sliceAdjust lo hi c items.size).1 (Builtin.Slice.sliceAdjust lo hi c items.size).2 c)).filterMap fun (m : Nat) => items[((Builtin.Slice.sliceAdjust lo hi c items.size).1 + (m : Int) * c).toNat]?).toArray = (cut3 items.toList lo hi c).toArray := by
    unfold cut3
    simp only [Array.length_toList, Array.getElem?_toList]
  rw [pick]
  first
    | exact wpAny_bind (m := Builtin.Tuple.tupleExact _) (wpAny_newObj_type (wpAny_pure ⟨_, rfl, wpAny_pure h⟩) htake)
    | exact wpAny_bind (m := Builtin.Tuple.tupleExact _) (wpAny_newObj_type (wpAny_bind (wpAny_pure (wpAny_pure ⟨_, rfl, wpAny_pure h⟩))) htake)
    | exact wpAny_bind (wpAny_bind (m := Builtin.Tuple.tupleExact _) (wpAny_newObj_type (wpAny_pure (wpAny_pure ⟨_, rfl, wpAny_pure h⟩)) htake))
    | exact wpAny_bind (wpAny_bind (m := Builtin.Tuple.tupleExact _) (wpAny_newObj_type (wpAny_pure ⟨_, rfl, wpAny_pure h⟩) htake))
theorem rep_pick {K : Wd} {F : Hp} {xs : List V} {ds : List D} (r : RepAll K F xs ds) (g : Nat → Nat) : ∀ ms : List Nat, RepAll K F (ms.filterMap fun m => xs[g m]?) (ms.filterMap fun m => ds[g m]?)
  | [] => .nil
  | m :: ms => by
    rw [List.filterMap_cons, List.filterMap_cons]
    cases hd : ds[g m]? with
    | none =>
      have hx : xs[g m]? = none := by
        rw [List.getElem?_eq_none_iff] at hd ⊢
        rw [r.length]; exact hd
      rw [hx]
      exact rep_pick r g ms
    | some d =>
      obtain ⟨v, hv, rv⟩ := r.get hd
      rw [hv]
      exact .cons rv (rep_pick r g ms)
theorem rep_cut3 {K : Wd} {F : Hp} {xs : List V} {ds : List D} (r : RepAll K F xs ds) (lo hi : Option Int) (c : Int) : RepAll K F (cut3 xs lo hi c) (cut3 ds lo hi c) := by
  unfold cut3
  rw [r.length]
  exact rep_pick r _ _
def tStep (K : Frag) (te : TE) (tl th ts : TO) : TE := fun σ H Q => te σ H fun x H1 => tl σ H1 fun lo H2 => th σ H2 fun hi H3 => ts σ H3 fun st H4 => ∃ a xs c, x = .ref a ∧ SqT K H4 a xs ∧ st = some c ∧ c ≠ 0 ∧ c ≠ 1 ∧ (cut3 xs lo hi c).length ≤ sizeLine ∧ NT H4 (cut3 xs lo hi c) Q
theorem vals_pick {xs : List V} {its : List Value} (r : Vals xs its) (g : Nat → Nat) : ∀ ms : List Nat, Vals (ms.filterMap fun m => xs[g m]?) (ms.filterMap fun m => its[g m]?)
  | [] => .nil
  | m :: ms => by
    rw [List.filterMap_cons, List.filterMap_cons]
    cases hd : xs[g m]? with
    | none =>
      have hx : its[g m]? = none := by
        rw [List.getElem?_eq_none_iff] at hd ⊢
        rw [← r.length]; exact hd
      rw [hx]
      exact vals_pick r g ms
    | some d =>
      obtain ⟨u, hu, ru⟩ := r.get hd
      rw [hu]
      exact .cons ru (vals_pick r g ms)
theorem pe_step {e : Expr} {te : TE} {lo hi : Option Expr} {st : Expr} {tl th ts : TO} {p2 pos : Pos} (he : PE X e te) (hl : PO X lo tl) (hu : PO X hi th) (hst : PO X (some st) ts) : PE X (.Subscript e (.Slice lo hi (some st) p2) pos) (tStep X.K te tl th ts) := by
  refine ⟨fun pins s σ H Q I h => ?_⟩
  refine Subscript_ (thn (he.run pins s σ H _ I h) fun v s1 ⟨x, H1, I1, r1, q1⟩ => ?_)
  refine wpAny_Slice (thn (hl.run pins s1 σ H1 _ I1 q1) fun vl s2 ⟨l, H2, I2, pl, q2⟩ => thn (hu.run pins s2 σ H2 _ I2 q2) fun vu s3 ⟨u, H3, I3, pu, q3⟩ => thn (hst.run pins s3 σ H3 _ I3 q3) fun vs s4 ⟨o, H4, I4, ps, q4⟩ => ?_)
  obtain ⟨a, xs, c, rfl, hx, rfl, h0, h1, hz, q⟩ := q4
  cases r1
  have I5 : Inv X pins σ H4 { s4 with heap := s4.heap.push { cls := .type "slice", data := .fields #[vl, vu, vs] } } := I4.kept (t' := s4.toks) fun b ob q => Heap.get?_push_of_some _ q
  obtain ⟨its, r, ht, hz2⟩ := I5.tuple hx
  have rc : Vals (cut3 xs l u c) (cut3 its l u c) := by
    unfold cut3
    rw [r.length]
    exact vals_pick r _ _
  show wpAny (model X.prog X.w) X.A (subscriptTail e (.Slice lo hi (some st) p2) (.ref a) (.ref s4.heap.objs.size)) (EP X pins σ Q) X.xe { s4 with heap := s4.heap.push { cls := .type "slice", data := .fields #[vl, vu, vs] } }
  refine tail_any (ops := [.ref a, .ref s4.heap.objs.size]) ht.typeIs (PyProof.Rows.slot_tuple_getitem.lookup) ?_ (by with_unfolding_all rfl)
  refine getItem_tuple_step ht (Heap.IsSliceOf.new _ vl vu vs) pl pu ps h0 h1 ?_ (by rw [← rc.length]; exact hz)
  exact nt_end I5 rc hz q
theorem jd_step {lo hi : Option Expr} {st : Expr} {l h : Option Int} {c : Int} {p2 : Pos} (ha : JV X A W fl a fa) (hl : JO X A W fl lo fun _ => .ok l) (hh : JO X A W fl hi fun _ => .ok h) (hs : JO X A W fl (some st) fun _ => .ok (some c)) : JD X A W fl (.Subscript a (.Slice lo hi (some st) p2) pos) (e1 (dCut3 l h c) fa) := pe_mono (pe_step ha hl hh hs) fun σ H Q ⟨G, F, ρ, s, q⟩ => by
  refine ⟨G, F, ρ, s, (RP.bind q).imp fun x F1 H1 le1 s1 q1 v rv => ?_⟩
  refine ⟨G, F1, ρ, s1, fun F2 H2 le2 s2 => ⟨G, F2, ρ, s2, fun F3 H3 le3 s3 => ⟨G, F3, ρ, s3, fun F4 H4 le4 s4 => ?_⟩⟩⟩
  have rv4 := rv.mono (le2.trans (le3.trans le4))
  have q1 := q1.lift (le2.trans (le3.trans le4))
  cases x with
  | tuple ds =>
    obtain ⟨t, xs, rfl, ft, ht, r⟩ := rv4.tup s4
    simp only [dCut3] at q1
    have rc := rep_cut3 r l h c
    by_cases hc : c ≠ 0 ∧ c ≠ 1 ∧ (cut3 ds l h c).length ≤ lim
    · rw [if_pos hc] at q1
      refine ⟨t, xs, c, rfl, ht.sq, rfl, hc.1, hc.2.1, by rw [rc.length]; exact lim_line hc.2.2, fun p o hp hd => ?_⟩
      exact q1 _ _ (Le.new (s4.c.fnone hp)) (s4.alloc hp NoTbl.frz) _ (.tup ⟨o, upd_same, hd⟩ (rc.mono (Le.new (s4.c.fnone hp))))
    · rw [if_neg hc] at q1; exact q1.elim
  | _ => exact q1.elim
theorem jo_non : JO X A W fl none fun _ => .ok none := jo_none
theorem jo_int {i : Int} {j} {p : Pos} : JO X A W fl (some (.Constant (.int i) j p)) fun _ => .ok (some i) := show JO X A W fl _ (oSome (eC (.int i))) from jo_some jd_int.v
theorem jo_neg {i : Int} {j} {p p' : Pos} : JO X A W fl (some (.UnaryOp .USub (.Constant (.int i) j p) p')) fun _ => .ok (some (-i)) := show JO X A W fl _ (oSome (e1 dNeg (eC (.int i)))) from jo_some (jd_neg jd_int.v).v
/-! ### a module's dict: texts to ints -/
structure KTab (K : Frag) (w : World) (d : Addr) (tab : List (Str × Int)) : Prop where
  ex : ∃ es n, KDict K w d es n ∧ Paired (fun (kv : Str × Int) (e : DictEntry) => (∃ t, e.key = .str kv.1 t) ∧ ∃ u, e.val = .int kv.2 u) tab es.toList
theorem KTab.find {tab : List (Str × Int)} {es : List DictEntry} (h : Paired (fun (kv : Str × Int) (e : DictEntry) => (∃ t, e.key = .str kv.1 t) ∧ ∃ u, e.val = .int kv.2 u) tab es) (z : Str) :
    (∀ i, tab.lookup z = some i → ∃ e u, es.find? (·.key.isStr z) = some e ∧ e.val = .int i u) ∧ (tab.lookup z = none → es.find? (·.key.isStr z) = none ∧ es.any (·.refKey) = false) := by
  induction h with
  | nil => exact ⟨fun i e => by simp at e, fun _ => ⟨rfl, rfl⟩⟩
  | @cons kv e tab es h t ih =>
    obtain ⟨⟨t1, h1⟩, u, h2⟩ := h
    obtain ⟨k, i⟩ := kv
    have hk : e.key.isStr z = (z == k) := by
      rw [h1]
      show (k == z) = (z == k)
      exact Bool.beq_comm
    have hr : e.refKey = false := by
      unfold DictEntry.refKey
      rw [h1]
    by_cases hz : z = k
    · subst hz
      refine ⟨fun i' e' => ?_, fun e' => ?_⟩
      · rw [List.lookup_cons, beq_self_eq_true] at e'
        cases e'
        exact ⟨e, u, by rw [List.find?_cons_of_pos (by rw [hk]; simp)], h2⟩
      · rw [List.lookup_cons, beq_self_eq_true] at e'
        cases e'
    · have hb : (z == k) = false := by simpa using hz
      rw [List.lookup_cons, hb]
      rw [List.find?_cons_of_neg (by rw [hk, hb]; simp)]
      refine ⟨ih.1, fun e' => ⟨(ih.2 e').1, ?_⟩⟩
      rw [List.any_cons, hr, (ih.2 e').2]
      rfl
theorem KTab.get {K : Frag} {w : World} {d : Addr} {tab : List (Str × Int)} {es : Array DictEntry} {n : Nat} (D : KDict K w d es n) (h : Paired (fun (kv : Str × Int) (e : DictEntry) => (∃ t, e.key = .str kv.1 t) ∧ ∃ u, e.val = .int kv.2 u) tab es.toList) (z : Str) :
    ∃ r, PySem.W.nsIn K d z = some r ∧ (∀ i, tab.lookup z = some i → ∃ u, r = some (.int i u)) ∧ r.isSome = (tab.lookup z).isSome := by
  obtain ⟨f1, f2⟩ := KTab.find h z
  unfold PySem.W.nsIn
  rw [D.at_]
  cases hl : tab.lookup z with
  | some i =>
    obtain ⟨e, u, e1, e2⟩ := f1 i hl
    simp only [e1]
    exact ⟨_, rfl, fun i' e' => ⟨u, by cases e'; rw [e2]⟩, rfl⟩
  | none =>
    obtain ⟨e1, e2⟩ := f2 hl
    simp only [e1, e2]
    exact ⟨none, rfl, (fun _ e => nomatch e), rfl⟩
def dInTab (tab : List (Str × Int)) : D → R D
  | .str z => .ok (.bool (tab.lookup z).isSome)
  | _ => .bad
def dNotInTab (tab : List (Str × Int)) : D → R D
  | .str z => .ok (.bool (!(tab.lookup z).isSome))
  | _ => .bad
def dTabAt (tab : List (Str × Int)) : D → R D
  | .str z => match tab.lookup z with
    | some i => .ok (.int i)
    | none => .bad
  | _ => .bad
theorem jd_inTab {tab : List (Str × Int)} {p2 : Pos} (T : KTab X.K X.w d tab) (ha : JV X A W fl a fa) (hg : Gl X y) (hm : X.mg y = some (.ref d)) (hb : behindInMarks .In (.Name y p2) = false := by rfl) (hdy : (y == ("__debug__" : Str)) = false := by decide) : JD X A W fl (.Compare a [.In] [.Name y p2] pos) (e1 (dInTab tab) fa) := by
  obtain ⟨es, n, D, P⟩ := T.ex
  refine pe_mono (pe_cmpR (op_in_kd D) ha (pe_glob (v := .ref d) hg hm rfl hdy) hb) fun σ H Q ⟨G, F, ρ, s, q⟩ => ?_
  refine ⟨G, F, ρ, s, (RP.bind q).imp fun x F1 H1 le1 s1 q1 v rv => ?_⟩
  cases x with
  | str z =>
    obtain rfl := rv.str s1
    obtain ⟨r, h1, h2, h3⟩ := KTab.get D P z
    exact ⟨z, r, rfl, rfl, h1, by rw [h3]; exact RP.ok q1 s1 _ (.bl _)⟩
  | _ => exact q1.elim
theorem jd_notInTab {tab : List (Str × Int)} {p2 : Pos} (T : KTab X.K X.w d tab) (ha : JV X A W fl a fa) (hg : Gl X y) (hm : X.mg y = some (.ref d)) (hb : behindInMarks .NotIn (.Name y p2) = false := by rfl) (hdy : (y == ("__debug__" : Str)) = false := by decide) : JD X A W fl (.Compare a [.NotIn] [.Name y p2] pos) (e1 (dNotInTab tab) fa) := by
  obtain ⟨es, n, D, P⟩ := T.ex
  refine pe_mono (pe_cmpR (op_notIn_kd D) ha (pe_glob (v := .ref d) hg hm rfl hdy) hb) fun σ H Q ⟨G, F, ρ, s, q⟩ => ?_
  refine ⟨G, F, ρ, s, (RP.bind q).imp fun x F1 H1 le1 s1 q1 v rv => ?_⟩
  cases x with
  | str z =>
    obtain rfl := rv.str s1
    obtain ⟨r, h1, h2, h3⟩ := KTab.get D P z
    exact ⟨z, r, rfl, rfl, h1, by rw [h3]; exact RP.ok q1 s1 _ (.bl _)⟩
  | _ => exact q1.elim
theorem jt_inTab {tab : List (Str × Int)} {p2 : Pos} (T : KTab X.K X.w d tab) (ha : JV X A W fl a fa) (hg : Gl X y) (hm : X.mg y = some (.ref d)) (hb : behindInMarks .In (.Name y p2) = false := by rfl) (hdy : (y == ("__debug__" : Str)) = false := by decide) : JT X A W fl (.Compare a [.In] [.Name y p2] pos) (DL.tB (e1 (dInTab tab) fa)) := by
  obtain ⟨es, n, D, P⟩ := T.ex
  refine pt_mono (pt_cmpR (op_in_kd D) ha (pe_glob (v := .ref d) hg hm rfl hdy) hb) fun σ H Q h => tB_of h fun Q' ⟨G, F, ρ, s, q⟩ => ?_
  refine ⟨G, F, ρ, s, (RP.bind q).imp fun x F1 H1 le1 s1 q1 v rv => ?_⟩
  cases x with
  | str z =>
    obtain rfl := rv.str s1
    obtain ⟨r, h1, h2, h3⟩ := KTab.get D P z
    exact ⟨z, r, rfl, rfl, h1, by rw [h3]; exact RP.ok q1 s1 _ (.bl _)⟩
  | _ => exact q1.elim
theorem jt_notInTab {tab : List (Str × Int)} {p2 : Pos} (T : KTab X.K X.w d tab) (ha : JV X A W fl a fa) (hg : Gl X y) (hm : X.mg y = some (.ref d)) (hb : behindInMarks .NotIn (.Name y p2) = false := by rfl) (hdy : (y == ("__debug__" : Str)) = false := by decide) : JT X A W fl (.Compare a [.NotIn] [.Name y p2] pos) (DL.tB (e1 (dNotInTab tab) fa)) := by
  obtain ⟨es, n, D, P⟩ := T.ex
  refine pt_mono (pt_cmpR (op_notIn_kd D) ha (pe_glob (v := .ref d) hg hm rfl hdy) hb) fun σ H Q h => tB_of h fun Q' ⟨G, F, ρ, s, q⟩ => ?_
  refine ⟨G, F, ρ, s, (RP.bind q).imp fun x F1 H1 le1 s1 q1 v rv => ?_⟩
  cases x with
  | str z =>
    obtain rfl := rv.str s1
    obtain ⟨r, h1, h2, h3⟩ := KTab.get D P z
    exact ⟨z, r, rfl, rfl, h1, by rw [h3]; exact RP.ok q1 s1 _ (.bl _)⟩
  | _ => exact q1.elim
theorem jd_tabAt {tab : List (Str × Int)} {p2 : Pos} (T : KTab X.K X.w d tab) (ha : JV X A W fl a fa) (hg : Gl X y) (hm : X.mg y = some (.ref d)) (hs : PlainIx a := by exact fun _ _ => rfl) (hdy : (y == ("__debug__" : Str)) = false := by decide) : JD X A W fl (.Subscript (.Name y p2) a pos) (e1 (dTabAt tab) fa) := by
  obtain ⟨es, n, D, P⟩ := T.ex
  refine pe_mono (pe_ix ix_kdict (pe_glob (v := .ref d) hg hm rfl hdy) ha hs) fun σ H Q ⟨G, F, ρ, s, q⟩ => ?_
  refine ⟨G, F, ρ, s, (RP.bind q).imp fun x F1 H1 le1 s1 q1 v rv => ?_⟩
  cases x with
  | str z =>
    obtain rfl := rv.str s1
    obtain ⟨r, h1, h2, h3⟩ := KTab.get D P z
    simp only [dTabAt] at q1
    cases hl : tab.lookup z with
    | none => rw [hl] at q1; exact q1.elim
    | some i =>
      rw [hl] at q1
      obtain ⟨u, rfl⟩ := h2 i hl
      exact ⟨d, z, .int i, rfl, rfl, ⟨es, n, _, D.at_, D.lit, h1, u, rfl⟩, RP.ok q1 s1 _ (.int _)⟩
  | _ => exact q1.elim
end
/-! ### sorted pairs -/
def insO {α : Type} (lt : α → α → Bool) (x : α) : List α → List α
  | [] => [x]
  | y :: ys => if lt y x = true then y :: insO lt x ys else x :: y :: ys
def isort {α : Type} (lt : α → α → Bool) : List α → List α
  | [] => []
  | x :: xs => insO lt x (isort lt xs)
section
variable {α : Type} {lt : α → α → Bool}
theorem insO_stb (O : SrtO.Swo lt) (x : α) : ∀ l, SrtO.Stb lt (insO lt x l) (x :: l)
  | [] => SrtO.Stb.refl _
  | y :: ys => by
    unfold insO
    by_cases h : lt y x = true
    · rw [if_pos h]
      have h1 : SrtO.Stb lt ([y] ++ insO lt x ys) ([y] ++ (x :: ys)) := (SrtO.Stb.refl [y]).app (insO_stb O x ys)
      have h2 : SrtO.Stb lt (([y] ++ [x]) ++ ys) (([x] ++ [y]) ++ ys) := (SrtO.Stb.swap O fun a ha b hb => by rw [List.mem_singleton.mp ha, List.mem_singleton.mp hb]; exact h).app (SrtO.Stb.refl ys)
      exact h1.trans h2
    · rw [if_neg h]
      exact SrtO.Stb.refl _
theorem insO_mem {x z : α} : ∀ {l : List α}, z ∈ insO lt x l → z = x ∨ z ∈ l
  | [], h => .inl (List.mem_singleton.mp h)
  | y :: ys, h => by
    unfold insO at h
    split at h
    · rcases List.mem_cons.mp h with e | h
      · exact .inr (by rw [e]; exact List.mem_cons_self)
      · rcases insO_mem h with e | h
        · exact .inl e
        · exact .inr (List.mem_cons_of_mem _ h)
    · rcases List.mem_cons.mp h with e | h
      · exact .inl e
      · exact .inr h
theorem insO_srtd (O : SrtO.Swo lt) (x : α) : ∀ {l}, SrtO.Srtd lt l → SrtO.Srtd lt (insO lt x l)
  | [], _ => SrtO.srtd_one x
  | y :: ys, h => by
    obtain ⟨h1, h2⟩ := List.pairwise_cons.mp h
    unfold insO
    by_cases hy : lt y x = true
    · rw [if_pos hy]
      refine List.pairwise_cons.mpr ⟨fun z hz => ?_, insO_srtd O x h2⟩
      rcases insO_mem hz with e | hz
      · rw [e]; exact O.asym _ _ hy
      · exact h1 z hz
    · rw [if_neg hy]
      have hy : lt y x = false := by simpa using hy
      refine List.pairwise_cons.mpr ⟨fun z hz => ?_, h⟩
      rcases List.mem_cons.mp hz with e | hz
      · rw [e]; exact hy
      · exact O.tr x y z hy (h1 z hz)
theorem isort_stb (O : SrtO.Swo lt) : ∀ l, SrtO.Stb lt (isort lt l) l
  | [] => SrtO.Stb.refl _
  | x :: xs => (insO_stb O x _).trans ((SrtO.Stb.refl [x]).app (isort_stb O xs))
theorem isort_srtd (O : SrtO.Swo lt) : ∀ l, SrtO.Srtd lt (isort lt l)
  | [] => List.Pairwise.nil
  | x :: xs => insO_srtd O x (isort_srtd O xs)
theorem isort_uniq (O : SrtO.Swo lt) {l ys : List α} (h1 : SrtO.Srtd lt ys) (h2 : SrtO.Stb lt ys l) : ys = isort lt l := by
  refine SrtO.stb_uniq O h1 (isort_srtd O l) (h2.trans ?_)
  have := isort_stb O l
  exact ⟨this.perm.symm, fun x => (this.cls x).symm⟩
end
/-- ints, or tuples of ints -/
def ltI : D → D → Bool
  | .int i, .int j => decide (i < j)
  | .tuple xs, .tuple ys => (match intsOf xs, intsOf ys with
    | some ns, some ms => lexLt ns ms
    | _, _ => false)
  | _, _ => false
def isPairI : D → Bool
  | .tuple [.int _, .int _] => true
  | _ => false
def dSortP : D → R D
  | .list ds => if ds.all isPairI = true then .ok (.list (isort ltI ds)) else .bad
  | _ => .bad
/-- the two ints behind a value -/
def pairAt (H : Hp) : V → Int × Int
  | .ref p => (match H p with
    | some (.frz _ (.tup [.int a, .int b])) => (a, b)
    | _ => (0, 0))
  | _ => (0, 0)
theorem pair_rep {K : Wd} {G : Gs} {F H : Hp} {v : V} {d : D} (c : StC G F H) (r : Rep K F v d) (h : isPairI d = true) : ∃ a i j o, v = .ref a ∧ d = .tuple [.int i, .int j] ∧ H a = some (.frz o (.tup [.int i, .int j])) ∧ pairAt H v = (i, j) := by
  unfold isPairI at h
  split at h
  · rename_i i j
    cases r with
    | tup hq rr =>
      cases rr with
      | cons r1 rr =>
        cases rr with
        | cons r2 rr =>
          cases rr
          cases r1
          cases r2
          obtain ⟨o, h1, _⟩ := c.tup hq
          exact ⟨_, i, j, o, rfl, rfl, h1, by simp only [pairAt, h1]⟩
  · cases h
theorem ltI_pair {i j i' j' : Int} : ltI (.tuple [.int i, .int j]) (.tuple [.int i', .int j']) = SrtO.lexB (i, j) (i', j') := by
  unfold ltI SrtO.lexB
  simp only [intsOf, Option.map, lexLt]
  by_cases h : i = i'
  · subst h
    simp only [if_true]
    by_cases h2 : j = j'
    · subst h2; simp
    · simp [h2]
  · simp [h]
theorem insO_rep {K : Wd} {G : Gs} {F H : Hp} (c : StC G F H) {v : V} {d : D} (r : Rep K F v d) (h : isPairI d = true) : ∀ {vs : List V} {ds : List D}, RepAll K F vs ds → ds.all isPairI = true → RepAll K F (insO (ltP (pairAt H)) v vs) (insO ltI d ds)
  | _, _, .nil, _ => .cons r .nil
  | _, _, .cons (v := v') (d := d') r' t, h' => by
    rw [List.all_cons, Bool.and_eq_true] at h'
    obtain ⟨a, i, j, o, rfl, rfl, h1, h2⟩ := pair_rep c r h
    obtain ⟨a', i', j', o', rfl, rfl, h1', h2'⟩ := pair_rep c r' h'.1
    have e : ltP (pairAt H) (.ref a') (.ref a) = ltI (.tuple [.int i', .int j']) (.tuple [.int i, .int j]) := by
      show SrtO.lexB _ _ = _
      rw [h2, h2', ltI_pair]
    unfold insO
    rw [e]
    split
    · exact .cons r' (insO_rep c r h t h'.2)
    · exact .cons r (.cons r' t)
theorem insO_all {d : D} (h : isPairI d = true) : ∀ {ds : List D}, ds.all isPairI = true → (insO ltI d ds).all isPairI = true
  | [], _ => by simp [insO, h]
  | d' :: ds, h' => by
    rw [List.all_cons, Bool.and_eq_true] at h'
    unfold insO
    split
    · rw [List.all_cons, h'.1, insO_all h h'.2]; rfl
    · rw [List.all_cons, List.all_cons, h, h'.1, h'.2]; rfl
theorem isort_all : ∀ {ds : List D}, ds.all isPairI = true → (isort ltI ds).all isPairI = true
  | [], _ => rfl
  | d :: ds, h => by
    rw [List.all_cons, Bool.and_eq_true] at h
    exact insO_all h.1 (isort_all h.2)
theorem isort_rep {K : Wd} {G : Gs} {F H : Hp} (c : StC G F H) : ∀ {vs : List V} {ds : List D}, RepAll K F vs ds → ds.all isPairI = true → RepAll K F (isort (ltP (pairAt H)) vs) (isort ltI ds)
  | _, _, .nil, _ => .nil
  | _, _, .cons r t, h => by
    rw [List.all_cons, Bool.and_eq_true] at h
    exact insO_rep c r h.1 (isort_rep c t h.2) (isort_all h.2)
def rSortedF (K : Frag) : List V → Hp → VK → Prop := fun vs H Q => ∃ (a : Addr) (xs : List V) (k : V → Int × Int), vs = [V.ref a] ∧ SqL K H a xs ∧ (∀ x ∈ xs, ∃ t o, x = V.ref t ∧ H t = some (.frz o (.tup [.int (k x).1, .int (k x).2]))) ∧
  ∀ ys p, SrtO.Srtd (ltP k) ys → SrtO.Stb (ltP k) ys xs → H p = none → Q (.ref p) (upd H p (.lst ys))
section
variable {X : Cx} {A : Ex → Addr} {W : WX} {fl : List (Nat × Kd)} {a : Expr} {fa : FE} {pos p : Pos}
theorem cr_sortedF : CallR X (.builtin "sorted") (rSortedF X.K) := by
  intro pins s σ H vs us Q I r h
  obtain ⟨a, xs, k, rfl, hs, hx, q⟩ := h
  obtain ⟨its, rv, hl, hz⟩ := I.list hs
  obtain ⟨u, rfl, ru⟩ := vals1 r
  obtain rfl : u = Value.ref a := ru
  obtain ⟨e1, e2⟩ := refs_back rv fun x m => by
    obtain ⟨t, o, e, _⟩ := hx x m
    exact ⟨t, e⟩
  refine SrtO.sorted_pairsO (k := fun u => k (backV u)) hl.isList (by rw [← rv.length]; exact hz) (fun v hv => ?_) fun h' d out h1 h2 kp hd hn => ?_
  · obtain ⟨t, rfl⟩ := e2 v hv
    have hm : V.ref t ∈ xs := by rw [e1]; exact List.mem_map.mpr ⟨_, hv, rfl⟩
    obtain ⟨t', o', e, ht⟩ := hx _ hm
    cases e
    obtain ⟨_, _, its2, r2, o, ho, hc, n, hd⟩ := I.hok _ _ ht
    obtain ⟨u1, u2, rfl, ri, rj⟩ := vals2 r2
    obtain ⟨t1, rfl⟩ := ri
    obtain ⟨t2, rfl⟩ := rj
    exact ⟨t, o, t1, t2, n, rfl, ho, hc, hd⟩
  · have h3 : ∀ u ∈ out, ∃ a, u = Value.ref a := fun u hu => e2 u (h2.perm.mem_iff.mp hu)
    obtain ⟨n, hn⟩ := hn
    have hb : SrtO.Stb (ltP k) (out.map backV) xs := by
      rw [e1]
      exact SrtO.Stb.map (ltP_swo k) backV h2
    refine ⟨.ref d, upd H d (.lst (out.map backV)), I.laid (t' := s.toks) kp hd ⟨?_, out, n, vals_back h3, hn⟩, rfl, q _ d (SrtO.srtd_map h1) hb (I.hok.fresh hd)⟩
    rw [hb.len]
    exact hz
theorem cn_sortP : CallN X fl .l (rSortedF X.K) dSortP := by
  intro G F ρ σ H v x Q s rv q ⟨z, hz⟩
  cases x <;> simp only [dSortP] at hz q <;> try (first | cases hz; done | skip)
  case list ds =>
    obtain ⟨p, xs, rfl, hp, ra⟩ := rv.list s
    split at hz
    · rename_i hall
      rw [if_pos hall] at q
      cases hz
      refine ⟨p, xs, pairAt H, rfl, hp, fun x hx => ?_, fun ys p h1 h2 hp => ?_⟩
      · obtain ⟨i, hi⟩ := List.mem_iff_getElem?.mp hx
        obtain ⟨d, hd, r⟩ := ra.getV hi
        obtain ⟨a, i, j, o, rfl, rfl, h1, h2⟩ := pair_rep s.c r (List.all_eq_true.mp hall d (List.mem_of_getElem? hd))
        exact ⟨a, o, rfl, by rw [h2]; exact h1⟩
      · rw [isort_uniq (ltP_swo _) h1 h2]
        exact q _ rfl p _ hp trivial (.lst (isort_rep s.c ra hall))
    · cases hz
theorem ne_sortP : NoEx1 dSortP := by
  intro x e h
  cases x <;> simp only [dSortP] at h <;> first | cases h | (split at h <;> cases h)
theorem jn_sortP (hg : Gl X "sorted") (hm : X.mg "sorted" = none) (ha : JV X A W fl a fa) (hs : starEach [a] X.env = (false, eval a X.env) :: starEach [] X.env := by rfl) (hpl : (backTo pos (starEach [] X.env)).any (·.1) = false := by rfl) : JN X A W fl .l (.Call (.Name "sorted" p) [a] [] pos) (e1 dSortP fa) :=
  jn_callB cr_sortedF cn_sortP ne_sortP hg hm (by decide +kernel) ha (by decide) (by decide) hs hpl
end
end DL
/-! DLAll -/
set_option Elab.async false
set_option linter.all false
set_option maxRecDepth 100000
set_option maxHeartbeats 2000000
/-! DLAll: the rules in short. -/
namespace DL
open PySem PySem.Spec PyProof.Rows L2
variable [Tb]
section
variable {X : Cx} {A : Ex → Addr} {W : WX} {fl fl1 fl' flb : List (Nat × Kd)} {a b c e : Expr} {fa fb fc f : FE} {pos p : Pos} {k : Kd} {op op' : CmpOp} {bo : Operator} {g g' : D → D → R D}
/-! ### comparisons, operations -/
def CmpG (X : Cx) (fl : List (Nat × Kd)) (op : CmpOp) (g : D → D → R D) : Prop := ∃ r, OpR X (compareOp op) r ∧ OpS X fl r g ∧ NoEx g
theorem cEq (hu : X.A.units + 65 < cLine) : CmpG X fl .Eq dEq := ⟨_, op_eqD (by omega), ops_eq, ne_eq⟩
theorem cNe (hu : X.A.units + 65 < cLine) : CmpG X fl .NotEq dNe := ⟨_, op_neD (by omega), ops_ne, ne_ne⟩
theorem cLt (hu : X.A.units + 65 < cLine) : CmpG X fl .Lt dLt := ⟨_, op_ltA (by omega), ops_lt, ne_lt⟩
theorem cLe : CmpG X fl .LtE dLe := ⟨_, op_le, ops_le, ne_le⟩
theorem cGt : CmpG X fl .Gt dGt := ⟨_, op_gt, ops_gt, ne_gt⟩
theorem cGe : CmpG X fl .GtE dGe := ⟨_, op_ge, ops_ge, ne_ge⟩
theorem cIs : CmpG X fl .Is dIs := ⟨_, op_isA, ops_is, ne_is⟩
theorem cIsN : CmpG X fl .IsNot dIsNot := ⟨_, op_isNA, ops_isNot, ne_isNot⟩
theorem cIn (hu : X.A.units + 65 < cLine) : CmpG X fl .In dIn := ⟨_, op_inAll hu, ops_in, ne_in⟩
theorem cNin (hu : X.A.units + 65 < cLine) : CmpG X fl .NotIn dNotIn := ⟨_, op_notInAll hu, ops_notIn, ne_notIn⟩
theorem kCmp (h : CmpG X fl op g) (ha : JV X A W fl a fa) (hb : JV X A W fl b fb) (hm : behindInMarks op b = false := by rfl) : JD X A W fl (.Compare a [op] [b] pos) (e2 g fa fb) := by
  obtain ⟨r, h1, h2, h3⟩ := h
  exact jd_cmp h1 h2 h3 ha hb hm
theorem zCmp (h : CmpG X fl op g) (ha : JV X A W fl a fa) (hb : JV X A W fl b fb) (hm : behindInMarks op b = false := by rfl) : JT X A W fl (.Compare a [op] [b] pos) (DL.tB (e2 g fa fb)) := by
  obtain ⟨r, h1, h2, h3⟩ := h
  exact jt_cmp h1 h2 h3 ha hb hm
theorem kChain (h : CmpG X fl op g) (h' : CmpG X fl op' g') (ha : JV X A W fl a fa) (hb : JV X A W fl b fb) (hc : JV X A W fl c fc) (hm : lastMarks [op, op'] [b, c] = false := by with_unfolding_all rfl) : JD X A W fl (.Compare a [op, op'] [b, c] pos) (eChain g g' fa fb fc) := by
  obtain ⟨r, h1, h2, h3⟩ := h
  obtain ⟨r', h1', h2', h3'⟩ := h'
  exact jd_chain h1 h1' h2 h3 h2' h3' ha hb hc hm
def BinG (X : Cx) (fl : List (Nat × Kd)) (op : Operator) (g : D → D → R D) : Prop := ∃ r, OpR X (binaryOp op) r ∧ OpS X fl r g ∧ NoEx g
theorem oAdd : BinG X fl .Add dAdd := ⟨_, op_addAll, ops_add, ne_add⟩
theorem oSub : BinG X fl .Sub dSub := ⟨_, op_sub, ops_sub, ne_sub⟩
theorem oMul : BinG X fl .Mult dMulI := ⟨_, op_mulI, ops_mulI, ne_mulI⟩
theorem oMulT : BinG X fl .Mult dMulT := ⟨_, op_repX, ops_mulT, ne_mulT⟩
theorem oDiv : BinG X fl .FloorDiv dDiv := ⟨_, op_fdivW, ops_div, ne_div⟩
theorem oMod : BinG X fl .Mod dMod := ⟨_, op_mod, ops_mod, ne_mod⟩
theorem oPow : BinG X fl .Pow dPow := ⟨_, op_pow, ops_pow, ne_pow⟩
theorem kBin (h : BinG X fl bo g) (ha : JV X A W fl a fa) (hb : JV X A W fl b fb) : JD X A W fl (.BinOp a bo b pos) (e2 g fa fb) := by
  obtain ⟨r, h1, h2, h3⟩ := h
  exact jd_op h1 h2 h3 ha hb
theorem nAddL (ha : JV X A W fl a fa) (hb : JV X A W fl b fb) : JN X A W fl .l (.BinOp a .Add b pos) (e2 dAddL fa fb) := jn_op op_catR opn_addL ne_addL ha hb
/-! ### built-in calls -/
section
variable (hg : Gl X "len") (hm : X.mg "len" = none) (ha : JV X A W fl a fa) (hs : starEach [a] X.env = (false, eval a X.env) :: starEach [] X.env) (hpl : (backTo pos (starEach [] X.env)).any (·.1) = false)
end
theorem kLen (hg : Gl X "len") (hm : X.mg "len" = none) (ha : JV X A W fl a fa) (hs : starEach [a] X.env = (false, eval a X.env) :: starEach [] X.env := by rfl) (hpl : (backTo pos (starEach [] X.env)).any (·.1) = false := by rfl) : JD X A W fl (.Call (.Name "len" p) [a] [] pos) (e1 dLen fa) :=
  jd_callB call_len cs_len ne_len hg hm (by decide +kernel) ha (by decide) (by decide) hs hpl
theorem kAll (hc : X.calm = true) (hg : Gl X "all") (hm : X.mg "all" = none) (ha : JV X A W fl a fa) (hs : starEach [a] X.env = (false, eval a X.env) :: starEach [] X.env := by rfl) (hpl : (backTo pos (starEach [] X.env)).any (·.1) = false := by rfl) : JD X A W fl (.Call (.Name "all" p) [a] [] pos) (e1 dAll fa) :=
  jd_callB (cr_all hc) cs_all ne_all hg hm (by decide +kernel) ha (by decide) (by decide) hs hpl
theorem kAny (hc : X.calm = true) (hg : Gl X "any") (hm : X.mg "any" = none) (ha : JV X A W fl a fa) (hs : starEach [a] X.env = (false, eval a X.env) :: starEach [] X.env := by rfl) (hpl : (backTo pos (starEach [] X.env)).any (·.1) = false := by rfl) : JD X A W fl (.Call (.Name "any" p) [a] [] pos) (e1 dAny fa) :=
  jd_callB (cr_any hc) cs_any ne_any hg hm (by decide +kernel) ha (by decide) (by decide) hs hpl
theorem kSum (hc : X.calm = true) (hg : Gl X "sum") (hm : X.mg "sum" = none) (ha : JV X A W fl a fa) (hs : starEach [a] X.env = (false, eval a X.env) :: starEach [] X.env := by rfl) (hpl : (backTo pos (starEach [] X.env)).any (·.1) = false := by rfl) : JD X A W fl (.Call (.Name "sum" p) [a] [] pos) (e1 dSum fa) :=
  jd_callB (cr_sum hc) cs_sum ne_sum hg hm (by decide +kernel) ha (by decide) (by decide) hs hpl
theorem kSumH (hc : L2H.HotC X) (hg : Gl X "sum") (hm : X.mg "sum" = none) (ha : JV X A W fl a fa) (hs : starEach [a] X.env = (false, eval a X.env) :: starEach [] X.env := by rfl) (hpl : (backTo pos (starEach [] X.env)).any (·.1) = false := by rfl) : JD X A W fl (.Call (.Name "sum" p) [a] [] pos) (e1 dSum fa) :=
  jd_callB (cr_sumHot hc) cs_sum ne_sum hg hm (by decide +kernel) ha (by decide) (by decide) hs hpl
theorem kInt (hg : Gl X "int") (hm : X.mg "int" = none) (ha : JV X A W fl a fa) (hs : starEach [a] X.env = (false, eval a X.env) :: starEach [] X.env := by rfl) (hpl : (backTo pos (starEach [] X.env)).any (·.1) = false := by rfl) : JD X A W fl (.Call (.Name "int" p) [a] [] pos) (e1 dInt fa) :=
  jd_callT call_int1 cs_int ne_int hg hm (by decide +kernel) ha (by decide) (by decide) hs hpl
theorem nList (hg : Gl X "list") (hm : X.mg "list" = none) (ha : JV X A W fl a fa) (hs : starEach [a] X.env = (false, eval a X.env) :: starEach [] X.env := by rfl) (hpl : (backTo pos (starEach [] X.env)).any (·.1) = false := by rfl) : JN X A W fl .l (.Call (.Name "list" p) [a] [] pos) (e1 dList fa) :=
  jn_callT call_list_of cn_list ne_list hg hm (by decide +kernel) ha (by decide) (by decide) hs hpl
theorem kTuple (hg : Gl X "tuple") (hm : X.mg "tuple" = none) (ha : JV X A W fl a fa) (hs : starEach [a] X.env = (false, eval a X.env) :: starEach [] X.env := by rfl) (hpl : (backTo pos (starEach [] X.env)).any (·.1) = false := by rfl) : JD X A W fl (.Call (.Name "tuple" p) [a] [] pos) (e1 dTuple fa) :=
  jd_callT call_tupleX cs_tuple ne_tuple hg hm (by decide +kernel) ha (by decide) (by decide) hs hpl
/-! ### isinstance -/
theorem iInt : KitsOk "int" isI := kits_int
/-! ### flags in another order -/
theorem jss_flw {sts : List Stmt} {fs : FS} (h : JSs X A W fl1 flb fl' sts fs) (hp : (∀ q ∈ fl1, q ∈ fl) ∧ ∀ q ∈ fl, q ∈ fl1 := by decide) : JSs X A W fl flb fl' sts fs := pss_mono h fun D σ H ⟨G, F, ρ, s, q⟩ => by
  refine ⟨G, F, ρ, ⟨s.c, s.tt, s.len, fun i d e nf => s.sh i d e fun k m => nf k (hp.2 _ m), fun i k d m e => s.ow i k d (hp.1 _ m) e, fun i j k k' d d' p m m' => s.ap i j k k' d d' p (hp.1 _ m) (hp.1 _ m')⟩, q⟩
end
theorem flout {fl : List (Nat × Kd)} {vs : List Nat} (h : (fl.all fun q => decide (q.1 ∉ vs)) = true) : ∀ j k, (j, k) ∈ fl → j ∉ vs := fun j k m => by
  have := List.all_eq_true.mp h _ m
  simpa using this
instance : DecidableEq Kd := fun a b => by
  cases a <;> cases b <;> first | exact isTrue rfl | exact isFalse (fun z => nomatch z)
end DL
/-! DLEnd -/
set_option Elab.async false
set_option linter.all false
set_option maxRecDepth 100000
set_option maxHeartbeats 2000000
/-! DLEnd: the law's own end. -/
namespace DL
open PySem PySem.Spec PyProof.Rows L2
/-- the tables of the module's defs are empty -/
def OwnTabs (q : Program) (K : Frag) (mg : Str → Option Value) (h : Heap) : Prop := ∀ (x : Str) (f : Addr), ((recsOf q).any fun e => e.name == x) = true → mg x = some (.ref f) → LamX.OwnTab K f h
theorem walk_ofTabs {l : PySem.W.OpenLaw} {n k : Nat} {q : Program} {loose : List Str} {XP : (Str → Option Value) → Heap → Prop} {YP : World → Heap → Prop} {d : DefRec} {K : Params → Frag} {CX : World → CXT} {x : Str}
    (hn : l.most = some n) (hn2 : n ≤ sizeLine) (hdf : d.params.defaults = []) (hr : Room k callerA) (hY : ∀ (w : World) (h : Heap), YP w h → (K w.params).In h)
    (F : ∀ (w : World) (mg : Str → Option Value) (fa : Addr) (h : Heap), YP w h → (K w.params).In h → h.Ns mainGlobals mg → mg d.name = some (.ref fa) → OwnTabs q (K w.params) mg h → LamX.LawAtS l w (K w.params) (CX w) k n x mg fa h)
    (hCX : ∀ (w : World) (H : Hp) (s : Shared) (e : Value) (s' : Shared), CX w [] H s (fun _ _ _ => False) e s' → False) :
    PySem.W.WalkO q loose XP YP l.row.toRowW d [] (fun f vs => PySem.call f vs) := by
  refine Att.attach_callB hn hdf fun w s₀ s₁ mg mb fa o pm cd doc a vs ns G Y ho hd hcd hmg hobj hints hlen hbits hg => ?_
  have KX := hY w _ Y
  have own : OwnTabs q (K w.params) mg s₁.heap := fun x f hx hf c P o1 fd1 e dd vs1 sl k1 k2 k3 k4 k5 => by
    obtain ⟨dL, hm, hn1⟩ := List.any_eq_true.mp hx
    have hn2 : dL.name = x := beq_iff_eq.mp hn1
    obtain ⟨a', o', fd', c', P', h1, h2, h3, h4, h5, h6⟩ := G.T.tab dL hm
    rw [hn2, hf] at h1
    cases h1
    have g1 := KX _ _ k1
    rw [g1] at h2
    cases h2
    rw [k2] at h3
    cases h3
    rw [k3] at h4
    cases h4
    obtain ⟨⟨oc, vc, e1, _, e3, e4⟩, hP⟩ := h6
    have g2 := KX _ _ k4
    rw [g2] at e1
    cases e1
    cases e3
    rw [k5] at e4
    cases e4
    exact hP
  obtain ⟨fd, cs, sp, hT, nT, C, hb, hsp, hF⟩ := F w mg fa _ Y KX G.T.g hmg own
  exact LamX.law_callTs KX G.T.g G.T.b G.T.builtins G.T.nolimit hg hT nT C G.T.bmain hobj hints (Nat.le_trans hlen hn2) hr hF hb (fun H hH hS => hsp H a ns hlen hbits hH hS) fun H e s' => hCX w H s₁ e s'
/-- the script -/
def scriptD (ns : List Int) : D := .list (ns.map .int)
theorem rep_ints {K : Wd} {F : Hp} : ∀ ns : List Int, RepAll K F (ns.map V.int) (ns.map .int)
  | [] => .nil
  | n :: r => .cons (.int n) (rep_ints r)
/-- what the law promises of a script -/
theorem law_sp [Tb] {P : Program} {w : World} {K : Frag} {n : Nat} {f : List D → R D} {cs : List (Addr × Addr)} (hT : ∀ p ∈ Tb.T, ∃ c, (c, p.1) ∈ cs) (hf : ∀ ns : List Int, ns.length ≤ n → (∀ z ∈ ns, Builtin.Int.intBits z ≤ 1048576) → f [scriptD ns] = .ok (.bool true)) :
    ∀ (H : Hp) (a : Addr) (ns : List Int), ns.length ≤ n → (∀ z ∈ ns, Builtin.Int.intBits z ≤ 1048576) → (∀ p ∈ cs, H p.2 = some (.tbl #[])) → SqL K H a (ns.map V.int) → spD (kw P w K) f [.ref a] H (fun v _ => v = .bl true) fun _ _ _ => False := by
  intro H a ns hl hb ht hS
  have tabs : LamX.Tabs Tb.T H := fun p hp => by
    obtain ⟨c, hc⟩ := hT p hp
    exact LamX.TabS.nil (ht _ hc)
  have fin : ∀ F : Hp, SqL K F a (ns.map V.int) → (∀ b o, F b = some o → NoTbl o ∧ H b = some o) → spD (kw P w K) f [.ref a] H (fun v _ => v = .bl true) fun _ _ _ => False := fun F hF hle => by
    refine ⟨⟨fun _ => none, fun _ => False, Tb.T⟩, F, [scriptD ns], rfl, ⟨fun b o e => ⟨(hle b o e).1, .inl ⟨id, (hle b o e).2⟩⟩, (fun p o e => nomatch e), (fun p o e => nomatch e), (fun p l => l.elim), tabs, (fun p l => l.elim)⟩, .cons (.lst hF (rep_ints ns)) .nil, ?_⟩
    rw [hf ns hl hb]
    intro v F' H' _ _ r
    cases r
    rfl
  rcases hS with hS | hS
  · refine fin (fun b => if b = a then H b else none) (.inl ?_) fun b o e => ?_
    · rcases hS with h | ⟨ob, h⟩
      · exact .inl (by show (if a = a then H a else none) = _; rw [if_pos rfl]; exact h)
      · exact .inr ⟨ob, by show (if a = a then H a else none) = _; rw [if_pos rfl]; exact h⟩
    · by_cases hb : b = a
      · subst hb
        have e' : H b = some o := by simpa using e
        refine ⟨?_, e'⟩
        rcases hS with h | ⟨ob, h⟩
        · rw [h] at e'; cases e'; exact NoTbl.lst
        · rw [h] at e'; cases e'; exact NoTbl.frz
      · have e' : (if b = a then H b else none) = some o := e
        rw [if_neg hb] at e'; cases e'
  · exact fin (fun _ => none) (.inr hS) fun b o e => nomatch e
theorem cx_end {P : Program} {w : World} {H : Hp} {s : Shared} {e : Value} {s' : Shared} (h : L2N.CX P w [] H s (fun _ _ _ => False) e s') : False := by
  obtain ⟨_, _, _, _, _, _, _, _, _, _, _, _, z⟩ := h
  exact z
/-- a class of refusals, by what is read of it -/
theorem exm_by {K : Frag} {A C : Addr} {b : Bool} (h1 : PySem.W.subIn K (.ref C) (.type "BaseException") = some true) (h2 : PySem.W.isClsIn K C = true) (h3 : PySem.W.typeIn K (.ref C) = some (.type "type")) (h4 : PySem.W.subIn K (.ref A) (.ref C) = some b) : PySem.W.exmOne K (.ref A) (.ref C) = some b := by
  have e1 : (PySem.W.subIn K (.ref C) (.type "BaseException") == some true) = true := by rw [h1] <;> rfl
  have e2 : ((PySem.W.clsIn K C).isSome && PySem.W.typeIn K (.ref C) == some (.type "type")) = true := by
    have h2' : (PySem.W.clsIn K C).isSome = true := h2
    rw [h2', h3] <;> rfl
  show (if (PySem.W.subIn K (.ref C) (.type "BaseException") == some true) = true then (if ((PySem.W.clsIn K C).isSome && PySem.W.typeIn K (.ref C) == some (.type "type")) = true then PySem.W.subIn K (.ref A) (.ref C) else none) else none) = some b
  rw [if_pos e1, if_pos e2]
  exact h4
theorem kit_by {K : Frag} {A C : Addr} {b : Bool} (h2 : PySem.W.isClsIn K C = true) (h3 : PySem.W.typeIn K (.ref C) = some (.type "type")) (hs : PySem.W.subIn K (.ref C) (.ref C) = some true) (h4 : PySem.W.subIn K (.ref A) (.ref C) = some b) : PySem.W.kitOne K (.ref A) (.ref C) = some b := by
  unfold PySem.W.kitOne
  by_cases h : A = C
  · subst h
    rw [hs] at h4
    cases h4
    rw [if_pos (beq_self_eq_true _)]
  · rw [if_neg (by simpa using h)]
    have e2 : ((PySem.W.clsIn K C).isSome && PySem.W.typeIn K (.ref C) == some (.type "type")) = true := by
      have h2' : (PySem.W.clsIn K C).isSome = true := h2
      rw [h2', h3] <;> rfl
    show (if ((PySem.W.clsIn K C).isSome && PySem.W.typeIn K (.ref C) == some (.type "type")) = true then PySem.W.subIn K (.ref A) (.ref C) else none) = some b
    rw [if_pos e2]
    exact h4
theorem kit_val {K : Frag} {A : Addr} (h4 : PySem.W.subIn K (.ref A) (.type "ValueError") = some true) : PySem.W.kitOne K (.ref A) (.type "ValueError") = some true := by
  unfold PySem.W.kitOne
  rw [if_neg (by simp)]
  show (if PySem.W.kitMeta "ValueError" = true then PySem.W.subIn K (.ref A) (.type "ValueError") else none) = some true
  rw [if_pos (by kernel_rfl)]
  exact h4
end DL
/-! DLMut -/
set_option Elab.async false
set_option linter.all false
set_option maxRecDepth 100000
set_option maxHeartbeats 2000000
/-! DLMut: x.append(e), x.extend(e), x[k] = e at a slot that holds an object of one's own. -/
namespace DL
open PySem PySem.Spec PyProof.Rows L2
variable [Tb]
section
variable {X : Cx} {A : Ex → Addr} {W : WX} {fl fl1 fl' flb : List (Nat × Kd)} {a b c e : Expr} {fa fb fc f : FE} {pos p : Pos} {k : Kd} {i : Nat} {x : Str} {px apos cpos tpos : Pos}
theorem js_app (m : (i, Kd.l) ∈ fl) (he : JD X A W fl e f) (hN : X.N[i]? = some x := by rfl) (hv : Vis X.env.scope x := by first | exact Or.inl rfl | exact Or.inr (Or.inl rfl) | exact Or.inr (Or.inr rfl)) (hd : (x == ("__debug__" : Str)) = false := by decide) (hcd : (x == ("__classdict__" : Str)) = false := by decide)
    (hbase : attributeBase (.Name x px) "append" X.env (eval (.Name x px) X.env) = eval (.Name x px) X.env := by rfl)
    (hfew : ((backTo cpos (starEach [e] X.env)).all (fun x => !x.1) && (backToKw cpos (keywordEach [] X.env)).all (fun x => x.1.isSome)
      && decide (([e] : List Expr).length + ([] : List Keyword).length + (if ([] : List Keyword).isEmpty then 0 else 1) < 30)) = true := by rfl)
    (hline : (apos.endLine == cpos.line) = true := by rfl) (hs : starEach [e] X.env = (false, eval e X.env) :: starEach [] X.env := by rfl) (hplain : (backTo cpos (starEach [] X.env)).any (·.1) = false := by rfl)
    (hsw : swapsWith (.Call (.Attribute (.Name x px) "append" apos) [e] [] cpos) none pos.line X.env = pure false := by rfl) :
    JS X A W fl flb fl (.Expr (.Call (.Attribute (.Name x px) "append" apos) [e] [] cpos) pos) (sApp i f) := by
  refine ps_mono (ps_expr (pe_bm PySem.F.plainAttrs_list PySem.F.slot_list_append PySem.F.type_list_append mt_append (pe_var hN hv hd hcd) (pa_cons he pa_nil hs) hbase hfew hline hs hplain) hsw) fun D σ H ⟨G, F, ρ, s, q⟩ => ?_
  simp only [sApp] at q
  split at q
  case h_2 => exact q.elim
  case h_1 ds hi =>
    obtain ⟨l, o, g1, g2, g3, g4, g5, g6⟩ := s.own m hi
    cases g5 with
    | @lst xs _ r =>
      refine ⟨.ref l, g1, .inl ⟨rfl, xs, .inl (.inl g4)⟩, G, F, ρ, s, ?_⟩
      cases hf : f ρ with
      | bad => rw [hf] at q; exact q.elim
      | exc y => rw [hf] at q; exact fun F' H' le c => q F' σ H' le c
      | ok d =>
        rw [hf] at q
        intro F' H' le s' v rv
        simp only at q
        by_cases hl : ds.length < lim
        case neg => rw [if_neg hl] at q; exact q.elim
        rw [if_pos hl] at q
        obtain ⟨l2, o2, k1, k2, k3, k4, k5, k6⟩ := s'.own m hi
        rw [g1] at k1; cases k1
        cases k5 with
        | @lst ys _ r' =>
          refine ⟨l, ys, v, rfl, rfl, k4, by rw [r'.length]; exact lim_lt hl, ?_⟩
          exact q F' σ _ le (s'.mut m hi g1 k4 k6 (o' := .lst (ys ++ [v])) trivial (.lst (r'.append (.cons rv .nil))))
theorem js_ext (m : (i, Kd.l) ∈ fl) (he : JN X A W fl .l e f) (hN : X.N[i]? = some x := by rfl) (hv : Vis X.env.scope x := by first | exact Or.inl rfl | exact Or.inr (Or.inl rfl) | exact Or.inr (Or.inr rfl)) (hd : (x == ("__debug__" : Str)) = false := by decide) (hcd : (x == ("__classdict__" : Str)) = false := by decide)
    (hbase : attributeBase (.Name x px) "extend" X.env (eval (.Name x px) X.env) = eval (.Name x px) X.env := by rfl)
    (hfew : ((backTo cpos (starEach [e] X.env)).all (fun x => !x.1) && (backToKw cpos (keywordEach [] X.env)).all (fun x => x.1.isSome)
      && decide (([e] : List Expr).length + ([] : List Keyword).length + (if ([] : List Keyword).isEmpty then 0 else 1) < 30)) = true := by rfl)
    (hline : (apos.endLine == cpos.line) = true := by rfl) (hs : starEach [e] X.env = (false, eval e X.env) :: starEach [] X.env := by rfl) (hplain : (backTo cpos (starEach [] X.env)).any (·.1) = false := by rfl)
    (hsw : swapsWith (.Call (.Attribute (.Name x px) "extend" apos) [e] [] cpos) none pos.line X.env = pure false := by rfl) :
    JS X A W fl flb fl (.Expr (.Call (.Attribute (.Name x px) "extend" apos) [e] [] cpos) pos) (sExt i f) := by
  refine ps_mono (ps_expr (pe_bm PySem.F.plainAttrs_list PySem.F.slot_list_extend PySem.F.type_list_extend mt_extend (pe_var hN hv hd hcd) (pa_cons he pa_nil hs) hbase hfew hline hs hplain) hsw) fun D σ H ⟨G, F, ρ, s, q⟩ => ?_
  simp only [sExt] at q
  split at q
  case h_2 => exact q.elim
  case h_1 ds hi =>
    obtain ⟨l, o, g1, g2, g3, g4, g5, g6⟩ := s.own m hi
    cases g5 with
    | @lst xs _ r =>
      refine ⟨.ref l, g1, .inl ⟨rfl, xs, .inl (.inl g4)⟩, G, F, ρ, s, ?_⟩
      cases hf : f ρ with
      | bad => rw [hf] at q; exact q.elim
      | exc y => rw [hf] at q; exact fun F' H' le c => q F' σ H' le c
      | ok d =>
        rw [hf] at q
        intro F' H' le s' b ob hb hkb rb
        cases rb with
        | @lst zs es rz =>
          simp only at q
          by_cases hl : ds.length + es.length ≤ lim
          case neg => rw [if_neg hl] at q; exact q.elim
          rw [if_pos hl] at q
          have s2 := s'.alloc (o := .lst zs) hb NoTbl.lst
          have le2 := Le.new (o := HO.lst zs) (s'.c.fnone hb)
          obtain ⟨l2, o2, k1, k2, k3, k4, k5, k6⟩ := s2.own m hi
          rw [g1] at k1; cases k1
          cases k5 with
          | @lst ys _ r' =>
            refine ⟨l, b, ys, zs, rfl, rfl, k4, upd_same, by rw [r'.length, rz.length]; exact lim_line hl, ?_⟩
            exact q _ σ _ (le.trans le2) (s2.mut m hi g1 k4 k6 (o' := .lst (ys ++ zs)) trivial (.lst (r'.append (rz.mono le2))))
        | dk r => exact hkb.elim
        | dt r => exact hkb.elim
end
/-! ### x[k] = v -/
section
variable {K : Wd} {F : Hp}
theorem RepK.has {kvs : List (L2.Key × V)} {es : List (D × D)} (h : RepK K F kvs es) (k : L2.Key) : (es.any fun kv => PyData.eqv kv.1 (keyD k)) = kvs.any fun kv => decide (kv.1 = k) := by
  induction kvs generalizing es with
  | nil => cases h; rfl
  | cons p kvs ih =>
    cases h with
    | cons r t => rw [List.any_cons, List.any_cons, ih t, eqv_keyD]
theorem RepK.repl {kvs : List (L2.Key × V)} {es : List (D × D)} (h : RepK K F kvs es) (k : L2.Key) {v : V} {d : D} (r : Rep K F v d) : RepK K F (kvs.map fun kv => if kv.1 = k then (kv.1, v) else kv) (es.map fun kv => if PyData.eqv kv.1 (keyD k) = true then (kv.1, d) else kv) := by
  induction kvs generalizing es with
  | nil => cases h; exact .nil
  | cons p kvs ih =>
    cases h with
    | @cons k' v' _ d' es' r' t =>
      rw [List.map_cons, List.map_cons]
      by_cases hk : k' = k
      · rw [if_pos hk, if_pos (by rw [eqv_keyD]; simpa using hk)]
        exact .cons r (ih t)
      · rw [if_neg hk, if_neg (by rw [eqv_keyD]; simpa using hk)]
        exact .cons r' (ih t)
theorem RepK.snoc {kvs : List (L2.Key × V)} {es : List (D × D)} (h : RepK K F kvs es) (k : L2.Key) {v : V} {d : D} (r : Rep K F v d) : RepK K F (kvs ++ [(k, v)]) (es ++ [(keyD k, d)]) := by
  induction kvs generalizing es with
  | nil => cases h; exact .cons r .nil
  | cons p kvs ih =>
    cases h with
    | cons r' t => exact .cons r' (ih t)
theorem RepK.put {kvs : List (L2.Key × V)} {es : List (D × D)} (h : RepK K F kvs es) (k : L2.Key) {v : V} {d : D} (r : Rep K F v d) : RepK K F (putK kvs k v) (dPutK es (keyD k) d) := by
  unfold putK dPutK
  rw [h.has k]
  split
  · exact h.repl k r
  · exact h.snoc k r
theorem RepK.length {kvs : List (L2.Key × V)} {es : List (D × D)} (h : RepK K F kvs es) : kvs.length = es.length := by
  induction kvs generalizing es with
  | nil => cases h; rfl
  | cons p kvs ih =>
    cases h with
    | cons r t => rw [List.length_cons, List.length_cons, ih t]
theorem RepT.has {kvs : KX} {es : List (D × D)} (h : RepT K F kvs es) (k : List L2.Key) : (es.any fun kv => PyData.eqv kv.1 (.tuple (k.map keyD))) = (valX kvs k).isSome := by
  induction kvs generalizing es with
  | nil => cases h; rfl
  | cons p kvs ih =>
    cases h with
    | @cons k' b v _ d' es' hb r t =>
      rw [List.any_cons, eqv_keyT]
      by_cases hk : k' = k
      · rw [valX_pos hk]; simp [hk]
      · rw [valX_neg hk, ih t]; simp [hk]
theorem RepT.repl {kvs : KX} {es : List (D × D)} (h : RepT K F kvs es) (k : List L2.Key) {v : V} {d : D} (r : Rep K F v d) : RepT K F (kvs.map fun t => if t.1 = k then (t.1, t.2.1, v) else t) (es.map fun kv => if PyData.eqv kv.1 (.tuple (k.map keyD)) = true then (kv.1, d) else kv) := by
  induction kvs generalizing es with
  | nil => cases h; exact .nil
  | cons p kvs ih =>
    cases h with
    | @cons k' b v' _ d' es' hb r' t =>
      rw [List.map_cons, List.map_cons]
      by_cases hk : k' = k
      · rw [if_pos hk, if_pos (by rw [eqv_keyT]; simpa using hk)]
        exact .cons hb r (ih t)
      · rw [if_neg hk, if_neg (by rw [eqv_keyT]; simpa using hk)]
        exact .cons hb r' (ih t)
theorem RepT.snoc {kvs : KX} {es : List (D × D)} (h : RepT K F kvs es) (k : List L2.Key) {b : Addr} (hb : TupAt F b (k.map kV)) {v : V} {d : D} (r : Rep K F v d) : RepT K F (kvs ++ [(k, b, v)]) (es ++ [(.tuple (k.map keyD), d)]) := by
  induction kvs generalizing es with
  | nil => cases h; exact .cons hb r .nil
  | cons p kvs ih =>
    cases h with
    | cons hb' r' t => exact .cons hb' r' (ih t)
theorem RepT.put {kvs : KX} {es : List (D × D)} (h : RepT K F kvs es) (k : List L2.Key) {b : Addr} (hb : TupAt F b (k.map kV)) {v : V} {d : D} (r : Rep K F v d) : RepT K F (putX kvs k b v) (dPutK es (.tuple (k.map keyD)) d) := by
  unfold putX dPutK
  rw [h.has k]
  split
  · exact h.repl k r
  · exact h.snoc k hb r
theorem RepT.length {kvs : KX} {es : List (D × D)} (h : RepT K F kvs es) : kvs.length = es.length := by
  induction kvs generalizing es with
  | nil => cases h; rfl
  | cons p kvs ih =>
    cases h with
    | cons hb r t => rw [List.length_cons, List.length_cons, ih t]
theorem dPutK_mark {es : List (D × D)} {k v : D} (h : isKT k = true) : dPutK (markT :: es) k v = markT :: dPutK es k v := by
  obtain ⟨ks, rfl⟩ := isKT_key h
  have e : PyData.eqv markT.1 (.tuple (ks.map keyD)) = false := by simp [markT, PyData.eqv]
  unfold dPutK
  rw [List.any_cons, e, Bool.false_or]
  split
  · rw [List.map_cons, e, if_neg Bool.false_ne_true]
  · rfl
end
section
variable {X : Cx} {A : Ex → Addr} {W : WX} {fl fl1 fl' flb : List (Nat × Kd)} {a b c e o i value : Expr} {fa fb fc f fk fv : FE} {pos p : Pos} {k : Kd} {n : Nat} {x : Str} {px pos' : Pos} {td ty tv : TE}
/-- a[y] = v: the objects behind it -/
def DPutA (P : Program) (w : World) (H : Hp) (a : Addr) (y v : V) (H' : Hp) : Prop := DPut H a y v H' ∨ ∃ kvs k b, H a = some (DX P w a kvs) ∧ KAll H kvs ∧ y = .ref b ∧ TupAt H b (k.map kV) ∧ kvs.length < sizeLine ∧ H' = upd H a (DX P w a (putX kvs k b v))
def tDPutA (P : Program) (w : World) (td ty tv : TE) : TS := fun D σ H => tv σ H fun v H1 => td σ H1 fun x H2 => ty σ H2 fun y H3 => ∃ a H4, x = .ref a ∧ DPutA P w H3 a y v H4 ∧ D.nx σ H4
theorem ps_dputA (hu : X.A.units + 1 < cLine) (ho : PE X o td) (hi : PE X i ty) (hv : PE X value tv) (hs : swapsWith value (some (.Subscript o i pos')) pos.line X.env = pure false) :
    PS X (.Assign [.Subscript o i pos'] value pos) (tDPutA X.prog X.w td ty tv) := by
  refine ⟨fun pins s σ H D I h => ?_⟩
  refine wpAny_Assign_Subscript (thn (hv.run pins s σ H _ I h) fun r s1 ⟨v, H1, I1, rv, q1⟩ => thn (ho.run pins s1 σ H1 _ I1 q1) fun u s2 ⟨x, H2, I2, rx, q2⟩ => thn (hi.run pins s2 σ H2 _ I2 q2) fun iv s3 ⟨y, H3, I3, ry, a, H4, ex, g, q3⟩ => ?_) hs
  subst ex
  obtain rfl : u = Value.ref a := rx
  rcases g with g | ⟨kvs, k, b, g1, g2, g3, g4, g5, g6⟩
  · exact d_setItem hu I3 g ry rv fun s4 I4 => ⟨σ, H4, I4, q3⟩
  · subst g3 g6
    obtain rfl : iv = Value.ref b := ry
    exact x_setItem hu I3 g1 g2 g4 g5 rv fun s4 I4 => ⟨σ, _, I4, q3⟩
theorem js_put (hu : X.A.units + 1 < cLine) (m : (n, k) ∈ fl) (hk : JD X A W fl i fk) (hv : JD X A W fl value fv) (hN : X.N[n]? = some x := by rfl) (hvs : Vis X.env.scope x := by first | exact Or.inl rfl | exact Or.inr (Or.inl rfl) | exact Or.inr (Or.inr rfl)) (hd : (x == ("__debug__" : Str)) = false := by decide) (hcd : (x == ("__classdict__" : Str)) = false := by decide)
    (hs : swapsWith value (some (.Subscript (.Name x px) i pos')) pos.line X.env = pure false := by rfl) :
    JS X A W fl flb fl (.Assign [.Subscript (.Name x px) i pos'] value pos) (sPut n fk fv) := by
  refine ps_mono (ps_dputA hu (pe_var hN hvs hd hcd) hk hv hs) fun D σ H ⟨G, F, ρ, s, q⟩ => ?_
  refine ⟨G, F, ρ, s, ?_⟩
  simp only [sPut] at q
  cases hf : fv ρ with
  | bad => rw [hf] at q; exact q.elim
  | exc y => rw [hf] at q; exact fun F' H' le c => q F' σ H' le c
  | ok y =>
    rw [hf] at q
    simp only at q
    intro F1 H1 le1 s1 v rv
    split at q
    case h_2 => exact q.elim
    case h_1 es hi =>
      obtain ⟨l, o, g1, g2, g3, g4, g5, g6⟩ := s1.own m hi
      refine ⟨.ref l, g1, G, F1, ρ, s1, ?_⟩
      cases hf2 : fk ρ with
      | bad => rw [hf2] at q; exact q.elim
      | exc z => rw [hf2] at q; exact fun F' H' le c => q F' σ H' (le1.trans le) c
      | ok z =>
        rw [hf2] at q
        simp only at q
        by_cases hc : keyOk es z = true ∧ es.length < lim
        case neg => rw [if_neg hc] at q; exact q.elim
        rw [if_pos hc] at q
        obtain ⟨ok, hl⟩ := hc
        obtain ⟨_, ok⟩ := Bool.and_eq_true_iff.mp (show (!isXd es && (if isTd es = true then isKT z else isK z)) = true from ok)
        intro F2 H2 le2 s2 w rw'
        obtain ⟨l2, o2, k1, k2, k3, k4, k5, k6⟩ := s2.own m hi
        rw [g1] at k1; cases k1
        refine ⟨l, ?_⟩
        cases k5 with
        | @dk kvs _ r =>
          rw [r.isTd, if_neg Bool.false_ne_true] at ok
          obtain ⟨kk, rfl⟩ := isK_key ok
          refine ⟨_, rfl, .inl (.inl ⟨kvs, kk, k4, rw'.key, by rw [r.length]; exact lim_lt hl, rfl⟩), ?_⟩
          refine q F2 σ _ (le1.trans le2) (s2.mut m hi g1 k4 k6 (o' := .dK (putK kvs kk v)) ?_ (.dk (r.put kk (rv.mono le2))))
          cases k <;> first | exact k6.elim | trivial
        | @dt kvs es' r =>
          rw [isTd_mark, if_pos rfl] at ok
          rw [dPutK_mark ok] at q
          obtain ⟨ks, rfl⟩ := isKT_key ok
          cases rw' with
          | @tup b bs _ hb rb =>
            rw [rb.keys] at hb
            refine ⟨_, rfl, .inr ⟨kvs, ks, b, k4, s2.c.kall r.kall, rfl, s2.c.tup hb, by rw [r.length]; exact lim_lt (by simp at hl; omega), rfl⟩, ?_⟩
            refine q F2 σ _ (le1.trans le2) (s2.mut m hi g1 k4 k6 (o' := DX X.prog X.w l (putX kvs ks b v)) ?_ (.dt (r.put ks hb (rv.mono le2))))
            cases k <;> first | exact k6.elim | trivial
end
end DL
/-! DLMore2 -/
set_option Elab.async false
set_option linter.all false
set_option maxRecDepth 100000
set_option maxHeartbeats 2000000
/-! DLMore2: t.count(n), enumerate of lists and tuples. -/
namespace DL
open PySem PySem.Spec PyProof.Rows L2
variable [Tb]
/-! ### t.count(n) -/
def dCnt (ds : List D) (y : D) : R D := match y with
  | .int k => (match intsOf ds with
    | some ns => .ok (.int (ns.count k : Nat))
    | none => .bad)
  | _ => .bad
def eCount (o a : FE) : FE := fun ρ => (o ρ).bind fun x => match x with
  | .tuple ds => (a ρ).bind (dCnt ds)
  | _ => .bad
def tyT (x : V) (H : Hp) : Prop := ∃ a xs, x = .ref a ∧ TupAt H a xs
theorem ty_tup {X : Cx} : TyOk X "tuple" tyT := by
  intro pins σ H s x v I r h
  obtain ⟨a, xs, hx, o, ho, hd⟩ := h
  subst hx
  cases r
  obtain ⟨hg, _, its, _, o2, hg2, hc, _⟩ := (show ObjOk X.prog X.w H s.heap a (.frz o (.tup xs)) from I.hok a _ ho)
  rw [hg] at hg2
  cases hg2
  exact ⟨⟨o, hg, hc⟩, fun b e => by cases e; exact ⟨o, hg, hd⟩⟩
def rTCnt (K : PySem.W.Frag) : V → List V → Hp → VK → Prop := fun x us H Q => ∃ (t : Addr) (ms : List Int) (j : Int), x = .ref t ∧ us = [.int j] ∧ SqT K H t (ms.map V.int) ∧ Q (.int (ms.count j : Nat)) H
theorem mt_tcnt {X : Cx} : MtR X "tuple.count" (rTCnt X.K) := by
  intro pins s σ H x vs u ws Q I ru rws h
  obtain ⟨t, ms, j, hx, hv, hq, q⟩ := h
  subst hx hv
  cases ru
  obtain ⟨w1, hw1, rw1⟩ := rws.one
  subst hw1
  obtain ⟨tk, hw1⟩ := rw1
  subst hw1
  obtain ⟨its, rv, ⟨⟨cl, dc, dat, sl⟩, ho, hc, n, hd⟩, hlen⟩ := I.tuple hq
  simp only at hc hd
  subst hc hd
  have ia := ints_of_vals rv
  have hcount : (List.countP (eqk j) its) = ms.count j := eqk_count ia
  refine call_meets PySem.F.slot_tuple_count ⟨_, ho, rfl⟩ PySem.F.entry_tuple_count (PySem.F.args_tuple_count_2 _ _) (SeqAt.tuple_countAt t its.toArray n dc sl (.int j tk) (eqk j)) ⟨ho, ?_, ?_⟩
  · exact fun y hy => (eqk_gives ia y (by simpa using hy)).at _ _
  · refine ⟨.int (ms.count j : Nat), H, I.tok _, ⟨s.toks, ?_⟩, q⟩
    rw [← hcount]
section
variable {X : Cx} {A : Ex → Addr} {W : WX} {fl fl1 fl' flb : List (Nat × Kd)} {a b c e o : Expr} {fa fb fc f fo : FE} {pos p : Pos} {k : Kd} {i : Nat} {x : Str} {px apos cpos tpos : Pos}
theorem jd_count (ho : JV X A W fl o fo) (ha : JV X A W fl a fa) (hbase : attributeBase o "count" X.env (eval o X.env) = eval o X.env := by rfl)
    (hfew : ((backTo cpos (starEach [a] X.env)).all (fun x => !x.1) && (backToKw cpos (keywordEach [] X.env)).all (fun x => x.1.isSome)
      && decide (([a] : List Expr).length + ([] : List Keyword).length + (if ([] : List Keyword).isEmpty then 0 else 1) < 30)) = true := by rfl)
    (hline : (apos.endLine == cpos.line) = true := by rfl) (hs : starEach [a] X.env = (false, eval a X.env) :: starEach [] X.env := by rfl) (hplain : (backTo cpos (starEach [] X.env)).any (·.1) = false := by rfl) :
    JD X A W fl (.Call (.Attribute o "count" apos) [a] [] cpos) (eCount fo fa) := by
  refine pe_mono (pe_mG ty_tup PySem.F.plainAttrs_tuple PySem.F.slot_tuple_count PySem.F.type_tuple_count mt_tcnt ho (pa_cons ha pa_nil hs) hbase hfew hline hs hplain) fun σ H Q ⟨G, F, ρ, s, q⟩ => ?_
  refine ⟨G, F, ρ, s, (RP.bind q).imp fun x F1 H1 le1 s1 q1 v rv => ?_⟩
  cases hx : x with
  | tuple ds =>
    subst hx
    obtain ⟨t, xs, rfl, h0, hp, ra⟩ := rv.tup s1
    refine ⟨⟨t, xs, rfl, hp⟩, G, F1, ρ, s1, (RP.bind q1).imp fun y F2 H2 le2 s2 q2 w rw' => ?_⟩
    cases y with
    | int j =>
      simp only [dCnt] at q2
      cases hi : intsOf ds with
      | none => rw [hi] at q2; exact q2.elim
      | some ms =>
        rw [hi] at q2
        have e1 := ra.ints hi
        subst e1
        obtain rfl := rw'.int s2
        exact ⟨t, ms, j, rfl, rfl, (s2.c.tup (le2.tupAt h0)).sq, q2.ok s2 _ (.int _)⟩
    | _ => exact q2.elim
  | _ => subst hx; exact q1.elim
end
/-! ### enumerate(t) -/
set_option maxHeartbeats 1000000 in
theorem meets_enum1 {v : Value} {ob : Obj} {Hh : Heap → Prop} (B : Begins v ob Hh) :
    Meets (Builtin.«enumerate.__new__» ⟨[.type "enumerate", v], []⟩) (fun _ R t => Hh t.heap ∧ R (.ok (.ret (.ref (t.heap.push ob).objs.size))) { t with heap := (t.heap.push ob).push { cls := .type "enumerate", data := .fields #[.none, .bool false, .ref t.heap.objs.size, rawInt 0, .none, .none] } }) :=
  .of_wp fun prog w A R t z => by
    obtain ⟨hp, g, d, tk, os⟩ := t
    obtain ⟨z1, z⟩ := z
    have isub := sub_enumerate
    have begins : ∀ {A' : Around} {E' : Value → Shared → Prop} {Q' : Value → Shared → Prop}, Q' (.ref hp.objs.size) ⟨hp.push ob, g, d, tk, os⟩ → wpAny (model prog w) A' (pyIter v) Q' E' ⟨hp, g, d, tk, os⟩ := fun y => B.iter prog w _ _ ⟨hp, g, d, tk, os⟩ _ z1 y
    wp_walk using begins
    refine wpAny_stack_any fun st => wpAny_pure ?_
    split
    · rename_i c _ _ _ _ _
      cases (c == Value.type "enumerate")
      all_goals
        wp_walk using begins
        exact ⟨_, rfl, z⟩
    · wp_walk using begins
      exact ⟨_, rfl, z⟩
theorem call_enum1 {prog : Program} {w : World} {A : Around} {E : Value → Shared → Prop} {t : Shared} {v : Value} {ob : Obj} {Hh : Heap → Prop} {Q : Value → Shared → Prop} (B : Begins v ob Hh) (h1 : Hh t.heap)
    (h : ∀ h', IsEnum h' (t.heap.objs.size + 1) t.heap.objs.size 0 .none → h'.get? t.heap.objs.size = some ob → (∀ b o, t.heap.get? b = some o → h'.get? b = some o) → Q (.ref (t.heap.objs.size + 1)) { t with heap := h' }) :
    wpAny (model prog w) A (call (.type "enumerate") [v]) Q E t := by
  refine callType_new F.called_enumerate (by decide) (F.typeCall_enumerate_1 _) (F.newCall_enumerate_1 _) (fun o => F.args_object_init_2 o _) F.entry_enumerate_new (meets_enum1 B) ⟨h1, ?_⟩
  have sz : (t.heap.push ob).objs.size = t.heap.objs.size + 1 := Heap.size_push ..
  rw [sz]
  have he : IsEnum ((t.heap.push ob).push { cls := .type "enumerate", data := .fields #[.none, .bool false, .ref t.heap.objs.size, rawInt 0, .none, .none] }) (t.heap.objs.size + 1) t.heap.objs.size 0 .none := by
    have z := Heap.get?_push_size (t.heap.push ob) (o := { cls := .type "enumerate", data := .fields #[.none, .bool false, .ref t.heap.objs.size, rawInt 0, .none, .none] }) rfl
    rw [sz] at z
    exact z
  exact ⟨⟨_, he, rfl⟩, h _ he (Heap.get?_push_of_some _ (Heap.get?_push_size _ B.free)) fun b o x => Heap.get?_push_of_some _ (Heap.get?_push_of_some _ x)⟩
/-- the tuple at a, each item in a new pair -/
def IteT (K : PySem.W.Frag) (a : Addr) : It :=
  ⟨fun i H => ∃ (xs : List V) (x : V), SqT K H a xs ∧ xs[i]? = some x, fun i H v H' => ∃ T x, v = .ref T ∧ H T = none ∧ H' = upd H T (.tup [.int (i : Nat), x]) ∧ ∀ xs, SqT K H a xs → xs[i]? = some x, fun i H => ∃ xs : List V, SqT K H a xs ∧ xs.length = i⟩
theorem turn_enumT {P : Program} {w : World} {K : PySem.W.Frag} {elts : List Expr} {kk : Nat} {tpos : Pos} (a e it : Addr) (hne : e ≠ it) (hae : a ≠ e) (hai : a ≠ it) :
    Turn P w K (.Tuple elts kk tpos) (IteT K a) [e, it] e (fun i h => (∃ old, IsEnum h e it ((i : Nat) : Int) old) ∧ h.IsTupleIter it a i) where
  mem := List.mem_cons_self
  obj := fun i h st b hb => by
    obtain ⟨⟨old, he⟩, o, ho, hc, hd⟩ := st
    rcases List.mem_cons.mp hb with z | hb
    · rw [z]; exact ⟨_, he, fun v q => nomatch q⟩
    · rw [List.mem_singleton.mp hb]; exact ⟨o, ho, fun v q => by rw [hd] at q; cases q⟩
  keep := fun i h h' st k => let ⟨⟨old, he⟩, hi⟩ := st; ⟨⟨old, k e List.mem_cons_self _ he⟩, hi.at fun o q => k it (List.mem_cons_of_mem _ List.mem_cons_self) o q⟩
  item := by
    intro X hP hw hK hc i pins s σ H E I hf st hg
    subst hP hw hK
    obtain ⟨⟨old, he⟩, hit⟩ := st
    obtain ⟨xs, x, hq, hx⟩ := hg
    obtain ⟨its, rv, p, hz⟩ := I.tuple hq
    obtain ⟨u, hu, ru⟩ := rv.get hx
    have hh := I.ok.hd hc
    have hel : e < s.heap.objs.size := Heap.lt_size he
    have hil : it < s.heap.objs.size := by obtain ⟨_, q, _⟩ := hit; exact Heap.lt_size q
    have hlt : i < its.toArray.size := by
      rw [List.size_toArray]
      exact (List.getElem?_eq_some_iff.mp hu).1
    refine wpAny_pyNext_enum_itemD (Draws.tuple (A := X.A.in1) hh it a hai its.toArray) he ⟨hit, p⟩ hlt hne (by simp; exact ⟨hne, hae.symm⟩) fun y h' tk hy ho hst hT hsz hk => ?_
    have ey : y = u := by
      have z : its[i]? = some y := by simpa using hy
      rw [hu] at z
      exact (Option.some.inj z).symm
    subst ey
    refine ⟨_, rfl, wpAny_letOwnedTupleGo_enum (s := { s with heap := h', toks := tk + 1 }) ho fun h'' he' sb => ?_⟩
    have hT2 : h''.get? s.heap.objs.size = some { cls := .type "tuple", data := .seq #[.int i tk, y] } := (sb.2 _ (Nat.ne_of_gt hel)).trans hT
    have new : ObjOk X.prog X.w (upd H s.heap.objs.size (.tup [.int (i : Nat), x])) h'' s.heap.objs.size (.tup [.int (i : Nat), x]) :=
      ⟨by show 2 ≤ sizeLine; decide, [.int i tk, y], .cons ⟨_, rfl⟩ (.cons ru .nil), ⟨_, hT2, rfl, _, rfl⟩⟩
    have I1 : Inv X pins σ (upd H s.heap.objs.size (.tup [.int (i : Nat), x])) { s with heap := h'', toks := tk + 1 } :=
      I.turnedNew (ch := [e, it]) (fun b ob hb q => by
        have hbe : b ≠ e := fun z => hb (by simp [z])
        have hbi : b ≠ it := fun z => hb (by simp [z])
        exact (sb.2 b hbe).trans (hk b ob hbe hbi q)) hf (Nat.le_refl _) new
    refine ⟨.ref s.heap.objs.size, _, I1, rfl, ⟨_, x, rfl, I.hok.fresh (Nat.le_refl _), rfl, fun ys hy => by rw [I.tuple_inj hy hq]; exact hx⟩, ⟨⟨y, ?_⟩, hst.1.at fun o q => (sb.2 it (Ne.symm hne)).trans q⟩, fun b hb => ?_⟩
    · have e1 : ((i + 1 : Nat) : Int) = (i : Int) + 1 := by omega
      rw [e1]; exact he'
    · have hb' : b < s.heap.objs.size := by
        rcases List.mem_cons.mp hb with z | hb
        · rw [z]; exact hel
        · rw [List.mem_singleton.mp hb]; exact hil
      rw [upd_ne (Nat.ne_of_lt hb')]
      exact (hf b hb).1
  done := by
    intro X hP hw hK hc i pins s σ H E I hf st hg
    subst hP hw hK
    obtain ⟨⟨old, he⟩, hit⟩ := st
    obtain ⟨xs, hq, hx⟩ := hg
    obtain ⟨its, rv, p, hz⟩ := I.tuple hq
    have hh := I.ok.hd hc
    obtain ⟨f0, f1, f2, f3, f4, f5⟩ := hf it (List.mem_cons_of_mem _ List.mem_cons_self)
    have hl : its.toArray.size = i := by
      rw [List.size_toArray, ← rv.length]; exact hx
    refine wpAny_pyNext_enum_endD (Draws.tuple (A := X.A.in1) hh it a hai its.toArray) he ⟨by rw [hl]; exact hit, p⟩ fun h' eb => ⟨rfl, I.turned (t' := s.toks) (fun b o hb q => eb b o hb q) f0 f1 f3 f4 f5⟩
  self := fun A i s Q E st h => let ⟨⟨_, he⟩, _⟩ := st; wpAny_pyIter_enum he h
/-- enumerate of a list or a tuple -/
def iEnumA (K : PySem.W.Frag) (ta : TA) : TI := fun σ H R => ta σ H fun vs H1 => ∃ a, vs = [.ref a] ∧ ((∃ xs, SqL K H1 a xs ∧ R (Ite K a) H1) ∨ (∃ xs, SqT K H1 a xs ∧ R (IteT K a) H1))
theorem pi_enumA {X : Cx} {e : Expr} {ta : TA} {p pos tpos : Pos} {elts : List Expr} {kk : Nat} (hg : Gl X "enumerate") (hm : X.mg "enumerate" = none) (ha : PA X [e] ta) (hs : starEach [e] X.env = [(false, eval e X.env)] := by rfl) :
    PI X (.Tuple elts kk tpos) (.Call (.Name "enumerate" p) [e] [] pos) (iEnumA X.K ta) := by
  refine ⟨fun pins s σ H R I h => ?_⟩
  refine Call_ (ld_blt I hg hm boot_enumerate (PyProof.Rows.callWith_type1 (thn (ha.run pos pins s σ H _ I h) fun us s1 ⟨vs, H1, I1, r1, q1⟩ => ?_) hs rfl))
  obtain ⟨a, ev, q1⟩ := q1
  subst ev
  obtain ⟨u, hu, ru⟩ := r1.one
  subst hu
  cases ru
  have fpo : ∀ b ∈ [s1.heap.objs.size + 1, s1.heap.objs.size], s1.heap.objs.size ≤ b := fun b hb => by
    rcases List.mem_cons.mp hb with z | hb
    · rw [z]; exact Nat.le_succ _
    · rw [List.mem_singleton.mp hb]; exact Nat.le_refl _
  rcases q1 with ⟨xs, hq, q⟩ | ⟨xs, hq, q⟩
  · obtain ⟨its, rv, pl, hz⟩ := I1.list hq
    refine call_enum1 (begins_list a its.toArray) pl.isList fun h' he hit hk => wpAny_pyIter_enum he ?_
    have I2 : Inv X pins σ H1 { s1 with heap := h' } := I1.kept (t' := s1.toks) hk
    exact ⟨s1.heap.objs.size + 1, [s1.heap.objs.size + 1, s1.heap.objs.size], _, _, H1, rfl, I2, turn_enum a (s1.heap.objs.size + 1) s1.heap.objs.size, ⟨⟨.none, he⟩, ⟨_, hit, rfl, rfl⟩, Nat.succ_ne_self _⟩, fun b hb => I1.fpOk (fpo b hb) (I1.hok.fresh (fpo b hb)), q⟩
  · obtain ⟨its, rv, pt, hz⟩ := I1.tuple hq
    have ha : a < s1.heap.objs.size := by
      obtain ⟨o, ho, _⟩ := pt
      exact Heap.lt_size ho
    refine call_enum1 (begins_tuple a its.toArray) pt fun h' he hit hk => wpAny_pyIter_enum he ?_
    have I2 : Inv X pins σ H1 { s1 with heap := h' } := I1.kept (t' := s1.toks) hk
    exact ⟨s1.heap.objs.size + 1, [s1.heap.objs.size + 1, s1.heap.objs.size], _, _, H1, rfl, I2, turn_enumT a (s1.heap.objs.size + 1) s1.heap.objs.size (Nat.succ_ne_self _) (Nat.ne_of_lt (Nat.lt_succ_of_lt ha)) (Nat.ne_of_lt ha), ⟨⟨.none, he⟩, ⟨_, hit, rfl, rfl⟩⟩, fun b hb => I1.fpOk (fpo b hb) (I1.hok.fresh (fpo b hb)), q⟩
theorem walk_enumT {K : PySem.W.Frag} {a : Addr} {xs : List V} : Walk (IteT K a) xs.length (fun H => SqT K H a xs) (YPair (fun i => some (.int (i : Nat))) (fun i => xs[i]?)) := by
  refine ⟨fun i _ hi q => ⟨xs, xs[i], q, by simp [hi]⟩, fun _ q => ⟨xs, q, rfl⟩, fun i H v H' _ q y => ?_⟩
  obtain ⟨T, x, h1, h2, h3, h4⟩ := y
  exact ⟨T, .int (i : Nat), x, h1, h2, h3, rfl, h4 xs q⟩
section
variable {X : Cx} {A : Ex → Addr} {W : WX} {fl : List (Nat × Kd)} {a : Expr} {fa : FE} {pos p tpos : Pos} {kk : Nat} {es : List Expr}
theorem enum_y {K : Wd} {F : Hp} {xs : List V} {ds : List D} (r : RepAll K F xs ds) {i : Nat} {H H' : Hp} {x : V} (y : YPair (fun i => some (.int (i : Nat))) (fun i => xs[i]?) i H x H') : YD K true F (enumD 0 ds) i H x H' := by
  obtain ⟨T, u, b, h1, h2, h3, h4, h5⟩ := y
  cases h4
  obtain ⟨d, e1, e2⟩ := r.getV h5
  have z := enumD_get (k := 0) e1
  rw [Nat.zero_add] at z
  exact ⟨T, _, b, _, d, h1, h2, h3, z, .int _, e2⟩
theorem ji_enum (ha : JD X A W fl a fa) (hg : Gl X "enumerate") (hm : X.mg "enumerate" = none) (hs : starEach [a] X.env = [(false, eval a X.env)] := by rfl) : JI X A W fl true (.Tuple es kk tpos) (.Call (.Name "enumerate" p) [a] [] pos) (DL.iEnum fa) := pi_mono (pi_enumA hg hm (ja_cons ha ja_nil hs) hs) fun σ H Z ⟨G, F, ρ, s, q⟩ => by
  refine ⟨G, F, ρ, s, ?_⟩
  rw [aCons1]
  simp only [DL.iEnum] at q
  cases hf : fa ρ with
  | exc x => rw [hf] at q; exact q
  | bad => rw [hf] at q; exact q
  | ok d =>
    rw [hf] at q
    simp only [R.bind_ok] at q ⊢
    intro F' H' le s' vs rv
    cases rv with
    | cons r t =>
      cases t
      cases d with
      | list ds =>
        cases r with
        | @lst l xs _ hp r =>
          refine ⟨l, rfl, .inl ⟨xs, s'.c.sql hp, q F' H' le s' _ ⟨fun H => SqL X.K H l xs, _, ?_, fun G F' H le c => c.sql (le.sql hp), fun i H x H' hi y => enum_y r y⟩⟩⟩
          rw [enumD_length, ← r.length]
          exact walk_enum
      | tuple ds =>
        cases r with
        | @tup l xs _ hp r =>
          refine ⟨l, rfl, .inr ⟨xs, (s'.c.tup hp).sq, q F' H' le s' _ ⟨fun H => SqT X.K H l xs, _, ?_, fun G F' H le c => (c.tup (le.tupAt hp)).sq, fun i H x H' hi y => enum_y r y⟩⟩⟩
          rw [enumD_length, ← r.length]
          exact walk_enumT
      | _ => exact q.elim
end
end DL
/-! DLMore3 -/
set_option Elab.async false
set_option linter.all false
set_option maxRecDepth 100000
set_option maxHeartbeats 2000000
/-! DLMore3: new dicts, d.get(k, z), xs[::-1], a, b = x, y with new objects. -/
namespace DL
open PySem PySem.Spec PyProof.Rows L2
variable [Tb]
/-- one's own object, no longer spoken of -/
theorem StC.dropZ {G : Gs} {F H : Hp} {p : Addr} {o : HO} (c : StC (G.z p o) F H) (hz : G.Z p = none) (m : Mut (some o)) : StC G F H where
  le := c.le
  zk q u e := by
    have hq : q ≠ p := fun z => by rw [z, hz] at e; cases e
    exact c.zk q u ((zget hq).trans e)
  zt q u e := by
    have hq : q ≠ p := fun z => by rw [z, hz] at e; cases e
    exact c.zt q u ((zget hq).trans e)
  lk := c.lk
  tabs := c.tabs
  lf q l := by
    rcases c.lf q l with e | ⟨u, e⟩
    · exact .inl e
    · by_cases hq : q = p
      · exact absurd (hq ▸ l) (c.nlz m)
      · exact .inr ⟨u, (zget hq).symm.trans e⟩
section
variable {X : Cx} {A : Ex → Addr} {W : WX} {fl fl1 fl' flb : List (Nat × Kd)} {a b c e o k v : Expr} {fa fb fc f fo fk fv fz : FE} {pos p : Pos} {kd : Kd} {i j : Nat} {x y : Str} {px apos cpos tpos : Pos}
/-! ### new dicts -/
theorem jn_dict0k : JN X A W fl .k (.Dict [] [] pos) (eC (.dict [])) := pe_mono pe_dnewK fun σ H Q ⟨G, F, ρ, s, q⟩ p hp => q F H (Le.refl F) s p _ hp trivial (.dk .nil)
theorem jn_dict0t : JN X A W fl .t (.Dict [] [] pos) (eC (.dict [markT])) := pe_mono pe_dnewX fun σ H Q ⟨G, F, ρ, s, q⟩ p hp => q F H (Le.refl F) s p _ hp trivial (.dt .nil)
/-- {k: v}, k a tuple -/
def tDisp1X (P : Program) (w : World) (tk tv : TE) : TE := fun σ H Q => ∀ p, H p = none → tk σ (upd H p (DX P w p [])) fun y H1 => tv σ H1 fun u H2 => H2 p = some (DX P w p []) ∧ ∃ ks b, y = .ref b ∧ TupAt H2 b (ks.map kV) ∧ Q (.ref p) (upd H2 p (DX P w p [(ks, b, u)]))
theorem pe_disp1X {tk tv : TE} (hu : X.A.units + 1 < cLine) (hk : PE X k tk) (hv : PE X v tv) : PE X (.Dict [some k] [v] pos) (tDisp1X X.prog X.w tk tv) := by
  refine ⟨fun pins s σ H Q I q => ?_⟩
  have hn := I.hok.fresh (Nat.le_refl s.heap.objs.size)
  have h0 : pairTrees [some k] [v] X.env pos ≠ [] := by simp [pairTrees]
  have hl : (pairTrees [some k] [v] X.env pos).length ≤ 15 := by simp [pairTrees]
  rw [arm_eval_Dict, zip_pairTrees [some k] [v] X.env pos rfl rfl, dictDisplay_pairs _ h0 (by omega)]
  refine wpAny_bind (wpAny_standAt (wpAny_bind (wpAny_subDictH (knd := tupleKind (mixKind X.prog X.w)) (Q := fun d t => wpAny (model X.prog X.w) X.A (pure (Value.ref d)) (EP X pins σ Q) X.xe t) (Nat.lt_of_succ_lt hu) hl ?_)))
  refine pairTrees_cons_walk (thn (hk.run pins _ σ _ _ (inv_dx I) (q _ hn)) fun ku s1 ⟨y, H1, I1, ry, q1⟩ => thn (hv.run pins s1 σ H1 _ I1 q1) fun vu s2 ⟨u, H2, I2, ru, hp, ks, b, ey, hb, q2⟩ => pairTrees_nil_walk ?_)
  subst ey
  obtain rfl : ku = Value.ref b := ry
  obtain ⟨z, hd, xs, rel, dd⟩ := dx_dict I2 (.inl hp) (fun t ht => nomatch ht)
  cases rel
  refine ⟨[(ks, b, vu)], ⟨rfl, rfl, key_at I2 hb, trivial⟩, dd, fun h' tk' dd' hs => wpAny_pure ⟨.ref s.heap.objs.size, _, ?_, rfl, q2⟩⟩
  have he : ∃ q, h'.get? s.heap.objs.size = some q := let ⟨q, _, _, hq, _⟩ := dd'; ⟨q, hq⟩
  exact d_write I2 (by rw [hp]; exact True.intro) hs he (dx_new (by rw [sizeLine_eq]; simp) hd (.cons ⟨rfl, rfl, ru⟩ .nil) dd')
def dDisp1 (x y : D) : R D := if isKT x = true then .ok (.dict [markT, (x, y)]) else .bad
theorem jn_dict1t (hu : X.A.units + 1 < cLine) (hk : JD X A W fl k fk) (hv : JD X A W fl v fv) : JN X A W fl .t (.Dict [some k] [v] pos) (e2 dDisp1 fk fv) := pe_mono (pe_disp1X hu hk hv) fun σ H Q ⟨G, F, ρ, s, q⟩ p hp => by
  have s0 := s.allocZ (o := DX X.prog X.w p []) hp NoTbl.dX
  refine ⟨G.z p (DX X.prog X.w p []), F, ρ, s0, ?_⟩
  have hz := s.c.znone hp
  have aux : ∀ (x : D) (F1 H1 : Hp), St (wd X) (G.z p (DX X.prog X.w p [])) fl F1 ρ σ H1 → St (wd X) G fl F1 ρ σ (del H1 p) := fun x F1 H1 s1 => s1.unZ hz trivial NoTbl.dX fun q => dx_ne_code
  cases hf : fk ρ with
  | bad => rw [e2, hf] at q; exact q.elim
  | exc x =>
    rw [e2, hf] at q
    exact fun F' H' le c => q F' H' le (c.dropZ hz trivial)
  | ok x =>
    intro F1 H1 le1 s1 w rw'
    refine ⟨G.z p (DX X.prog X.w p []), F1, ρ, s1, ?_⟩
    cases hf2 : fv ρ with
    | bad => rw [e2, hf, R.bind_ok, hf2] at q; exact q.elim
    | exc x =>
      rw [e2, hf, R.bind_ok, hf2] at q
      exact fun F' H' le c => q F' H' (le1.trans le) (c.dropZ hz trivial)
    | ok y =>
      rw [e2, hf, R.bind_ok, hf2, R.bind_ok, dDisp1] at q
      intro F2 H2 le2 s2 u ru
      by_cases hk : isKT x = true
      case neg => rw [if_neg hk] at q; exact q.elim
      rw [if_pos hk] at q
      obtain ⟨ks, rfl⟩ := isKT_key hk
      cases rw' with
      | @tup b bs _ hb rb =>
        rw [rb.keys] at hb
        have hp2 : H2 p = some (DX X.prog X.w p []) := (s2.c.zk _ _ upd_same).2
        refine ⟨hp2, ks, b, rfl, s2.c.tup (le2.tupAt hb), ?_⟩
        have := q F2 (del H2 p) (le1.trans le2) (aux y F2 H2 s2) p (DX X.prog X.w p [(ks, b, u)]) del_self trivial (.dt (.cons (le2.tupAt hb) ru .nil))
        have e : upd (del H2 p) p (DX X.prog X.w p [(ks, b, u)]) = upd H2 p (DX X.prog X.w p [(ks, b, u)]) := funext fun c => by
          by_cases hc : c = p
          · subst hc; rw [upd_same, upd_same]
          · rw [upd_ne hc, upd_ne hc, del_ne hc]
        rw [e] at this
        exact this
/-! ### d.get(k, z) -/
def tyDi (P : Program) (w : World) (x : V) (H : Hp) : Prop := ∃ a, x = .ref a ∧ ((∃ kvs, Rd H a (.dK kvs)) ∨ ∃ kvs, Rd H a (DX P w a kvs))
theorem ty_dict : TyOk X "dict" (tyDi X.prog X.w) := by
  intro pins σ H s x v I r h
  obtain ⟨a, hx, h⟩ := h
  subst hx
  cases r
  rcases h with ⟨kvs, h⟩ | ⟨kvs, h⟩
  · obtain ⟨t1, t2, _⟩ := isD_at I (.inl ⟨kvs, h⟩)
    exact ⟨t1, t2⟩
  · obtain ⟨t1, t2, _⟩ := dx_typeIs I h
    exact ⟨t1, t2⟩
def rGet2 (P : Program) (w : World) : V → List V → Hp → VK → Prop := fun x us H Q => ∃ a y z o, x = .ref a ∧ us = [y, z] ∧ DGetA P w H a y o ∧ Q (o.getD z) H
theorem mt_get2 (hu : X.A.units + 1 < cLine) : MtR X "dict.get" (rGet2 X.prog X.w) := by
  intro pins s σ H x vs u ws Q I ru rws h
  obtain ⟨a, y, z, o, hx, hv, g, q⟩ := h
  subst hx hv
  cases ru
  cases rws with
  | cons r1 t =>
    cases t with
    | cons r2 t =>
      cases t
      rcases g with g | ⟨kvs, ks, b, g1, g2, g3, g4, g5⟩
      · exact d_get2 hu I g r1 r2 fun w' s' I' rw' => ⟨_, H, I', rw', q⟩
      · subst g3
        cases r1
        subst g5
        exact x_get2 hu I g1 g2 g4 r2 fun w' s' I' rw' => ⟨_, H, I', rw', q⟩
def eGet (o a z : FE) : FE := fun ρ => (o ρ).bind fun x => match x with
  | .dict es => if isXd es = true then .bad else (a ρ).bind fun y => (z ρ).bind fun z => dGet (.dict es) y z
  | _ => .bad
theorem getD_rep {K : Wd} {F : Hp} {o : Option V} {w : V} {es : List (D × D)} {y z : D} (h1 : ∀ d, dGetK es y = some d → ∃ u, o = some u ∧ Rep K F u d) (h2 : dGetK es y = none → o = none) (r : Rep K F w z) : Rep K F (o.getD w) ((dGetK es y).getD z) := by
  cases h : dGetK es y with
  | none => rw [h2 h]; exact r
  | some d =>
    obtain ⟨u, hu, ru⟩ := h1 d h
    rw [hu]; exact ru
theorem jd_get2 (hu : X.A.units + 1 < cLine) (ho : JV X A W fl o fo) (ha : JD X A W fl a fa) (hz : JD X A W fl b fb) (hbase : attributeBase o "get" X.env (eval o X.env) = eval o X.env := by rfl)
    (hfew : ((backTo cpos (starEach [a, b] X.env)).all (fun x => !x.1) && (backToKw cpos (keywordEach [] X.env)).all (fun x => x.1.isSome)
      && decide (([a, b] : List Expr).length + ([] : List Keyword).length + (if ([] : List Keyword).isEmpty then 0 else 1) < 30)) = true := by rfl)
    (hline : (apos.endLine == cpos.line) = true := by rfl) (hs : starEach [a, b] X.env = (false, eval a X.env) :: starEach [b] X.env := by rfl) (hs2 : starEach [b] X.env = (false, eval b X.env) :: starEach [] X.env := by rfl) (hplain : (backTo cpos (starEach [b] X.env)).any (·.1) = false := by rfl) :
    JD X A W fl (.Call (.Attribute o "get" apos) [a, b] [] cpos) (eGet fo fa fb) := by
  refine pe_mono (pe_mG ty_dict PySem.F.plainAttrs_dict PySem.F.slot_dict_get PySem.F.type_dict_get (mt_get2 hu) ho (pa_cons ha (pa_cons hz pa_nil hs2) hs) hbase hfew hline hs hplain) fun σ H Q ⟨G, F, ρ, s, q⟩ => ?_
  refine ⟨G, F, ρ, s, (RP.bind q).imp fun x F1 H1 le1 s1 q1 v rv => ?_⟩
  cases hx : x with
  | dict es =>
    subst hx
    simp only at q1
    have tail : ∀ (F1 H1 : Hp), St (wd X) G fl F1 ρ σ H1 → RepV (wd X) fl F1 ρ σ v (.dict es) → (RP (wd X) A W G fl ρ σ F1 ((fa ρ).bind fun y => (fb ρ).bind fun z => dGet (.dict es) y z) fun d F' H' => ∀ v, Rep (wd X) F' v d → Q v H') →
        tCons (tD (wd X) A W fl fa) (tCons (tD (wd X) A W fl fb) tNil) σ H1 fun us H2 => rGet2 X.prog X.w v us H2 Q := fun F1 H1 s1 rv q1 => by
      refine ⟨G, F1, ρ, s1, (RP.bind q1).imp fun y F2 H2 le2 s2 q2 wy ry => ?_⟩
      refine ⟨G, F2, ρ, s2, (RP.bind q2).imp fun z F3 H3 le3 s3 q3 wz rz => ?_⟩
      simp only [dGet] at q3
      by_cases hk : keyOk es y = true
      case neg => rw [if_neg hk] at q3; exact q3.elim
      rw [if_pos hk] at q3
      obtain ⟨a, o, ev, g, h1, h2⟩ := dget_of s3 (rv.mono (le2.trans le3)) ((ry.mono le3).toV) hk
      exact ⟨a, wy, wz, o, ev, rfl, g, q3.ok s3 _ (getD_rep h1 h2 rz)⟩
    by_cases hx : isXd es = true
    · rw [if_pos hx] at q1; exact q1.elim
    · rw [if_neg hx] at q1
      obtain ⟨a, ev, hd⟩ := rv.dict s1 (by simpa using hx)
      refine ⟨⟨a, ev, ?_⟩, tail F1 H1 s1 rv q1⟩
      rcases hd with ⟨kvs, h, _⟩ | ⟨kvs, es', _, h, _⟩
      · exact .inl ⟨kvs, h⟩
      · exact .inr ⟨kvs, h⟩
  | _ => subst hx; exact q1.elim
/-! ### xs[::-1] -/
def dRevL : D → R D
  | .list xs => .ok (.list xs.reverse)
  | _ => .bad
theorem jn_revL {n : Nat} {p1 p2 p3 : Pos} (ha : JV X A W fl a fa) : JN X A W fl .l (.Subscript a (.Slice none none (some (.UnaryOp .USub (.Constant (.int 1) n p1) p2)) p3) pos) (e1 dRevL fa) := pe_mono (pe_revL ha) fun σ H Q ⟨G, F, ρ, s, q⟩ => by
  refine ⟨G, F, ρ, s, (RP.bind q).imp fun d F1 H1 le1 s1 q1 v rv => ?_⟩
  cases d with
  | list ds =>
    obtain ⟨l, xs, rfl, hp, ra⟩ := rv.list s1
    exact ⟨l, xs, rfl, hp, fun p hn => q1 F1 H1 (Le.refl _) s1 p _ hn trivial (.lst ra.reverse)⟩
  | _ => exact q1.elim
/-! ### a, b = x, y with new objects -/
section
variable {y2 : Str} {py pt : Pos} {kt k2 : Nat} {pt2 : Pos} {kd' : Kd}
/-- the first is a new object of one's own -/
theorem js_parN (hc : X.calm = true) (hN : X.N.Nodup) (ha : JN X A W fl kd a fa) (hb : JD X A W fl b fb) (hi : X.N[i]? = some x := by rfl) (hj : X.N[j]? = some y := by rfl) (hij : i ≠ j := by decide)
    (hx : X.env.scope.names.lookup x = some .local := by rfl) (hy : X.env.scope.names.lookup y = some .local := by rfl) (hw : swappedStores [.Tuple [.Name x px, .Name y py] kt pt] (.Tuple [a, b] k2 pt2) X.env = pure (some [x, y]) := by rfl)
    (hs : swapsWithSole [.Tuple [.Name x px, .Name y py] kt pt] (.Tuple [a, b] k2 pt2) pos.line X.env = pure false := by rfl) (hfl : flNo ((i, kd) :: flNo fl i) j = fl' := by rfl)
    (hs1 : starEach [a, b] X.env = (false, eval a X.env) :: starEach [b] X.env := by rfl) (hs2 : starEach [b] X.env = (false, eval b X.env) :: starEach [] X.env := by rfl) :
    JS X A W fl flb fl' (.Assign [.Tuple [.Name x px, .Name y py] kt pt] (.Tuple [a, b] k2 pt2) pos) (sPar i j fa fb) := ps_mono (ps_par hc hN hi hj hij hx hy (pa_cons ha (pa_cons hb pa_nil hs2) hs1) hw hs) fun D σ H ⟨G, F, ρ, s, q⟩ => by
  subst hfl
  refine ⟨G, F, ρ, s, ?_⟩
  simp only [sPar] at q
  cases hf : fa ρ with
  | bad => rw [hf] at q; exact q
  | exc x => rw [hf] at q; exact fun F' H' le c => q F' σ H' le c
  | ok d =>
    rw [hf] at q
    simp only [R.bind_ok] at q
    intro F1 H1 le1 s1 p o hp hk r1
    have hz := s1.c.znone hp
    have s1' := s1.allocZ (o := o) hp hk.noTbl
    refine ⟨G.z p o, F1, ρ, s1', ?_⟩
    cases hg : fb ρ with
    | bad => rw [hg] at q; exact q
    | exc x => rw [hg] at q; exact fun F' H' le c => q F' σ H' (le1.trans le) (c.dropZ hz hk.mut)
    | ok d2 =>
      rw [hg] at q
      simp only [R.bind_ok] at q
      intro F2 H2 le2 s2 w r2
      exact ⟨_, _, rfl, q F2 _ H2 (le1.trans le2) ((s2.setFresh hz hk (r1.mono le2)).set r2)⟩
/-- the second is -/
theorem js_parM (hc : X.calm = true) (hN : X.N.Nodup) (ha : JD X A W fl a fa) (hb : JN X A W fl kd b fb) (hi : X.N[i]? = some x := by rfl) (hj : X.N[j]? = some y := by rfl) (hij : i ≠ j := by decide)
    (hx : X.env.scope.names.lookup x = some .local := by rfl) (hy : X.env.scope.names.lookup y = some .local := by rfl) (hw : swappedStores [.Tuple [.Name x px, .Name y py] kt pt] (.Tuple [a, b] k2 pt2) X.env = pure (some [x, y]) := by rfl)
    (hs : swapsWithSole [.Tuple [.Name x px, .Name y py] kt pt] (.Tuple [a, b] k2 pt2) pos.line X.env = pure false := by rfl) (hfl : (j, kd) :: flNo (flNo fl i) j = fl' := by rfl)
    (hs1 : starEach [a, b] X.env = (false, eval a X.env) :: starEach [b] X.env := by rfl) (hs2 : starEach [b] X.env = (false, eval b X.env) :: starEach [] X.env := by rfl) :
    JS X A W fl flb fl' (.Assign [.Tuple [.Name x px, .Name y py] kt pt] (.Tuple [a, b] k2 pt2) pos) (sPar i j fa fb) := ps_mono (ps_par hc hN hi hj hij hx hy (pa_cons ha (pa_cons hb pa_nil hs2) hs1) hw hs) fun D σ H ⟨G, F, ρ, s, q⟩ => by
  subst hfl
  refine ⟨G, F, ρ, s, ?_⟩
  simp only [sPar] at q
  cases hf : fa ρ with
  | bad => rw [hf] at q; exact q
  | exc x => rw [hf] at q; exact fun F' H' le c => q F' σ H' le c
  | ok d =>
    rw [hf] at q
    simp only [R.bind_ok] at q
    intro F1 H1 le1 s1 w r1
    refine ⟨G, F1, ρ, s1, ?_⟩
    cases hg : fb ρ with
    | bad => rw [hg] at q; exact q
    | exc x => rw [hg] at q; exact fun F' H' le c => q F' σ H' (le1.trans le) c
    | ok d2 =>
      rw [hg] at q
      simp only [R.bind_ok] at q
      intro F2 H2 le2 s2 p o hp hk r2
      have hz := s2.c.znone hp
      have s2' := s2.allocZ (o := o) hp hk.noTbl
      exact ⟨_, _, rfl, q F2 _ _ (le1.trans le2) ((s2'.set (i := i) (r1.mono le2)).setFresh hz hk r2)⟩
theorem updupd_comm {G : Hp} {p q : Addr} {o u : HO} (h : p ≠ q) : upd (upd G p o) q u = upd (upd G q u) p o := funext fun c => by
  by_cases h1 : c = p
  · subst h1
    rw [upd_ne h, upd_same, upd_same]
  · by_cases h2 : c = q
    · subst h2
      rw [upd_same, upd_ne h1, upd_same]
    · rw [upd_ne h2, upd_ne h1, upd_ne h1, upd_ne h2]
theorem z_comm {G : Gs} {p q : Addr} {o u : HO} (h : p ≠ q) : (G.z p o).z q u = (G.z q u).z p o := by
  show (⟨upd (upd G.Z p o) q u, G.L, G.T⟩ : Gs) = ⟨upd (upd G.Z q u) p o, G.L, G.T⟩
  rw [updupd_comm h]
/-- both are -/
theorem js_parNM (hc : X.calm = true) (hN : X.N.Nodup) (ha : JN X A W fl kd a fa) (hb : JN X A W fl kd' b fb) (hi : X.N[i]? = some x := by rfl) (hj : X.N[j]? = some y := by rfl) (hij : i ≠ j := by decide)
    (hx : X.env.scope.names.lookup x = some .local := by rfl) (hy : X.env.scope.names.lookup y = some .local := by rfl) (hw : swappedStores [.Tuple [.Name x px, .Name y py] kt pt] (.Tuple [a, b] k2 pt2) X.env = pure (some [x, y]) := by rfl)
    (hs : swapsWithSole [.Tuple [.Name x px, .Name y py] kt pt] (.Tuple [a, b] k2 pt2) pos.line X.env = pure false := by rfl) (hfl : (j, kd') :: flNo ((i, kd) :: flNo fl i) j = fl' := by rfl)
    (hs1 : starEach [a, b] X.env = (false, eval a X.env) :: starEach [b] X.env := by rfl) (hs2 : starEach [b] X.env = (false, eval b X.env) :: starEach [] X.env := by rfl) :
    JS X A W fl flb fl' (.Assign [.Tuple [.Name x px, .Name y py] kt pt] (.Tuple [a, b] k2 pt2) pos) (sPar i j fa fb) := ps_mono (ps_par hc hN hi hj hij hx hy (pa_cons ha (pa_cons hb pa_nil hs2) hs1) hw hs) fun D σ H ⟨G, F, ρ, s, q⟩ => by
  subst hfl
  refine ⟨G, F, ρ, s, ?_⟩
  simp only [sPar] at q
  cases hf : fa ρ with
  | bad => rw [hf] at q; exact q
  | exc x => rw [hf] at q; exact fun F' H' le c => q F' σ H' le c
  | ok d =>
    rw [hf] at q
    simp only [R.bind_ok] at q
    intro F1 H1 le1 s1 p o hp hk r1
    have hz := s1.c.znone hp
    have s1' := s1.allocZ (o := o) hp hk.noTbl
    refine ⟨G.z p o, F1, ρ, s1', ?_⟩
    cases hg : fb ρ with
    | bad => rw [hg] at q; exact q
    | exc x => rw [hg] at q; exact fun F' H' le c => q F' σ H' (le1.trans le) (c.dropZ hz hk.mut)
    | ok d2 =>
      rw [hg] at q
      simp only [R.bind_ok] at q
      intro F2 H2 le2 s2 p2 o2 hp2 hk2 r2
      have hne : p ≠ p2 := fun z => by
        have := (s2.c.zk _ _ upd_same).2
        rw [z, hp2] at this; cases this
      have hz2 := s2.c.znone hp2
      have s2' := s2.allocZ (o := o2) hp2 hk2.noTbl
      rw [z_comm hne] at s2'
      have hz1 : (G.z p2 o2).Z p = none := (zget hne).trans hz
      have s3 := s2'.setFresh (i := i) hz1 hk (r1.mono le2)
      have hz3 : G.Z p2 = none := (zget (Ne.symm hne)).symm.trans hz2
      exact ⟨_, _, rfl, q F2 _ _ (le1.trans le2) (s3.setFresh (i := j) hz3 hk2 r2)⟩
theorem St.extra {K : Wd} {G : Gs} {F H : Hp} {ρ : Env} {σ : L2.St} {T : Addr} {o : HO} (s : St K G fl F ρ σ H) (hT : H T = none) : St K G fl F ρ σ (upd H T o) :=
  ⟨⟨fun c u e => by
      obtain ⟨n, l⟩ := s.c.le c u e
      exact ⟨n, l.mono fun w z => by rw [upd_ne (ne_of_none z hT)]; exact z⟩, fun c u e => by
      obtain ⟨h1, h2⟩ := s.c.zk c u e
      exact ⟨h1, by rw [upd_ne (ne_of_none h2 hT)]; exact h2⟩, s.c.zt, fun c l => by
      obtain ⟨ob, u, e⟩ := s.c.lk c l
      exact ⟨ob, u, by rw [upd_ne (ne_of_none e hT)]; exact e⟩, tabs_new s.c.tabs hT, s.c.lf⟩, s.tt, s.len, s.sh, fun j k d m e => by
      obtain ⟨p, u, g1, g2, g3, g4, g5, g6⟩ := s.ow j k d m e
      exact ⟨p, u, g1, g2, g3, g4.mono fun w z => by rw [upd_ne (ne_of_none z hT)]; exact z, g5, g6⟩, s.ap⟩
section
variable {hX : Loc X.env.scope x} {hY : Loc X.env.scope y}
/-- the same through a pair, where a name is a cell -/
theorem js_unpN (hc : X.calm = true) (hN : X.N.Nodup) (ha : JN X A W fl kd a fa) (hb : JD X A W fl b fb) (hi : X.N[i]? = some x := by rfl) (hj : X.N[j]? = some y := by rfl)
    (hx : Loc X.env.scope x := by first | exact Or.inl rfl | exact Or.inr rfl) (hy : Loc X.env.scope y := by first | exact Or.inl rfl | exact Or.inr rfl) (hfx : X.fn x = true ∨ X.env.scope.names.lookup x = some .local := by first | exact .inl rfl | exact .inr rfl) (hfy : X.fn y = true ∨ X.env.scope.names.lookup y = some .local := by first | exact .inl rfl | exact .inr rfl)
    (hw : swappedStores [.Tuple [.Name x px, .Name y py] kt pt] (.Tuple [a, b] k2 pt2) X.env = pure none := by rfl)
    (hs : swapsWithSole [.Tuple [.Name x px, .Name y py] kt pt] (.Tuple [a, b] k2 pt2) pos.line X.env = pure false := by rfl) (hfl : flNo ((i, kd) :: flNo fl i) j = fl' := by rfl)
    (hs1 : starEach [a, b] X.env = (false, eval a X.env) :: starEach [b] X.env := by rfl) (hs2 : starEach [b] X.env = (false, eval b X.env) :: starEach [] X.env := by rfl)
    (hn : (assignEach [.Name x px, .Name y py] X.env).length = 2 := by rfl) (hst : (assignEach [.Name x px, .Name y py] X.env).findIdx? (·.1) = none := by rfl)
    (h1 : (assignEach [.Tuple [.Name x px, .Name y py] kt pt] X.env).map (·.2) = [assign (.Tuple [.Name x px, .Name y py] kt pt) X.env] := by rfl) :
    JS X A W fl flb fl' (.Assign [.Tuple [.Name x px, .Name y py] kt pt] (.Tuple [a, b] k2 pt2) pos) (sPar i j fa fb) := ps_mono (ps_asg (pe_tup (pa_cons ha (pa_cons hb pa_nil hs2) hs1)) (pg_tup hc (pgs_cons (pg_name hN hi hx hfx) (pgs_cons (pg_name hN hj hy hfy) pgs_nil)) hn hst) hs hw h1) fun D σ H ⟨G, F, ρ, s, q⟩ => by
  subst hfl
  refine ⟨G, F, ρ, s, ?_⟩
  simp only [sPar] at q
  cases hf : fa ρ with
  | bad => rw [hf] at q; exact q
  | exc x => rw [hf] at q; exact fun F' H' le c => q F' σ H' le c
  | ok d =>
    rw [hf] at q
    simp only [R.bind_ok] at q
    intro F1 H1 le1 s1 p o hp hk r1
    have hz := s1.c.znone hp
    have s1' := s1.allocZ (o := o) hp hk.noTbl
    refine ⟨G.z p o, F1, ρ, s1', ?_⟩
    cases hg : fb ρ with
    | bad => rw [hg] at q; exact q
    | exc x => rw [hg] at q; exact fun F' H' le c => q F' σ H' (le1.trans le) (c.dropZ hz hk.mut)
    | ok d2 =>
      rw [hg] at q
      simp only [R.bind_ok] at q
      intro F2 H2 le2 s2 w r2
      refine ⟨by show 2 ≤ sizeLine; rw [sizeLine_eq]; omega, fun T hT => ?_⟩
      refine ⟨T, [.ref p, w], rfl, .inl (.inl upd_same), rfl, .ref p, [w], rfl, w, [], rfl, rfl, ?_⟩
      exact q F2 _ _ (le1.trans le2) (((s2.extra hT).setFresh hz hk (r1.mono le2)).set r2)
end
end
end
end DL
/-! DLMore4 -/
set_option Elab.async false
set_option linter.all false
set_option maxRecDepth 100000
set_option maxHeartbeats 2000000
/-! DLMore4: t * k from 0 on, a new list times k. -/
namespace DL
open PySem PySem.Spec PyProof.Rows L2
variable [Tb]
theorem tuple_mul1 (l : Addr) (items : Array Value) (n : Nat) (dd : Option Addr) (sl : Array (Option Value)) (u : Tok) :
    Meets (Builtin.«tuple.__mul__» ⟨[.ref l, .int 1 u], []⟩) (fun _ R s => s.heap.get? l = some { cls := .type "tuple", dict := dd, data := .seq items n, slots := sl } ∧ R (.ok (.ret (Value.ref l))) s) :=
  .of_wp fun prog w A R s h => by
    obtain ⟨hp, g, d, tk, os⟩ := s
    obtain ⟨hl, h⟩ := h
    have f1 := AutoSeq1.idx_int
    wp_walk using wpAny_loadPart' hl
    repeat (first
      | (refine wpAny_ite_false (decide_eq_false (by decide)) ?_; wp_walk using wpAny_loadPart' hl)
      | (refine wpAny_ite_true (decide_eq_true (by simp)) ?_; wp_walk using wpAny_loadPart' hl))
    exact ⟨_, rfl, h⟩
theorem tuple_mul0 (l : Addr) (items : Array Value) (n : Nat) (dd : Option Addr) (sl : Array (Option Value)) (u : Tok) (hi : items.isEmpty = false) :
    Meets (Builtin.«tuple.__mul__» ⟨[.ref l, .int 0 u], []⟩) (fun _ R s => s.heap.get? l = some { cls := .type "tuple", dict := dd, data := .seq items n, slots := sl } ∧
      R (.ok (.ret (Value.ref s.heap.objs.size))) { s with heap := s.heap.push { cls := Value.type "tuple", data := Data.seq #[] }, toks := s.toks }) :=
  .of_wp fun prog w A R s h => by
    obtain ⟨hp, g, d, tk, os⟩ := s
    obtain ⟨hl, h⟩ := h
    have f1 := AutoSeq1.idx_int
    wp_walk using wpAny_loadPart' hl
    repeat (first
      | (refine wpAny_ite_false (decide_eq_false (by rw [hi]; decide)) ?_; wp_walk using wpAny_loadPart' hl)
      | (refine wpAny_ite_false (decide_eq_false (by decide)) ?_; wp_walk using wpAny_loadPart' hl)
      | (refine wpAny_ite_true (decide_eq_true (by simp)) ?_; wp_walk using wpAny_loadPart' hl))
    exact ⟨_, rfl, h⟩
/-- t * k, k from 0 on -/
def rRepY (K : Frag) : R2 := fun x y H Q => ∃ l k xs, x = .ref l ∧ y = .int k ∧ SqT K H l xs ∧ xs ≠ [] ∧ 0 ≤ k ∧ k ≤ 1000 ∧ xs.length ≤ 1000 ∧ (k = 1 → Q (.ref l) H) ∧ (k ≠ 1 → NT H (List.replicate k.toNat xs).flatten Q)
theorem op_repY {X : Cx} : OpR X (binaryOp .Mult) (rRepY X.K) := by
  intro pins s σ H x y v u Q I rx ry h
  obtain ⟨l, k, xs, rfl, rfl, hT, hne, h1, h2, hz, q1, q2⟩ := h
  by_cases hk : 2 ≤ k
  · exact op_repX pins s σ H _ _ v u Q I rx ry ⟨l, k, xs, rfl, rfl, hT, hne, hk, h2, hz, q2 (by omega)⟩
  cases rx
  obtain ⟨t, rfl⟩ := ry
  obtain ⟨its, r, ⟨⟨cls, dd, data, sl⟩, ho, hc, n, hd⟩, hs⟩ := I.tuple hT
  simp only at hc hd
  subst hc hd
  have hi : its.toArray.isEmpty = false := by
    cases its with
    | nil => cases r; exact absurd rfl hne
    | cons a b => rfl
  have shape : ∀ {Q' : Value → Shared → Prop}, wpAny (model X.prog X.w) X.A.in1 (call (.builtin "tuple.__mul__") [.ref l, .int k t]) Q' X.xe s → True := fun _ => trivial
  rcases (by omega : k = 0 ∨ k = 1) with rfl | rfl
  · refine wpAny_binaryOp_repeat_ref (T := "tuple") (U := "int") (by decide) ⟨_, ho, rfl⟩ (fun s' => typeIs_int s' 0 t) noFill_tuple_mul F.fills_int_mul F.slot_int_rmul repeat_tuple F.slot_int_index.lookup
      (call_meets F.slot_int_rmul (typeIs_int s 0 t) F.entry_int_rmul (F.args_int_rmul_2 _ _) (int_rmul_tuple 0 t l its.toArray n dd sl)
        ⟨ho, rfl, ⟨_, ho, rfl⟩, call_meets F.slot_tuple_mul ⟨_, ho, rfl⟩ F.entry_tuple_mul (F.args_tuple_mul_2 _ _) (tuple_mul0 l its.toArray n dd sl t hi) ⟨ho, ?_⟩⟩)
    exact nt_end (its := []) I .nil (by rw [sizeLine_eq]; simp) (q2 (by omega))
  · refine wpAny_binaryOp_repeat_ref (T := "tuple") (U := "int") (by decide) ⟨_, ho, rfl⟩ (fun s' => typeIs_int s' 1 t) noFill_tuple_mul F.fills_int_mul F.slot_int_rmul repeat_tuple F.slot_int_index.lookup
      (call_meets F.slot_int_rmul (typeIs_int s 1 t) F.entry_int_rmul (F.args_int_rmul_2 _ _) (int_rmul_tuple 1 t l its.toArray n dd sl)
        ⟨ho, rfl, ⟨_, ho, rfl⟩, call_meets F.slot_tuple_mul ⟨_, ho, rfl⟩ F.entry_tuple_mul (F.args_tuple_mul_2 _ _) (tuple_mul1 l its.toArray n dd sl t) ⟨ho, ?_⟩⟩)
    exact ⟨.ref l, H, I, rfl, q1 rfl⟩
def dMulU : D → D → R D
  | .tuple xs, .int k => if xs ≠ [] ∧ 0 ≤ k ∧ k ≤ 1000 ∧ xs.length ≤ 1000 then .ok (.tuple (List.replicate k.toNat xs).flatten) else .bad
  | _, _ => .bad
section
variable {X : Cx} {A : Ex → Addr} {W : WX} {fl : List (Nat × Kd)} {a b : Expr} {fa fb : FE} {pos : Pos}
theorem ops_mulU : OpS X fl (rRepY X.K) dMulU := by
  intro G F ρ σ H v w x y Q s rv rw' q ⟨z, hz⟩
  cases x <;> cases y <;> simp only [dMulU] at hz q <;> try (first | cases hz; done | skip)
  case tuple.int xs k =>
    split at hz
    case isFalse => cases hz
    case isTrue hl =>
      rw [if_pos hl] at q
      cases hz
      obtain ⟨t, as, rfl, h0, ht, r⟩ := rv.tup s
      obtain rfl := rw'.int s
      refine ⟨t, k, as, rfl, rfl, ht.sq, fun e => hl.1 ?_, hl.2.1, hl.2.2.1, by rw [r.length]; exact hl.2.2.2, fun e => ?_, fun e => q_tupN s q rfl (rep_flat r _)⟩
      · subst e; cases r; rfl
      · subst e
        refine q _ rfl F H (Le.refl F) s _ ?_
        have e1 : (List.replicate (1 : Int).toNat xs).flatten = xs := by simp
        rw [e1]
        exact .tup h0 r
theorem ne_mulU : NoEx dMulU := by
  intro x y e h
  cases x <;> cases y <;> simp only [dMulU] at h <;> first | cases h | (split at h <;> cases h)
theorem oMulU : BinG X fl .Mult dMulU := ⟨_, op_repY, ops_mulU, ne_mulU⟩
/-! ### a new list times k -/
def dMulL : D → D → R D
  | .list xs, .int k => if 0 ≤ k ∧ k ≤ 1000000 ∧ xs.length * k.toNat ≤ lim then .ok (.list (List.replicate k.toNat xs).flatten) else .bad
  | _, _ => .bad
theorem jn_mulL (ha : JN X A W fl .l a fa) (hb : JD X A W fl b fb) : JN X A W fl .l (.BinOp a .Mult b pos) (e2 dMulL fa fb) := pe_mono (pe_op op_rep ha hb) fun σ H Q ⟨G, F, ρ, s, q⟩ => by
  refine ⟨G, F, ρ, s, ?_⟩
  rw [e2] at q
  cases hf : fa ρ with
  | bad => rw [hf] at q; exact q
  | exc x => rw [hf] at q; exact fun F' H' le c => q F' H' le c
  | ok d =>
    rw [hf, R.bind_ok] at q
    intro F1 H1 le1 s1 p o hp hk r1
    have hz := s1.c.znone hp
    have s1' := s1.allocZ (o := o) hp hk.noTbl
    refine ⟨G.z p o, F1, ρ, s1', ?_⟩
    cases hg : fb ρ with
    | bad => rw [hg] at q; exact q
    | exc x => rw [hg] at q; exact fun F' H' le c => q F' H' (le1.trans le) (c.dropZ hz hk.mut)
    | ok d2 =>
      rw [hg, R.bind_ok] at q
      intro F2 H2 le2 s2 w r2
      cases r1 with
      | @lst xs ds r1 =>
        cases d2 with
        | int k =>
          cases r2
          simp only [dMulL] at q
          by_cases hc : 0 ≤ k ∧ k ≤ 1000000 ∧ ds.length * k.toNat ≤ lim
          case neg => rw [if_neg hc] at q; exact q.elim
          rw [if_pos hc] at q
          have hH := (s2.c.zk p _ upd_same).2
          refine ⟨p, k, xs, rfl, rfl, hH, by omega, by omega, by rw [r1.length]; exact lim_line hc.2.2, fun p2 hp2 => ?_⟩
          have s2' : St (wd X) G fl F2 ρ σ H2 := ⟨⟨s2.c.le, fun c u e => by
            have hc' : c ≠ p := fun z => by rw [z, hz] at e; cases e
            exact s2.c.zk c u ((zget hc').trans e), fun c u e => by
            have hc' : c ≠ p := fun z => by rw [z, hz] at e; cases e
            exact s2.c.zt c u ((zget hc').trans e), s2.c.lk, s2.c.tabs, (s2.c.dropZ hz trivial).lf⟩, s2.tt, s2.len, s2.sh, fun j k' d' m e => by
            obtain ⟨c, u, g1, g2, g3, g4, g5, g6⟩ := s2.ow j k' d' m e
            exact ⟨c, u, g1, g2, (zget (s2.zne g3)).symm.trans g3, g4, g5, g6⟩, s2.ap⟩
          exact q F2 H2 (le1.trans le2) s2' p2 _ hp2 trivial (.lst (rep_flat (r1.mono le2) _))
        | _ => exact q.elim
      | dk r => exact hk.elim
      | dt r => exact hk.elim
end
end DL
/-! DLTry -/
set_option Elab.async false
set_option linter.all false
set_option maxRecDepth 100000
set_option maxHeartbeats 2000000
/-! DLTry: try: .. except E: return a constant. -/
namespace DL
open PySem PySem.Spec PyProof.Rows L2
variable [Tb]
def sTryC (p : Ex → Bool) (d : D) (a : FS) : FS := fun ρ => match a ρ with
  | .exc e => if p e = true then .ret d else .exc e
  | r => r
section
variable {X : Cx} {W : WX} {fl fl1 fl' flb : List (Nat × Kd)} {pos np pos' rp cp : Pos} {k : Nat} {x : Str} {ec : Ex} {p : Ex → Bool} {bb : Bool} {body : List Stmt} {fs : FS} {j}
theorem js_tryC (b : Bd X W k) (hm : X.mg x = some (.ref (Tb.A ec))) (exm : ∀ e, PySem.W.exmOne X.K (.ref (Tb.A e)) (.ref (Tb.A ec)) = some (p e))
    (hb : ∀ (W' : WX) (pn : List (Addr × Obj)) (xe : Value → Shared → Prop), Bd (X.tr pn xe) W' k → JSs (X.tr pn xe) Tb.A W' fl flb fl' body fs)
    (hs : X.stack = X.env :: X.outer := by rfl) (hf : X.env.frame = some X.env.locals := by rfl) (hg : Gl X x := by rfl) (hd : (x == ("__debug__" : Str)) = false := by decide) :
    JS X Tb.A W fl flb fl' (.Try body [.ExceptHandler (some (.Name x np)) none [.Return (some (.Constant (.bool bb) j cp)) rp] pos'] [] [] pos) (sTryC p (.bool bb) fs) := by
  refine ps_mono (L2N.ps_try_many (l := [(.ref (Tb.A ec), fun _ _ _ => tRet (tC (.bl bb)))]) (tb := fun W' => tS (wd X) Tb.A W' fl flb fl' fs) hs hf b.tk (fun W' pn xe tk po => ?_) (.cons ⟨hg, hd, .inl hm⟩ (fun a oe cls d pn hz hv => pss_one (ps_ret pe_bl)) .nil)) fun D σ H ⟨G, F, ρ, s, q⟩ => ?_
  · exact hb W' pn xe ⟨tk, po, b.hr⟩
  · refine ⟨G, F, ρ, s, ?_⟩
    unfold sTryC at q
    cases hfs : fs ρ with
    | nx ρ' => rw [hfs] at q; exact q
    | ret d => rw [hfs] at q; exact q
    | brk ρ' => rw [hfs] at q; exact q
    | cnt ρ' => rw [hfs] at q; exact q
    | bad => rw [hfs] at q; exact q
    | exc e =>
      rw [hfs] at q
      simp only at q
      refine fun F' σ' H' le c => ⟨p e, exm e, fun hp a na => ?_, fun hp => ?_⟩
      · rw [if_pos hp] at q
        exact q (.bl bb) F' H' le c (.bl bb)
      · rw [if_neg (by rw [hp]; exact Bool.false_ne_true)] at q
        exact q F' σ' H' le c
end
end DL
/-! PGden -/
set_option Elab.async false
set_option linter.all false
set_option maxRecDepth 100000
set_option maxHeartbeats 4000000

namespace PG
open DL
open PySem (PyData Str)
--! t_LENGTHS
def t_LENGTHS : List (Str × Int) := [("unlike", 3), ("alike", 3), ("not", 3), ("either", 5), ("most", 3), ("least", 3)]
--! isX
def isX (c e : Ex) : Bool := decide (c = .way) || decide (c = (if e = .nothing then .way else e))
--! word
def word : Ex → Str
  | .way => "other"
  | .house => "BadHouse"
  | .plan => "BadPlan"
  | .change => "BadChange"
  | .number => "BadNumber"
  | .loose => "NotLoose"
  | .text => "BadText"
  | .nothing => "other"
--! is_count
def f_is_count : List D → R D := runF 3 3 (sRet (eAnd (e1 (dIsi isI) (eVar 0)) (eAnd (eNot (e1 (dIsi isB) (eVar 0))) (eChain dLe dLe (eVar 1) (eVar 0) (eVar 2)))))
--! is_rule
def f_is_rule : List D → R D := runF 3 7 (sSeq (DL.sIf (DL.tOr (DL.tNot (DL.tTru (e1 (dIsi isT) (eVar 0)))) (DL.tOr (DL.tB (e2 dEq (eVar 0) (eF fTup aNil))) (DL.tNot (DL.tTru (e1 (dIsi isS) (e2 dIdx (eVar 0) (eC (.int 0)))))))) (sRet (eC (.bool false))) (sNext)) (sSeq (DL.sIf (DL.tOr (DL.tB (e1 (dNotInTab t_LENGTHS) (e2 dIdx (eVar 0) (eC (.int 0))))) (DL.tB (e2 dNe (e1 dLen (eVar 0)) (e1 (dTabAt t_LENGTHS) (e2 dIdx (eVar 0) (eC (.int 0))))))) (sRet (eC (.bool false))) (sNext)) (sSeq (DL.sIf (DL.tB (e2 dIn (e2 dIdx (eVar 0) (eC (.int 0))) (eF fTup (aCons (eC (.str "unlike")) (aCons (eC (.str "alike")) aNil))))) (sRet (eAnd (e1 dAll (eComp (DL.iSeq (eSlice (eVar 0) (oSome (eC (.int 1))) oNone)) [3] (DL.gName 3) (DL.tYes) (eF f_is_count (aCons (eVar 3) (aCons (eC (.int 0)) (aCons (e2 dSub (eVar 1) (eC (.int 1))) aNil)))))) (e2 dLt (e2 dIdx (eVar 0) (eC (.int 1))) (e2 dIdx (eVar 0) (eC (.int 2)))))) (sNext)) (sSeq (DL.sIf (DL.tB (e2 dIn (e2 dIdx (eVar 0) (eC (.int 0))) (eF fTup (aCons (eC (.str "most")) (aCons (eC (.str "least")) aNil))))) (sRet (eAnd (eF f_is_count (aCons (e2 dIdx (eVar 0) (eC (.int 1))) (aCons (eC (.int 0)) (aCons (e2 dSub (eVar 2) (eC (.int 1))) aNil)))) (eF f_is_count (aCons (e2 dIdx (eVar 0) (eC (.int 2))) (aCons (eC (.int 0)) (aCons (eVar 1) aNil)))))) (sNext)) (sSeq (sPar 4 5 (e1 (dCut3 (some 1) none 2) (eVar 0)) (e1 (dCut3 (some 2) none 2) (eVar 0))) (sSeq (sAsg (e1 dAll (eComp (DL.iSeq (eVar 4)) [3] (DL.gName 3) (DL.tYes) (eF f_is_count (aCons (eVar 3) (aCons (eC (.int 0)) (aCons (e2 dSub (eVar 1) (eC (.int 1))) aNil)))))) (DL.gName 6)) (sSeq (sAsg (eAnd (eVar 6) (e1 dAll (eComp (DL.iSeq (eVar 5)) [3] (DL.gName 3) (DL.tYes) (eF f_is_count (aCons (eVar 3) (aCons (eC (.int 0)) (aCons (e2 dSub (eVar 2) (eC (.int 1))) aNil))))))) (DL.gName 6)) (sRet (eAnd (eVar 6) (eOr (e2 dEq (e2 dIdx (eVar 0) (eC (.int 0))) (eC (.str "not"))) (e2 dLt (eSlice (eVar 0) (oSome (eC (.int 1))) (oSome (eC (.int 3)))) (eSlice (eVar 0) (oSome (eC (.int 3))) oNone))))))))))))
--! is_house
def f_is_house : List D → R D := runF 1 2 (sSeq (DL.sIf (DL.tOr (DL.tNot (DL.tTru (e1 (dIsi isT) (eVar 0)))) (DL.tOr (DL.tB (e2 dNe (e1 dLen (eVar 0)) (eC (.int 3)))) (DL.tNot (DL.tTru (eF f_is_count (aCons (e2 dIdx (eVar 0) (eC (.int 0))) (aCons (eC (.int 1)) (aCons (eC (.int 5)) aNil)))))))) (sRet (eC (.bool false))) (sNext)) (sSeq (DL.sIf (DL.tOr (DL.tNot (DL.tTru (eF f_is_count (aCons (e2 dIdx (eVar 0) (eC (.int 1))) (aCons (eC (.int 1)) (aCons (eC (.int 4)) aNil)))))) (DL.tOr (DL.tNot (DL.tTru (e1 (dIsi isT) (e2 dIdx (eVar 0) (eC (.int 2)))))) (DL.tB (e2 dGt (e1 dLen (e2 dIdx (eVar 0) (eC (.int 2)))) (eC (.int 8)))))) (sRet (eC (.bool false))) (sNext)) (sRet (e1 dAll (eComp (DL.iSeq (e2 dIdx (eVar 0) (eC (.int 2)))) [1] (DL.gName 1) (DL.tYes) (eF f_is_rule (aCons (eVar 1) (aCons (e2 dIdx (eVar 0) (eC (.int 0))) (aCons (e2 dIdx (eVar 0) (eC (.int 1))) aNil)))))))))
--! need_house
def f_need_house : List D → R D := runF 1 1 (sSeq (DL.sIf (DL.tNot (DL.tTru (eF f_is_house (aCons (eVar 0) aNil)))) (sRaise .house) (sNext)) (sNext))
--! _law_cell
def f__law_cell : List D → R D := runF 2 2 (sSeq (DL.sIf (DL.tB (e2 dEq (eVar 0) (eF fLst aNil))) (sRet (e2 dMulI (eVar 1) (eC (.int 7919)))) (sNext)) (sRet (e2 dAdd (e2 dIdx (eVar 0) (e2 dMod (eVar 1) (e1 dLen (eVar 0)))) (e2 dMulI (e2 dDiv (eVar 1) (e1 dLen (eVar 0))) (eC (.int 104729))))))
--! _law_drawn
def f__law_drawn : List D → R D := runF 2 3 (sSeq (sAsg (e2 dMod (e2 dAdd (e2 dMulI (eVar 0) (eC (.int 6364136223846793005))) (e2 dMulI (e2 dAdd (eVar 1) (eC (.int 1))) (eC (.int 1442695040888963407)))) (eC (.int 340282366920938463463374607431768211507))) (DL.gName 2)) (sSeq (sAsg (e2 dMod (e2 dMulI (eVar 2) (eVar 2)) (eC (.int 340282366920938463463374607431768211297))) (DL.gName 2)) (sSeq (sAsg (e2 dMulI (e2 dMulI (e2 dAdd (e2 dMod (eVar 2) (eC (.int 18446744073709551557))) (eC (.int 1))) (e2 dAdd (e2 dDiv (eVar 2) (eC (.int 18446744073709551557))) (eC (.int 1)))) (eVar 2)) (DL.gName 2)) (sRet (e2 dMod (eVar 2) (eC (.int 340282366920938463463374607431768211507)))))))
--! _law_word
def w__law_word (a : Nat) (e : Ex) : FS := sSeq (sAsg (eF fLst (aCons (e1 (dIsP a (isX .change e)) (eVar 0)) (aCons (e1 (dIsP a (isX .house e)) (eVar 0)) (aCons (e1 (dIsP a (isX .number e)) (eVar 0)) (aCons (e1 (dIsP a (isX .plan e)) (eVar 0)) aNil))))) (DL.gName 1)) (sSeq (sAsg (e2 dAdd (eVar 1) (eF fLst (aCons (e1 (dIsP a (isX .text e)) (eVar 0)) (aCons (e1 (dIsP a (isX .loose e)) (eVar 0)) aNil)))) (DL.gName 1)) (sSeq (DL.sIf (DL.tOr (DL.tB (e2 dNe (e1 dSum (eComp (iLst (eVar 1)) [2] (DL.gName 2) (DL.tYes) (e1 dInt (eVar 2)))) (eC (.int 1)))) (DL.tNot (DL.tTru (e1 (dIsP a true) (eVar 0))))) (sRet (eC (.str "other"))) (sNext)) (sRet (e2 dIdx (eF fLst (aCons (eC (.str "BadChange")) (aCons (eC (.str "BadHouse")) (aCons (eC (.str "BadNumber")) (aCons (eC (.str "BadPlan")) (aCons (eC (.str "BadText")) (aCons (eC (.str "NotLoose")) aNil))))))) (eIndex (eVar 1) (eC (.bool true)))))))
--! _law_rule
def f__law_rule : List D → R D := runF 3 11 (sSeq (sAsg (e2 dDiv (eVar 0) (eC (.int 16))) (DL.gName 3)) (sSeq (sPar 4 5 (e2 dMod (eVar 3) (eVar 1)) (e2 dMod (e2 dDiv (eVar 3) (eC (.int 8))) (eVar 1))) (sSeq (sPar 6 7 (e2 dMod (e2 dDiv (eVar 3) (eC (.int 64))) (eVar 2)) (e2 dMod (e2 dDiv (eVar 3) (eC (.int 512))) (eVar 2))) (sSeq (sAsg (e2 dMod (eVar 0) (eC (.int 8))) (DL.gName 8)) (sSeq (DL.sIf (DL.tAnd (DL.tB (e2 dLt (eVar 8) (eC (.int 3)))) (DL.tB (e2 dNe (eVar 4) (eVar 5)))) (sRet (eF fTup (aCons (eC (.str "unlike")) (aCons (e2 dMin2 (eVar 4) (eVar 5)) (aCons (e2 dMax2 (eVar 4) (eVar 5)) aNil))))) (sNext)) (sSeq (DL.sIf (DL.tAnd (DL.tB (e2 dEq (eVar 8) (eC (.int 3)))) (DL.tB (e2 dNe (eVar 4) (eVar 5)))) (sRet (eF fTup (aCons (eC (.str "alike")) (aCons (e2 dMin2 (eVar 4) (eVar 5)) (aCons (e2 dMax2 (eVar 4) (eVar 5)) aNil))))) (sNext)) (sSeq (DL.sIf (DL.tAnd (DL.tB (e2 dEq (eVar 8) (eC (.int 4)))) (DL.tB (e2 dNe (eF fTup (aCons (eVar 4) (aCons (eVar 6) aNil))) (eF fTup (aCons (eVar 5) (aCons (eVar 7) aNil)))))) (sSeq (sAsg (e1 dSortP (eF fLst (aCons (eF fTup (aCons (eVar 4) (aCons (eVar 6) aNil))) (aCons (eF fTup (aCons (eVar 5) (aCons (eVar 7) aNil))) aNil)))) (gLstD (DL.gCons (DL.gName 9) (DL.gCons (DL.gName 10) DL.gNil)))) (sRet (e2 dAdd (e2 dAdd (eF fTup (aCons (eC (.str "either")) aNil)) (eVar 9)) (eVar 10)))) (sNext)) (sSeq (DL.sIf (DL.tB (e2 dEq (eVar 8) (eC (.int 5)))) (sRet (eF fTup (aCons (eC (.str "most")) (aCons (eVar 6) (aCons (e2 dMod (e2 dDiv (eVar 3) (eC (.int 4096))) (e2 dAdd (eVar 1) (eC (.int 1)))) aNil))))) (sNext)) (sRet (eIf (DL.tB (e2 dEq (eVar 8) (eC (.int 6)))) (eF fTup (aCons (eC (.str "least")) (aCons (eVar 6) (aCons (e2 dMod (e2 dDiv (eVar 3) (eC (.int 4096))) (eC (.int 2))) aNil)))) (eF fTup (aCons (eC (.str "not")) (aCons (eVar 4) (aCons (eVar 6) aNil))))))))))))))
--! _law_house
def f__law_house : List D → R D := runF 2 7 (sSeq (sAsg (eF fTup (aCons (e2 dAdd (eC (.int 1)) (e2 dMod (e2 dDiv (eVar 0) (eC (.int 8))) (eVar 1))) (aCons (e2 dAdd (eC (.int 1)) (e2 dMod (e2 dDiv (eVar 0) (eC (.int 64))) (eC (.int 3)))) aNil))) (DL.gTup (DL.gCons (DL.gName 2) (DL.gCons (DL.gName 3) DL.gNil)))) (sSeq (DL.sIf (DL.tB (e2 dEq (e2 dMod (e2 dDiv (eVar 0) (eC (.int 512))) (eC (.int 12))) (eC (.int 0)))) (sSeq (sAsg (e2 dIdx (eF fLst (aCons (eF fTup (aCons (eC (.int 5)) (aCons (eC (.int 2)) aNil))) (aCons (eF fTup (aCons (eC (.int 3)) (aCons (eC (.int 4)) aNil))) (aCons (eF fTup (aCons (eC (.int 2)) (aCons (eC (.int 4)) aNil))) aNil)))) (e2 dMod (e2 dDiv (eVar 0) (eC (.int 8192))) (eC (.int 3)))) (DL.gTup (DL.gCons (DL.gName 2) (DL.gCons (DL.gName 3) DL.gNil)))) (sNext)) (sNext)) (sSeq (sAsg (e2 dMod (e2 dDiv (eVar 0) (e2 dPow (eC (.int 2)) (eC (.int 20)))) (e2 dIdx (eF fLst (aCons (eC (.int 3)) (aCons (eC (.int 5)) (aCons (eC (.int 9)) aNil)))) (e2 dMod (e2 dDiv (eVar 0) (e2 dPow (eC (.int 2)) (eC (.int 30)))) (eC (.int 3))))) (DL.gName 4)) (sSeq (sAsg (eComp (DL.iRng1 (eVar 4)) [6] (DL.gName 6) (DL.tYes) (eF f__law_rule (aCons (eF f__law_drawn (aCons (eVar 0) (aCons (eVar 6) aNil))) (aCons (eVar 2) (aCons (eVar 3) aNil))))) (DL.gName 5)) (sRet (eF fTup (aCons (eVar 2) (aCons (eVar 3) (aCons (e1 dTuple (eVar 5)) aNil)))))))))
--! _law_from
def f__law_from : List D → R D := runF 3 3 (sRet (eAnd (e1 (dIsi isI) (eVar 0)) (eAnd (eNot (e1 (dIsi isB) (eVar 0))) (eChain dLe dLe (eVar 1) (eVar 0) (eVar 2)))))
--! _law_is_rule
def f__law_is_rule : List D → R D := runF 3 6 (sSeq (DL.sIf (DL.tOr (DL.tNot (DL.tTru (e1 (dIsi isT) (eVar 0)))) (DL.tOr (DL.tB (e2 dNotIn (e1 dLen (eVar 0)) (eF fTup (aCons (eC (.int 3)) (aCons (eC (.int 5)) aNil))))) (DL.tNot (DL.tTru (e1 (dIsi isS) (e2 dIdx (eVar 0) (eC (.int 0)))))))) (sRet (eC (.bool false))) (sNext)) (sSeq (sPar 3 4 (e2 dSub (eVar 1) (eC (.int 1))) (e2 dSub (eVar 2) (eC (.int 1)))) (sSeq (DL.sIf (DL.tAnd (DL.tB (e2 dIn (e2 dIdx (eVar 0) (eC (.int 0))) (eF fTup (aCons (eC (.str "unlike")) (aCons (eC (.str "alike")) aNil))))) (DL.tB (e2 dEq (e1 dLen (eVar 0)) (eC (.int 3))))) (sRet (eAnd (eF f__law_from (aCons (e2 dIdx (eVar 0) (eC (.int 1))) (aCons (eC (.int 0)) (aCons (eVar 3) aNil)))) (eAnd (eF f__law_from (aCons (e2 dIdx (eVar 0) (eC (.int 2))) (aCons (eC (.int 0)) (aCons (eVar 3) aNil)))) (e2 dLt (e2 dIdx (eVar 0) (eC (.int 1))) (e2 dIdx (eVar 0) (eC (.int 2))))))) (sNext)) (sSeq (DL.sIf (DL.tAnd (DL.tB (e2 dIn (e2 dIdx (eVar 0) (eC (.int 0))) (eF fTup (aCons (eC (.str "most")) (aCons (eC (.str "least")) aNil))))) (DL.tB (e2 dEq (e1 dLen (eVar 0)) (eC (.int 3))))) (sRet (eAnd (eF f__law_from (aCons (e2 dIdx (eVar 0) (eC (.int 1))) (aCons (eC (.int 0)) (aCons (eVar 4) aNil)))) (eF f__law_from (aCons (e2 dIdx (eVar 0) (eC (.int 2))) (aCons (eC (.int 0)) (aCons (eVar 1) aNil)))))) (sNext)) (sSeq (DL.sIf (DL.tOr (DL.tNot (DL.tTru (eF f__law_from (aCons (e2 dIdx (eVar 0) (eC (.int 1))) (aCons (eC (.int 0)) (aCons (eVar 3) aNil)))))) (DL.tNot (DL.tTru (eF f__law_from (aCons (e2 dIdx (eVar 0) (eC (.int 2))) (aCons (eC (.int 0)) (aCons (eVar 4) aNil))))))) (sRet (eC (.bool false))) (sNext)) (sSeq (DL.sIf (DL.tB (e2 dEq (e1 dLen (eVar 0)) (eC (.int 3)))) (sRet (e2 dEq (e2 dIdx (eVar 0) (eC (.int 0))) (eC (.str "not")))) (sNext)) (sSeq (sAsg (eAnd (e2 dEq (e2 dIdx (eVar 0) (eC (.int 0))) (eC (.str "either"))) (eAnd (eF f__law_from (aCons (e2 dIdx (eVar 0) (eC (.int 3))) (aCons (eC (.int 0)) (aCons (eVar 3) aNil)))) (eF f__law_from (aCons (e2 dIdx (eVar 0) (eC (.int 4))) (aCons (eC (.int 0)) (aCons (eVar 4) aNil)))))) (DL.gName 5)) (sRet (eAnd (eVar 5) (e2 dLt (eSlice (eVar 0) (oSome (eC (.int 1))) (oSome (eC (.int 3)))) (eSlice (eVar 0) (oSome (eC (.int 3))) oNone)))))))))))
--! _law_is_house
def f__law_is_house : List D → R D := runF 1 2 (sSeq (DL.sIf (DL.tOr (DL.tNot (DL.tTru (e1 (dIsi isT) (eVar 0)))) (DL.tOr (DL.tB (e2 dNe (e1 dLen (eVar 0)) (eC (.int 3)))) (DL.tOr (DL.tNot (DL.tTru (e1 (dIsi isT) (e2 dIdx (eVar 0) (eC (.int 2)))))) (DL.tB (e2 dGt (e1 dLen (e2 dIdx (eVar 0) (eC (.int 2)))) (eC (.int 8))))))) (sRet (eC (.bool false))) (sNext)) (sSeq (DL.sIf (DL.tOr (DL.tNot (DL.tTru (eF f__law_from (aCons (e2 dIdx (eVar 0) (eC (.int 0))) (aCons (eC (.int 1)) (aCons (eC (.int 5)) aNil)))))) (DL.tNot (DL.tTru (eF f__law_from (aCons (e2 dIdx (eVar 0) (eC (.int 1))) (aCons (eC (.int 1)) (aCons (eC (.int 4)) aNil))))))) (sRet (eC (.bool false))) (sNext)) (sRet (e2 dEq (eComp (DL.iSeq (e2 dIdx (eVar 0) (eC (.int 2)))) [1] (DL.gName 1) (DL.tNot (DL.tTru (eF f__law_is_rule (aCons (eVar 1) (aCons (e2 dIdx (eVar 0) (eC (.int 0))) (aCons (e2 dIdx (eVar 0) (eC (.int 1))) aNil)))))) (eVar 1)) (eF fLst aNil)))))
--! _law_bent
def f__law_bent : Nat → List D → R D
  | 0 => fun _ => .bad
  | k + 1 => runF 3 6 (sSeq (DL.sIf (DL.tAnd (DL.tB (e2 dGt (eVar 2) (eC (.int 0)))) (DL.tAnd (DL.tTru (e1 (dIsi isT) (eVar 0))) (DL.tAnd (DL.tB (e2 dGt (e1 dLen (eVar 0)) (eC (.int 0)))) (DL.tB (e2 dGt (e2 dMod (eVar 1) (eC (.int 5))) (eC (.int 0))))))) (sSeq (sAsg (e2 dMod (e2 dDiv (eVar 1) (eC (.int 8))) (e1 dLen (eVar 0))) (DL.gName 3)) (sSeq (sAsg (eF (f__law_bent k) (aCons (e2 dIdx (eVar 0) (eVar 3)) (aCons (eF f__law_drawn (aCons (eVar 1) (aCons (eVar 2) aNil))) (aCons (e2 dSub (eVar 2) (eC (.int 1))) aNil)))) (DL.gName 4)) (sRet (e2 dAdd (e2 dAdd (eSlice (eVar 0) oNone (oSome (eVar 3))) (eF fTup (aCons (eVar 4) aNil))) (eSlice (eVar 0) (oSome (e2 dAdd (eVar 3) (eC (.int 1)))) oNone))))) (sNext)) (sSeq (DL.sIf (DL.tAnd (DL.tTru (e1 (dIsi isI) (eVar 0))) (DL.tAnd (DL.tNot (DL.tTru (e1 (dIsi isB) (eVar 0)))) (DL.tB (e2 dGt (e2 dMod (e2 dDiv (eVar 1) (eC (.int 64))) (eC (.int 4))) (eC (.int 0)))))) (sRet (e2 dIdx (eF fLst (aCons (e2 dAdd (eVar 0) (eC (.int 1))) (aCons (e2 dSub (eVar 0) (eC (.int 1))) (aCons (e2 dEq (eVar 0) (eC (.int 1))) (aCons (eC (.none)) (aCons (eC (.int 0)) (aCons (eC (.int 3)) (aCons (eC (.int 4)) (aCons (eC (.int 5)) (aCons (eC (.int 6)) (aCons (e1 dNeg (eC (.int 1))) (aCons (eC (.str "1")) aNil)))))))))))) (e2 dMod (e2 dDiv (eVar 1) (eC (.int 256))) (eC (.int 11))))) (sNext)) (sSeq (DL.sIf (DL.tAnd (DL.tTru (e1 (dIsi isT) (eVar 0))) (DL.tB (e2 dGt (e2 dMod (e2 dDiv (eVar 1) (eC (.int 64))) (eC (.int 4))) (eC (.int 0))))) (sRet (e2 dIdx (eF fLst (aCons (e2 dAdd (eVar 0) (eVar 0)) (aCons (eSlice (eVar 0) oNone (oSome (e1 dNeg (eC (.int 1))))) (aCons (eSlice (eVar 0) (oSome (eC (.int 1))) oNone) (aCons (e1 (dCut3 none none (-1)) (eVar 0)) (aCons (e1 dList (eVar 0)) (aCons (e2 dAdd (eVar 0) (eF fTup (aCons (eC (.int 0)) aNil))) aNil))))))) (e2 dMod (e2 dDiv (eVar 1) (eC (.int 256))) (eC (.int 6))))) (sNext)) (sSeq (sAsg (eF fLst (aCons (eC (.none)) (aCons (eC (.bool true)) (aCons (eC (.int 0)) (aCons (eC (.str "not")) (aCons (eC (.str "unlike")) (aCons (eC (.str "either")) (aCons (eC (.str "most")) (aCons (eF fTup aNil) (aCons (eF fTup (aCons (eC (.str "not")) (aCons (eC (.int 0)) (aCons (eC (.int 0)) aNil)))) (aCons (eF fTup (aCons (eC (.str "unlike")) (aCons (eC (.int 0)) (aCons (eC (.int 1)) aNil)))) (aCons (eF fTup (aCons (eC (.str "least")) (aCons (eC (.int 0)) (aCons (eC (.int 0)) aNil)))) (aCons (eC (.int 2)) aNil))))))))))))) (DL.gName 5)) (sRet (e2 dIdx (eVar 5) (e2 dMod (e2 dDiv (eVar 1) (eC (.int 256))) (eC (.int 12)))))))))
--! is_plan
def f_is_plan : List D → R D := runF 2 3 (sSeq (DL.sIf (DL.tOr (DL.tNot (DL.tTru (e1 (dIsi isT) (eVar 1)))) (DL.tB (e2 dNe (e1 dLen (eVar 1)) (e2 dIdx (eVar 0) (eC (.int 0)))))) (sRet (eC (.bool false))) (sNext)) (sRet (e1 dAll (eComp (DL.iSeq (eVar 1)) [2] (DL.gName 2) (DL.tYes) (eF f_is_count (aCons (eVar 2) (aCons (eC (.int 0)) (aCons (e2 dSub (e2 dIdx (eVar 0) (eC (.int 1))) (eC (.int 1))) aNil))))))))
--! is_kept
def f_is_kept : List D → R D := runF 2 4 (sSeq (sAsg (e2 dIdx (eVar 0) (eC (.int 0))) (DL.gName 2)) (sSeq (DL.sIf (DL.tB (e2 dEq (eVar 2) (eC (.str "unlike")))) (sRet (e2 dNe (e2 dIdx (eVar 1) (e2 dIdx (eVar 0) (eC (.int 1)))) (e2 dIdx (eVar 1) (e2 dIdx (eVar 0) (eC (.int 2)))))) (sNext)) (sSeq (DL.sIf (DL.tB (e2 dEq (eVar 2) (eC (.str "alike")))) (sRet (e2 dEq (e2 dIdx (eVar 1) (e2 dIdx (eVar 0) (eC (.int 1)))) (e2 dIdx (eVar 1) (e2 dIdx (eVar 0) (eC (.int 2)))))) (sNext)) (sSeq (DL.sIf (DL.tB (e2 dEq (eVar 2) (eC (.str "not")))) (sRet (e2 dNe (e2 dIdx (eVar 1) (e2 dIdx (eVar 0) (eC (.int 1)))) (e2 dIdx (eVar 0) (eC (.int 2))))) (sNext)) (sSeq (DL.sIf (DL.tB (e2 dEq (eVar 2) (eC (.str "either")))) (sRet (eOr (e2 dEq (e2 dIdx (eVar 1) (e2 dIdx (eVar 0) (eC (.int 1)))) (e2 dIdx (eVar 0) (eC (.int 2)))) (e2 dEq (e2 dIdx (eVar 1) (e2 dIdx (eVar 0) (eC (.int 3)))) (e2 dIdx (eVar 0) (eC (.int 4)))))) (sNext)) (sSeq (sAsg (eCount (eVar 1) (e2 dIdx (eVar 0) (eC (.int 1)))) (DL.gName 3)) (sRet (eIf (DL.tB (e2 dEq (eVar 2) (eC (.str "most")))) (e2 dLe (eVar 3) (e2 dIdx (eVar 0) (eC (.int 2)))) (e2 dGe (eVar 3) (e2 dIdx (eVar 0) (eC (.int 2))))))))))))
--! is_let
def f_is_let : List D → R D := runF 2 3 (sRet (e1 dAll (eComp (DL.iSeq (e2 dIdx (eVar 0) (eC (.int 2)))) [2] (DL.gName 2) (DL.tYes) (eF f_is_kept (aCons (eVar 2) (aCons (eVar 1) aNil))))))
--! need_plan
def f_need_plan : List D → R D := runF 2 2 (sSeq (DL.sIf (DL.tNot (DL.tTru (eF f_is_plan (aCons (eVar 0) (aCons (eVar 1) aNil))))) (sRaise .plan) (sNext)) (sNext))
--! broken
def f_broken : List D → R D := runF 2 4 (sSeq (sDrop (eF f_need_house (aCons (eVar 0) aNil))) (sSeq (sDrop (eF f_need_plan (aCons (eVar 0) (aCons (eVar 1) aNil)))) (sRet (eComp (DL.iEnum (e2 dIdx (eVar 0) (eC (.int 2)))) [2, 3] (DL.gTup (DL.gCons (DL.gName 2) (DL.gCons (DL.gName 3) DL.gNil))) (DL.tNot (DL.tTru (eF f_is_kept (aCons (eVar 3) (aCons (eVar 1) aNil))))) (eVar 2)))))
--! rows
def f_rows : List D → R D := runF 2 7 (sSeq (sAsg (eF fLst (aCons (eF fTup aNil) aNil)) (DL.gName 2)) (sSeq (DL.sFor (DL.iRng1 (eVar 0)) (DL.gName 3) (sSeq (sAsg (eF fLst aNil) (DL.gName 4)) (sSeq (DL.sFor (DL.iSeq (eVar 2)) (DL.gName 5) (sSeq (sExt 4 (eComp (DL.iRng1 (eVar 1)) [6] (DL.gName 6) (DL.tYes) (e2 dAdd (eVar 5) (eF fTup (aCons (eVar 6) aNil))))) (sNext))) (sSeq (sAsg (eVar 4) (DL.gName 2)) (sNext))))) (sRet (eVar 2))))
--! plans
def f_plans : List D → R D := runF 1 2 (sSeq (sDrop (eF f_need_house (aCons (eVar 0) aNil))) (sRet (eComp (DL.iSeq (eF f_rows (aCons (e2 dIdx (eVar 0) (eC (.int 0))) (aCons (e2 dIdx (eVar 0) (eC (.int 1))) aNil)))) [1] (DL.gName 1) (DL.tTru (eF f_is_let (aCons (eVar 0) (aCons (eVar 1) aNil)))) (eVar 1))))
--! _law_keeps
def f__law_keeps : List D → R D := runF 2 8 (sSeq (sAsg (eF fTup (aCons (e2 dIdx (eVar 0) (eC (.int 0))) (aCons (e2 dIdx (eVar 0) (eC (.int 1))) (aCons (e2 dIdx (eVar 0) (eC (.int 2))) aNil)))) (DL.gTup (DL.gCons (DL.gName 2) (DL.gCons (DL.gName 3) (DL.gCons (DL.gName 4) DL.gNil))))) (sSeq (sAsg (eComp (DL.iEnum (eVar 1)) [6, 7] (DL.gTup (DL.gCons (DL.gName 6) (DL.gCons (DL.gName 7) DL.gNil))) (DL.tB (e2 dEq (eVar 7) (eVar 3))) (eVar 6)) (DL.gName 5)) (sSeq (DL.sIf (DL.tB (e2 dIn (eVar 2) (eF fTup (aCons (eC (.str "most")) (aCons (eC (.str "least")) aNil))))) (sRet (eIf (DL.tB (e2 dEq (eVar 2) (eC (.str "most")))) (e2 dLe (e1 dLen (eVar 5)) (eVar 4)) (e2 dGe (e1 dLen (eVar 5)) (eVar 4)))) (sNext)) (sSeq (DL.sIf (DL.tB (e2 dEq (eVar 2) (eC (.str "not")))) (sRet (eNot (e2 dEq (e2 dIdx (eVar 1) (eVar 3)) (eVar 4)))) (sNext)) (sSeq (DL.sIf (DL.tB (e2 dEq (eVar 2) (eC (.str "either")))) (sRet (eOr (e2 dEq (e2 dIdx (eVar 1) (eVar 3)) (eVar 4)) (e2 dEq (e2 dIdx (eVar 1) (e2 dIdx (eVar 0) (eC (.int 3)))) (e2 dIdx (eVar 0) (eC (.int 4)))))) (sNext)) (sRet (e2 dEq (e2 dEq (e2 dIdx (eVar 1) (eVar 3)) (e2 dIdx (eVar 1) (eVar 4))) (e2 dEq (eVar 2) (eC (.str "alike"))))))))))
--! _law_many
def f__law_many : List D → R D := runF 2 4 (sSeq (sAsg (eC (.int 1)) (DL.gName 2)) (sSeq (DL.sFor (DL.iRng1 (eVar 0)) (DL.gName 3) (sSeq (sAsg (e2 dMulI (eVar 2) (eVar 1)) (DL.gName 2)) (sNext))) (sRet (eVar 2))))
--! _law_plans
def f__law_plans : List D → R D := runF 1 10 (sSeq (sAsg (eVar 0) (DL.gTup (DL.gCons (DL.gName 1) (DL.gCons (DL.gName 2) (DL.gCons (DL.gName 3) DL.gNil))))) (sSeq (sAsg (eF fLst aNil) (DL.gName 4)) (sSeq (DL.sFor (DL.iRng1 (eF f__law_many (aCons (eVar 1) (aCons (eVar 2) aNil)))) (DL.gName 5) (sSeq (sPar 6 7 (eF fLst aNil) (eVar 5)) (sSeq (DL.sFor (DL.iRng1 (eVar 1)) (DL.gName 8) (sSeq (sApp 6 (e2 dMod (eVar 7) (eVar 2))) (sSeq (sAsg (e2 dDiv (eVar 7) (eVar 2)) (DL.gName 7)) (sNext)))) (sSeq (sAsg (e1 dTuple (e1 dRevL (eVar 6))) (DL.gName 6)) (sSeq (DL.sIf (DL.tTru (e1 dAll (eComp (DL.iSeq (eVar 3)) [9] (DL.gName 9) (DL.tYes) (eF f__law_keeps (aCons (eVar 9) (aCons (eVar 6) aNil)))))) (sSeq (sApp 4 (eVar 6)) (sNext)) (sNext)) (sNext)))))) (sRet (eVar 4)))))
--! need_let
def f_need_let : List D → R D := runF 2 2 (sSeq (sDrop (eF f_need_plan (aCons (eVar 0) (aCons (eVar 1) aNil)))) (sSeq (DL.sIf (DL.tNot (DL.tTru (eF f_is_let (aCons (eVar 0) (aCons (eVar 1) aNil))))) (sRaise .plan) (sNext)) (sNext)))
--! after
def f_after : List D → R D := runF 2 2 (sRet (e2 dAdd (e2 dAdd (eSlice (eVar 0) oNone (oSome (e2 dIdx (eVar 1) (eC (.int 0))))) (eF fTup (aCons (e2 dIdx (eVar 1) (eC (.int 1))) aNil))) (eSlice (eVar 0) (oSome (e2 dAdd (e2 dIdx (eVar 1) (eC (.int 0))) (eC (.int 1)))) oNone)))
--! let_changes
def f_let_changes : List D → R D := runF 2 5 (sSeq (sAsg (eF fLst aNil) (DL.gName 2)) (sSeq (DL.sFor (DL.iRng1 (e2 dIdx (eVar 0) (eC (.int 0)))) (DL.gName 3) (sSeq (DL.sFor (DL.iRng1 (e2 dIdx (eVar 0) (eC (.int 1)))) (DL.gName 4) (sSeq (DL.sIf (DL.tAnd (DL.tB (e2 dNe (eVar 4) (e2 dIdx (eVar 1) (eVar 3)))) (DL.tTru (eF f_is_let (aCons (eVar 0) (aCons (eF f_after (aCons (eVar 1) (aCons (eF fTup (aCons (eVar 3) (aCons (eVar 4) aNil))) aNil))) aNil))))) (sSeq (sApp 2 (eF fTup (aCons (eVar 3) (aCons (eVar 4) aNil)))) (sNext)) (sNext)) (sNext))) (sNext))) (sRet (eVar 2))))
--! changes
def f_changes : List D → R D := runF 2 2 (sSeq (sDrop (eF f_need_house (aCons (eVar 0) aNil))) (sSeq (sDrop (eF f_need_let (aCons (eVar 0) (aCons (eVar 1) aNil)))) (sRet (eF f_let_changes (aCons (eVar 0) (aCons (eVar 1) aNil))))))
--! is_change
def f_is_change : List D → R D := runF 2 3 (sSeq (sAsg (eAnd (e1 (dIsi isT) (eVar 1)) (e2 dEq (e1 dLen (eVar 1)) (eC (.int 2)))) (DL.gName 2)) (sRet (eAnd (eVar 2) (eAnd (eF f_is_count (aCons (e2 dIdx (eVar 1) (eC (.int 0))) (aCons (eC (.int 0)) (aCons (e2 dSub (e2 dIdx (eVar 0) (eC (.int 0))) (eC (.int 1))) aNil)))) (eF f_is_count (aCons (e2 dIdx (eVar 1) (eC (.int 1))) (aCons (eC (.int 0)) (aCons (e2 dSub (e2 dIdx (eVar 0) (eC (.int 1))) (eC (.int 1))) aNil))))))))
--! changed
def f_changed : List D → R D := runF 3 3 (sSeq (sDrop (eF f_need_house (aCons (eVar 0) aNil))) (sSeq (sDrop (eF f_need_let (aCons (eVar 0) (aCons (eVar 1) aNil)))) (sSeq (DL.sIf (DL.tOr (DL.tNot (DL.tTru (eF f_is_change (aCons (eVar 0) (aCons (eVar 2) aNil))))) (DL.tB (e2 dNotIn (eVar 2) (eF f_let_changes (aCons (eVar 0) (aCons (eVar 1) aNil)))))) (sRaise .change) (sNext)) (sRet (eF f_after (aCons (eVar 1) (aCons (eVar 2) aNil)))))))
--! walked
def f_walked : List D → R D := runF 3 5 (sSeq (sDrop (eF f_need_house (aCons (eVar 0) aNil))) (sSeq (sDrop (eF f_need_let (aCons (eVar 0) (aCons (eVar 1) aNil)))) (sSeq (sAsg (eF fLst (aCons (eVar 1) aNil)) (DL.gName 3)) (sSeq (DL.sIf (DL.tNot (DL.tTru (e1 (dIsi isL) (eVar 2)))) (sRaise .change) (sNext)) (sSeq (DL.sFor (DL.iSeq (eVar 2)) (DL.gName 4) (sSeq (sApp 3 (eF f_changed (aCons (eVar 0) (aCons (e2 dIdx (eVar 3) (e1 dNeg (eC (.int 1)))) (aCons (eVar 4) aNil))))) (sNext))) (sRet (eVar 3)))))))
--! _law_apart
def f__law_apart : List D → R D := runF 2 4 (sRet (e1 dSum (eComp (DL.iZip (eVar 0) (eVar 1)) [2, 3] (DL.gTup (DL.gCons (DL.gName 2) (DL.gCons (DL.gName 3) DL.gNil))) (DL.tYes) (e1 dInt (e2 dNe (eVar 2) (eVar 3))))))
--! _law_near
def f__law_near : List D → R D := runF 1 4 (sSeq (sAsg (eC (.dict [markT])) (DL.gName 1)) (sSeq (DL.sFor (DL.iSeq (eVar 0)) (DL.gName 2) (sSeq (sPut 1 (eVar 2) (eComp (DL.iSeq (eVar 0)) [3] (DL.gName 3) (DL.tB (e2 dEq (eF f__law_apart (aCons (eVar 2) (aCons (eVar 3) aNil))) (eC (.int 1)))) (eVar 3))) (sNext))) (sRet (eVar 1))))
--! _law_step
def f__law_step : List D → R D := runF 2 5 (sSeq (sAsg (e2 dIdx (eComp (DL.iEnum (eVar 0)) [3, 4] (DL.gTup (DL.gCons (DL.gName 3) (DL.gCons (DL.gName 4) DL.gNil))) (DL.tB (e2 dNe (eVar 4) (e2 dIdx (eVar 1) (eVar 3)))) (eVar 3)) (eC (.int 0))) (DL.gName 2)) (sRet (eF fTup (aCons (eVar 2) (aCons (e2 dIdx (eVar 1) (eVar 2)) aNil)))))
--! _law_refused
def f__law_refused : List D → R D := runF 3 8 (sSeq (sAsg (eF fLst (aCons (eC (.none)) (aCons (eF fTup aNil) (aCons (eF fTup (aCons (eC (.int 0)) aNil)) (aCons (eF fLst (aCons (eC (.int 0)) (aCons (eC (.int 0)) aNil))) (aCons (eF fTup (aCons (e2 dIdx (eVar 0) (eC (.int 0))) (aCons (eC (.int 0)) aNil))) (aCons (eF fTup (aCons (eC (.int 0)) (aCons (e2 dIdx (eVar 0) (eC (.int 1))) aNil))) (aCons (eF fTup (aCons (e1 dNeg (eC (.int 1))) (aCons (eC (.int 0)) aNil))) (aCons (eF fTup (aCons (eC (.int 0)) (aCons (e1 dNeg (eC (.int 1))) aNil))) (aCons (eF fTup (aCons (eC (.int 0)) (aCons (eC (.int 0)) (aCons (eC (.int 0)) aNil)))) (aCons (eF fTup (aCons (eC (.int 0)) (aCons (eC (.none)) aNil))) aNil))))))))))) (DL.gName 3)) (sSeq (DL.sFor (DL.iSeq (e2 dAdd (eVar 3) (eF fLst (aCons (eF fTup (aCons (eC (.bool true)) (aCons (eC (.int 0)) aNil))) (aCons (eF fTup (aCons (eC (.int 0)) (aCons (e2 dIdx (eVar 1) (eC (.int 0))) aNil))) aNil))))) (DL.gName 4) (sSeq (DL.sIf (DL.tB (e2 dNe (eTold [] word (eF f_changed (aCons (eVar 0) (aCons (eVar 1) (aCons (eVar 4) aNil))))) (eC (.str "BadChange")))) (sRet (eC (.bool false))) (sNext)) (sSeq (DL.sIf (DL.tB (e2 dNe (eTold [] word (eF f_walked (aCons (eVar 0) (aCons (eVar 1) (aCons (eF fLst (aCons (eVar 4) aNil)) aNil))))) (eC (.str "BadChange")))) (sRet (eC (.bool false))) (sNext)) (sNext)))) (sSeq (DL.sFor (DL.iSeq (eF fLst (aCons (eC (.none)) (aCons (eF fTup aNil) (aCons (eC (.str "00")) aNil))))) (DL.gName 4) (sSeq (DL.sIf (DL.tB (e2 dNe (eTold [] word (eF f_walked (aCons (eVar 0) (aCons (eVar 1) (aCons (eVar 4) aNil))))) (eC (.str "BadChange")))) (sRet (eC (.bool false))) (sNext)) (sNext))) (sSeq (sAsg (eComp (DL.iSeq (eVar 2)) [6] (DL.gName 6) (DL.tB (e2 dNotIn (eVar 6) (eF f__law_plans (aCons (eVar 0) aNil)))) (eVar 6)) (DL.gName 5)) (sSeq (DL.sFor (DL.iSeq (e2 dAdd (eF fLst (aCons (eC (.none)) (aCons (e2 dAdd (eVar 1) (eF fTup (aCons (eC (.int 0)) aNil))) (aCons (e2 dMulU (eF fTup (aCons (e2 dIdx (eVar 0) (eC (.int 1))) aNil)) (e2 dIdx (eVar 0) (eC (.int 0)))) aNil)))) (eSlice (eVar 5) oNone (oSome (eC (.int 2)))))) (DL.gName 4) (sSeq (sAsg (eF fLst (aCons (eTold [5] word (eF f_changes (aCons (eVar 0) (aCons (eVar 4) aNil)))) aNil)) (DL.gName 7)) (sSeq (sApp 7 (eTold [7, 5] word (eF f_changed (aCons (eVar 0) (aCons (eVar 4) (aCons (eC (.none)) aNil)))))) (sSeq (sApp 7 (eTold [7, 5] word (eF f_walked (aCons (eVar 0) (aCons (eVar 4) (aCons (eC (.none)) aNil)))))) (sSeq (DL.sIf (DL.tB (e2 dNe (eVar 7) (e2 dMulL (eF fLst (aCons (eC (.str "BadPlan")) aNil)) (eC (.int 3))))) (sRet (eC (.bool false))) (sNext)) (sNext)))))) (sRet (e2 dEq (eTold [5] word (eF f_changes (aCons (eF fLst (aCons (eC (.int 1)) (aCons (eC (.int 1)) (aCons (eF fTup aNil) aNil)))) (aCons (eC (.none)) aNil)))) (eC (.str "BadHouse")))))))))
--! reached
def f_reached : List D → R D := runF 2 7 (sSeq (sAsg (e2 dDisp1 (eVar 1) (eC (.none))) (DL.gName 2)) (sSeq (sAsg (eF fLst (aCons (eVar 1) aNil)) (DL.gName 3)) (sSeq (sAsg (eC (.int 0)) (DL.gName 4)) (sSeq (DL.sWhile 100000 (DL.tB (e2 dLt (eVar 4) (e1 dLen (eVar 3)))) (sSeq (DL.sFor (DL.iSeq (eF f_let_changes (aCons (eVar 0) (aCons (e2 dIdx (eVar 3) (eVar 4)) aNil)))) (DL.gName 5) (sSeq (sAsg (eF f_after (aCons (e2 dIdx (eVar 3) (eVar 4)) (aCons (eVar 5) aNil))) (DL.gName 6)) (sSeq (DL.sIf (DL.tB (e2 dNotIn (eVar 6) (eVar 2))) (sSeq (sPut 2 (eVar 6) (eF fTup (aCons (e2 dIdx (eVar 3) (eVar 4)) (aCons (eVar 5) aNil)))) (sSeq (sApp 3 (eVar 6)) (sNext))) (sNext)) (sNext)))) (sSeq (sAsg (e2 dAdd (eVar 4) (eC (.int 1))) (DL.gName 4)) (sNext)))) (sRet (eF fTup (aCons (eVar 2) (aCons (eVar 3) aNil))))))))
--! way
def f_way : List D → R D := runF 3 6 (sSeq (sDrop (eF f_need_house (aCons (eVar 0) aNil))) (sSeq (sDrop (eF f_need_let (aCons (eVar 0) (aCons (eVar 1) aNil)))) (sSeq (sDrop (eF f_need_let (aCons (eVar 0) (aCons (eVar 2) aNil)))) (sSeq (sAsg (e2 dIdx (eF f_reached (aCons (eVar 0) (aCons (eVar 1) aNil))) (eC (.int 0))) (DL.gName 3)) (sSeq (DL.sIf (DL.tB (e2 dNotIn (eVar 2) (eVar 3))) (sRet (eC (.none))) (sNext)) (sSeq (sAsg (eF fLst aNil) (DL.gName 4)) (sSeq (DL.sWhile 100000 (DL.tB (e2 dIsNot (e2 dIdx (eVar 3) (eVar 2)) (eC (.none)))) (sSeq (sAsg (e2 dIdx (eVar 3) (eVar 2)) (DL.gTup (DL.gCons (DL.gName 2) (DL.gCons (DL.gName 5) DL.gNil)))) (sSeq (sAsg (e2 dAdd (eF fLst (aCons (eVar 5) aNil)) (eVar 4)) (DL.gName 4)) (sNext)))) (sRet (eVar 4)))))))))
--! is_way
def f_is_way : List D → R D := runF 4 5 (sSeq (sDrop (eF f_need_house (aCons (eVar 0) aNil))) (sSeq (sDrop (eF f_need_let (aCons (eVar 0) (aCons (eVar 1) aNil)))) (sSeq (sDrop (eF f_need_let (aCons (eVar 0) (aCons (eVar 2) aNil)))) (sSeq (sAsg (eF fLst (aCons (eVar 1) aNil)) (DL.gName 4)) (sSeq (sTryC (isX .change) (.bool false) (sSeq (sAsg (eF f_walked (aCons (eVar 0) (aCons (eVar 1) (aCons (eVar 3) aNil)))) (DL.gName 4)) (sNext))) (sRet (e2 dEq (e2 dIdx (eVar 4) (e1 dNeg (eC (.int 1)))) (eVar 2))))))))
--! _law_leads
def f__law_leads : List D → R D := runF 4 6 (sSeq (DL.sFor (DL.iSeq (eVar 3)) (DL.gName 4) (sSeq (DL.sIf (DL.tOr (DL.tNot (DL.tTru (e1 (dIsi isT) (eVar 4)))) (DL.tB (e2 dNe (e1 dLen (eVar 4)) (eC (.int 2))))) (sRet (eC (.bool false))) (sNext)) (sSeq (DL.sFor (DL.iSeq (eVar 4)) (DL.gName 5) (sSeq (DL.sIf (DL.tOr (DL.tNot (DL.tTru (e1 (dIsi isI) (eVar 5)))) (DL.tOr (DL.tTru (e1 (dIsi isB) (eVar 5))) (DL.tB (e2 dLt (eVar 5) (eC (.int 0)))))) (sRet (eC (.bool false))) (sNext)) (sNext))) (sSeq (DL.sIf (DL.tOr (DL.tB (e2 dGe (e2 dIdx (eVar 4) (eC (.int 0))) (e1 dLen (eVar 1)))) (DL.tB (e2 dEq (e2 dIdx (eVar 1) (e2 dIdx (eVar 4) (eC (.int 0)))) (e2 dIdx (eVar 4) (eC (.int 1)))))) (sRet (eC (.bool false))) (sNext)) (sSeq (sAsg (e2 dAdd (e2 dAdd (eSlice (eVar 1) oNone (oSome (e2 dIdx (eVar 4) (eC (.int 0))))) (eF fTup (aCons (e2 dIdx (eVar 4) (eC (.int 1))) aNil))) (eSlice (eVar 1) (oSome (e2 dAdd (e2 dIdx (eVar 4) (eC (.int 0))) (eC (.int 1)))) oNone)) (DL.gName 1)) (sSeq (DL.sIf (DL.tB (e2 dNotIn (eVar 1) (eVar 0))) (sRet (eC (.bool false))) (sNext)) (sNext))))))) (sRet (e2 dEq (eVar 1) (eVar 2))))
end PG
/-! K22den -/
set_option Elab.async false
set_option linter.all false
set_option maxRecDepth 100000
set_option maxHeartbeats 4000000

namespace K22
open DL PG
open PySem (PyData Str)
def f_law : List D → R D := runF 1 15 (sSeq (DL.sFor (DL.iRng1 (e2 dMax2 (eC (.int 1)) (e2 dMin2 (eC (.int 3)) (e1 dLen (eVar 0))))) (DL.gName 1) (sSeq (sAsg (eF f__law_drawn (aCons (eF f__law_cell (aCons (eVar 0) (aCons (eVar 1) aNil))) (aCons (eVar 1) aNil))) (DL.gName 2)) (sSeq (sAsg (eF f__law_house (aCons (eVar 2) (aCons (eC (.int 4)) aNil))) (DL.gName 3)) (sSeq (sAsg (eF f__law_plans (aCons (eVar 3) aNil)) (DL.gName 4)) (sSeq (DL.sFor (DL.iRng1 (e2 dMin2 (eC (.int 4)) (e1 dLen (eVar 4)))) (DL.gName 5) (sSeq (sAsg (e2 dIdx (eVar 4) (e2 dMod (eF f__law_drawn (aCons (eVar 2) (aCons (e2 dAdd (eC (.int 10)) (eVar 5)) aNil))) (e1 dLen (eVar 4)))) (DL.gName 6)) (sSeq (sAsg (e2 dIdx (eVar 4) (e2 dMod (eF f__law_drawn (aCons (eVar 2) (aCons (e2 dAdd (eC (.int 20)) (eVar 5)) aNil))) (e1 dLen (eVar 4)))) (DL.gName 7)) (sSeq (sAsg (eTold [] word (eF f_way (aCons (eVar 3) (aCons (eVar 6) (aCons (eVar 7) aNil))))) (DL.gName 8)) (sSeq (sAsg (eIf (DL.tB (e2 dIsNot (eVar 8) (eC (.none)))) (eVar 8) (eF fLst aNil)) (DL.gName 8)) (sSeq (DL.sFor (DL.iRng1 (eC (.int 12))) (DL.gName 9) (sSeq (sAsg (eF f__law_drawn (aCons (eVar 2) (aCons (e2 dAdd (e2 dAdd (eC (.int 30)) (e2 dMulI (eC (.int 20)) (eVar 5))) (eVar 9)) aNil))) (DL.gName 10)) (sSeq (sAsg (e2 dMod (eVar 10) (e2 dAdd (e1 dLen (eVar 8)) (eC (.int 1)))) (DL.gName 11)) (sSeq (sAsg (eF fTup (aCons (e2 dMod (e2 dDiv (eVar 10) (eC (.int 64))) (eC (.int 5))) (aCons (e2 dMod (e2 dDiv (eVar 10) (eC (.int 512))) (eC (.int 4))) aNil))) (DL.gName 12)) (sSeq (sAsg (eF fLst (aCons (e2 dAdd (e2 dAdd (eSlice (eVar 8) oNone (oSome (eVar 11))) (eF fLst (aCons (eVar 12) aNil))) (eSlice (eVar 8) (oSome (eVar 11)) oNone)) (aCons (e2 dAdd (eSlice (eVar 8) oNone (oSome (eVar 11))) (eSlice (eVar 8) (oSome (e2 dAdd (eVar 11) (eC (.int 1)))) oNone)) (aCons (eVar 8) (aCons (e2 dAdd (eVar 8) (eF fLst (aCons (eVar 12) (aCons (eVar 12) aNil)))) aNil))))) (DL.gName 13)) (sSeq (sAsg (e2 dIdx (e2 dAdd (eVar 13) (eF fLst (aCons (e2 dAdd (e2 dAdd (eSlice (eVar 8) oNone (oSome (eVar 11))) (eF fLst (aCons (eVar 12) aNil))) (eSlice (eVar 8) (oSome (e2 dAdd (eVar 11) (eC (.int 1)))) oNone)) (aCons (e1 dRevL (eVar 8)) aNil)))) (e2 dMod (e2 dDiv (eVar 10) (e2 dPow (eC (.int 2)) (eC (.int 20)))) (eC (.int 6)))) (DL.gName 13)) (sSeq (DL.sIf (DL.tB (e2 dEq (e2 dMod (e2 dDiv (eVar 10) (e2 dPow (eC (.int 2)) (eC (.int 30)))) (eC (.int 7))) (eC (.int 0)))) (sSeq (sAsg (e2 dAdd (eVar 13) (eF fLst (aCons (e2 dIdx (eF fLst (aCons (eC (.none)) (aCons (eF fTup (aCons (eC (.int 0)) aNil)) (aCons (eF fLst (aCons (eC (.int 0)) (aCons (eC (.int 0)) aNil))) (aCons (eF fTup (aCons (eC (.int 0)) (aCons (eC (.int 0)) (aCons (eC (.int 0)) aNil)))) (aCons (eF fTup (aCons (eC (.bool true)) (aCons (eC (.int 0)) aNil))) (aCons (eF fTup (aCons (eC (.str "0")) (aCons (eC (.int 0)) aNil))) aNil))))))) (e2 dMod (e2 dDiv (eVar 10) (e2 dPow (eC (.int 2)) (eC (.int 40)))) (eC (.int 6)))) aNil))) (DL.gName 13)) (sNext)) (sNext)) (sSeq (DL.sIf (DL.tB (e2 dNe (eF f_is_way (aCons (eVar 3) (aCons (eVar 6) (aCons (eVar 7) (aCons (eVar 13) aNil))))) (eF f__law_leads (aCons (eVar 4) (aCons (eVar 6) (aCons (eVar 7) (aCons (eVar 13) aNil))))))) (sRet (eC (.bool false))) (sNext)) (sNext))))))))) (sSeq (DL.sFor (DL.iSeq (eF fLst (aCons (eC (.none)) (aCons (eF fTup aNil) (aCons (eC (.str "way")) (aCons (e1 dTuple (eVar 8)) (aCons (eC (.int 5)) aNil))))))) (DL.gName 14) (sSeq (DL.sIf (DL.tB (e2 dIsNot (eF f_is_way (aCons (eVar 3) (aCons (eVar 6) (aCons (eVar 7) (aCons (eVar 14) aNil))))) (eC (.bool false)))) (sRet (eC (.bool false))) (sNext)) (sNext))) (sNext)))))))) (sNext)))))) (sRet (eC (.bool true))))
end K22
/-! K22k -/
set_option Elab.async false
set_option linter.all false
set_option maxRecDepth 100000
set_option maxHeartbeats 4000000

namespace K22
open DL PG
open PySem PySem.Spec PyProof.Rows L2
variable [Tb]
abbrev top (i : Nat) : Stmt := PySem.Challenge.pw_changeway_k22_whole_ways_judged.main.body.getD i (.Pass ⟨0, 0, 0, 0⟩)
structure Txt [Tb] (w : World) (K : Frag) (mg : Str → Option Value) (d_LENGTHS : Addr) : Prop where
  b_ValueError : mg "ValueError" = none
  b_all : mg "all" = none
  b_bool : mg "bool" = none
  b_enumerate : mg "enumerate" = none
  b_int : mg "int" = none
  b_isinstance : mg "isinstance" = none
  b_len : mg "len" = none
  b_list : mg "list" = none
  b_max : mg "max" = none
  b_min : mg "min" = none
  b_range : mg "range" = none
  b_sorted : mg "sorted" = none
  b_str : mg "str" = none
  b_sum : mg "sum" = none
  b_tuple : mg "tuple" = none
  c_MOST_COLOURS : ∃ t, mg "MOST_COLOURS" = some (.int 4 t)
  c_MOST_PLACES : ∃ t, mg "MOST_PLACES" = some (.int 5 t)
  c_MOST_RULES : ∃ t, mg "MOST_RULES" = some (.int 8 t)
  g_LENGTHS : mg "LENGTHS" = some (.ref d_LENGTHS)
  tab_LENGTHS : KTab K w d_LENGTHS t_LENGTHS
  excC : ∀ e, ExcC K (Tb.A e)
  exm : ∀ e, PySem.W.exmOne K (.ref (Tb.A e)) (.ref (Tb.A .way)) = some true
  x_WayError : mg "WayError" = some (.ref (Tb.A .way))
  kit_ValueError : ∀ e, PySem.W.kitOne K (.ref (Tb.A e)) (.type "ValueError") = some true
  x_BadChange : mg "BadChange" = some (.ref (Tb.A .change))
  xk_BadChange : ExcK K mg "BadChange" (Tb.A .change) "ValueError" "ValueError.__new__" "ValueError.__init__" [.type "ValueError", .type "Exception", .type "BaseException", .type "object"]
  tx_BadChange : ∀ e, PySem.W.exmOne K (.ref (Tb.A e)) (.ref (Tb.A .change)) = some (isX .change e)
  kit_BadChange : ∀ e, PySem.W.kitOne K (.ref (Tb.A e)) (.ref (Tb.A .change)) = some (isX .change e)
  x_BadHouse : mg "BadHouse" = some (.ref (Tb.A .house))
  xk_BadHouse : ExcK K mg "BadHouse" (Tb.A .house) "ValueError" "ValueError.__new__" "ValueError.__init__" [.type "ValueError", .type "Exception", .type "BaseException", .type "object"]
  kit_BadHouse : ∀ e, PySem.W.kitOne K (.ref (Tb.A e)) (.ref (Tb.A .house)) = some (isX .house e)
  x_BadNumber : mg "BadNumber" = some (.ref (Tb.A .number))
  kit_BadNumber : ∀ e, PySem.W.kitOne K (.ref (Tb.A e)) (.ref (Tb.A .number)) = some (isX .number e)
  x_BadPlan : mg "BadPlan" = some (.ref (Tb.A .plan))
  xk_BadPlan : ExcK K mg "BadPlan" (Tb.A .plan) "ValueError" "ValueError.__new__" "ValueError.__init__" [.type "ValueError", .type "Exception", .type "BaseException", .type "object"]
  kit_BadPlan : ∀ e, PySem.W.kitOne K (.ref (Tb.A e)) (.ref (Tb.A .plan)) = some (isX .plan e)
  x_BadText : mg "BadText" = some (.ref (Tb.A .text))
  kit_BadText : ∀ e, PySem.W.kitOne K (.ref (Tb.A e)) (.ref (Tb.A .text)) = some (isX .text e)
  x_NotLoose : mg "NotLoose" = some (.ref (Tb.A .loose))
  kit_NotLoose : ∀ e, PySem.W.kitOne K (.ref (Tb.A e)) (.ref (Tb.A .loose)) = some (isX .loose e)
abbrev N_is_count : List Str := ["thing", "low", "high"]
theorem sc_is_count : FnScope N_is_count ["thing", "low", "high"] (defScope (top 13)) := ⟨rfl, rfl, rfl, by decide +kernel, rfl, by decide +kernel, by decide +kernel⟩
abbrev N_is_rule : List Str := ["thing", "places", "colours", "one", "spots", "tints", "good"]
theorem sc_is_rule : FnScope N_is_rule ["thing", "places", "colours"] (defScope (top 14)) := ⟨rfl, rfl, rfl, by decide +kernel, rfl, by decide +kernel, by decide +kernel⟩
abbrev N_is_house : List Str := ["thing", "rule"]
theorem sc_is_house : FnScope N_is_house ["thing"] (defScope (top 15)) := ⟨rfl, rfl, rfl, by decide +kernel, rfl, by decide +kernel, by decide +kernel⟩
abbrev N_need_house : List Str := ["house"]
theorem sc_need_house : FnScope N_need_house ["house"] (defScope (top 16)) := ⟨rfl, rfl, rfl, by decide +kernel, rfl, by decide +kernel, by decide +kernel⟩
abbrev N_is_plan : List Str := ["house", "plan", "colour"]
theorem sc_is_plan : FnScope N_is_plan ["house", "plan"] (defScope (top 17)) := ⟨rfl, rfl, rfl, by decide +kernel, rfl, by decide +kernel, by decide +kernel⟩
abbrev N_is_kept : List Str := ["rule", "plan", "word", "many"]
theorem sc_is_kept : FnScope N_is_kept ["rule", "plan"] (defScope (top 18)) := ⟨rfl, rfl, rfl, by decide +kernel, rfl, by decide +kernel, by decide +kernel⟩
abbrev N_is_let : List Str := ["house", "plan", "rule"]
theorem sc_is_let : FnScope N_is_let ["house", "plan"] (defScope (top 19)) := ⟨rfl, rfl, rfl, by decide +kernel, rfl, by decide +kernel, by decide +kernel⟩
abbrev N_need_plan : List Str := ["house", "plan"]
theorem sc_need_plan : FnScope N_need_plan ["house", "plan"] (defScope (top 20)) := ⟨rfl, rfl, rfl, by decide +kernel, rfl, by decide +kernel, by decide +kernel⟩
abbrev N_need_let : List Str := ["house", "plan"]
theorem sc_need_let : FnScope N_need_let ["house", "plan"] (defScope (top 21)) := ⟨rfl, rfl, rfl, by decide +kernel, rfl, by decide +kernel, by decide +kernel⟩
abbrev N_after : List Str := ["plan", "change"]
theorem sc_after : FnScope N_after ["plan", "change"] (defScope (top 23)) := ⟨rfl, rfl, rfl, by decide +kernel, rfl, by decide +kernel, by decide +kernel⟩
abbrev N_let_changes : List Str := ["house", "plan", "found", "place", "colour"]
theorem sc_let_changes : FnScope N_let_changes ["house", "plan"] (defScope (top 24)) := ⟨rfl, rfl, rfl, by decide +kernel, rfl, by decide +kernel, by decide +kernel⟩
abbrev N_is_change : List Str := ["house", "thing", "good"]
theorem sc_is_change : FnScope N_is_change ["house", "thing"] (defScope (top 25)) := ⟨rfl, rfl, rfl, by decide +kernel, rfl, by decide +kernel, by decide +kernel⟩
abbrev N_changed : List Str := ["house", "plan", "change"]
theorem sc_changed : FnScope N_changed ["house", "plan", "change"] (defScope (top 26)) := ⟨rfl, rfl, rfl, by decide +kernel, rfl, by decide +kernel, by decide +kernel⟩
abbrev N_reached : List Str := ["house", "plan", "found", "row", "at", "change", "later"]
theorem sc_reached : FnScope N_reached ["house", "plan"] (defScope (top 27)) := ⟨rfl, rfl, rfl, by decide +kernel, rfl, by decide +kernel, by decide +kernel⟩
abbrev N_way : List Str := ["house", "one", "other", "found", "row", "change"]
theorem sc_way : FnScope N_way ["house", "one", "other"] (defScope (top 28)) := ⟨rfl, rfl, rfl, by decide +kernel, rfl, by decide +kernel, by decide +kernel⟩
abbrev N_walked : List Str := ["house", "plan", "row", "found", "change"]
theorem sc_walked : FnScope N_walked ["house", "plan", "row"] (defScope (top 29)) := ⟨rfl, rfl, rfl, by decide +kernel, rfl, by decide +kernel, by decide +kernel⟩
abbrev N_is_way : List Str := ["house", "one", "other", "row", "found"]
theorem sc_is_way : FnScope N_is_way ["house", "one", "other", "row"] (defScope (top 30)) := ⟨rfl, rfl, rfl, by decide +kernel, rfl, by decide +kernel, by decide +kernel⟩
abbrev N__law_cell : List Str := ["_law_script", "_law_k"]
theorem sc__law_cell : FnScope N__law_cell ["_law_script", "_law_k"] (defScope (top 32)) := ⟨rfl, rfl, rfl, by decide +kernel, rfl, by decide +kernel, by decide +kernel⟩
abbrev N__law_drawn : List Str := ["_law_cell_here", "_law_k", "_law_more"]
theorem sc__law_drawn : FnScope N__law_drawn ["_law_cell_here", "_law_k"] (defScope (top 33)) := ⟨rfl, rfl, rfl, by decide +kernel, rfl, by decide +kernel, by decide +kernel⟩
abbrev N__law_word : List Str := ["_law_e", "_law_flags", "_law_flag"]
theorem sc__law_word : FnScope N__law_word ["_law_e"] (defScope (top 34)) := ⟨rfl, rfl, rfl, by decide +kernel, rfl, by decide +kernel, by decide +kernel⟩
abbrev N__law_rule : List Str := ["_law_more", "_law_places", "_law_colours", "_law_here", "_law_p", "_law_q", "_law_c", "_law_d", "_law_kind", "_law_first", "_law_second"]
theorem sc__law_rule : FnScope N__law_rule ["_law_more", "_law_places", "_law_colours"] (defScope (top 36)) := ⟨rfl, rfl, rfl, by decide +kernel, rfl, by decide +kernel, by decide +kernel⟩
abbrev N__law_house : List Str := ["_law_more", "_law_most", "_law_places", "_law_colours", "_law_many_here", "_law_rules", "_law_j"]
theorem sc__law_house : FnScope N__law_house ["_law_more", "_law_most"] (defScope (top 37)) := ⟨rfl, rfl, rfl, by decide +kernel, rfl, by decide +kernel, by decide +kernel⟩
abbrev N__law_keeps : List Str := ["_law_rule_here", "_law_plan", "_law_word_here", "_law_first", "_law_second", "_law_same", "_law_at", "_law_colour"]
theorem sc__law_keeps : FnScope N__law_keeps ["_law_rule_here", "_law_plan"] (defScope (top 38)) := ⟨rfl, rfl, rfl, by decide +kernel, rfl, by decide +kernel, by decide +kernel⟩
abbrev N__law_many : List Str := ["_law_places", "_law_colours", "_law_found", "_law_turn"]
theorem sc__law_many : FnScope N__law_many ["_law_places", "_law_colours"] (defScope (top 40)) := ⟨rfl, rfl, rfl, by decide +kernel, rfl, by decide +kernel, by decide +kernel⟩
abbrev N__law_plans : List Str := ["_law_house_here", "_law_places", "_law_colours", "_law_rules", "_law_found", "_law_number", "_law_plan", "_law_left", "_law_turn", "_law_rule_here"]
theorem sc__law_plans : FnScope N__law_plans ["_law_house_here"] (defScope (top 39)) := ⟨rfl, rfl, rfl, by decide +kernel, rfl, by decide +kernel, by decide +kernel⟩
abbrev N__law_leads : List Str := ["_law_every", "_law_one", "_law_other", "_law_row", "_law_change", "_law_part"]
theorem sc__law_leads : FnScope N__law_leads ["_law_every", "_law_one", "_law_other", "_law_row"] (defScope (top 41)) := ⟨rfl, rfl, rfl, by decide +kernel, rfl, by decide +kernel, by decide +kernel⟩
abbrev N_law : List Str := ["_law_script", "_law_k", "_law_more", "_law_house_here", "_law_every", "_law_j", "_law_one", "_law_other", "_law_least", "_law_n", "_law_here", "_law_at", "_law_put", "_law_row", "_law_bad"]
theorem sc_law : FnScope N_law ["_law_script"] (defScope (top 42)) := ⟨rfl, rfl, rfl, by decide +kernel, rfl, by decide +kernel, by decide +kernel⟩
abbrev N__law_told : List Str := ["_law_deed", "_law_e"]
theorem sc__law_told : FnScope N__law_told ["_law_deed"] (defScope (top 35)) := ⟨rfl, rfl, rfl, by decide +kernel, rfl, by decide +kernel, by decide +kernel⟩
section
variable {P : Program} {w : World} {K : Frag} {mg : Str → Option Value} {base : Heap} {d_LENGTHS : Addr}
theorem k_is_count (T : Txt w K mg d_LENGTHS)  {f : Addr} {fd : FuncData} (F : Fun K "is_count" "is_count" (top 13) f fd) (hm : mg "is_count" = some (.ref f)) : CalD P w K mg base 1 "is_count" f_is_count :=
  cal_def (k := 0) (fl' := []) F hm (F.binds (ps := ["thing", "low", "high"]) fun _ _ _ _ _ _ us hl => match us, hl with | [_, _, _], _ => rfl) sc_is_count fun cdv A outer s H E b => have S := sc_is_count; (jss_one (js_ret (jd_and (jd_isi kits_int (jv_var (i := 0)) rfl T.b_isinstance rfl T.b_int (by decide +kernel)) (jd_and (jd_not (jd_isi kits_bool (jv_var (i := 0)) rfl T.b_isinstance rfl T.b_bool (by decide +kernel))) (jd_one (kChain cLe cLe (jv_var (i := 1)) (jv_var (i := 0)) (jv_var (i := 2))))))))
theorem k_is_rule (T : Txt w K mg d_LENGTHS) (c_is_count : CalD P w K mg base 1 "is_count" f_is_count) {f : Addr} {fd : FuncData} (F : Fun K "is_rule" "is_rule" (top 14) f fd) (hm : mg "is_rule" = some (.ref f)) : CalD P w K mg base 2 "is_rule" f_is_rule :=
  cal_def (k := 1) (fl' := []) F hm (F.binds (ps := ["thing", "places", "colours"]) fun _ _ _ _ _ _ us hl => match us, hl with | [_, _, _], _ => rfl) sc_is_rule fun cdv A outer s H E b => have S := sc_is_rule; (jss_cons (js_if (JW.t (jt_or (jt_not (jt_tru (JD.v (jd_isi kits_tuple (jv_var (i := 0)) rfl T.b_isinstance rfl T.b_tuple (by decide +kernel))))) (jt_or (zCmp (cEq b.hu) (jv_var (i := 0)) (JD.v (jd_tup ja_nil (by decide) (len_lim len_nil)))) (jt_or1 (jt_not (jt_tru (JD.v (jd_isi kits_str (JD.v (jd_idx b.hu1 (jv_var (i := 0)) (JD.v jd_int))) rfl T.b_isinstance rfl T.b_str (by decide +kernel))))))))) (jss_one (js_ret jd_bl)) jss_nil) (jss_cons (js_if (JW.t (jt_or (jt_notInTab T.tab_LENGTHS (JD.v (jd_idx b.hu1 (jv_var (i := 0)) (JD.v jd_int))) rfl T.g_LENGTHS) (jt_or1 (zCmp (cNe b.hu) (JD.v (kLen rfl T.b_len (jv_var (i := 0)))) (JD.v (jd_tabAt T.tab_LENGTHS (JD.v (jd_idx b.hu1 (jv_var (i := 0)) (JD.v jd_int))) rfl T.g_LENGTHS)))))) (jss_one (js_ret jd_bl)) jss_nil) (jss_cons (js_if (zCmp (cIn b.hu) (JD.v (jd_idx b.hu1 (jv_var (i := 0)) (JD.v jd_int))) (JD.v (jd_tup (ja_cons jd_str (ja_cons jd_str ja_nil)) (by decide) (len_lim (len_cons (len_cons len_nil)))))) (jss_one (js_ret (jd_and (kAll rfl rfl T.b_all (JN.v (jn_comp rfl S.nd (ji_seq (jd_slice (jv_var (i := 0)) (jo_some (JD.v jd_int)) jo_none)) (blkOk_by (N := N_is_rule) (sc := defScope (top 14)) (by decide +kernel)) (own := [("one", 3)]) rfl gin_name (flout (by decide)) (fun _ _ _ _ _ => (jg_name S.nd (i := 3))) (fun _ _ _ _ _ => jts_nil) (fun _ _ _ _ _ => (jd_call c_is_count takes0N b.hr (by omega) rfl (ja_cons (jd_var (i := 3)) (ja_cons jd_int (ja_cons (kBin oSub (jv_var (i := 1)) (JD.v jd_int)) ja_nil)))))))) (jd_one (kCmp (cLt b.hu) (JD.v (jd_idx b.hu1 (jv_var (i := 0)) (JD.v jd_int))) (JD.v (jd_idx b.hu1 (jv_var (i := 0)) (JD.v jd_int)))))))) jss_nil) (jss_cons (js_if (zCmp (cIn b.hu) (JD.v (jd_idx b.hu1 (jv_var (i := 0)) (JD.v jd_int))) (JD.v (jd_tup (ja_cons jd_str (ja_cons jd_str ja_nil)) (by decide) (len_lim (len_cons (len_cons len_nil)))))) (jss_one (js_ret (jd_and (jd_call c_is_count b.tk b.hr (by omega) rfl (ja_cons (jd_idx b.hu1 (jv_var (i := 0)) (JD.v jd_int)) (ja_cons jd_int (ja_cons (kBin oSub (jv_var (i := 2)) (JD.v jd_int)) ja_nil)))) (jd_one (jd_call c_is_count b.tk b.hr (by omega) rfl (ja_cons (jd_idx b.hu1 (jv_var (i := 0)) (JD.v jd_int)) (ja_cons jd_int (ja_cons (jd_var (i := 1)) ja_nil)))))))) jss_nil) (jss_cons (js_par (i := 4) (j := 5) rfl S.nd (jd_step (jv_var (i := 0)) jo_int jo_non jo_int) (jd_step (jv_var (i := 0)) jo_int jo_non jo_int)) (jss_cons (js_asg (vs := [6]) (kAll rfl rfl T.b_all (JN.v (jn_comp rfl S.nd (ji_seq (jd_var (i := 4))) (blkOk_by (N := N_is_rule) (sc := defScope (top 14)) (by decide +kernel)) (own := [("one", 3)]) rfl gin_name (flout (by decide)) (fun _ _ _ _ _ => (jg_name S.nd (i := 3))) (fun _ _ _ _ _ => jts_nil) (fun _ _ _ _ _ => (jd_call c_is_count takes0N b.hr (by omega) rfl (ja_cons (jd_var (i := 3)) (ja_cons jd_int (ja_cons (kBin oSub (jv_var (i := 1)) (JD.v jd_int)) ja_nil)))))))) (jg_name S.nd (i := 6))) (jss_cons (js_asg (vs := [6]) (jd_and (jd_var (i := 6)) (jd_one (kAll rfl rfl T.b_all (JN.v (jn_comp rfl S.nd (ji_seq (jd_var (i := 5))) (blkOk_by (N := N_is_rule) (sc := defScope (top 14)) (by decide +kernel)) (own := [("one", 3)]) rfl gin_name (flout (by decide)) (fun _ _ _ _ _ => (jg_name S.nd (i := 3))) (fun _ _ _ _ _ => jts_nil) (fun _ _ _ _ _ => (jd_call c_is_count takes0N b.hr (by omega) rfl (ja_cons (jd_var (i := 3)) (ja_cons jd_int (ja_cons (kBin oSub (jv_var (i := 2)) (JD.v jd_int)) ja_nil)))))))))) (jg_name S.nd (i := 6))) (jss_one (js_ret (jd_and (jd_var (i := 6)) (jd_one (jd_or (kCmp (cEq b.hu) (JD.v (jd_idx b.hu1 (jv_var (i := 0)) (JD.v jd_int))) (JD.v jd_str)) (jd_one (kCmp (cLt b.hu) (JD.v (jd_slice (jv_var (i := 0)) (jo_some (JD.v jd_int)) (jo_some (JD.v jd_int)))) (JD.v (jd_slice (jv_var (i := 0)) (jo_some (JD.v jd_int)) jo_none))))))))))))))))
theorem k_is_house (T : Txt w K mg d_LENGTHS) (c_is_count : CalD P w K mg base 1 "is_count" f_is_count) (c_is_rule : CalD P w K mg base 2 "is_rule" f_is_rule) {f : Addr} {fd : FuncData} (F : Fun K "is_house" "is_house" (top 15) f fd) (hm : mg "is_house" = some (.ref f)) : CalD P w K mg base 3 "is_house" f_is_house :=
  cal_def (k := 2) (fl' := []) F hm (F.binds (ps := ["thing"]) fun _ _ _ _ _ _ us hl => match us, hl with | [_], _ => rfl) sc_is_house fun cdv A outer s H E b => have S := sc_is_house; (jss_cons (js_if (JW.t (jt_or (jt_not (jt_tru (JD.v (jd_isi kits_tuple (jv_var (i := 0)) rfl T.b_isinstance rfl T.b_tuple (by decide +kernel))))) (jt_or (zCmp (cNe b.hu) (JD.v (kLen rfl T.b_len (jv_var (i := 0)))) (JD.v jd_int)) (jt_or1 (jt_not (jt_tru (JD.v (jd_call c_is_count b.tk b.hr (by omega) rfl (ja_cons (jd_idx b.hu1 (jv_var (i := 0)) (JD.v jd_int)) (ja_cons jd_int (ja_cons (jd_globI rfl T.c_MOST_PLACES) ja_nil))))))))))) (jss_one (js_ret jd_bl)) jss_nil) (jss_cons (js_if (JW.t (jt_or (jt_not (jt_tru (JD.v (jd_call c_is_count b.tk b.hr (by omega) rfl (ja_cons (jd_idx b.hu1 (jv_var (i := 0)) (JD.v jd_int)) (ja_cons jd_int (ja_cons (jd_globI rfl T.c_MOST_COLOURS) ja_nil))))))) (jt_or (jt_not (jt_tru (JD.v (jd_isi kits_tuple (JD.v (jd_idx b.hu1 (jv_var (i := 0)) (JD.v jd_int))) rfl T.b_isinstance rfl T.b_tuple (by decide +kernel))))) (jt_or1 (zCmp cGt (JD.v (kLen rfl T.b_len (JD.v (jd_idx b.hu1 (jv_var (i := 0)) (JD.v jd_int))))) (JD.v (jd_globI rfl T.c_MOST_RULES))))))) (jss_one (js_ret jd_bl)) jss_nil) (jss_one (js_ret (kAll rfl rfl T.b_all (JN.v (jn_comp rfl S.nd (ji_seq (jd_idx b.hu1 (jv_var (i := 0)) (JD.v jd_int))) (blkOk_by (N := N_is_house) (sc := defScope (top 15)) (by decide +kernel)) (own := [("rule", 1)]) rfl gin_name (flout (by decide)) (fun _ _ _ _ _ => (jg_name S.nd (i := 1))) (fun _ _ _ _ _ => jts_nil) (fun _ _ _ _ _ => (jd_call c_is_rule takes0N b.hr (by omega) rfl (ja_cons (jd_var (i := 1)) (ja_cons (jd_idx b.hu1 (jv_var (i := 0)) (JD.v jd_int)) (ja_cons (jd_idx b.hu1 (jv_var (i := 0)) (JD.v jd_int)) ja_nil))))))))))))
theorem k_need_house (T : Txt w K mg d_LENGTHS) (c_is_house : CalD P w K mg base 3 "is_house" f_is_house) {f : Addr} {fd : FuncData} (F : Fun K "need_house" "need_house" (top 16) f fd) (hm : mg "need_house" = some (.ref f)) : CalD P w K mg base 4 "need_house" f_need_house :=
  cal_def (k := 3) (fl' := []) F hm (F.binds (ps := ["house"]) fun _ _ _ _ _ _ us hl => match us, hl with | [_], _ => rfl) sc_need_house fun cdv A outer s H E b => have S := sc_need_house; (jss_cons (js_if (jt_not (jt_tru (JD.v (jd_call c_is_house b.tk b.hr (by omega) rfl (ja_cons (jd_var (i := 0)) ja_nil))))) (jss_one (js_raise .house T.xk_BadHouse rfl rfl b.tk rfl)) jss_nil) jss_nil)
theorem k_is_plan (T : Txt w K mg d_LENGTHS) (c_is_count : CalD P w K mg base 1 "is_count" f_is_count) {f : Addr} {fd : FuncData} (F : Fun K "is_plan" "is_plan" (top 17) f fd) (hm : mg "is_plan" = some (.ref f)) : CalD P w K mg base 2 "is_plan" f_is_plan :=
  cal_def (k := 1) (fl' := []) F hm (F.binds (ps := ["house", "plan"]) fun _ _ _ _ _ _ us hl => match us, hl with | [_, _], _ => rfl) sc_is_plan fun cdv A outer s H E b => have S := sc_is_plan; (jss_cons (js_if (JW.t (jt_or (jt_not (jt_tru (JD.v (jd_isi kits_tuple (jv_var (i := 1)) rfl T.b_isinstance rfl T.b_tuple (by decide +kernel))))) (jt_or1 (zCmp (cNe b.hu) (JD.v (kLen rfl T.b_len (jv_var (i := 1)))) (JD.v (jd_idx b.hu1 (jv_var (i := 0)) (JD.v jd_int))))))) (jss_one (js_ret jd_bl)) jss_nil) (jss_one (js_ret (kAll rfl rfl T.b_all (JN.v (jn_comp rfl S.nd (ji_seq (jd_var (i := 1))) (blkOk_by (N := N_is_plan) (sc := defScope (top 17)) (by decide +kernel)) (own := [("colour", 2)]) rfl gin_name (flout (by decide)) (fun _ _ _ _ _ => (jg_name S.nd (i := 2))) (fun _ _ _ _ _ => jts_nil) (fun _ _ _ _ _ => (jd_call c_is_count takes0N b.hr (by omega) rfl (ja_cons (jd_var (i := 2)) (ja_cons jd_int (ja_cons (kBin oSub (JD.v (jd_idx b.hu1 (jv_var (i := 0)) (JD.v jd_int))) (JD.v jd_int)) ja_nil)))))))))))
theorem k_is_kept (T : Txt w K mg d_LENGTHS)  {f : Addr} {fd : FuncData} (F : Fun K "is_kept" "is_kept" (top 18) f fd) (hm : mg "is_kept" = some (.ref f)) : CalD P w K mg base 1 "is_kept" f_is_kept :=
  cal_def (k := 0) (fl' := []) F hm (F.binds (ps := ["rule", "plan"]) fun _ _ _ _ _ _ us hl => match us, hl with | [_, _], _ => rfl) sc_is_kept fun cdv A outer s H E b => have S := sc_is_kept; (jss_cons (js_asg (vs := [2]) (jd_idx b.hu1 (jv_var (i := 0)) (JD.v jd_int)) (jg_name S.nd (i := 2))) (jss_cons (js_if (zCmp (cEq b.hu) (jv_var (i := 2)) (JD.v jd_str)) (jss_one (js_ret (kCmp (cNe b.hu) (JD.v (jd_idx b.hu1 (jv_var (i := 1)) (JD.v (jd_idx b.hu1 (jv_var (i := 0)) (JD.v jd_int))))) (JD.v (jd_idx b.hu1 (jv_var (i := 1)) (JD.v (jd_idx b.hu1 (jv_var (i := 0)) (JD.v jd_int)))))))) jss_nil) (jss_cons (js_if (zCmp (cEq b.hu) (jv_var (i := 2)) (JD.v jd_str)) (jss_one (js_ret (kCmp (cEq b.hu) (JD.v (jd_idx b.hu1 (jv_var (i := 1)) (JD.v (jd_idx b.hu1 (jv_var (i := 0)) (JD.v jd_int))))) (JD.v (jd_idx b.hu1 (jv_var (i := 1)) (JD.v (jd_idx b.hu1 (jv_var (i := 0)) (JD.v jd_int)))))))) jss_nil) (jss_cons (js_if (zCmp (cEq b.hu) (jv_var (i := 2)) (JD.v jd_str)) (jss_one (js_ret (kCmp (cNe b.hu) (JD.v (jd_idx b.hu1 (jv_var (i := 1)) (JD.v (jd_idx b.hu1 (jv_var (i := 0)) (JD.v jd_int))))) (JD.v (jd_idx b.hu1 (jv_var (i := 0)) (JD.v jd_int)))))) jss_nil) (jss_cons (js_if (zCmp (cEq b.hu) (jv_var (i := 2)) (JD.v jd_str)) (jss_one (js_ret (jd_or (kCmp (cEq b.hu) (JD.v (jd_idx b.hu1 (jv_var (i := 1)) (JD.v (jd_idx b.hu1 (jv_var (i := 0)) (JD.v jd_int))))) (JD.v (jd_idx b.hu1 (jv_var (i := 0)) (JD.v jd_int)))) (jd_one (kCmp (cEq b.hu) (JD.v (jd_idx b.hu1 (jv_var (i := 1)) (JD.v (jd_idx b.hu1 (jv_var (i := 0)) (JD.v jd_int))))) (JD.v (jd_idx b.hu1 (jv_var (i := 0)) (JD.v jd_int)))))))) jss_nil) (jss_cons (js_asg (vs := [3]) (jd_count (jv_var (i := 1)) (JD.v (jd_idx b.hu1 (jv_var (i := 0)) (JD.v jd_int)))) (jg_name S.nd (i := 3))) (jss_one (js_ret (jd_if (zCmp (cEq b.hu) (jv_var (i := 2)) (JD.v jd_str)) (kCmp cLe (jv_var (i := 3)) (JD.v (jd_idx b.hu1 (jv_var (i := 0)) (JD.v jd_int)))) (kCmp cGe (jv_var (i := 3)) (JD.v (jd_idx b.hu1 (jv_var (i := 0)) (JD.v jd_int)))))))))))))
theorem k_is_let (T : Txt w K mg d_LENGTHS) (c_is_kept : CalD P w K mg base 1 "is_kept" f_is_kept) {f : Addr} {fd : FuncData} (F : Fun K "is_let" "is_let" (top 19) f fd) (hm : mg "is_let" = some (.ref f)) : CalD P w K mg base 2 "is_let" f_is_let :=
  cal_def (k := 1) (fl' := []) F hm (F.binds (ps := ["house", "plan"]) fun _ _ _ _ _ _ us hl => match us, hl with | [_, _], _ => rfl) sc_is_let fun cdv A outer s H E b => have S := sc_is_let; (jss_one (js_ret (kAll rfl rfl T.b_all (JN.v (jn_comp rfl S.nd (ji_seq (jd_idx b.hu1 (jv_var (i := 0)) (JD.v jd_int))) (blkOk_by (N := N_is_let) (sc := defScope (top 19)) (by decide +kernel)) (own := [("rule", 2)]) rfl gin_name (flout (by decide)) (fun _ _ _ _ _ => (jg_name S.nd (i := 2))) (fun _ _ _ _ _ => jts_nil) (fun _ _ _ _ _ => (jd_call c_is_kept takes0N b.hr (by omega) rfl (ja_cons (jd_var (i := 2)) (ja_cons (jd_var (i := 1)) ja_nil)))))))))
theorem k_need_plan (T : Txt w K mg d_LENGTHS) (c_is_plan : CalD P w K mg base 2 "is_plan" f_is_plan) {f : Addr} {fd : FuncData} (F : Fun K "need_plan" "need_plan" (top 20) f fd) (hm : mg "need_plan" = some (.ref f)) : CalD P w K mg base 3 "need_plan" f_need_plan :=
  cal_def (k := 2) (fl' := []) F hm (F.binds (ps := ["house", "plan"]) fun _ _ _ _ _ _ us hl => match us, hl with | [_, _], _ => rfl) sc_need_plan fun cdv A outer s H E b => have S := sc_need_plan; (jss_cons (js_if (jt_not (jt_tru (JD.v (jd_call c_is_plan b.tk b.hr (by omega) rfl (ja_cons (jd_var (i := 0)) (ja_cons (jd_var (i := 1)) ja_nil)))))) (jss_one (js_raise .plan T.xk_BadPlan rfl rfl b.tk rfl)) jss_nil) jss_nil)
theorem k_need_let (T : Txt w K mg d_LENGTHS) (c_need_plan : CalD P w K mg base 3 "need_plan" f_need_plan) (c_is_let : CalD P w K mg base 2 "is_let" f_is_let) {f : Addr} {fd : FuncData} (F : Fun K "need_let" "need_let" (top 21) f fd) (hm : mg "need_let" = some (.ref f)) : CalD P w K mg base 4 "need_let" f_need_let :=
  cal_def (k := 3) (fl' := []) F hm (F.binds (ps := ["house", "plan"]) fun _ _ _ _ _ _ us hl => match us, hl with | [_, _], _ => rfl) sc_need_let fun cdv A outer s H E b => have S := sc_need_let; (jss_cons (js_expr (jd_call c_need_plan b.tk b.hr (by omega) rfl (ja_cons (jd_var (i := 0)) (ja_cons (jd_var (i := 1)) ja_nil)))) (jss_cons (js_if (jt_not (jt_tru (JD.v (jd_call c_is_let b.tk b.hr (by omega) rfl (ja_cons (jd_var (i := 0)) (ja_cons (jd_var (i := 1)) ja_nil)))))) (jss_one (js_raise .plan T.xk_BadPlan rfl rfl b.tk rfl)) jss_nil) jss_nil))
theorem k_after (T : Txt w K mg d_LENGTHS)  {f : Addr} {fd : FuncData} (F : Fun K "after" "after" (top 23) f fd) (hm : mg "after" = some (.ref f)) : CalD P w K mg base 1 "after" f_after :=
  cal_def (k := 0) (fl' := []) F hm (F.binds (ps := ["plan", "change"]) fun _ _ _ _ _ _ us hl => match us, hl with | [_, _], _ => rfl) sc_after fun cdv A outer s H E b => have S := sc_after; (jss_one (js_ret (kBin oAdd (JD.v (kBin oAdd (JD.v (jd_slice (jv_var (i := 0)) jo_none (jo_some (JD.v (jd_idx b.hu1 (jv_var (i := 1)) (JD.v jd_int)))))) (JD.v (jd_tup (ja_cons (jd_idx b.hu1 (jv_var (i := 1)) (JD.v jd_int)) ja_nil) (by decide) (len_lim (len_cons len_nil)))))) (JD.v (jd_slice (jv_var (i := 0)) (jo_some (JD.v (kBin oAdd (JD.v (jd_idx b.hu1 (jv_var (i := 1)) (JD.v jd_int))) (JD.v jd_int)))) jo_none)))))
theorem k_let_changes (T : Txt w K mg d_LENGTHS) (c_is_let : CalD P w K mg base 2 "is_let" f_is_let) (c_after : CalD P w K mg base 1 "after" f_after) {f : Addr} {fd : FuncData} (F : Fun K "let_changes" "let_changes" (top 24) f fd) (hm : mg "let_changes" = some (.ref f)) : CalD P w K mg base 3 "let_changes" f_let_changes :=
  cal_def (k := 2) (fl' := []) F hm (F.binds (ps := ["house", "plan"]) fun _ _ _ _ _ _ us hl => match us, hl with | [_, _], _ => rfl) sc_let_changes fun cdv A outer s H E b => have S := sc_let_changes; (jss_cons (js_setN (i := 2) S.nd (jn_lst ja_nil (len_lim len_nil))) (jss_cons (js_for (pr := false) b.po rfl (ji_rng1 (jd_idx b.hu1 (jv_var (i := 0)) (JD.v jd_int)) rfl T.b_range) (vs := [3]) (jg_name S.nd (i := 3)) (jss_cons (js_for (pr := false) b.po rfl (ji_rng1 (jd_idx b.hu1 (jv_var (i := 0)) (JD.v jd_int)) rfl T.b_range) (vs := [4]) (jg_name S.nd (i := 4)) (jss_cons (js_if (JW.t (jt_and (zCmp (cNe b.hu) (jv_var (i := 4)) (JD.v (jd_idx b.hu1 (jv_var (i := 1)) (jv_var (i := 3))))) (jt_and1 (jt_tru (JD.v (jd_call c_is_let b.tk b.hr (by omega) rfl (ja_cons (jd_var (i := 0)) (ja_cons (jd_call c_after b.tk b.hr (by omega) rfl (ja_cons (jd_var (i := 1)) (ja_cons (jd_tup (ja_cons (jd_var (i := 3)) (ja_cons (jd_var (i := 4)) ja_nil)) (by decide) (len_lim (len_cons (len_cons len_nil)))) ja_nil))) ja_nil)))))))) (jss_cons (js_app (i := 2) (by decide) (jd_tup (ja_cons (jd_var (i := 3)) (ja_cons (jd_var (i := 4)) ja_nil)) (by decide) (len_lim (len_cons (len_cons len_nil))))) jss_nil) jss_nil) jss_nil)) jss_nil)) (jss_frz (fl1 := []) 2 (jss_one (js_ret (jd_var (i := 2)))))))
theorem k_is_change (T : Txt w K mg d_LENGTHS) (c_is_count : CalD P w K mg base 1 "is_count" f_is_count) {f : Addr} {fd : FuncData} (F : Fun K "is_change" "is_change" (top 25) f fd) (hm : mg "is_change" = some (.ref f)) : CalD P w K mg base 2 "is_change" f_is_change :=
  cal_def (k := 1) (fl' := []) F hm (F.binds (ps := ["house", "thing"]) fun _ _ _ _ _ _ us hl => match us, hl with | [_, _], _ => rfl) sc_is_change fun cdv A outer s H E b => have S := sc_is_change; (jss_cons (js_asg (vs := [2]) (jd_and (jd_isi kits_tuple (jv_var (i := 1)) rfl T.b_isinstance rfl T.b_tuple (by decide +kernel)) (jd_one (kCmp (cEq b.hu) (JD.v (kLen rfl T.b_len (jv_var (i := 1)))) (JD.v jd_int)))) (jg_name S.nd (i := 2))) (jss_one (js_ret (jd_and (jd_var (i := 2)) (jd_and (jd_call c_is_count b.tk b.hr (by omega) rfl (ja_cons (jd_idx b.hu1 (jv_var (i := 1)) (JD.v jd_int)) (ja_cons jd_int (ja_cons (kBin oSub (JD.v (jd_idx b.hu1 (jv_var (i := 0)) (JD.v jd_int))) (JD.v jd_int)) ja_nil)))) (jd_one (jd_call c_is_count b.tk b.hr (by omega) rfl (ja_cons (jd_idx b.hu1 (jv_var (i := 1)) (JD.v jd_int)) (ja_cons jd_int (ja_cons (kBin oSub (JD.v (jd_idx b.hu1 (jv_var (i := 0)) (JD.v jd_int))) (JD.v jd_int)) ja_nil))))))))))
theorem k_changed (T : Txt w K mg d_LENGTHS) (c_need_house : CalD P w K mg base 4 "need_house" f_need_house) (c_need_let : CalD P w K mg base 4 "need_let" f_need_let) (c_is_change : CalD P w K mg base 2 "is_change" f_is_change) (c_let_changes : CalD P w K mg base 3 "let_changes" f_let_changes) (c_after : CalD P w K mg base 1 "after" f_after) {f : Addr} {fd : FuncData} (F : Fun K "changed" "changed" (top 26) f fd) (hm : mg "changed" = some (.ref f)) : CalD P w K mg base 5 "changed" f_changed :=
  cal_def (k := 4) (fl' := []) F hm (F.binds (ps := ["house", "plan", "change"]) fun _ _ _ _ _ _ us hl => match us, hl with | [_, _, _], _ => rfl) sc_changed fun cdv A outer s H E b => have S := sc_changed; (jss_cons (js_expr (jd_call c_need_house b.tk b.hr (by omega) rfl (ja_cons (jd_var (i := 0)) ja_nil))) (jss_cons (js_expr (jd_call c_need_let b.tk b.hr (by omega) rfl (ja_cons (jd_var (i := 0)) (ja_cons (jd_var (i := 1)) ja_nil)))) (jss_cons (js_if (JW.t (jt_or (jt_not (jt_tru (JD.v (jd_call c_is_change b.tk b.hr (by omega) rfl (ja_cons (jd_var (i := 0)) (ja_cons (jd_var (i := 2)) ja_nil)))))) (jt_or1 (zCmp (cNin b.hu) (jv_var (i := 2)) (JD.v (jd_call c_let_changes b.tk b.hr (by omega) rfl (ja_cons (jd_var (i := 0)) (ja_cons (jd_var (i := 1)) ja_nil)))))))) (jss_one (js_raise .change T.xk_BadChange rfl rfl b.tk rfl)) jss_nil) (jss_one (js_ret (jd_call c_after b.tk b.hr (by omega) rfl (ja_cons (jd_var (i := 1)) (ja_cons (jd_var (i := 2)) ja_nil))))))))
theorem k_reached (T : Txt w K mg d_LENGTHS) (c_let_changes : CalD P w K mg base 3 "let_changes" f_let_changes) (c_after : CalD P w K mg base 1 "after" f_after) {f : Addr} {fd : FuncData} (F : Fun K "reached" "reached" (top 27) f fd) (hm : mg "reached" = some (.ref f)) : CalD P w K mg base 4 "reached" f_reached :=
  cal_def (k := 3) (fl' := []) F hm (F.binds (ps := ["house", "plan"]) fun _ _ _ _ _ _ us hl => match us, hl with | [_, _], _ => rfl) sc_reached fun cdv A outer s H E b => have S := sc_reached; (jss_cons (js_setN (i := 2) S.nd (jn_dict1t b.hu1 (jd_var (i := 1)) jd_non)) (jss_cons (js_setN (i := 3) S.nd (jn_lst (ja_cons (jd_var (i := 1)) ja_nil) (len_lim (len_cons len_nil)))) (jss_cons (js_asg (vs := [4]) jd_int (jg_name S.nd (i := 4))) (jss_cons (js_while 100000 b.po (zCmp (cLt b.hu) (jv_var (i := 4)) (JD.v (kLen rfl T.b_len (jv_var (i := 3))))) (jss_cons (js_for (pr := false) b.po rfl (ji_seq (jd_call c_let_changes b.tk b.hr (by omega) rfl (ja_cons (jd_var (i := 0)) (ja_cons (jd_idx b.hu1 (jv_var (i := 3)) (jv_var (i := 4))) ja_nil)))) (vs := [5]) (jg_name S.nd (i := 5)) (jss_cons (js_asg (vs := [6]) (jd_call c_after b.tk b.hr (by omega) rfl (ja_cons (jd_idx b.hu1 (jv_var (i := 3)) (jv_var (i := 4))) (ja_cons (jd_var (i := 5)) ja_nil))) (jg_name S.nd (i := 6))) (jss_cons (js_if (zCmp (cNin b.hu) (jv_var (i := 6)) (jv_var (i := 2))) (jss_cons (js_put (n := 2) b.hu1 (k := Kd.t) (by decide) (jd_var (i := 6)) (jd_tup (ja_cons (jd_idx b.hu1 (jv_var (i := 3)) (jv_var (i := 4))) (ja_cons (jd_var (i := 5)) ja_nil)) (by decide) (len_lim (len_cons (len_cons len_nil))))) (jss_cons (js_app (i := 3) (by decide) (jd_var (i := 6))) jss_nil)) jss_nil) jss_nil))) (jss_cons (js_asg (vs := [4]) (kBin oAdd (jv_var (i := 4)) (JD.v jd_int)) (jg_name S.nd (i := 4))) jss_nil))) (jss_frz (fl1 := [(2, Kd.t)]) 3 (jss_frz (fl1 := []) 2 (jss_one (js_ret (jd_tup (ja_cons (jd_var (i := 2)) (ja_cons (jd_var (i := 3)) ja_nil)) (by decide) (len_lim (len_cons (len_cons len_nil))))))))))))
theorem k_way (T : Txt w K mg d_LENGTHS) (c_need_house : CalD P w K mg base 4 "need_house" f_need_house) (c_need_let : CalD P w K mg base 4 "need_let" f_need_let) (c_reached : CalD P w K mg base 4 "reached" f_reached) {f : Addr} {fd : FuncData} (F : Fun K "way" "way" (top 28) f fd) (hm : mg "way" = some (.ref f)) : CalD P w K mg base 5 "way" f_way :=
  cal_def (k := 4) (fl' := []) F hm (F.binds (ps := ["house", "one", "other"]) fun _ _ _ _ _ _ us hl => match us, hl with | [_, _, _], _ => rfl) sc_way fun cdv A outer s H E b => have S := sc_way; (jss_cons (js_expr (jd_call c_need_house b.tk b.hr (by omega) rfl (ja_cons (jd_var (i := 0)) ja_nil))) (jss_cons (js_expr (jd_call c_need_let b.tk b.hr (by omega) rfl (ja_cons (jd_var (i := 0)) (ja_cons (jd_var (i := 1)) ja_nil)))) (jss_cons (js_expr (jd_call c_need_let b.tk b.hr (by omega) rfl (ja_cons (jd_var (i := 0)) (ja_cons (jd_var (i := 2)) ja_nil)))) (jss_cons (js_asg (vs := [3]) (jd_idx b.hu1 (JD.v (jd_call c_reached b.tk b.hr (by omega) rfl (ja_cons (jd_var (i := 0)) (ja_cons (jd_var (i := 1)) ja_nil)))) (JD.v jd_int)) (jg_name S.nd (i := 3))) (jss_cons (js_if (zCmp (cNin b.hu) (jv_var (i := 2)) (jv_var (i := 3))) (jss_one (js_ret jd_non)) jss_nil) (jss_cons (js_asg (vs := [4]) (JN.d (jn_lst ja_nil (len_lim len_nil))) (jg_name S.nd (i := 4))) (jss_cons (js_while 100000 b.po (zCmp cIsN (JD.v (jd_idx b.hu1 (jv_var (i := 3)) (jv_var (i := 2)))) (JD.v jd_non)) (jss_cons (js_asg (vs := [2, 5]) (jd_idx b.hu1 (jv_var (i := 3)) (jv_var (i := 2))) (jg_tup rfl (jgs_cons (jg_name S.nd (i := 2)) (jgs_cons (jg_name S.nd (i := 5)) jgs_nil)) (glen_cons (glen_cons glen_nil)))) (jss_cons (js_asg (vs := [4]) (kBin oAdd (JN.v (jn_lst (ja_cons (jd_var (i := 5)) ja_nil) (len_lim (len_cons len_nil)))) (jv_var (i := 4))) (jg_name S.nd (i := 4))) jss_nil))) (jss_one (js_ret (jd_var (i := 4)))))))))))
theorem k_walked (T : Txt w K mg d_LENGTHS) (c_need_house : CalD P w K mg base 4 "need_house" f_need_house) (c_need_let : CalD P w K mg base 4 "need_let" f_need_let) (c_changed : CalD P w K mg base 5 "changed" f_changed) {f : Addr} {fd : FuncData} (F : Fun K "walked" "walked" (top 29) f fd) (hm : mg "walked" = some (.ref f)) : CalD P w K mg base 6 "walked" f_walked :=
  cal_def (k := 5) (fl' := []) F hm (F.binds (ps := ["house", "plan", "row"]) fun _ _ _ _ _ _ us hl => match us, hl with | [_, _, _], _ => rfl) sc_walked fun cdv A outer s H E b => have S := sc_walked; (jss_cons (js_expr (jd_call c_need_house b.tk b.hr (by omega) rfl (ja_cons (jd_var (i := 0)) ja_nil))) (jss_cons (js_expr (jd_call c_need_let b.tk b.hr (by omega) rfl (ja_cons (jd_var (i := 0)) (ja_cons (jd_var (i := 1)) ja_nil)))) (jss_cons (js_setN (i := 3) S.nd (jn_lst (ja_cons (jd_var (i := 1)) ja_nil) (len_lim (len_cons len_nil)))) (jss_cons (js_if (jt_not (jt_tru (JD.v (jd_isi kits_list (jv_var (i := 2)) rfl T.b_isinstance rfl T.b_list (by decide +kernel))))) (jss_one (js_raise .change T.xk_BadChange rfl rfl b.tk rfl)) jss_nil) (jss_cons (js_for (pr := false) b.po rfl (ji_seq (jd_var (i := 2))) (vs := [4]) (jg_name S.nd (i := 4)) (jss_cons (js_app (i := 3) (by decide) (jd_call c_changed b.tk b.hr (by omega) rfl (ja_cons (jd_var (i := 0)) (ja_cons (jd_idx b.hu1 (jv_var (i := 3)) (JD.v (jd_neg (JD.v jd_int)))) (ja_cons (jd_var (i := 4)) ja_nil))))) jss_nil)) (jss_frz (fl1 := []) 3 (jss_one (js_ret (jd_var (i := 3))))))))))
theorem k_is_way (T : Txt w K mg d_LENGTHS) (c_need_house : CalD P w K mg base 4 "need_house" f_need_house) (c_need_let : CalD P w K mg base 4 "need_let" f_need_let) (c_walked : CalD P w K mg base 6 "walked" f_walked) {f : Addr} {fd : FuncData} (F : Fun K "is_way" "is_way" (top 30) f fd) (hm : mg "is_way" = some (.ref f)) : CalD P w K mg base 7 "is_way" f_is_way :=
  cal_def (k := 6) (fl' := []) F hm (F.binds (ps := ["house", "one", "other", "row"]) fun _ _ _ _ _ _ us hl => match us, hl with | [_, _, _, _], _ => rfl) sc_is_way fun cdv A outer s H E b => have S := sc_is_way; (jss_cons (js_expr (jd_call c_need_house b.tk b.hr (by omega) rfl (ja_cons (jd_var (i := 0)) ja_nil))) (jss_cons (js_expr (jd_call c_need_let b.tk b.hr (by omega) rfl (ja_cons (jd_var (i := 0)) (ja_cons (jd_var (i := 1)) ja_nil)))) (jss_cons (js_expr (jd_call c_need_let b.tk b.hr (by omega) rfl (ja_cons (jd_var (i := 0)) (ja_cons (jd_var (i := 2)) ja_nil)))) (jss_cons (js_asg (vs := [4]) (JN.d (jn_lst (ja_cons (jd_var (i := 1)) ja_nil) (len_lim (len_cons len_nil)))) (jg_name S.nd (i := 4))) (jss_cons (js_tryC b T.x_BadChange T.tx_BadChange (fun W2 pn2 xe2 b2 => (jss_cons (js_asg (vs := [4]) (jd_call c_walked b2.tk b2.hr (by omega) rfl (ja_cons (jd_var (i := 0)) (ja_cons (jd_var (i := 1)) (ja_cons (jd_var (i := 3)) ja_nil)))) (jg_name S.nd (i := 4))) jss_nil))) (jss_one (js_ret (kCmp (cEq b.hu) (JD.v (jd_idx b.hu1 (jv_var (i := 4)) (JD.v (jd_neg (JD.v jd_int))))) (jv_var (i := 2))))))))))
theorem k__law_cell (T : Txt w K mg d_LENGTHS)  {f : Addr} {fd : FuncData} (F : Fun K "_law_cell" "_law_cell" (top 32) f fd) (hm : mg "_law_cell" = some (.ref f)) : CalD P w K mg base 1 "_law_cell" f__law_cell :=
  cal_def (k := 0) (fl' := []) F hm (F.binds (ps := ["_law_script", "_law_k"]) fun _ _ _ _ _ _ us hl => match us, hl with | [_, _], _ => rfl) sc__law_cell fun cdv A outer s H E b => have S := sc__law_cell; (jss_cons (js_if (zCmp (cEq b.hu) (jv_var (i := 0)) (JN.v (jn_lst ja_nil (len_lim len_nil)))) (jss_one (js_ret (kBin oMul (jv_var (i := 1)) (JD.v jd_int)))) jss_nil) (jss_one (js_ret (kBin oAdd (JD.v (jd_idx b.hu1 (jv_var (i := 0)) (JD.v (kBin oMod (jv_var (i := 1)) (JD.v (kLen rfl T.b_len (jv_var (i := 0)))))))) (JD.v (kBin oMul (JD.v (kBin oDiv (jv_var (i := 1)) (JD.v (kLen rfl T.b_len (jv_var (i := 0)))))) (JD.v jd_int)))))))
theorem k__law_drawn (T : Txt w K mg d_LENGTHS)  {f : Addr} {fd : FuncData} (F : Fun K "_law_drawn" "_law_drawn" (top 33) f fd) (hm : mg "_law_drawn" = some (.ref f)) : CalD P w K mg base 1 "_law_drawn" f__law_drawn :=
  cal_def (k := 0) (fl' := []) F hm (F.binds (ps := ["_law_cell_here", "_law_k"]) fun _ _ _ _ _ _ us hl => match us, hl with | [_, _], _ => rfl) sc__law_drawn fun cdv A outer s H E b => have S := sc__law_drawn; (jss_cons (js_asg (vs := [2]) (kBin oMod (JD.v (kBin oAdd (JD.v (kBin oMul (jv_var (i := 0)) (JD.v jd_int))) (JD.v (kBin oMul (JD.v (kBin oAdd (jv_var (i := 1)) (JD.v jd_int))) (JD.v jd_int))))) (JD.v jd_int)) (jg_name S.nd (i := 2))) (jss_cons (js_asg (vs := [2]) (kBin oMod (JD.v (kBin oMul (jv_var (i := 2)) (jv_var (i := 2)))) (JD.v jd_int)) (jg_name S.nd (i := 2))) (jss_cons (js_asg (vs := [2]) (kBin oMul (JD.v (kBin oMul (JD.v (kBin oAdd (JD.v (kBin oMod (jv_var (i := 2)) (JD.v jd_int))) (JD.v jd_int))) (JD.v (kBin oAdd (JD.v (kBin oDiv (jv_var (i := 2)) (JD.v jd_int))) (JD.v jd_int))))) (jv_var (i := 2))) (jg_name S.nd (i := 2))) (jss_one (js_ret (kBin oMod (jv_var (i := 2)) (JD.v jd_int)))))))
theorem word_ok (a : Nat) (e : Ex) : runF 1 3 (w__law_word a e) [excD a] = .ok (.str (word e)) := by
  have h0 : ∀ b, e1 (dIsP a b) (eVar 0) [some (excD a), none, none] = .ok (.bool b) := fun b => isP_self
  have h1 : ∀ b l, e1 (dIsP a b) (eVar 0) [some (excD a), some l, none] = .ok (.bool b) := fun b l => isP_self
  show (match w__law_word a e [some (excD a), none, none] with
  | .nx _ => R.ok PyData.none
  | .ret d => .ok d
  | .exc e => .exc e
  | _ => .bad) = _
  have hv : ∀ x l : D, eVar 1 [some x, some l, none] = .ok l := fun _ _ => rfl
  have hT : ∀ l : D, DL.tNot (DL.tTru (e1 (dIsP a true) (eVar 0))) [some (excD a), some l, none] = .ok false := fun l => by simp only [DL.tNot, DL.tTru, h1, R.bind_ok, truth]; rfl
  have hadd : ∀ xs ys : List D, xs.length + ys.length ≤ 100 → dAdd (.list xs) (.list ys) = .ok (.list (xs ++ ys)) := fun xs ys h => by
    show (if xs.length + ys.length ≤ lim then _ else _) = _
    rw [if_pos (Nat.le_trans h (by decide))]
  have st : w__law_word a e [some (excD a), none, none] = (match (DL.sIf (DL.tOr (DL.tB (e2 dNe (e1 dSum (eComp (iLst (eVar 1)) [2] (DL.gName 2) (DL.tYes) (e1 dInt (eVar 2)))) (eC (.int 1)))) (DL.tNot (DL.tTru (e1 (dIsP a true) (eVar 0))))) (sRet (eC (.str "other"))) (sNext)) [some (excD a), some (.list [.bool (isX .change e), .bool (isX .house e), .bool (isX .number e), .bool (isX .plan e), .bool (isX .text e), .bool (isX .loose e)]), none] with
    | .nx ρ' => (sRet (e2 dIdx (eF fLst (aCons (eC (.str "BadChange")) (aCons (eC (.str "BadHouse")) (aCons (eC (.str "BadNumber")) (aCons (eC (.str "BadPlan")) (aCons (eC (.str "BadText")) (aCons (eC (.str "NotLoose")) aNil))))))) (eIndex (eVar 1) (eC (.bool true))))) ρ'
    | r => r) := by
    simp only [w__law_word, sSeq, sAsg, eF, aCons, aNil, h0, R.bind_ok, fLst, DL.gName, List.set_cons_succ, List.set_cons_zero, h1, e2, hv]
    rw [hadd _ _ (Nat.le_of_ble_eq_true rfl)]
    rfl
  rw [st]
  simp only [DL.sIf, DL.tOr, hT]
  cases e <;> rfl
theorem k__law_word (T : Txt w K mg d_LENGTHS) {f : Addr} {fd : FuncData} (F : Fun K "_law_word" "_law_word" (top 34) f fd) : FnHp P w K mg base (L2N.CX P w) 1 f fd ["_law_e"] (spW (kw P w K) word) :=
  word_def (fl' := []) (fs := w__law_word) F sc__law_word (fun cdv A outer s H E p e hz b => have a := p.1; have S := sc__law_word; (jss_cons (js_asg (vs := [1]) (JN.d (jn_lst (ja_cons (jd_isPc b.pn (T.excC e) hz b.fs (T.kit_BadChange e) (jv_var (i := 0)) rfl T.b_isinstance rfl T.x_BadChange) (ja_cons (jd_isPc b.pn (T.excC e) hz b.fs (T.kit_BadHouse e) (jv_var (i := 0)) rfl T.b_isinstance rfl T.x_BadHouse) (ja_cons (jd_isPc b.pn (T.excC e) hz b.fs (T.kit_BadNumber e) (jv_var (i := 0)) rfl T.b_isinstance rfl T.x_BadNumber) (ja_cons (jd_isPc b.pn (T.excC e) hz b.fs (T.kit_BadPlan e) (jv_var (i := 0)) rfl T.b_isinstance rfl T.x_BadPlan) ja_nil)))) (len_lim (len_cons (len_cons (len_cons (len_cons len_nil))))))) (jg_name S.nd (i := 1))) (jss_cons (js_asg (vs := [1]) (kBin oAdd (jv_var (i := 1)) (JN.v (jn_lst (ja_cons (jd_isPc b.pn (T.excC e) hz b.fs (T.kit_BadText e) (jv_var (i := 0)) rfl T.b_isinstance rfl T.x_BadText) (ja_cons (jd_isPc b.pn (T.excC e) hz b.fs (T.kit_NotLoose e) (jv_var (i := 0)) rfl T.b_isinstance rfl T.x_NotLoose) ja_nil)) (len_lim (len_cons (len_cons len_nil)))))) (jg_name S.nd (i := 1))) (jss_cons (js_if (JW.t (jt_or (zCmp (cNe b.hu) (JD.v (kSumH b.hot rfl T.b_sum (JN.v (jn_compHot b.hot S.nd (jd_var (i := 1)) (blkOk_by (N := N__law_word) (sc := defScope (top 34)) (by decide +kernel)) (own := [("_law_flag", 2)]) rfl gin_name (flout (by decide)) (fun _ _ _ _ _ => (jg_name S.nd (i := 2))) (fun _ _ _ _ _ => jts_nil) (fun _ _ _ _ _ => (kInt rfl T.b_int (jv_var (i := 2)))))))) (JD.v jd_int)) (jt_or1 (jt_not (jt_tru (JD.v (jd_isPt b.pn (T.excC e) hz b.fs (T.kit_ValueError e) (jv_var (i := 0)) rfl T.b_isinstance rfl T.b_ValueError (by decide +kernel)))))))) (jss_one (js_ret jd_str)) jss_nil) (jss_one (js_ret (jd_idx b.hu1 (JN.v (jn_lst (ja_cons jd_str (ja_cons jd_str (ja_cons jd_str (ja_cons jd_str (ja_cons jd_str (ja_cons jd_str ja_nil)))))) (len_lim (len_cons (len_cons (len_cons (len_cons (len_cons (len_cons len_nil))))))))) (JD.v (jd_index b.hu (jv_var (i := 1)) (JD.v jd_bl)))))))))) word_ok
theorem k__law_rule (T : Txt w K mg d_LENGTHS)  {f : Addr} {fd : FuncData} (F : Fun K "_law_rule" "_law_rule" (top 36) f fd) (hm : mg "_law_rule" = some (.ref f)) : CalD P w K mg base 1 "_law_rule" f__law_rule :=
  cal_def (k := 0) (fl' := []) F hm (F.binds (ps := ["_law_more", "_law_places", "_law_colours"]) fun _ _ _ _ _ _ us hl => match us, hl with | [_, _, _], _ => rfl) sc__law_rule fun cdv A outer s H E b => have S := sc__law_rule; (jss_cons (js_asg (vs := [3]) (kBin oDiv (jv_var (i := 0)) (JD.v jd_int)) (jg_name S.nd (i := 3))) (jss_cons (js_par (i := 4) (j := 5) rfl S.nd (kBin oMod (jv_var (i := 3)) (jv_var (i := 1))) (kBin oMod (JD.v (kBin oDiv (jv_var (i := 3)) (JD.v jd_int))) (jv_var (i := 1)))) (jss_cons (js_par (i := 6) (j := 7) rfl S.nd (kBin oMod (JD.v (kBin oDiv (jv_var (i := 3)) (JD.v jd_int))) (jv_var (i := 2))) (kBin oMod (JD.v (kBin oDiv (jv_var (i := 3)) (JD.v jd_int))) (jv_var (i := 2)))) (jss_cons (js_asg (vs := [8]) (kBin oMod (jv_var (i := 0)) (JD.v jd_int)) (jg_name S.nd (i := 8))) (jss_cons (js_if (JW.t (jt_and (zCmp (cLt b.hu) (jv_var (i := 8)) (JD.v jd_int)) (jt_and1 (zCmp (cNe b.hu) (jv_var (i := 4)) (jv_var (i := 5)))))) (jss_one (js_ret (jd_tup (ja_cons jd_str (ja_cons (jd_min2 rfl rfl T.b_min (jv_var (i := 4)) (jv_var (i := 5))) (ja_cons (jd_max2 rfl rfl T.b_max (jv_var (i := 4)) (jv_var (i := 5))) ja_nil))) (by decide) (len_lim (len_cons (len_cons (len_cons len_nil))))))) jss_nil) (jss_cons (js_if (JW.t (jt_and (zCmp (cEq b.hu) (jv_var (i := 8)) (JD.v jd_int)) (jt_and1 (zCmp (cNe b.hu) (jv_var (i := 4)) (jv_var (i := 5)))))) (jss_one (js_ret (jd_tup (ja_cons jd_str (ja_cons (jd_min2 rfl rfl T.b_min (jv_var (i := 4)) (jv_var (i := 5))) (ja_cons (jd_max2 rfl rfl T.b_max (jv_var (i := 4)) (jv_var (i := 5))) ja_nil))) (by decide) (len_lim (len_cons (len_cons (len_cons len_nil))))))) jss_nil) (jss_cons (js_if (JW.t (jt_and (zCmp (cEq b.hu) (jv_var (i := 8)) (JD.v jd_int)) (jt_and1 (zCmp (cNe b.hu) (JD.v (jd_tup (ja_cons (jd_var (i := 4)) (ja_cons (jd_var (i := 6)) ja_nil)) (by decide) (len_lim (len_cons (len_cons len_nil))))) (JD.v (jd_tup (ja_cons (jd_var (i := 5)) (ja_cons (jd_var (i := 7)) ja_nil)) (by decide) (len_lim (len_cons (len_cons len_nil))))))))) (jss_cons (js_asg (vs := [9, 10]) (JN.d (jn_sortP rfl T.b_sorted (JN.v (jn_lst (ja_cons (jd_tup (ja_cons (jd_var (i := 4)) (ja_cons (jd_var (i := 6)) ja_nil)) (by decide) (len_lim (len_cons (len_cons len_nil)))) (ja_cons (jd_tup (ja_cons (jd_var (i := 5)) (ja_cons (jd_var (i := 7)) ja_nil)) (by decide) (len_lim (len_cons (len_cons len_nil)))) ja_nil)) (len_lim (len_cons (len_cons len_nil))))))) (jg_lst rfl (jgs_cons (jg_name S.nd (i := 9)) (jgs_cons (jg_name S.nd (i := 10)) jgs_nil)) (glen_cons (glen_cons glen_nil)))) (jss_one (js_ret (kBin oAdd (JD.v (kBin oAdd (JD.v (jd_tup (ja_cons jd_str ja_nil) (by decide) (len_lim (len_cons len_nil)))) (jv_var (i := 9)))) (jv_var (i := 10)))))) jss_nil) (jss_cons (js_if (zCmp (cEq b.hu) (jv_var (i := 8)) (JD.v jd_int)) (jss_one (js_ret (jd_tup (ja_cons jd_str (ja_cons (jd_var (i := 6)) (ja_cons (kBin oMod (JD.v (kBin oDiv (jv_var (i := 3)) (JD.v jd_int))) (JD.v (kBin oAdd (jv_var (i := 1)) (JD.v jd_int)))) ja_nil))) (by decide) (len_lim (len_cons (len_cons (len_cons len_nil))))))) jss_nil) (jss_one (js_ret (jd_if (zCmp (cEq b.hu) (jv_var (i := 8)) (JD.v jd_int)) (jd_tup (ja_cons jd_str (ja_cons (jd_var (i := 6)) (ja_cons (kBin oMod (JD.v (kBin oDiv (jv_var (i := 3)) (JD.v jd_int))) (JD.v jd_int)) ja_nil))) (by decide) (len_lim (len_cons (len_cons (len_cons len_nil))))) (jd_tup (ja_cons jd_str (ja_cons (jd_var (i := 4)) (ja_cons (jd_var (i := 6)) ja_nil))) (by decide) (len_lim (len_cons (len_cons (len_cons len_nil))))))))))))))))
theorem k__law_house (T : Txt w K mg d_LENGTHS) (c__law_rule : CalD P w K mg base 1 "_law_rule" f__law_rule) (c__law_drawn : CalD P w K mg base 1 "_law_drawn" f__law_drawn) {f : Addr} {fd : FuncData} (F : Fun K "_law_house" "_law_house" (top 37) f fd) (hm : mg "_law_house" = some (.ref f)) : CalD P w K mg base 2 "_law_house" f__law_house :=
  cal_def (k := 1) (fl' := []) F hm (F.binds (ps := ["_law_more", "_law_most"]) fun _ _ _ _ _ _ us hl => match us, hl with | [_, _], _ => rfl) sc__law_house fun cdv A outer s H E b => have S := sc__law_house; (jss_cons (js_asg (vs := [2, 3]) (jd_tup (ja_cons (kBin oAdd (JD.v jd_int) (JD.v (kBin oMod (JD.v (kBin oDiv (jv_var (i := 0)) (JD.v jd_int))) (jv_var (i := 1))))) (ja_cons (kBin oAdd (JD.v jd_int) (JD.v (kBin oMod (JD.v (kBin oDiv (jv_var (i := 0)) (JD.v jd_int))) (JD.v jd_int)))) ja_nil)) (by decide) (len_lim (len_cons (len_cons len_nil)))) (jg_tup rfl (jgs_cons (jg_name S.nd (i := 2)) (jgs_cons (jg_name S.nd (i := 3)) jgs_nil)) (glen_cons (glen_cons glen_nil)))) (jss_cons (js_if (zCmp (cEq b.hu) (JD.v (kBin oMod (JD.v (kBin oDiv (jv_var (i := 0)) (JD.v jd_int))) (JD.v jd_int))) (JD.v jd_int)) (jss_cons (js_asg (vs := [2, 3]) (jd_idx b.hu1 (JN.v (jn_lst (ja_cons (jd_tup (ja_cons jd_int (ja_cons jd_int ja_nil)) (by decide) (len_lim (len_cons (len_cons len_nil)))) (ja_cons (jd_tup (ja_cons jd_int (ja_cons jd_int ja_nil)) (by decide) (len_lim (len_cons (len_cons len_nil)))) (ja_cons (jd_tup (ja_cons jd_int (ja_cons jd_int ja_nil)) (by decide) (len_lim (len_cons (len_cons len_nil)))) ja_nil))) (len_lim (len_cons (len_cons (len_cons len_nil)))))) (JD.v (kBin oMod (JD.v (kBin oDiv (jv_var (i := 0)) (JD.v jd_int))) (JD.v jd_int)))) (jg_tup rfl (jgs_cons (jg_name S.nd (i := 2)) (jgs_cons (jg_name S.nd (i := 3)) jgs_nil)) (glen_cons (glen_cons glen_nil)))) jss_nil) jss_nil) (jss_cons (js_asg (vs := [4]) (kBin oMod (JD.v (kBin oDiv (jv_var (i := 0)) (JD.v (kBin oPow (JD.v jd_int) (JD.v jd_int))))) (JD.v (jd_idx b.hu1 (JN.v (jn_lst (ja_cons jd_int (ja_cons jd_int (ja_cons jd_int ja_nil))) (len_lim (len_cons (len_cons (len_cons len_nil)))))) (JD.v (kBin oMod (JD.v (kBin oDiv (jv_var (i := 0)) (JD.v (kBin oPow (JD.v jd_int) (JD.v jd_int))))) (JD.v jd_int)))))) (jg_name S.nd (i := 4))) (jss_cons (js_setLc (i := 5) rfl S.nd (ji_rng1 (jd_var (i := 4)) rfl T.b_range) (blkOk_by (N := N__law_house) (sc := defScope (top 37)) (by decide +kernel)) (own := [("_law_j", 6)]) rfl gin_name (flout (by decide)) (fun _ _ _ _ _ => (jg_name S.nd (i := 6))) (fun _ _ _ _ _ => jts_nil) (fun _ _ _ _ _ => (jd_call c__law_rule takes0N b.hr (by omega) rfl (ja_cons (jd_call c__law_drawn takes0N b.hr (by omega) rfl (ja_cons (jd_var (i := 0)) (ja_cons (jd_var (i := 6)) ja_nil))) (ja_cons (jd_var (i := 2)) (ja_cons (jd_var (i := 3)) ja_nil))))) rfl rfl (sw_true rfl rfl rfl rfl) rfl) (jss_one (js_ret (jd_tup (ja_cons (jd_var (i := 2)) (ja_cons (jd_var (i := 3)) (ja_cons (kTuple rfl T.b_tuple (jv_var (i := 5))) ja_nil))) (by decide) (len_lim (len_cons (len_cons (len_cons len_nil)))))))))))
theorem k__law_keeps (T : Txt w K mg d_LENGTHS)  {f : Addr} {fd : FuncData} (F : Fun K "_law_keeps" "_law_keeps" (top 38) f fd) (hm : mg "_law_keeps" = some (.ref f)) : CalD P w K mg base 1 "_law_keeps" f__law_keeps :=
  cal_def (k := 0) (fl' := []) F hm (F.binds (ps := ["_law_rule_here", "_law_plan"]) fun _ _ _ _ _ _ us hl => match us, hl with | [_, _], _ => rfl) sc__law_keeps fun cdv A outer s H E b => have S := sc__law_keeps; (jss_cons (js_asg (vs := [2, 3, 4]) (jd_tup (ja_cons (jd_idx b.hu1 (jv_var (i := 0)) (JD.v jd_int)) (ja_cons (jd_idx b.hu1 (jv_var (i := 0)) (JD.v jd_int)) (ja_cons (jd_idx b.hu1 (jv_var (i := 0)) (JD.v jd_int)) ja_nil))) (by decide) (len_lim (len_cons (len_cons (len_cons len_nil))))) (jg_tup rfl (jgs_cons (jg_name S.nd (i := 2)) (jgs_cons (jg_name S.nd (i := 3)) (jgs_cons (jg_name S.nd (i := 4)) jgs_nil))) (glen_cons (glen_cons (glen_cons glen_nil))))) (jss_cons (js_setLc (i := 5) rfl S.nd (ji_enum (jd_var (i := 1)) rfl T.b_enumerate) (blkOk_by (N := N__law_keeps) (sc := defScope (top 38)) (by decide +kernel)) (own := [("_law_at", 6), ("_law_colour", 7)]) rfl (gin_tup (gsin_cons gin_name (gsin_cons gin_name gsin_nil))) (flout (by decide)) (fun _ _ _ _ _ => (jgp_tup rfl (jgs_cons (jg_name S.nd (i := 6)) (jgs_cons (jg_name S.nd (i := 7)) jgs_nil)))) (fun _ _ _ _ _ => (jts_one (zCmp (cEq b.hu) (jv_var (i := 7)) (jv_var (i := 3))))) (fun _ _ _ _ _ => (jd_var (i := 6))) rfl rfl (sw_true rfl rfl rfl rfl) rfl) (jss_cons (js_if (zCmp (cIn b.hu) (jv_var (i := 2)) (JD.v (jd_tup (ja_cons jd_str (ja_cons jd_str ja_nil)) (by decide) (len_lim (len_cons (len_cons len_nil)))))) (jss_one (js_ret (jd_if (zCmp (cEq b.hu) (jv_var (i := 2)) (JD.v jd_str)) (kCmp cLe (JD.v (kLen rfl T.b_len (jv_var (i := 5)))) (jv_var (i := 4))) (kCmp cGe (JD.v (kLen rfl T.b_len (jv_var (i := 5)))) (jv_var (i := 4)))))) jss_nil) (jss_cons (js_if (zCmp (cEq b.hu) (jv_var (i := 2)) (JD.v jd_str)) (jss_one (js_ret (jd_not (kCmp (cEq b.hu) (JD.v (jd_idx b.hu1 (jv_var (i := 1)) (jv_var (i := 3)))) (jv_var (i := 4)))))) jss_nil) (jss_cons (js_if (zCmp (cEq b.hu) (jv_var (i := 2)) (JD.v jd_str)) (jss_one (js_ret (jd_or (kCmp (cEq b.hu) (JD.v (jd_idx b.hu1 (jv_var (i := 1)) (jv_var (i := 3)))) (jv_var (i := 4))) (jd_one (kCmp (cEq b.hu) (JD.v (jd_idx b.hu1 (jv_var (i := 1)) (JD.v (jd_idx b.hu1 (jv_var (i := 0)) (JD.v jd_int))))) (JD.v (jd_idx b.hu1 (jv_var (i := 0)) (JD.v jd_int)))))))) jss_nil) (jss_one (js_ret (kCmp (cEq b.hu) (JD.v (kCmp (cEq b.hu) (JD.v (jd_idx b.hu1 (jv_var (i := 1)) (jv_var (i := 3)))) (JD.v (jd_idx b.hu1 (jv_var (i := 1)) (jv_var (i := 4)))))) (JD.v (kCmp (cEq b.hu) (jv_var (i := 2)) (JD.v jd_str)))))))))))
theorem k__law_many (T : Txt w K mg d_LENGTHS)  {f : Addr} {fd : FuncData} (F : Fun K "_law_many" "_law_many" (top 40) f fd) (hm : mg "_law_many" = some (.ref f)) : CalD P w K mg base 1 "_law_many" f__law_many :=
  cal_def (k := 0) (fl' := []) F hm (F.binds (ps := ["_law_places", "_law_colours"]) fun _ _ _ _ _ _ us hl => match us, hl with | [_, _], _ => rfl) sc__law_many fun cdv A outer s H E b => have S := sc__law_many; (jss_cons (js_asg (vs := [2]) jd_int (jg_name S.nd (i := 2))) (jss_cons (js_for (pr := false) b.po rfl (ji_rng1 (jd_var (i := 0)) rfl T.b_range) (vs := [3]) (jg_name S.nd (i := 3)) (jss_cons (js_asg (vs := [2]) (kBin oMul (jv_var (i := 2)) (jv_var (i := 1))) (jg_name S.nd (i := 2))) jss_nil)) (jss_one (js_ret (jd_var (i := 2))))))
theorem k__law_plans (T : Txt w K mg d_LENGTHS) (c__law_many : CalD P w K mg base 1 "_law_many" f__law_many) (c__law_keeps : CalD P w K mg base 1 "_law_keeps" f__law_keeps) {f : Addr} {fd : FuncData} (F : Fun K "_law_plans" "_law_plans" (top 39) f fd) (hm : mg "_law_plans" = some (.ref f)) : CalD P w K mg base 2 "_law_plans" f__law_plans :=
  cal_def (k := 1) (fl' := []) F hm (F.binds (ps := ["_law_house_here"]) fun _ _ _ _ _ _ us hl => match us, hl with | [_], _ => rfl) sc__law_plans fun cdv A outer s H E b => have S := sc__law_plans; (jss_cons (js_asg (vs := [1, 2, 3]) (jd_var (i := 0)) (jg_tup rfl (jgs_cons (jg_name S.nd (i := 1)) (jgs_cons (jg_name S.nd (i := 2)) (jgs_cons (jg_name S.nd (i := 3)) jgs_nil))) (glen_cons (glen_cons (glen_cons glen_nil))))) (jss_cons (js_setN (i := 4) S.nd (jn_lst ja_nil (len_lim len_nil))) (jss_cons (js_for (pr := false) b.po rfl (ji_rng1 (jd_call c__law_many b.tk b.hr (by omega) rfl (ja_cons (jd_var (i := 1)) (ja_cons (jd_var (i := 2)) ja_nil))) rfl T.b_range) (vs := [5]) (jg_name S.nd (i := 5)) (jss_cons (js_unpN (i := 6) (j := 7) rfl S.nd (jn_lst ja_nil (len_lim len_nil)) (jd_var (i := 5))) (jss_cons (js_for (pr := false) b.po rfl (ji_rng1 (jd_var (i := 1)) rfl T.b_range) (vs := [8]) (jg_name S.nd (i := 8)) (jss_cons (js_app (i := 6) (by decide) (kBin oMod (jv_var (i := 7)) (jv_var (i := 2)))) (jss_cons (js_asg (vs := [7]) (kBin oDiv (jv_var (i := 7)) (jv_var (i := 2))) (jg_name S.nd (i := 7))) jss_nil))) (jss_cons (js_asg (vs := [6]) (kTuple rfl T.b_tuple (JN.v (jn_revL (jv_var (i := 6))))) (jg_name S.nd (i := 6))) (jss_cons (js_if (jt_tru (JD.v (kAll rfl rfl T.b_all (JN.v (jn_comp rfl S.nd (ji_seq (jd_var (i := 3))) (blkOk_by (N := N__law_plans) (sc := defScope (top 39)) (by decide +kernel)) (own := [("_law_rule_here", 9)]) rfl gin_name (flout (by decide)) (fun _ _ _ _ _ => (jg_name S.nd (i := 9))) (fun _ _ _ _ _ => jts_nil) (fun _ _ _ _ _ => (jd_call c__law_keeps takes0N b.hr (by omega) rfl (ja_cons (jd_var (i := 9)) (ja_cons (jd_var (i := 6)) ja_nil))))))))) (jss_cons (js_app (i := 4) (by decide) (jd_var (i := 6))) jss_nil) jss_nil) jss_nil))))) (jss_frz (fl1 := []) 4 (jss_one (js_ret (jd_var (i := 4))))))))
theorem k__law_leads (T : Txt w K mg d_LENGTHS)  {f : Addr} {fd : FuncData} (F : Fun K "_law_leads" "_law_leads" (top 41) f fd) (hm : mg "_law_leads" = some (.ref f)) : CalD P w K mg base 1 "_law_leads" f__law_leads :=
  cal_def (k := 0) (fl' := []) F hm (F.binds (ps := ["_law_every", "_law_one", "_law_other", "_law_row"]) fun _ _ _ _ _ _ us hl => match us, hl with | [_, _, _, _], _ => rfl) sc__law_leads fun cdv A outer s H E b => have S := sc__law_leads; (jss_cons (js_for (pr := false) b.po rfl (ji_seq (jd_var (i := 3))) (vs := [4]) (jg_name S.nd (i := 4)) (jss_cons (js_if (JW.t (jt_or (jt_not (jt_tru (JD.v (jd_isi kits_tuple (jv_var (i := 4)) rfl T.b_isinstance rfl T.b_tuple (by decide +kernel))))) (jt_or1 (zCmp (cNe b.hu) (JD.v (kLen rfl T.b_len (jv_var (i := 4)))) (JD.v jd_int))))) (jss_one (js_ret jd_bl)) jss_nil) (jss_cons (js_for (pr := false) b.po rfl (ji_seq (jd_var (i := 4))) (vs := [5]) (jg_name S.nd (i := 5)) (jss_cons (js_if (JW.t (jt_or (jt_not (jt_tru (JD.v (jd_isi kits_int (jv_var (i := 5)) rfl T.b_isinstance rfl T.b_int (by decide +kernel))))) (jt_or (jt_tru (JD.v (jd_isi kits_bool (jv_var (i := 5)) rfl T.b_isinstance rfl T.b_bool (by decide +kernel)))) (jt_or1 (zCmp (cLt b.hu) (jv_var (i := 5)) (JD.v jd_int)))))) (jss_one (js_ret jd_bl)) jss_nil) jss_nil)) (jss_cons (js_if (JW.t (jt_or (zCmp cGe (JD.v (jd_idx b.hu1 (jv_var (i := 4)) (JD.v jd_int))) (JD.v (kLen rfl T.b_len (jv_var (i := 1))))) (jt_or1 (zCmp (cEq b.hu) (JD.v (jd_idx b.hu1 (jv_var (i := 1)) (JD.v (jd_idx b.hu1 (jv_var (i := 4)) (JD.v jd_int))))) (JD.v (jd_idx b.hu1 (jv_var (i := 4)) (JD.v jd_int))))))) (jss_one (js_ret jd_bl)) jss_nil) (jss_cons (js_asg (vs := [1]) (kBin oAdd (JD.v (kBin oAdd (JD.v (jd_slice (jv_var (i := 1)) jo_none (jo_some (JD.v (jd_idx b.hu1 (jv_var (i := 4)) (JD.v jd_int)))))) (JD.v (jd_tup (ja_cons (jd_idx b.hu1 (jv_var (i := 4)) (JD.v jd_int)) ja_nil) (by decide) (len_lim (len_cons len_nil)))))) (JD.v (jd_slice (jv_var (i := 1)) (jo_some (JD.v (kBin oAdd (JD.v (jd_idx b.hu1 (jv_var (i := 4)) (JD.v jd_int))) (JD.v jd_int)))) jo_none))) (jg_name S.nd (i := 1))) (jss_cons (js_if (zCmp (cNin b.hu) (jv_var (i := 1)) (jv_var (i := 0))) (jss_one (js_ret jd_bl)) jss_nil) jss_nil)))))) (jss_one (js_ret (kCmp (cEq b.hu) (jv_var (i := 1)) (jv_var (i := 2))))))
theorem k_law (T : Txt w K mg d_LENGTHS) (c__law_drawn : CalD P w K mg base 1 "_law_drawn" f__law_drawn) (c__law_cell : CalD P w K mg base 1 "_law_cell" f__law_cell) (c__law_house : CalD P w K mg base 2 "_law_house" f__law_house) (c__law_plans : CalD P w K mg base 2 "_law_plans" f__law_plans) (c_way : CalD P w K mg base 5 "way" f_way) (c_told : ToldK P w K mg base 1 "_law_told" word) (c_is_way : CalD P w K mg base 7 "is_way" f_is_way) (c__law_leads : CalD P w K mg base 1 "_law_leads" f__law_leads) {f c Pt : Addr} {oc : Value} {od : Option Addr} {kV doc pm ct : Value} {an : Option Addr} {osl : Array (Option Value)} (lk : K.lookup f = some ⟨oc, od, .func (PySem.W.fnOf "law" "law" (defArgs (top 42)) (defBody (top 42)) (defScope (top 42)) .none kV doc pm an (.ref c) ct), osl⟩) (hcd : PySem.W.codeIn K (.ref c) "law" = true)
    (TB : LamX.TabB base mg c Pt) (hmT : (Pt, (envOfC "law" (defScope (top 42)) 0 0 .none).qual ++ "<lambda>") ∈ Tb.T) (huT : ∀ p ∈ Tb.T, p.1 = Pt → p.2 = (envOfC "law" (defScope (top 42)) 0 0 .none).qual ++ "<lambda>") :
    FnOk P w K mg base (L2N.CX P w) 10 f (PySem.W.fnOf "law" "law" (defArgs (top 42)) (defBody (top 42)) (defScope (top 42)) .none kV doc pm an (.ref c) ct) ["_law_script"] (spD (kw P w K) f_law) :=
  fn_defC (fl' := []) lk hcd sc_law fun A outer s H E b => have S := sc_law; (jss_cons (js_for (pr := false) b.po rfl (ji_rng1 (jd_max2 rfl rfl T.b_max (JD.v jd_int) (JD.v (jd_min2 rfl rfl T.b_min (JD.v jd_int) (JD.v (kLen rfl T.b_len (jv_var (i := 0))))))) rfl T.b_range) (vs := [1]) (jg_name S.nd (i := 1)) (jss_cons (js_asg (vs := [2]) (jd_call c__law_drawn b.tk b.hr (by omega) rfl (ja_cons (jd_call c__law_cell b.tk b.hr (by omega) rfl (ja_cons (jd_var (i := 0)) (ja_cons (jd_var (i := 1)) ja_nil))) (ja_cons (jd_var (i := 1)) ja_nil))) (jg_name S.nd (i := 2))) (jss_cons (js_asg (vs := [3]) (jd_call c__law_house b.tk b.hr (by omega) rfl (ja_cons (jd_var (i := 2)) (ja_cons jd_int ja_nil))) (jg_name S.nd (i := 3))) (jss_cons (js_asg (vs := [4]) (jd_call c__law_plans b.tk b.hr (by omega) rfl (ja_cons (jd_var (i := 3)) ja_nil)) (jg_name S.nd (i := 4))) (jss_cons (js_for (pr := false) b.po rfl (ji_rng1 (jd_min2 rfl rfl T.b_min (JD.v jd_int) (JD.v (kLen rfl T.b_len (jv_var (i := 4))))) rfl T.b_range) (vs := [5]) (jg_name S.nd (i := 5)) (jss_cons (js_asg (vs := [6]) (jd_idx b.hu1 (jv_var (i := 4)) (JD.v (kBin oMod (JD.v (jd_call c__law_drawn b.tk b.hr (by omega) rfl (ja_cons (jd_var (i := 2)) (ja_cons (kBin oAdd (JD.v jd_int) (jv_var (i := 5))) ja_nil)))) (JD.v (kLen rfl T.b_len (jv_var (i := 4))))))) (jg_name S.nd (i := 6))) (jss_cons (js_asg (vs := [7]) (jd_idx b.hu1 (jv_var (i := 4)) (JD.v (kBin oMod (JD.v (jd_call c__law_drawn b.tk b.hr (by omega) rfl (ja_cons (jd_var (i := 2)) (ja_cons (kBin oAdd (JD.v jd_int) (jv_var (i := 5))) ja_nil)))) (JD.v (kLen rfl T.b_len (jv_var (i := 4))))))) (jg_name S.nd (i := 7))) (jss_cons (js_asg (vs := [8]) (jd_told (X := cxOf (L2N.CX P w) P w K mg base N_law "law" (defScope (top 42)) f (.ref c) A outer s H E) c_told (by omega) TB hmT huT b.hrT (by exact fun A2 outer2 s2 H2 E2 f2 c2 b2 => (jd_call c_way b2.tk b2.hr (by omega) rfl (ja_cons (jd_var (i := 3)) (ja_cons (jd_var (i := 6)) (ja_cons (jd_var (i := 7)) ja_nil))))) (L := LamX.lamS_by (sc := defScope (top 42)) (by decide +kernel))) (jg_name S.nd (i := 8))) (jss_cons (js_asg (vs := [8]) (jd_if (zCmp cIsN (jv_var (i := 8)) (JD.v jd_non)) (jd_var (i := 8)) (JN.d (jn_lst ja_nil (len_lim len_nil)))) (jg_name S.nd (i := 8))) (jss_cons (js_for (pr := false) b.po rfl (ji_rng1 jd_int rfl T.b_range) (vs := [9]) (jg_name S.nd (i := 9)) (jss_cons (js_asg (vs := [10]) (jd_call c__law_drawn b.tk b.hr (by omega) rfl (ja_cons (jd_var (i := 2)) (ja_cons (kBin oAdd (JD.v (kBin oAdd (JD.v jd_int) (JD.v (kBin oMul (JD.v jd_int) (jv_var (i := 5)))))) (jv_var (i := 9))) ja_nil))) (jg_name S.nd (i := 10))) (jss_cons (js_asg (vs := [11]) (kBin oMod (jv_var (i := 10)) (JD.v (kBin oAdd (JD.v (kLen rfl T.b_len (jv_var (i := 8)))) (JD.v jd_int)))) (jg_name S.nd (i := 11))) (jss_cons (js_asg (vs := [12]) (jd_tup (ja_cons (kBin oMod (JD.v (kBin oDiv (jv_var (i := 10)) (JD.v jd_int))) (JD.v jd_int)) (ja_cons (kBin oMod (JD.v (kBin oDiv (jv_var (i := 10)) (JD.v jd_int))) (JD.v jd_int)) ja_nil)) (by decide) (len_lim (len_cons (len_cons len_nil)))) (jg_name S.nd (i := 12))) (jss_cons (js_asg (vs := [13]) (JN.d (jn_lst (ja_cons (kBin oAdd (JD.v (kBin oAdd (JD.v (jd_slice (jv_var (i := 8)) jo_none (jo_some (jv_var (i := 11))))) (JN.v (jn_lst (ja_cons (jd_var (i := 12)) ja_nil) (len_lim (len_cons len_nil)))))) (JD.v (jd_slice (jv_var (i := 8)) (jo_some (jv_var (i := 11))) jo_none))) (ja_cons (kBin oAdd (JD.v (jd_slice (jv_var (i := 8)) jo_none (jo_some (jv_var (i := 11))))) (JD.v (jd_slice (jv_var (i := 8)) (jo_some (JD.v (kBin oAdd (jv_var (i := 11)) (JD.v jd_int)))) jo_none))) (ja_cons (jd_var (i := 8)) (ja_cons (kBin oAdd (jv_var (i := 8)) (JN.v (jn_lst (ja_cons (jd_var (i := 12)) (ja_cons (jd_var (i := 12)) ja_nil)) (len_lim (len_cons (len_cons len_nil)))))) ja_nil)))) (len_lim (len_cons (len_cons (len_cons (len_cons len_nil))))))) (jg_name S.nd (i := 13))) (jss_cons (js_asg (vs := [13]) (jd_idx b.hu1 (JD.v (kBin oAdd (jv_var (i := 13)) (JN.v (jn_lst (ja_cons (kBin oAdd (JD.v (kBin oAdd (JD.v (jd_slice (jv_var (i := 8)) jo_none (jo_some (jv_var (i := 11))))) (JN.v (jn_lst (ja_cons (jd_var (i := 12)) ja_nil) (len_lim (len_cons len_nil)))))) (JD.v (jd_slice (jv_var (i := 8)) (jo_some (JD.v (kBin oAdd (jv_var (i := 11)) (JD.v jd_int)))) jo_none))) (ja_cons (JN.d (jn_revL (jv_var (i := 8)))) ja_nil)) (len_lim (len_cons (len_cons len_nil))))))) (JD.v (kBin oMod (JD.v (kBin oDiv (jv_var (i := 10)) (JD.v (kBin oPow (JD.v jd_int) (JD.v jd_int))))) (JD.v jd_int)))) (jg_name S.nd (i := 13))) (jss_cons (js_if (zCmp (cEq b.hu) (JD.v (kBin oMod (JD.v (kBin oDiv (jv_var (i := 10)) (JD.v (kBin oPow (JD.v jd_int) (JD.v jd_int))))) (JD.v jd_int))) (JD.v jd_int)) (jss_cons (js_asg (vs := [13]) (kBin oAdd (jv_var (i := 13)) (JN.v (jn_lst (ja_cons (jd_idx b.hu1 (JN.v (jn_lst (ja_cons jd_non (ja_cons (jd_tup (ja_cons jd_int ja_nil) (by decide) (len_lim (len_cons len_nil))) (ja_cons (JN.d (jn_lst (ja_cons jd_int (ja_cons jd_int ja_nil)) (len_lim (len_cons (len_cons len_nil))))) (ja_cons (jd_tup (ja_cons jd_int (ja_cons jd_int (ja_cons jd_int ja_nil))) (by decide) (len_lim (len_cons (len_cons (len_cons len_nil))))) (ja_cons (jd_tup (ja_cons jd_bl (ja_cons jd_int ja_nil)) (by decide) (len_lim (len_cons (len_cons len_nil)))) (ja_cons (jd_tup (ja_cons jd_str (ja_cons jd_int ja_nil)) (by decide) (len_lim (len_cons (len_cons len_nil)))) ja_nil)))))) (len_lim (len_cons (len_cons (len_cons (len_cons (len_cons (len_cons len_nil))))))))) (JD.v (kBin oMod (JD.v (kBin oDiv (jv_var (i := 10)) (JD.v (kBin oPow (JD.v jd_int) (JD.v jd_int))))) (JD.v jd_int)))) ja_nil) (len_lim (len_cons len_nil))))) (jg_name S.nd (i := 13))) jss_nil) jss_nil) (jss_cons (js_if (zCmp (cNe b.hu) (JD.v (jd_call c_is_way b.tk b.hr (by omega) rfl (ja_cons (jd_var (i := 3)) (ja_cons (jd_var (i := 6)) (ja_cons (jd_var (i := 7)) (ja_cons (jd_var (i := 13)) ja_nil)))))) (JD.v (jd_call c__law_leads b.tk b.hr (by omega) rfl (ja_cons (jd_var (i := 4)) (ja_cons (jd_var (i := 6)) (ja_cons (jd_var (i := 7)) (ja_cons (jd_var (i := 13)) ja_nil))))))) (jss_one (js_ret jd_bl)) jss_nil) jss_nil)))))))) (jss_cons (js_for (pr := false) b.po rfl (ji_seq (JN.d (jn_lst (ja_cons jd_non (ja_cons (jd_tup ja_nil (by decide) (len_lim len_nil)) (ja_cons jd_str (ja_cons (kTuple rfl T.b_tuple (jv_var (i := 8))) (ja_cons jd_int ja_nil))))) (len_lim (len_cons (len_cons (len_cons (len_cons (len_cons len_nil))))))))) (vs := [14]) (jg_name S.nd (i := 14)) (jss_cons (js_if (zCmp cIsN (JD.v (jd_call c_is_way b.tk b.hr (by omega) rfl (ja_cons (jd_var (i := 3)) (ja_cons (jd_var (i := 6)) (ja_cons (jd_var (i := 7)) (ja_cons (jd_var (i := 14)) ja_nil)))))) (JD.v jd_bl)) (jss_one (js_ret jd_bl)) jss_nil) jss_nil)) jss_nil))))))) jss_nil))))) (jss_one (js_ret jd_bl)))
theorem k__law_told (T : Txt w K mg d_LENGTHS) {g fw : Addr} {fd fdw : FuncData} (F : Fun K "_law_told" "_law_told" (top 35) g fd) (hm : mg "_law_told" = some (.ref g)) (Fw : Fun K "_law_word" "_law_word" (top 34) fw fdw) (hw : mg "_law_word" = some (.ref fw)) : ToldK P w K mg base 1 "_law_told" word :=
  ⟨⟨g, top 35, fd, "_law_deed", "_law_e", "WayError", "_law_word", "_law_e", Tb.A .way, fw, fdw, N__law_told, _, _, _, _, _, _, _, _, _, _, F, (F.binds (ps := ["_law_deed"]) fun _ _ _ _ _ _ us hl => match us, hl with | [_], _ => rfl), sc__law_told, hm, rfl, rfl, rfl, rfl, rfl, rfl, by decide, by decide, by decide, by decide, by decide, by decide, T.x_WayError, T.exm, k__law_word T Fw, hw, Fw.kp,
    (Fw.binds (ps := ["_law_e"]) fun _ _ _ _ _ _ us hl => match us, hl with | [_], _ => rfl)⟩⟩
end
end K22
/-! PM1 -/
set_option Elab.async false
set_option linter.all false
set_option maxRecDepth 100000
set_option maxHeartbeats 2000000
namespace PG
open DL
open PySem (PyData Str)
/-- no dict within, so deep at most, lists so long at most -/
def pl : Nat → Nat → D → Bool
  | _, _, .none => true
  | _, _, .bool _ => true
  | _, _, .int _ => true
  | _, _, .str x => (PyData.str x).canLay0
  | 0, _, .list _ => false
  | 0, _, .tuple _ => false
  | m + 1, L, .list xs => decide (xs.length ≤ L) && xs.all (pl m L)
  | m + 1, L, .tuple xs => decide (xs.length ≤ L) && xs.all (pl m L)
  | _, _, .dict _ => false
theorem pl_lay (L : Nat) : ∀ (n : Nat) (d : D), pl n L d = true → d.canLay0 = true ∧ d.depth ≤ n
  | 0, d, h => by cases d <;> simp_all [pl, PyData.canLay0, PyData.depth]
  | n + 1, d, h => by
    have all : ∀ xs : List D, xs.all (pl n L) = true → PyData.canLayAll0 xs = true ∧ PyData.depthAll xs ≤ n := by
      intro xs
      induction xs with
      | nil => intro _; simp [PyData.canLayAll0, PyData.depthAll]
      | cons x xs ih =>
        intro h
        rw [List.all_cons, Bool.and_eq_true] at h
        have h1 := pl_lay L n x h.1
        have h2 := ih h.2
        refine ⟨by rw [PyData.canLayAll0, h1.1, h2.1]; rfl, ?_⟩
        rw [PyData.depthAll]
        omega
    cases d with
    | list xs =>
      simp only [pl, Bool.and_eq_true] at h
      have := all xs h.2
      exact ⟨by rw [PyData.canLay0]; exact this.1, by rw [PyData.depth]; omega⟩
    | tuple xs =>
      simp only [pl, Bool.and_eq_true] at h
      have := all xs h.2
      exact ⟨by rw [PyData.canLay0]; exact this.1, by rw [PyData.depth]; omega⟩
    | _ => simp_all [pl, PyData.canLay0, PyData.depth]
theorem pl_shaped {L n : Nat} {d : D} (h : pl n L d = true) (hn : n ≤ 64) : shaped d = true := by
  have := pl_lay L n d h
  show (d.canLay0 && decide (d.depth ≤ 64)) = true
  rw [this.1, decide_eq_true (by omega)]
  rfl
def cnt (x : D) (lo hi : Int) : Bool := match x with
  | .int i => decide (lo ≤ i) && decide (i ≤ hi)
  | _ => false
def nod : D → Bool
  | .dict _ => false
  | _ => true
theorem pl_nod {L n : Nat} {d : D} (h : pl n L d = true) : nod d = true := by
  cases d <;> first | rfl | (cases n <;> simp [pl] at h)
theorem is_count_eq {x : D} (hx : nod x = true) (lo hi : Int) : f_is_count [x, .int lo, .int hi] = .ok (.bool (cnt x lo hi)) := by
  cases x <;> first | (cases hx; done) | skip
  all_goals simp [f_is_count, runF, sRet, eAnd, eNot, e1, eVar, dIsi, isI, isB, eChain, dLe, cnt]
  rename_i i
  by_cases h : lo ≤ i <;> simp [h]
def ltB : D → D → Bool
  | .int i, .int j => decide (i < j)
  | _, _ => false
def lt2 : D → D → D → D → Bool
  | .int a, .int b, .int c, .int d => lexLt [a, b] [c, d]
  | _, _, _, _ => false
def ruleB (t : D) (p c : Int) : Bool := match t with
  | .tuple [.str k, x, y] =>
    if k = "unlike" ∨ k = "alike" then cnt x 0 (p - 1) && cnt y 0 (p - 1) && ltB x y
    else if k = "most" ∨ k = "least" then cnt x 0 (c - 1) && cnt y 0 p
    else if k = "not" then cnt x 0 (p - 1) && cnt y 0 (c - 1) else false
  | .tuple [.str k, x, y, z, u] => if k = "either" then cnt x 0 (p - 1) && cnt z 0 (p - 1) && (cnt y 0 (c - 1) && cnt u 0 (c - 1)) && lt2 x y z u else false
  | _ => false
theorem cnt_int {x : D} {lo hi : Int} (h : cnt x lo hi = true) : ∃ i, x = .int i := by
  cases x <;> simp [cnt] at h
  exact ⟨_, rfl⟩
end PG
/-! PM2 -/
set_option Elab.async false
set_option linter.all false
set_option maxRecDepth 100000
set_option maxHeartbeats 2000000
namespace PG
open DL
open PySem (PyData Str)
theorem atI_nat {α : Type} {xs : List α} {k : Nat} : atI xs (k : Int) = xs[k]? := by
  unfold atI ixN
  rw [if_pos (by omega)]
  by_cases h : (k : Int) < xs.length
  · rw [if_pos h]; simp
  · rw [if_neg h]
    rw [List.getElem?_eq_none (by omega)]
    rfl
theorem idxT {xs : List D} {k : Nat} {d : D} (h : xs[k]? = some d) : dIdx (.tuple xs) (.int (k : Int)) = .ok d := by
  simp only [dIdx, atI_nat, h]
theorem idxL {xs : List D} {k : Nat} {d : D} (h : xs[k]? = some d) : dIdx (.list xs) (.int (k : Int)) = .ok d := by
  simp only [dIdx, atI_nat, h]
theorem idx0 {x : D} {r : List D} : dIdx (.tuple (x :: r)) (.int 0) = .ok x := idxT (k := 0) rfl
theorem idx1 {x y : D} {r : List D} : dIdx (.tuple (x :: y :: r)) (.int 1) = .ok y := idxT (k := 1) rfl
theorem idx2 {x y z : D} {r : List D} : dIdx (.tuple (x :: y :: z :: r)) (.int 2) = .ok z := idxT (k := 2) rfl
theorem idx3 {x y z u : D} {r : List D} : dIdx (.tuple (x :: y :: z :: u :: r)) (.int 3) = .ok u := idxT (k := 3) rfl
theorem idx4 {x y z u v : D} {r : List D} : dIdx (.tuple (x :: y :: z :: u :: v :: r)) (.int 4) = .ok v := idxT (k := 4) rfl
theorem eq_empty {x : D} {r : List D} (h : shaped (.tuple (x :: r)) = true) : dEq (.tuple (x :: r)) (.tuple []) = .ok (.bool false) := by
  have h2 : shaped (.tuple []) = true := rfl
  simp [dEq, h, h2, PyData.eqv, PyData.eqvAll]
theorem pl_cons {L n : Nat} {x : D} {r : List D} (h : pl n L (.tuple (x :: r)) = true) : ∀ d ∈ x :: r, nod d = true := by
  cases n with
  | zero => simp [pl] at h
  | succ m =>
    simp only [pl, Bool.and_eq_true] at h
    exact fun d hd => pl_nod (List.all_eq_true.mp h.2 d hd)
theorem tab_no {k : Str} (h : k ≠ "unlike" ∧ k ≠ "alike" ∧ k ≠ "not" ∧ k ≠ "either" ∧ k ≠ "most" ∧ k ≠ "least") : dNotInTab t_LENGTHS (.str k) = .ok (.bool true) := by
  obtain ⟨h1, h2, h3, h4, h5, h6⟩ := h
  have b : ∀ {x : Str}, k ≠ x → (k == x) = false := fun h => by simpa using h
  simp [dNotInTab, t_LENGTHS, List.lookup_cons, b h1, b h2, b h3, b h4, b h5, b h6]
theorem ne_int {i j : Int} : dNe (.int i) (.int j) = .ok (.bool (!(i == j))) := by
  have h : ∀ i : Int, shaped (.int i) = true := fun _ => rfl
  simp [dNe, h, PyData.eqv]
theorem eq_int {i j : Int} : dEq (.int i) (.int j) = .ok (.bool (i == j)) := by
  have h : ∀ i : Int, shaped (.int i) = true := fun _ => rfl
  simp [dEq, h, PyData.eqv]
theorem len_tup {xs : List D} : dLen (.tuple xs) = .ok (.int xs.length) := rfl
theorem in2 {k x y : Str} : dIn (.str k) (.tuple [.str x, .str y]) = .ok (.bool (x == k || y == k)) := by
  simp [dIn, dInB, flat, PyData.eqv]
theorem eq_str {x y : Str} (hx : shaped (.str x) = true) (hy : shaped (.str y) = true) : dEq (.str x) (.str y) = .ok (.bool (x == y)) := by
  simp [dEq, hx, hy, PyData.eqv]
theorem all2 {a b : Bool} : dAll (.list [.bool a, .bool b]) = .ok (.bool (a && b)) := by
  simp [dAll, allB]
theorem all1 {a : Bool} : dAll (.list [.bool a]) = .ok (.bool a) := by
  simp [dAll, allB]
theorem lt_int {i j : Int} : dLt (.int i) (.int j) = .ok (.bool (decide (i < j))) := rfl
/-- the comprehension of is_count over a list -/
theorem comp_count {ρ : Env} {it : FA} {xs : List D} {e : FE} (hit : it ρ = .ok xs) (hl : xs.length ≤ lim) (lo hi : Int) (hx : ∀ x ∈ xs, nod x = true) (he : ∀ x, nod x = true → e ((wipeE ρ [3]).set 3 (some x)) = .ok (.bool (cnt x lo hi))) :
    eComp it [3] (gName 3) tYes e ρ = .ok (.list (xs.map fun x => .bool (cnt x lo hi))) := by
  have c : ∀ ys : List D, (∀ x ∈ ys, nod x = true) → compL (gName 3) tYes e (wipeE ρ [3]) ys = .ok (ys.map fun x => .bool (cnt x lo hi)) := by
    intro ys
    induction ys with
    | nil => intro _; rfl
    | cons y ys ih =>
      intro h
      simp [compL, gName, tYes, he y (h y List.mem_cons_self), ih fun x hx => h x (List.mem_cons_of_mem _ hx)]
  simp [eComp, hit, c xs hx, noX, hl]
theorem cut_1 {α : Type} {x : α} {r : List α} : cut (x :: r) (some 1) none = r := by
  have e1 : sIx (r.length + 1) 0 (some 1) = 1 := by simp [sIx]
  simp [cut, e1, sIx]
theorem it_1 {ρ : Env} {x : D} {r : List D} (h : ρ[0]? = some (some (.tuple (x :: r)))) : iSeq (eSlice (eVar 0) (oSome (eC (.int 1))) oNone) ρ = .ok r := by
  simp [iSeq, eSlice, eVar, h, oSome, eC, oNone, dSlice, cut_1, items]
theorem cut3_of {xs ys : List D} {lo hi : Option Int} {c a b : Int} {n : Nat} (k : Int) (hk : (xs.length : Int) = k) (hc : c ≠ 0 ∧ c ≠ 1) (h1 : PySem.Builtin.Slice.sliceAdjust lo hi c k = (a, b)) (h2 : PySem.Builtin.Slice.slicePlaces a b c = n) (h3 : ((List.range n).filterMap fun (m : Nat) => xs[(a + (m : Int) * c).toNat]?) = ys) (h4 : ys.length ≤ lim) : dCut3 lo hi c (.tuple xs) = .ok (.tuple ys) := by
  have e : cut3 xs lo hi c = ys := by
    unfold cut3
    rw [hk, h1]
    simp only
    rw [h2]
    exact h3
  simp only [dCut3, e]
  rw [if_pos ⟨hc.1, hc.2, h4⟩]
theorem strOk_of {x : Str} (h : (x.cps.toList.all fun n => decide (n < 1114112)) = true) : (PyData.str x).canLay0 = true := by
  rw [PyData.canLay0, PyData.strOk, ← Array.all_toList]
  exact h
theorem shaped_s {x : Str} (h : (x.cps.toList.all fun n => decide (n < 1114112)) = true) : shaped (.str x) = true := by
  show ((PyData.str x).canLay0 && decide ((PyData.str x).depth ≤ 64)) = true
  rw [strOk_of h]
  rfl
/-- the first kind of rules -/
theorem rule_two {x y : D} (hx : nod x = true) (hy : nod y = true) (k : Str) (p c : Int) (hk : k = "unlike" ∨ k = "alike") (hs : shaped (.tuple [.str k, x, y]) = true) : f_is_rule [.tuple [.str k, x, y], .int p, .int c] = .ok (.bool (cnt x 0 (p - 1) && cnt y 0 (p - 1) && ltB x y)) := by
  have e0 := eq_empty hs
  have n1 : dNotInTab t_LENGTHS (.str k) = .ok (.bool false) := by rcases hk with rfl | rfl <;> rfl
  have n2 : dTabAt t_LENGTHS (.str k) = .ok (.int 3) := by rcases hk with rfl | rfl <;> rfl
  have n3 : (("unlike" : Str) == k || ("alike" : Str) == k) = true := by rcases hk with rfl | rfl <;> rfl
  have cc := comp_count (ρ := [some (.tuple [.str k, x, y]), some (.int p), some (.int c), none, none, none, none]) (it := iSeq (eSlice (eVar 0) (oSome (eC (.int 1))) oNone)) (e := eF f_is_count (aCons (eVar 3) (aCons (eC (.int 0)) (aCons (e2 dSub (eVar 1) (eC (.int 1))) aNil)))) (it_1 rfl) (by simp [lim]) 0 (p - 1)
    (fun z hz => by rcases List.mem_cons.mp hz with rfl | hz; exact hx; rcases List.mem_cons.mp hz with rfl | hz; exact hy; exact nomatch hz)
    (fun z hz => by simp [wipeE, runF, sSeq, sRet, sRetN, sNext, DL.sIf, sAsg, sPar, sDrop, DL.tOr, DL.tAnd, DL.tNot, DL.tB, DL.tTru, DL.tYes, e1, e2, eF, eC, eVar, aCons, aNil, fTup, fLst, eAnd, eOr, eNot, eIf, eChain, DL.gName, DL.gTup, gLstD, DL.gCons, DL.gNil, eSlice, oNone, oSome, R.bind_ok, R.bind_exc, R.bind_bad, truth, dSub, is_count_eq hz])
  simp only [List.map_cons, List.map_nil] at cc
  simp [f_is_rule, runF, sSeq, sRet, sRetN, sNext, DL.sIf, sAsg, sPar, sDrop, DL.tOr, DL.tAnd, DL.tNot, DL.tB, DL.tTru, DL.tYes, e1, e2, eF, eC, eVar, aCons, aNil, fTup, fLst, eAnd, eOr, eNot, eIf, eChain, DL.gName, DL.gTup, gLstD, DL.gCons, DL.gNil, eSlice, oNone, oSome, R.bind_ok, R.bind_exc, R.bind_bad, truth, dIsi, isT, isS, e0, idx0, idx1, idx2, n1, n2, len_tup, ne_int, in2, n3, cc, all2]
  cases ha : cnt x 0 (p - 1) <;> cases hb : cnt y 0 (p - 1) <;> simp
  obtain ⟨i, rfl⟩ := cnt_int ha
  obtain ⟨j, rfl⟩ := cnt_int hb
  simp [lt_int, ltB]
theorem rule_most {x y : D} (hx : nod x = true) (hy : nod y = true) (k : Str) (p c : Int) (hk : k = "most" ∨ k = "least") (hs : shaped (.tuple [.str k, x, y]) = true) : f_is_rule [.tuple [.str k, x, y], .int p, .int c] = .ok (.bool (cnt x 0 (c - 1) && cnt y 0 p)) := by
  have e0 := eq_empty hs
  have n1 : dNotInTab t_LENGTHS (.str k) = .ok (.bool false) := by rcases hk with rfl | rfl <;> rfl
  have n2 : dTabAt t_LENGTHS (.str k) = .ok (.int 3) := by rcases hk with rfl | rfl <;> rfl
  have n3 : (("unlike" : Str) == k || ("alike" : Str) == k) = false := by rcases hk with rfl | rfl <;> rfl
  have n4 : (("most" : Str) == k || ("least" : Str) == k) = true := by rcases hk with rfl | rfl <;> rfl
  simp [f_is_rule, runF, sSeq, sRet, sRetN, sNext, DL.sIf, sAsg, sPar, sDrop, DL.tOr, DL.tAnd, DL.tNot, DL.tB, DL.tTru, DL.tYes, e1, e2, eF, eC, eVar, aCons, aNil, fTup, fLst, eAnd, eOr, eNot, eIf, eChain, DL.gName, DL.gTup, gLstD, DL.gCons, DL.gNil, eSlice, oNone, oSome, R.bind_ok, R.bind_exc, R.bind_bad, truth, dIsi, isT, isS, e0, idx0, idx1, idx2, n1, n2, len_tup, ne_int, in2, n3, n4, dSub, is_count_eq hx, is_count_eq hy]
  cases ha : cnt x 0 (c - 1) <;> cases hb : cnt y 0 p <;> simp
theorem rule_not {x y : D} (hx : nod x = true) (hy : nod y = true) (p c : Int) (hs : shaped (.tuple [.str "not", x, y]) = true) : f_is_rule [.tuple [.str "not", x, y], .int p, .int c] = .ok (.bool (cnt x 0 (p - 1) && cnt y 0 (c - 1))) := by
  have e0 := eq_empty hs
  have n1 : dNotInTab t_LENGTHS (.str "not") = .ok (.bool false) := rfl
  have n2 : dTabAt t_LENGTHS (.str "not") = .ok (.int 3) := rfl
  have n3 : (("unlike" : Str) == "not" || ("alike" : Str) == "not") = false := rfl
  have n4 : (("most" : Str) == "not" || ("least" : Str) == "not") = false := rfl
  have s1 : dCut3 (some 1) none 2 (.tuple [.str "not", x, y]) = .ok (.tuple [x]) := cut3_of (a := 1) (b := 3) (n := 1) 3 rfl (by decide) (by decide) (by decide) rfl (by simp [lim])
  have s2 : dCut3 (some 2) none 2 (.tuple [.str "not", x, y]) = .ok (.tuple [y]) := cut3_of (a := 2) (b := 3) (n := 1) 3 rfl (by decide) (by decide) (by decide) rfl (by simp [lim])
  have hn : shaped (.str "not") = true := shaped_s rfl
  have cc := comp_count (ρ := [some (.tuple [.str "not", x, y]), some (.int p), some (.int c), none, some (.tuple [x]), some (.tuple [y]), none]) (it := iSeq (eVar 4)) (xs := [x]) (e := eF f_is_count (aCons (eVar 3) (aCons (eC (.int 0)) (aCons (e2 dSub (eVar 1) (eC (.int 1))) aNil)))) rfl (by simp [lim]) 0 (p - 1)
    (fun z hz => by rcases List.mem_cons.mp hz with rfl | hz; exact hx; exact nomatch hz) (fun z hz => by simp [wipeE, runF, sSeq, sRet, sRetN, sNext, DL.sIf, sAsg, sPar, sDrop, DL.tOr, DL.tAnd, DL.tNot, DL.tB, DL.tTru, DL.tYes, e1, e2, eF, eC, eVar, aCons, aNil, fTup, fLst, eAnd, eOr, eNot, eIf, eChain, DL.gName, DL.gTup, gLstD, DL.gCons, DL.gNil, eSlice, oNone, oSome, R.bind_ok, R.bind_exc, R.bind_bad, truth, dSub, is_count_eq hz])
  have cd : ∀ g : D, eComp (iSeq (eVar 5)) [3] (gName 3) tYes (eF f_is_count (aCons (eVar 3) (aCons (eC (.int 0)) (aCons (e2 dSub (eVar 2) (eC (.int 1))) aNil)))) [some (.tuple [.str "not", x, y]), some (.int p), some (.int c), none, some (.tuple [x]), some (.tuple [y]), some g] = .ok (.list [.bool (cnt y 0 (c - 1))]) := fun g =>
    comp_count (it := iSeq (eVar 5)) (xs := [y]) rfl (by simp [lim]) 0 (c - 1)
    (fun z hz => by rcases List.mem_cons.mp hz with rfl | hz; exact hy; exact nomatch hz) (fun z hz => by simp [wipeE, runF, sSeq, sRet, sRetN, sNext, DL.sIf, sAsg, sPar, sDrop, DL.tOr, DL.tAnd, DL.tNot, DL.tB, DL.tTru, DL.tYes, e1, e2, eF, eC, eVar, aCons, aNil, fTup, fLst, eAnd, eOr, eNot, eIf, eChain, DL.gName, DL.gTup, gLstD, DL.gCons, DL.gNil, eSlice, oNone, oSome, R.bind_ok, R.bind_exc, R.bind_bad, truth, dSub, is_count_eq hz])
  simp only [List.map_cons, List.map_nil] at cc
  simp [f_is_rule, runF, sSeq, sRet, sRetN, sNext, DL.sIf, sAsg, sPar, sDrop, DL.tOr, DL.tAnd, DL.tNot, DL.tB, DL.tTru, DL.tYes, e1, e2, eF, eC, eVar, aCons, aNil, fTup, fLst, eAnd, eOr, eNot, eIf, eChain, DL.gName, DL.gTup, gLstD, DL.gCons, DL.gNil, eSlice, oNone, oSome, R.bind_ok, R.bind_exc, R.bind_bad, truth, dIsi, isT, isS, e0, idx0, idx1, idx2, n1, n2, len_tup, ne_int, in2, n3, n4, s1, s2, cc]
  cases ha : cnt x 0 (p - 1) <;> cases hb : cnt y 0 (c - 1) <;> simp [all1, cd, hb, eq_str hn hn, idx0]
theorem rule_either {x y z u : D} (hx : nod x = true) (hy : nod y = true) (hz : nod z = true) (hu : nod u = true) (p c : Int) (hs : shaped (.tuple [.str "either", x, y, z, u]) = true) : f_is_rule [.tuple [.str "either", x, y, z, u], .int p, .int c] = .ok (.bool (cnt x 0 (p - 1) && cnt z 0 (p - 1) && (cnt y 0 (c - 1) && cnt u 0 (c - 1)) && lt2 x y z u)) := by
  have e0 := eq_empty hs
  have n1 : dNotInTab t_LENGTHS (.str "either") = .ok (.bool false) := rfl
  have n2 : dTabAt t_LENGTHS (.str "either") = .ok (.int 5) := rfl
  have n3 : (("unlike" : Str) == "either" || ("alike" : Str) == "either") = false := rfl
  have n4 : (("most" : Str) == "either" || ("least" : Str) == "either") = false := rfl
  have s1 : dCut3 (some 1) none 2 (.tuple [.str "either", x, y, z, u]) = .ok (.tuple [x, z]) := cut3_of (a := 1) (b := 5) (n := 2) 5 rfl (by decide) (by decide) (by decide) rfl (by simp [lim])
  have s2 : dCut3 (some 2) none 2 (.tuple [.str "either", x, y, z, u]) = .ok (.tuple [y, u]) := cut3_of (a := 2) (b := 5) (n := 2) 5 rfl (by decide) (by decide) (by decide) rfl (by simp [lim])
  have s3 : dSlice (.tuple [.str "either", x, y, z, u]) (some 1) (some 3) = .ok (.tuple [x, y]) := rfl
  have s4 : dSlice (.tuple [.str "either", x, y, z, u]) (some 3) none = .ok (.tuple [z, u]) := rfl
  have hn : shaped (.str "not") = true := shaped_s rfl
  have he : shaped (.str "either") = true := shaped_s rfl
  have en : (("either" : Str) == "not") = false := rfl
  have cc := comp_count (ρ := [some (.tuple [.str "either", x, y, z, u]), some (.int p), some (.int c), none, some (.tuple [x, z]), some (.tuple [y, u]), none]) (it := iSeq (eVar 4)) (xs := [x, z]) (e := eF f_is_count (aCons (eVar 3) (aCons (eC (.int 0)) (aCons (e2 dSub (eVar 1) (eC (.int 1))) aNil)))) rfl (by simp [lim]) 0 (p - 1)
    (fun w hw => by rcases List.mem_cons.mp hw with rfl | hw; exact hx; rcases List.mem_cons.mp hw with rfl | hw; exact hz; exact nomatch hw) (fun z hz => by simp [wipeE, runF, sSeq, sRet, sRetN, sNext, DL.sIf, sAsg, sPar, sDrop, DL.tOr, DL.tAnd, DL.tNot, DL.tB, DL.tTru, DL.tYes, e1, e2, eF, eC, eVar, aCons, aNil, fTup, fLst, eAnd, eOr, eNot, eIf, eChain, DL.gName, DL.gTup, gLstD, DL.gCons, DL.gNil, eSlice, oNone, oSome, R.bind_ok, R.bind_exc, R.bind_bad, truth, dSub, is_count_eq hz])
  have cd : ∀ g : D, eComp (iSeq (eVar 5)) [3] (gName 3) tYes (eF f_is_count (aCons (eVar 3) (aCons (eC (.int 0)) (aCons (e2 dSub (eVar 2) (eC (.int 1))) aNil)))) [some (.tuple [.str "either", x, y, z, u]), some (.int p), some (.int c), none, some (.tuple [x, z]), some (.tuple [y, u]), some g] = .ok (.list [.bool (cnt y 0 (c - 1)), .bool (cnt u 0 (c - 1))]) := fun g =>
    comp_count (it := iSeq (eVar 5)) (xs := [y, u]) rfl (by simp [lim]) 0 (c - 1)
    (fun w hw => by rcases List.mem_cons.mp hw with rfl | hw; exact hy; rcases List.mem_cons.mp hw with rfl | hw; exact hu; exact nomatch hw) (fun z hz => by simp [wipeE, runF, sSeq, sRet, sRetN, sNext, DL.sIf, sAsg, sPar, sDrop, DL.tOr, DL.tAnd, DL.tNot, DL.tB, DL.tTru, DL.tYes, e1, e2, eF, eC, eVar, aCons, aNil, fTup, fLst, eAnd, eOr, eNot, eIf, eChain, DL.gName, DL.gTup, gLstD, DL.gCons, DL.gNil, eSlice, oNone, oSome, R.bind_ok, R.bind_exc, R.bind_bad, truth, dSub, is_count_eq hz])
  simp only [List.map_cons, List.map_nil] at cc
  simp [f_is_rule, runF, sSeq, sRet, sRetN, sNext, DL.sIf, sAsg, sPar, sDrop, DL.tOr, DL.tAnd, DL.tNot, DL.tB, DL.tTru, DL.tYes, e1, e2, eF, eC, eVar, aCons, aNil, fTup, fLst, eAnd, eOr, eNot, eIf, eChain, DL.gName, DL.gTup, gLstD, DL.gCons, DL.gNil, eSlice, oNone, oSome, R.bind_ok, R.bind_exc, R.bind_bad, truth, dIsi, isT, isS, e0, idx0, idx1, idx2, n1, n2, len_tup, ne_int, in2, n3, n4, s1, s2, cc, all2]
  cases ha : cnt x 0 (p - 1) <;> cases hb : cnt z 0 (p - 1) <;> simp [cd, all2]
  cases hc : cnt y 0 (c - 1) <;> cases hd : cnt u 0 (c - 1) <;> simp [eq_str he hn, en, s3, s4, idx0]
  obtain ⟨i, rfl⟩ := cnt_int ha
  obtain ⟨j, rfl⟩ := cnt_int hb
  obtain ⟨i2, rfl⟩ := cnt_int hc
  obtain ⟨j2, rfl⟩ := cnt_int hd
  simp [dLt, intsOf, lt2]
theorem rule_no {k : Str} {r : List D} (hs : shaped (.tuple (.str k :: r)) = true) (p c : Int) (h : k ≠ "unlike" ∧ k ≠ "alike" ∧ k ≠ "not" ∧ k ≠ "either" ∧ k ≠ "most" ∧ k ≠ "least") : f_is_rule [.tuple (.str k :: r), .int p, .int c] = .ok (.bool false) := by
  simp [f_is_rule, runF, sSeq, sRet, sRetN, sNext, DL.sIf, sAsg, sPar, sDrop, DL.tOr, DL.tAnd, DL.tNot, DL.tB, DL.tTru, DL.tYes, e1, e2, eF, eC, eVar, aCons, aNil, fTup, fLst, eAnd, eOr, eNot, eIf, eChain, DL.gName, DL.gTup, gLstD, DL.gCons, DL.gNil, eSlice, oNone, oSome, R.bind_ok, R.bind_exc, R.bind_bad, truth, dIsi, isT, isS, eq_empty hs, idx0, tab_no h]
theorem rule_len {k : Str} {r : List D} {m : Int} (hs : shaped (.tuple (.str k :: r)) = true) (p c : Int) (h1 : dNotInTab t_LENGTHS (.str k) = .ok (.bool false)) (h2 : dTabAt t_LENGTHS (.str k) = .ok (.int m)) (hm : (r.length : Int) + 1 ≠ m) : f_is_rule [.tuple (.str k :: r), .int p, .int c] = .ok (.bool false) := by
  have hm' : ((r.length : Int) + 1 == m) = false := by simpa using hm
  simp [f_is_rule, runF, sSeq, sRet, sRetN, sNext, DL.sIf, sAsg, sPar, sDrop, DL.tOr, DL.tAnd, DL.tNot, DL.tB, DL.tTru, DL.tYes, e1, e2, eF, eC, eVar, aCons, aNil, fTup, fLst, eAnd, eOr, eNot, eIf, eChain, DL.gName, DL.gTup, gLstD, DL.gCons, DL.gNil, eSlice, oNone, oSome, R.bind_ok, R.bind_exc, R.bind_bad, truth, dIsi, isT, isS, eq_empty hs, idx0, h1, h2, len_tup, ne_int, hm']
theorem is_rule_eq {L n : Nat} {t : D} (h : pl n L t = true) (hn : n ≤ 60) (p c : Int) : f_is_rule [t, .int p, .int c] = .ok (.bool (ruleB t p c)) := by
  cases t with
  | tuple xs =>
    cases xs with
    | nil =>
      have h2 : shaped (.tuple []) = true := rfl
      simp [f_is_rule, runF, sSeq, sRet, sRetN, sNext, DL.sIf, sAsg, sPar, sDrop, DL.tOr, DL.tAnd, DL.tNot, DL.tB, DL.tTru, DL.tYes, e1, e2, eF, eC, eVar, aCons, aNil, fTup, fLst, eAnd, eOr, eNot, eIf, eChain, DL.gName, DL.gTup, gLstD, DL.gCons, DL.gNil, eSlice, oNone, oSome, R.bind_ok, R.bind_exc, R.bind_bad, truth, dIsi, isT, dEq, h2, PyData.eqv, PyData.eqvAll, ruleB]
    | cons x0 r =>
      have hs := pl_shaped h (by omega)
      have e0 := eq_empty hs
      have hd := pl_cons h
      cases x0 with
      | str k =>
        by_cases hk : k = "unlike" ∨ k = "alike" ∨ k = "not" ∨ k = "either" ∨ k = "most" ∨ k = "least"
        · match r, hs, hd with
          | [], hs, hd => rcases hk with rfl | rfl | rfl | rfl | rfl | rfl <;> exact rule_len hs p c rfl rfl (by simp)
          | [x], hs, hd => rcases hk with rfl | rfl | rfl | rfl | rfl | rfl <;> exact rule_len hs p c rfl rfl (by simp)
          | [x, y], hs, hd =>
            have hx : nod x = true := hd x (by simp)
            have hy : nod y = true := hd y (by simp)
            rcases hk with rfl | rfl | rfl | rfl | rfl | rfl
            · exact rule_two hx hy _ p c (.inl rfl) hs
            · exact rule_two hx hy _ p c (.inr rfl) hs
            · exact rule_not hx hy p c hs
            · exact rule_len hs p c rfl rfl (by simp)
            · exact rule_most hx hy _ p c (.inl rfl) hs
            · exact rule_most hx hy _ p c (.inr rfl) hs
          | [x, y, z], hs, hd => rcases hk with rfl | rfl | rfl | rfl | rfl | rfl <;> exact rule_len hs p c rfl rfl (by simp)
          | [x, y, z, u], hs, hd =>
            have hx : nod x = true := hd x (by simp)
            have hy : nod y = true := hd y (by simp)
            have hz : nod z = true := hd z (by simp)
            have hu : nod u = true := hd u (by simp)
            rcases hk with rfl | rfl | rfl | rfl | rfl | rfl
            · exact rule_len hs p c rfl rfl (by simp)
            · exact rule_len hs p c rfl rfl (by simp)
            · exact rule_len hs p c rfl rfl (by simp)
            · exact rule_either hx hy hz hu p c hs
            · exact rule_len hs p c rfl rfl (by simp)
            · exact rule_len hs p c rfl rfl (by simp)
          | x :: y :: z :: u :: v :: r, hs, hd => rcases hk with rfl | rfl | rfl | rfl | rfl | rfl <;> exact rule_len hs p c rfl rfl (by simp; omega)
        · simp only [not_or] at hk
          rw [rule_no hs p c hk]
          obtain ⟨h1, h2, h3, h4, h5, h6⟩ := hk
          match r with
          | [] => rfl
          | [x] => rfl
          | [x, y] => simp [ruleB, h1, h2, h3, h4, h5, h6]
          | [x, y, z] => rfl
          | [x, y, z, u] => simp [ruleB, h1, h2, h3, h4, h5, h6]
          | x :: y :: z :: u :: v :: r => rfl
      | dict _ => exact absurd (hd _ List.mem_cons_self) (by simp [nod])
      | _ => simp [f_is_rule, runF, sSeq, sRet, sRetN, sNext, DL.sIf, sAsg, sPar, sDrop, DL.tOr, DL.tAnd, DL.tNot, DL.tB, DL.tTru, DL.tYes, e1, e2, eF, eC, eVar, aCons, aNil, fTup, fLst, eAnd, eOr, eNot, eIf, eChain, DL.gName, DL.gTup, gLstD, DL.gCons, DL.gNil, eSlice, oNone, oSome, R.bind_ok, R.bind_exc, R.bind_bad, truth, dIsi, isT, isS, e0, idx0, ruleB]
  | dict _ => exact absurd (pl_nod h) (by simp [nod])
  | _ => simp [f_is_rule, runF, sSeq, sRet, sRetN, sNext, DL.sIf, sAsg, sPar, sDrop, DL.tOr, DL.tAnd, DL.tNot, DL.tB, DL.tTru, DL.tYes, e1, e2, eF, eC, eVar, aCons, aNil, fTup, fLst, eAnd, eOr, eNot, eIf, eChain, DL.gName, DL.gTup, gLstD, DL.gCons, DL.gNil, eSlice, oNone, oSome, R.bind_ok, R.bind_exc, R.bind_bad, truth, dIsi, isT, ruleB]
end PG
/-! PM3 -/
set_option Elab.async false
set_option linter.all false
set_option maxRecDepth 100000
set_option maxHeartbeats 2000000
namespace PG
open DL
open PySem (PyData Str)
def rulesB (a b : D) (rs : List D) : Bool := match a, b with
  | .int p, .int c => rs.all fun r => ruleB r p c
  | _, _ => false
def houseB (t : D) : Bool := match t with
  | .tuple [a, b, .tuple rs] => cnt a 1 5 && cnt b 1 4 && decide (rs.length ≤ 8) && rulesB a b rs
  | _ => false
theorem gt_int {i j : Int} : dGt (.int i) (.int j) = .ok (.bool (decide (j < i))) := rfl
theorem allB_map {g : D → Bool} : ∀ rs : List D, allB (rs.map fun r => .bool (g r)) = .ok (rs.all g)
  | [] => rfl
  | r :: rs => by simp [allB, allB_map rs]
theorem comp_bool {ρ : Env} {it : FA} {xs : List D} {e : FE} {v : Nat} {g : D → Bool} (hit : it ρ = .ok xs) (hl : xs.length ≤ lim) (he : ∀ x ∈ xs, e ((wipeE ρ [v]).set v (some x)) = .ok (.bool (g x))) :
    eComp it [v] (gName v) tYes e ρ = .ok (.list (xs.map fun x => .bool (g x))) := by
  have c : ∀ ys : List D, (∀ x ∈ ys, x ∈ xs) → compL (gName v) tYes e (wipeE ρ [v]) ys = .ok (ys.map fun x => .bool (g x)) := by
    intro ys
    induction ys with
    | nil => intro _; rfl
    | cons y ys ih =>
      intro h
      simp [compL, gName, tYes, he y (h y List.mem_cons_self), ih fun x hx => h x (List.mem_cons_of_mem _ hx)]
  simp [eComp, hit, c xs fun x hx => hx, noX, hl]
theorem comp_filter {ρ : Env} {it : FA} {xs : List D} {t : FT} {v : Nat} {g : D → Bool} (hv : v < ρ.length) (hit : it ρ = .ok xs) (hl : xs.length ≤ lim) (he : ∀ x ∈ xs, t ((wipeE ρ [v]).set v (some x)) = .ok (g x)) :
    eComp it [v] (gName v) t (eVar v) ρ = .ok (.list (xs.filter g)) := by
  have c : ∀ ys : List D, (∀ x ∈ ys, x ∈ xs) → compL (gName v) t (eVar v) (wipeE ρ [v]) ys = .ok (ys.filter g) := by
    intro ys
    induction ys with
    | nil => intro _; rfl
    | cons y ys ih =>
      intro h
      have e : eVar v ((wipeE ρ [v]).set v (some y)) = .ok y := by
        simp [eVar, wipeE, hv]
      simp [compL, gName, he y (h y List.mem_cons_self), ih fun x hx => h x (List.mem_cons_of_mem _ hx), e]
      cases hg : g y <;> simp [hg]
  simp [eComp, hit, c xs fun x hx => hx, noX, hl]
theorem pl_sub {L n : Nat} {xs : List D} (h : pl (n + 1) L (.tuple xs) = true) : ∀ d ∈ xs, pl n L d = true := by
  simp only [pl, Bool.and_eq_true] at h
  exact List.all_eq_true.mp h.2
theorem pl_len {L n : Nat} {xs : List D} (h : pl n L (.tuple xs) = true) : xs.length ≤ L := by
  cases n with
  | zero => simp [pl] at h
  | succ m =>
    simp only [pl, Bool.and_eq_true, decide_eq_true_eq] at h
    exact h.1
theorem pl_one {L n : Nat} {xs : List D} (h : pl n L (.tuple xs) = true) {d : D} (hd : d ∈ xs) : ∃ m, m ≤ n ∧ pl m L d = true := by
  cases n with
  | zero => simp [pl] at h
  | succ m => exact ⟨m, by omega, pl_sub h d hd⟩
theorem is_house_eq {L n : Nat} {t : D} (h : pl n L t = true) (hn : n ≤ 60) (hL : L ≤ lim) : f_is_house [t] = .ok (.bool (houseB t)) := by
  cases t with
  | tuple xs =>
    by_cases hl : xs.length = 3
    · match xs, hl with
      | [a, b, d], _ =>
        have ha : nod a = true := by obtain ⟨m, _, q⟩ := pl_one h (d := a) (by simp); exact pl_nod q
        have hb : nod b = true := by obtain ⟨m, _, q⟩ := pl_one h (d := b) (by simp); exact pl_nod q
        have e3 : dNe (.int 3) (.int 3) = .ok (.bool false) := by rw [ne_int]; rfl
        cases ca : cnt a 1 5
        · have z : houseB (.tuple [a, b, d]) = false := by cases d <;> simp [houseB, ca]
          simp [z, f_is_house, runF, sSeq, sRet, sRetN, sNext, DL.sIf, sAsg, sPar, sDrop, DL.tOr, DL.tAnd, DL.tNot, DL.tB, DL.tTru, DL.tYes, e1, e2, eF, eC, eVar, aCons, aNil, fTup, fLst, eAnd, eOr, eNot, eIf, eChain, DL.gName, DL.gTup, gLstD, DL.gCons, DL.gNil, eSlice, oNone, oSome, R.bind_ok, R.bind_exc, R.bind_bad, truth, dIsi, isT, len_tup, e3, idx0, idx1, idx2, is_count_eq ha, ca]
        cases cb : cnt b 1 4
        · have z : houseB (.tuple [a, b, d]) = false := by cases d <;> simp [houseB, cb]
          simp [z, f_is_house, runF, sSeq, sRet, sRetN, sNext, DL.sIf, sAsg, sPar, sDrop, DL.tOr, DL.tAnd, DL.tNot, DL.tB, DL.tTru, DL.tYes, e1, e2, eF, eC, eVar, aCons, aNil, fTup, fLst, eAnd, eOr, eNot, eIf, eChain, DL.gName, DL.gTup, gLstD, DL.gCons, DL.gNil, eSlice, oNone, oSome, R.bind_ok, R.bind_exc, R.bind_bad, truth, dIsi, isT, len_tup, e3, idx0, idx1, idx2, is_count_eq ha, is_count_eq hb, ca, cb]
        cases d with
        | tuple rs =>
          have e8 : dGt (.int rs.length) (.int 8) = .ok (.bool (decide (8 < rs.length))) := by rw [gt_int]; congr 2; simp only [decide_eq_decide]; omega
          by_cases h8 : 8 < rs.length
          · have z : houseB (.tuple [a, b, .tuple rs]) = false := by
              have : ¬ rs.length ≤ 8 := by omega
              simp [houseB, this]
            simp [z, f_is_house, runF, sSeq, sRet, sRetN, sNext, DL.sIf, sAsg, sPar, sDrop, DL.tOr, DL.tAnd, DL.tNot, DL.tB, DL.tTru, DL.tYes, e1, e2, eF, eC, eVar, aCons, aNil, fTup, fLst, eAnd, eOr, eNot, eIf, eChain, DL.gName, DL.gTup, gLstD, DL.gCons, DL.gNil, eSlice, oNone, oSome, R.bind_ok, R.bind_exc, R.bind_bad, truth, dIsi, isT, len_tup, e3, idx0, idx1, idx2, is_count_eq ha, is_count_eq hb, ca, cb, e8, h8]
          · obtain ⟨p, rfl⟩ := cnt_int ca
            obtain ⟨c, rfl⟩ := cnt_int cb
            have h8' : rs.length ≤ 8 := by omega
            have z : houseB (.tuple [.int p, .int c, .tuple rs]) = rs.all fun r => ruleB r p c := by
              simp [houseB, h8', ca, cb, rulesB]
            obtain ⟨m, hm, q⟩ := pl_one h (d := .tuple rs) (by simp)
            have cc := comp_bool (ρ := [some (.tuple [.int p, .int c, .tuple rs]), none]) (it := iSeq (e2 dIdx (eVar 0) (eC (.int 2)))) (xs := rs) (v := 1) (e := eF f_is_rule (aCons (eVar 1) (aCons (e2 dIdx (eVar 0) (eC (.int 0))) (aCons (e2 dIdx (eVar 0) (eC (.int 1))) aNil)))) (g := fun r => ruleB r p c)
              (by simp [iSeq, runF, sSeq, sRet, sRetN, sNext, DL.sIf, sAsg, sPar, sDrop, DL.tOr, DL.tAnd, DL.tNot, DL.tB, DL.tTru, DL.tYes, e1, e2, eF, eC, eVar, aCons, aNil, fTup, fLst, eAnd, eOr, eNot, eIf, eChain, DL.gName, DL.gTup, gLstD, DL.gCons, DL.gNil, eSlice, oNone, oSome, R.bind_ok, R.bind_exc, R.bind_bad, truth, idx2, items]) (by simp [lim]; omega) (fun r hr => by
                obtain ⟨m', hm', q'⟩ := pl_one q hr
                simp [wipeE, runF, sSeq, sRet, sRetN, sNext, DL.sIf, sAsg, sPar, sDrop, DL.tOr, DL.tAnd, DL.tNot, DL.tB, DL.tTru, DL.tYes, e1, e2, eF, eC, eVar, aCons, aNil, fTup, fLst, eAnd, eOr, eNot, eIf, eChain, DL.gName, DL.gTup, gLstD, DL.gCons, DL.gNil, eSlice, oNone, oSome, R.bind_ok, R.bind_exc, R.bind_bad, truth, idx0, idx1, is_rule_eq q' (by omega)])
            rw [z]
            simp [f_is_house, runF, sSeq, sRet, sRetN, sNext, DL.sIf, sAsg, sPar, sDrop, DL.tOr, DL.tAnd, DL.tNot, DL.tB, DL.tTru, DL.tYes, e1, e2, eF, eC, eVar, aCons, aNil, fTup, fLst, eAnd, eOr, eNot, eIf, eChain, DL.gName, DL.gTup, gLstD, DL.gCons, DL.gNil, eSlice, oNone, oSome, R.bind_ok, R.bind_exc, R.bind_bad, truth, dIsi, isT, len_tup, e3, idx0, idx1, idx2, is_count_eq ha, is_count_eq hb, ca, cb, e8, h8, cc, dAll, allB_map]
        | dict _ => exact absurd h (by cases n <;> simp [pl])
        | _ => simp [f_is_house, runF, sSeq, sRet, sRetN, sNext, DL.sIf, sAsg, sPar, sDrop, DL.tOr, DL.tAnd, DL.tNot, DL.tB, DL.tTru, DL.tYes, e1, e2, eF, eC, eVar, aCons, aNil, fTup, fLst, eAnd, eOr, eNot, eIf, eChain, DL.gName, DL.gTup, gLstD, DL.gCons, DL.gNil, eSlice, oNone, oSome, R.bind_ok, R.bind_exc, R.bind_bad, truth, dIsi, isT, len_tup, e3, idx0, idx1, idx2, is_count_eq ha, is_count_eq hb, ca, cb, houseB]
    · have z : houseB (.tuple xs) = false := by
        match xs, hl with
        | [], _ => rfl
        | [_], _ => rfl
        | [_, _], _ => rfl
        | [_, _, _], hl => exact absurd rfl hl
        | _ :: _ :: c :: _ :: _, _ => cases c <;> rfl
      have e3 : dNe (.int xs.length) (.int 3) = .ok (.bool true) := by
        rw [ne_int]
        have : ((xs.length : Int) == 3) = false := by simp; omega
        rw [this]; rfl
      simp [z, f_is_house, runF, sSeq, sRet, sRetN, sNext, DL.sIf, sAsg, sPar, sDrop, DL.tOr, DL.tAnd, DL.tNot, DL.tB, DL.tTru, DL.tYes, e1, e2, eF, eC, eVar, aCons, aNil, fTup, fLst, eAnd, eOr, eNot, eIf, eChain, DL.gName, DL.gTup, gLstD, DL.gCons, DL.gNil, eSlice, oNone, oSome, R.bind_ok, R.bind_exc, R.bind_bad, truth, dIsi, isT, len_tup, e3]
  | dict _ => exact absurd (pl_nod h) (by simp [nod])
  | _ => simp [f_is_house, runF, sSeq, sRet, sRetN, sNext, DL.sIf, sAsg, sPar, sDrop, DL.tOr, DL.tAnd, DL.tNot, DL.tB, DL.tTru, DL.tYes, e1, e2, eF, eC, eVar, aCons, aNil, fTup, fLst, eAnd, eOr, eNot, eIf, eChain, DL.gName, DL.gTup, gLstD, DL.gCons, DL.gNil, eSlice, oNone, oSome, R.bind_ok, R.bind_exc, R.bind_bad, truth, dIsi, isT, houseB]
theorem lay_list {L n : Nat} {xs : List D} (h : ∀ x ∈ xs, pl n L x = true) : PyData.canLayAll0 xs = true ∧ PyData.depthAll xs ≤ n := by
  induction xs with
  | nil => simp [PyData.canLayAll0, PyData.depthAll]
  | cons x xs ih =>
    have h1 := pl_lay L n x (h x List.mem_cons_self)
    have h2 := ih fun y hy => h y (List.mem_cons_of_mem _ hy)
    refine ⟨by rw [PyData.canLayAll0, h1.1, h2.1]; rfl, ?_⟩
    rw [PyData.depthAll]
    omega
theorem shaped_list {L n : Nat} {xs : List D} (h : ∀ x ∈ xs, pl n L x = true) (hn : n < 64) : shaped (.list xs) = true := by
  have := lay_list h
  show ((PyData.list xs).canLay0 && decide ((PyData.list xs).depth ≤ 64)) = true
  rw [PyData.canLay0, this.1, PyData.depth, decide_eq_true (by omega)]
  rfl
theorem eq_nil {L n : Nat} {xs : List D} (h : ∀ x ∈ xs, pl n L x = true) (hn : n < 64) : dEq (.list xs) (.list []) = .ok (.bool xs.isEmpty) := by
  have h1 := shaped_list h hn
  have h2 : shaped (.list []) = true := rfl
  cases xs <;> simp [dEq, h1, h2, PyData.eqv, PyData.eqvAll]
theorem filter_isEmpty {g : D → Bool} : ∀ rs : List D, (rs.filter fun r => !g r).isEmpty = rs.all g
  | [] => rfl
  | r :: rs => by
    rw [List.filter_cons, List.all_cons]
    cases hg : g r <;> simp [filter_isEmpty rs]
theorem need_eq {L n : Nat} {t : D} (h : pl n L t = true) (hn : n ≤ 60) (hL : L ≤ lim) : f_need_house [t] = if houseB t = true then .ok .none else .exc .house := by
  cases hh : houseB t <;> simp [f_need_house, runF, sSeq, sRet, sRetN, sNext, DL.sIf, sAsg, sPar, sDrop, DL.tOr, DL.tAnd, DL.tNot, DL.tB, DL.tTru, DL.tYes, e1, e2, eF, eC, eVar, aCons, aNil, fTup, fLst, eAnd, eOr, eNot, eIf, eChain, DL.gName, DL.gTup, gLstD, DL.gCons, DL.gNil, eSlice, oNone, oSome, R.bind_ok, R.bind_exc, R.bind_bad, truth, sRaise, is_house_eq h hn hL, hh]
end PG
/-! PM4 -/
set_option Elab.async false
set_option linter.all false
set_option maxRecDepth 100000
set_option maxHeartbeats 2000000
namespace PG
open DL
open PySem (PyData Str)
theorem mulOk_r {i j : Int} (h : j.natAbs < 2 ^ 63) : mulOk i j = true := by
  simp only [mulOk, Bool.or_eq_true, decide_eq_true_eq]
  exact .inl (.inr h)
theorem mulOk_s {i j : Int} (h1 : 0 ≤ i) (h2 : i < 340282366920938463463374607431768211507 * 340282366920938463463374607431768211507) (h3 : 0 ≤ j) (h4 : j < 340282366920938463463374607431768211507 * 340282366920938463463374607431768211507) : mulOk i j = true := by
  simp only [mulOk, Bool.or_eq_true, Bool.and_eq_true, decide_eq_true_eq]
  have e : (340282366920938463463374607431768211507 * 340282366920938463463374607431768211507 : Nat) ≤ 2 ^ 1000 := by decide
  exact .inr ⟨by omega, by omega⟩
theorem mul_ok {i j : Int} (h : mulOk i j = true) : dMulI (.int i) (.int j) = .ok (.int (i * j)) := by simp [dMulI, h]
theorem add_int {i j : Int} : dAdd (.int i) (.int j) = .ok (.int (i + j)) := rfl
theorem sub_int {i j : Int} : dSub (.int i) (.int j) = .ok (.int (i - j)) := rfl
theorem mod_int {i j : Int} (h : 0 < j) : dMod (.int i) (.int j) = .ok (.int (i % j)) := by simp [dMod, h]
theorem div_int {i j : Int} (h : 0 < j) (h2 : j.natAbs < 2 ^ 64) : dDiv (.int i) (.int j) = .ok (.int (i / j)) := by
  have e : (2 ^ 64 : Nat) ≤ 2 ^ 8000 := Nat.pow_le_pow_right (by omega) (by omega)
  simp only [dDiv]
  rw [if_pos ⟨h, by omega⟩]
def drA (x k : Int) : Int := (x * 6364136223846793005 + (k + 1) * 1442695040888963407) % 340282366920938463463374607431768211507
def drB (x k : Int) : Int := drA x k * drA x k % 340282366920938463463374607431768211297
def drC (x k : Int) : Int := (drB x k % 18446744073709551557 + 1) * (drB x k / 18446744073709551557 + 1) * drB x k
def drawn (x k : Int) : Int := drC x k % 340282366920938463463374607431768211507
theorem drawn_eq (x k : Int) : f__law_drawn [.int x, .int k] = .ok (.int (drawn x k)) := by
  have a1 : 0 ≤ drA x k := Int.emod_nonneg _ (by decide)
  have a2 : drA x k < 340282366920938463463374607431768211507 := Int.emod_lt_of_pos _ (by decide)
  have b1 : 0 ≤ drB x k := Int.emod_nonneg _ (by decide)
  have b2 : drB x k < 340282366920938463463374607431768211297 := Int.emod_lt_of_pos _ (by decide)
  have c1 : 0 ≤ drB x k % 18446744073709551557 := Int.emod_nonneg _ (by decide)
  have c2 : drB x k % 18446744073709551557 < 18446744073709551557 := Int.emod_lt_of_pos _ (by decide)
  have d1 : 0 ≤ drB x k / 18446744073709551557 := Int.ediv_nonneg b1 (by decide)
  have d2 : drB x k / 18446744073709551557 < 18446744073709552000 := by omega
  have f1 : 0 ≤ (drB x k % 18446744073709551557 + 1) * (drB x k / 18446744073709551557 + 1) := Int.mul_nonneg (by omega) (by omega)
  have f2 : (drB x k % 18446744073709551557 + 1) * (drB x k / 18446744073709551557 + 1) ≤ 18446744073709551557 * 18446744073709552000 := Int.mul_le_mul (by omega) (by omega) (by omega) (by decide)
  have m1 := mul_ok (i := x) (j := 6364136223846793005) (mulOk_r (by decide))
  have m2 := mul_ok (i := k + 1) (j := 1442695040888963407) (mulOk_r (by decide))
  have m3 := mul_ok (i := drA x k) (j := drA x k) (mulOk_s a1 (by omega) a1 (by omega))
  have m4 := mul_ok (i := drB x k % 18446744073709551557 + 1) (j := drB x k / 18446744073709551557 + 1) (mulOk_s (by omega) (by omega) (by omega) (by omega))
  have m5 := mul_ok (i := (drB x k % 18446744073709551557 + 1) * (drB x k / 18446744073709551557 + 1)) (j := drB x k) (mulOk_s f1 (by omega) b1 (by omega))
  have n1 : dMod (.int (x * 6364136223846793005 + (k + 1) * 1442695040888963407)) (.int 340282366920938463463374607431768211507) = .ok (.int (drA x k)) := mod_int (by decide)
  have n2 : dMod (.int (drA x k * drA x k)) (.int 340282366920938463463374607431768211297) = .ok (.int (drB x k)) := mod_int (by decide)
  have n3 : dMod (.int (drB x k)) (.int 18446744073709551557) = .ok (.int (drB x k % 18446744073709551557)) := mod_int (by decide)
  have n4 : dDiv (.int (drB x k)) (.int 18446744073709551557) = .ok (.int (drB x k / 18446744073709551557)) := div_int (by decide) (by decide)
  have n5 : dMod (.int ((drB x k % 18446744073709551557 + 1) * (drB x k / 18446744073709551557 + 1) * drB x k)) (.int 340282366920938463463374607431768211507) = .ok (.int (drawn x k)) := mod_int (by decide)
  simp only [f__law_drawn, runF, sSeq, sRet, sRetN, sNext, DL.sIf, sAsg, sPar, sDrop, DL.tOr, DL.tAnd, DL.tNot, DL.tB, DL.tTru, DL.tYes, e1, e2, eF, eC, eVar, aCons, aNil, fTup, fLst, eAnd, eOr, eNot, eIf, eChain, DL.gName, DL.gTup, gLstD, DL.gCons, DL.gNil, eSlice, oNone, oSome, R.bind_ok, R.bind_exc, R.bind_bad, truth, add_int, List.length_cons, List.length_nil, List.map_cons, List.map_nil, List.replicate, List.cons_append, List.nil_append, List.getElem?_cons_zero, List.getElem?_cons_succ, List.set_cons_zero, List.set_cons_succ, List.set_nil, if_true, m1, m2, n1, m3, n2, n3, n4, m4, m5, n5]
theorem drawn_nn (x k : Int) : 0 ≤ drawn x k := Int.emod_nonneg _ (by decide)
theorem drawn_lt (x k : Int) : drawn x k < 340282366920938463463374607431768211507 := Int.emod_lt_of_pos _ (by decide)
theorem cell_eq (ns : List Int) (hl : ns.length ≤ 63) (k : Int) (hk : 0 ≤ k) : ∃ z, f__law_cell [scriptD ns, .int k] = .ok (.int z) := by
  have hsh : ∀ d ∈ ns.map PyData.int, pl 0 0 d = true := by
    intro d hd
    obtain ⟨i, _, rfl⟩ := List.mem_map.mp hd
    rfl
  have en := eq_nil hsh (by omega)
  cases ns with
  | nil =>
    refine ⟨k * 7919, ?_⟩
    simp [f__law_cell, runF, sSeq, sRet, sRetN, sNext, DL.sIf, sAsg, sPar, sDrop, DL.tOr, DL.tAnd, DL.tNot, DL.tB, DL.tTru, DL.tYes, e1, e2, eF, eC, eVar, aCons, aNil, fTup, fLst, eAnd, eOr, eNot, eIf, eChain, DL.gName, DL.gTup, gLstD, DL.gCons, DL.gNil, eSlice, oNone, oSome, R.bind_ok, R.bind_exc, R.bind_bad, truth, scriptD] at en ⊢
    simp [en, mul_ok (mulOk_r (i := k) (j := 7919) (by decide))]
  | cons a r =>
    have hp : (0 : Int) < ((a :: r).length : Int) := by simp
    have hi : 0 ≤ k % ((a :: r).length : Int) := Int.emod_nonneg _ (by omega)
    have hj : k % ((a :: r).length : Int) < ((a :: r).length : Int) := Int.emod_lt_of_pos _ hp
    obtain ⟨j, hj'⟩ : ∃ j : Nat, k % ((a :: r).length : Int) = j := ⟨(k % ((a :: r).length : Int)).toNat, by omega⟩
    have hjl : j < (a :: r).length := by omega
    have ix : dIdx (.list ((a :: r).map PyData.int)) (.int (j : Int)) = .ok (.int (a :: r)[j]) := idxL (by rw [List.getElem?_map, List.getElem?_eq_getElem hjl]; rfl)
    have ln : dLen (.list ((a :: r).map PyData.int)) = .ok (.int ((a :: r).length : Int)) := by simp [dLen]
    have m1 := mod_int (i := k) hp
    have m2 := div_int (i := k) hp (by simp at hl ⊢; omega)
    rw [hj'] at m1
    refine ⟨(a :: r)[j] + k / ((a :: r).length : Int) * 104729, ?_⟩
    have en' : dEq (.list ((a :: r).map PyData.int)) (.list []) = .ok (.bool false) := en
    rw [show scriptD (a :: r) = .list ((a :: r).map PyData.int) from rfl]
    generalize (a :: r).map PyData.int = xs at *
    generalize ((a :: r).length : Int) = n at *
    simp [f__law_cell, runF, sSeq, sRet, sRetN, sNext, DL.sIf, sAsg, sPar, sDrop, DL.tOr, DL.tAnd, DL.tNot, DL.tB, DL.tTru, DL.tYes, e1, e2, eF, eC, eVar, aCons, aNil, fTup, fLst, eAnd, eOr, eNot, eIf, eChain, DL.gName, DL.gTup, gLstD, DL.gCons, DL.gNil, eSlice, oNone, oSome, R.bind_ok, R.bind_exc, R.bind_bad, truth, en', ln, m1, m2, ix, mul_ok (mulOk_r (i := k / n) (j := 104729) (by decide)), add_int]
end PG
/-! PP1 -/
set_option Elab.async false
set_option linter.all false
set_option maxRecDepth 100000
set_option maxHeartbeats 1000000
/-! PP1: rules, houses, plans, changes as plain things. No data, no program. -/
namespace PG
inductive Rule where
  | unlike (p q : Nat)
  | alike (p q : Nat)
  | no (p c : Nat)
  | either (p c q d : Nat)
  | most (c n : Nat)
  | least (c n : Nat)
  deriving DecidableEq
structure House where
  P : Nat
  C : Nat
  R : List Rule
  deriving DecidableEq
abbrev Plan := List Nat
abbrev Chg := Nat × Nat
def Rule.ok (P C : Nat) : Rule → Prop
  | .unlike p q => p < q ∧ q < P
  | .alike p q => p < q ∧ q < P
  | .no p c => p < P ∧ c < C
  | .either p c q d => p < P ∧ c < C ∧ q < P ∧ d < C ∧ (p < q ∨ p = q ∧ c < d)
  | .most c n => c < C ∧ n ≤ P
  | .least c n => c < C ∧ n ≤ P
structure House.ok (h : House) : Prop where
  p1 : 1 ≤ h.P
  p5 : h.P ≤ 5
  c1 : 1 ≤ h.C
  c4 : h.C ≤ 4
  r8 : h.R.length ≤ 8
  rs : ∀ r ∈ h.R, r.ok h.P h.C
def gd (x : Plan) (i : Nat) : Nat := x.getD i 0
def keeps : Rule → Plan → Bool
  | .unlike a b, x => !(gd x a == gd x b)
  | .alike a b, x => gd x a == gd x b
  | .no a c, x => !(gd x a == c)
  | .either a c b d, x => gd x a == c || gd x b == d
  | .most c n, x => decide (x.count c ≤ n)
  | .least c n, x => decide (n ≤ x.count c)
def letB (h : House) (x : Plan) : Bool := h.R.all fun r => keeps r x
def isPlan (h : House) (x : Plan) : Prop := x.length = h.P ∧ ∀ c ∈ x, c < h.C
/-- all plans of so many colours and places, rising -/
def rows (C : Nat) : Nat → List Plan
  | 0 => [[]]
  | n + 1 => (rows C n).flatMap fun x => (List.range C).map fun c => x ++ [c]
def plansL (h : House) : List Plan := (rows h.C h.P).filter (letB h)
theorem mem_rows {C : Nat} : ∀ {n : Nat} {x : Plan}, x ∈ rows C n ↔ x.length = n ∧ ∀ c ∈ x, c < C
  | 0, x => by
    rw [rows, List.mem_singleton]
    constructor
    · rintro rfl; exact ⟨rfl, fun c h => nomatch h⟩
    · rintro ⟨h, _⟩; exact List.eq_nil_of_length_eq_zero h
  | n + 1, x => by
    rw [rows, List.mem_flatMap]
    constructor
    · rintro ⟨y, hy, hx⟩
      obtain ⟨c, hc, rfl⟩ := List.mem_map.mp hx
      obtain ⟨h1, h2⟩ := mem_rows.mp hy
      refine ⟨by simp [h1], fun d hd => ?_⟩
      rcases List.mem_append.mp hd with hd | hd
      · exact h2 d hd
      · rw [List.mem_singleton.mp hd]; exact List.mem_range.mp hc
    · rintro ⟨h1, h2⟩
      have hne : x ≠ [] := fun e => by rw [e] at h1; cases h1
      refine ⟨x.dropLast, mem_rows.mpr ⟨by simp [h1], fun c hc => h2 c (List.dropLast_subset _ hc)⟩, ?_⟩
      refine List.mem_map.mpr ⟨x.getLast hne, List.mem_range.mpr (h2 _ (List.getLast_mem hne)), List.dropLast_concat_getLast hne⟩
theorem mem_plansL {h : House} {x : Plan} : x ∈ plansL h ↔ isPlan h x ∧ letB h x = true := by
  rw [plansL, List.mem_filter, mem_rows]
  rfl
/-- the figures of a number, the greatest first -/
def digits (C : Nat) : Nat → Nat → Plan
  | 0, _ => []
  | n + 1, k => digits C n (k / C) ++ [k % C]
theorem range_mul (b : Nat) : ∀ a : Nat, List.range (a * b) = (List.range a).flatMap fun q => (List.range b).map fun c => q * b + c
  | 0 => by simp
  | a + 1 => by
    rw [List.range_succ, List.flatMap_append, ← range_mul b a, Nat.succ_mul, List.range_add]
    simp
theorem rows_digits {C : Nat} (hC : 0 < C) : ∀ n, rows C n = (List.range (C ^ n)).map (digits C n)
  | 0 => by simp [rows, digits]
  | n + 1 => by
    rw [rows, rows_digits hC n, Nat.pow_succ, range_mul, List.map_flatMap, List.flatMap_map]
    congr 1
    funext q
    rw [List.map_map]
    refine List.map_congr_left fun c hc => ?_
    have hc := List.mem_range.mp hc
    show _ = digits C n ((q * C + c) / C) ++ [(q * C + c) % C]
    rw [Nat.mul_comm q C, Nat.mul_add_div hC, Nat.div_eq_of_lt hc, Nat.mul_add_mod, Nat.mod_eq_of_lt hc]
    rfl
/-! ### orders -/
def ltP : Plan → Plan → Bool
  | [], [] => false
  | [], _ :: _ => true
  | _ :: _, [] => false
  | x :: xs, y :: ys => if x = y then ltP xs ys else decide (x < y)
theorem ltP_irr : ∀ x : Plan, ltP x x = false
  | [] => rfl
  | x :: xs => by simp [ltP, ltP_irr xs]
theorem ltP_trans : ∀ {x y z : Plan}, ltP x y = true → ltP y z = true → ltP x z = true
  | [], [], _, h, _ => by simp [ltP] at h
  | [], _ :: _, [], _, h => by simp [ltP] at h
  | [], _ :: _, _ :: _, _, _ => rfl
  | _ :: _, [], _, h, _ => by simp [ltP] at h
  | _ :: _, _ :: _, [], _, h => by simp [ltP] at h
  | a :: x, b :: y, c :: z, h1, h2 => by
    simp only [ltP] at h1 h2 ⊢
    by_cases e1 : a = b
    · subst e1
      by_cases e2 : a = c
      · subst e2
        simp only [if_true] at h1 h2 ⊢
        exact ltP_trans h1 h2
      · simp only [if_neg e2] at h2 ⊢; exact h2
    · simp only [if_neg e1, decide_eq_true_eq] at h1
      by_cases e2 : b = c
      · subst e2
        simp [e1, h1]
      · simp only [if_neg e2, decide_eq_true_eq] at h2
        rw [if_neg (by omega)]
        simp; omega
theorem ltP_tri : ∀ {x y : Plan}, x.length = y.length → ltP x y = false → ltP y x = false → x = y
  | [], [], _, _, _ => rfl
  | a :: x, b :: y, h, h1, h2 => by
    simp only [ltP] at h1 h2
    by_cases e : a = b
    · subst e
      simp only [if_true] at h1 h2
      rw [ltP_tri (by simpa using h) h1 h2]
    · simp [e, Ne.symm e] at h1 h2
      omega
theorem ltP_snoc : ∀ {x : Plan} {c d : Nat}, c < d → ltP (x ++ [c]) (x ++ [d]) = true
  | [], c, d, h => by simp [ltP, h]; omega
  | a :: x, c, d, h => by simp [ltP, ltP_snoc h]
theorem ltP_app : ∀ {x y : Plan} {u v : Plan}, x.length = y.length → ltP x y = true → ltP (x ++ u) (y ++ v) = true
  | [], [], _, _, _, h => by simp [ltP] at h
  | a :: x, b :: y, u, v, hl, h => by
    simp only [ltP, List.cons_append] at h ⊢
    by_cases e : a = b
    · subst e
      simp only [if_true] at h ⊢
      exact ltP_app (by simpa using hl) h
    · simp only [if_neg e] at h ⊢; exact h
abbrev Rising (l : List Plan) : Prop := l.Pairwise fun x y => ltP x y = true
theorem rows_rising {C : Nat} : ∀ n, Rising (rows C n)
  | 0 => by simp [rows, Rising]
  | n + 1 => by
    have ih := rows_rising (C := C) n
    have hl : ∀ x ∈ rows C n, x.length = n := fun x hx => (mem_rows.mp hx).1
    rw [rows]
    revert ih hl
    generalize rows C n = l
    intro ih hl
    induction l with
    | nil => simp [Rising]
    | cons x l ihl =>
      rw [List.flatMap_cons]
      obtain ⟨h1, h2⟩ := List.pairwise_cons.mp ih
      refine List.pairwise_append.mpr ⟨?_, ihl h2 fun y hy => hl y (List.mem_cons_of_mem _ hy), fun u hu v hv => ?_⟩
      · refine List.pairwise_map.mpr (List.pairwise_lt_range.imp fun h => ltP_snoc h)
      · obtain ⟨c, _, rfl⟩ := List.mem_map.mp hu
        obtain ⟨y, hy, hv⟩ := List.mem_flatMap.mp hv
        obtain ⟨d, _, rfl⟩ := List.mem_map.mp hv
        exact ltP_app ((hl x List.mem_cons_self).trans (hl y (List.mem_cons_of_mem _ hy)).symm) (h1 y hy)
theorem Rising.nodup {l : List Plan} (h : Rising l) : l.Nodup := h.imp fun h e => by
  subst e
  rw [ltP_irr] at h
  cases h
theorem Rising.filter {l : List Plan} (h : Rising l) (p : Plan → Bool) : Rising (l.filter p) := List.Pairwise.sublist List.filter_sublist h
theorem plansL_rising (h : House) : Rising (plansL h) := (rows_rising _).filter _
theorem rows_length {C : Nat} : ∀ n, (rows C n).length = C ^ n
  | 0 => rfl
  | n + 1 => by
    rw [rows, List.length_flatMap]
    have e : ((rows C n).map fun x => ((List.range C).map fun c => x ++ [c]).length) = (rows C n).map fun _ => C := List.map_congr_left fun x _ => by simp
    rw [e, List.map_const', List.sum_replicate_nat, rows_length n, Nat.pow_succ]
theorem plansL_length {h : House} (k : h.ok) : (plansL h).length ≤ 1024 := by
  refine Nat.le_trans (List.length_filter_le _ _) ?_
  rw [rows_length]
  have h1 : h.C ^ h.P ≤ 4 ^ h.P := Nat.pow_le_pow_left k.c4 _
  have h2 : 4 ^ h.P ≤ 4 ^ 5 := Nat.pow_le_pow_right (by omega) k.p5
  omega
/-! ### changes -/
def after (x : Plan) (c : Chg) : Plan := x.set c.1 c.2
/-- all changes that are let, rising -/
def lchanges (h : House) (x : Plan) : List Chg := (List.range h.P).flatMap fun i => ((List.range h.C).filter fun c => !(c == gd x i) && letB h (after x (i, c))).map fun c => (i, c)
theorem mem_lchanges {h : House} {x : Plan} {i c : Nat} : (i, c) ∈ lchanges h x ↔ i < h.P ∧ c < h.C ∧ c ≠ gd x i ∧ letB h (after x (i, c)) = true := by
  unfold lchanges
  simp only [List.mem_flatMap, List.mem_range, List.mem_map, List.mem_filter, Bool.and_eq_true, Bool.not_eq_true', Prod.mk.injEq]
  constructor
  · rintro ⟨j, hj, d, ⟨hd, h1, h2⟩, rfl, rfl⟩
    exact ⟨hj, hd, by simpa using h1, h2⟩
  · rintro ⟨h1, h2, h3, h4⟩
    exact ⟨i, h1, c, ⟨h2, by simpa using h3, h4⟩, rfl, rfl⟩
end PG
/-! DLEv -/
set_option Elab.async false
set_option linter.all false
set_option maxRecDepth 100000
set_option maxHeartbeats 1000000
/-! DLEv: the denotations step by step: what simp takes. -/
namespace DL
def SR.thn (r : SR) (b : FS) : SR := match r with
  | .nx ρ => b ρ
  | r => r
def rRet (r : R D) : SR := match r with
  | .ok d => .ret d
  | .exc e => .exc e
  | .bad => .bad
def rIf (r : R Bool) (a b : FS) (ρ : Env) : SR := match r with
  | .ok true => a ρ
  | .ok false => b ρ
  | .exc e => .exc e
  | .bad => .bad
def rG (r : R Env) : SR := match r with
  | .ok ρ' => .nx ρ'
  | _ => .bad
def rAsg (r : R D) (g : FG) (ρ : Env) : SR := match r with
  | .ok d => rG (g d ρ)
  | .exc e => .exc e
  | .bad => .bad
def rPar (i j : Nat) (x y : R D) (ρ : Env) : SR := match x.bind fun x => y.bind fun y => R.ok (x, y) with
  | .ok p => .nx ((ρ.set i (some p.1)).set j (some p.2))
  | .exc e => .exc e
  | .bad => .bad
def rDrop (r : R D) (ρ : Env) : SR := match r with
  | .ok _ => .nx ρ
  | .exc e => .exc e
  | .bad => .bad
def rFor (r : R (List D)) (g : FG) (b : FS) (ρ : Env) : SR := match r with
  | .ok ds => forL g b ds ρ
  | .exc e => .exc e
  | .bad => .bad
def rEnd (r : SR) : R D := match r with
  | .nx _ => .ok .none
  | .ret d => .ok d
  | .exc e => .exc e
  | _ => .bad
def rTwo (f : D → D → R D) (x y : R D) : R D := x.bind fun x => y.bind fun y => f x y
def rCons (x : R D) (r : R (List D)) : R (List D) := x.bind fun x => r.bind fun xs => .ok (x :: xs)
def rV (x : Option (Option D)) : R D := match x with
  | some (some d) => .ok d
  | _ => .bad
def rAnd (r : R D) (b : FE) (ρ : Env) : R D := r.bind fun x => match x with
  | .bool true => b ρ
  | .bool false => .ok (.bool false)
  | _ => .bad
def rOr (r : R D) (b : FE) (ρ : Env) : R D := r.bind fun x => match x with
  | .bool false => b ρ
  | .bool true => .ok (.bool true)
  | _ => .bad
def rNot (r : R D) : R D := r.bind fun x => match x with
  | .bool b => .ok (.bool (!b))
  | _ => .bad
def rIfE (r : R Bool) (a b : FE) (ρ : Env) : R D := r.bind fun c => if c = true then a ρ else b ρ
def rB (r : R D) : R Bool := r.bind fun x => match x with
  | .bool b => .ok b
  | _ => .bad
def rtA (r : R Bool) (b : FT) (ρ : Env) : R Bool := r.bind fun c => if c = true then b ρ else .ok false
def rtO (r : R Bool) (b : FT) (ρ : Env) : R Bool := r.bind fun c => if c = true then .ok true else b ρ
def rtN (r : R Bool) : R Bool := r.bind fun c => .ok (!c)
def rO (r : R D) : R (Option Int) := r.bind fun x => match x with
  | .int i => .ok (some i)
  | _ => .bad
def rSl (r : R D) (l h : R (Option Int)) : R D := r.bind fun x => l.bind fun lo => h.bind fun hi => dSlice x lo hi
def rCh (f g : D → D → R D) (x y : R D) (c : FE) (ρ : Env) : R D := x.bind fun x => y.bind fun y => (f x y).bind fun z => match z with
  | .bool true => (c ρ).bind fun u => g y u
  | .bool false => .ok (.bool false)
  | _ => .bad
def rCh2 (g : D → D → R D) (z : R D) (y : D) (c : FE) (ρ : Env) : R D := z.bind fun z => match z with
  | .bool true => (c ρ).bind fun u => g y u
  | .bool false => .ok (.bool false)
  | _ => .bad
section
variable {a b c : FS} {fe fa fb fc : FE} {ft fu : FT} {fr : FA} {g : FG} {gs : List D → Env → R Env} {fo fp : FO} {ρ ρ' : Env} {d x y : D} {e : Ex} {i j np N : Nat} {t : Bool} {ds xs : List D} {f h : D → D → R D} {f1 : D → R D} {fl : List D → R D} {lo hi : Option Int}
theorem v_seq : sSeq a b ρ = (a ρ).thn b := rfl
theorem w_nx : (SR.nx ρ).thn b = b ρ := rfl
theorem w_ret : (SR.ret d).thn b = .ret d := rfl
theorem w_exc : (SR.exc e).thn b = .exc e := rfl
theorem w_brk : (SR.brk ρ).thn b = .brk ρ := rfl
theorem w_cnt : (SR.cnt ρ).thn b = .cnt ρ := rfl
theorem v_next : sNext ρ = .nx ρ := rfl
theorem v_ret : sRet fe ρ = rRet (fe ρ) := rfl
theorem v_retN : sRetN ρ = .ret .none := rfl
theorem w_rok : rRet (.ok d) = .ret d := rfl
theorem w_rexc : rRet (.exc e) = .exc e := rfl
theorem v_brk : sBrk ρ = .brk ρ := rfl
theorem v_cnt : sCnt ρ = .cnt ρ := rfl
theorem v_raise : sRaise e ρ = .exc e := rfl
theorem v_if : DL.sIf ft a b ρ = rIf (ft ρ) a b ρ := rfl
theorem w_ift : rIf (.ok true) a b ρ = a ρ := rfl
theorem w_iff : rIf (.ok false) a b ρ = b ρ := rfl
theorem w_ifx : rIf (.exc e) a b ρ = .exc e := rfl
theorem v_asg : sAsg fe g ρ = rAsg (fe ρ) g ρ := by
  unfold sAsg rAsg rG
  cases fe ρ <;> rfl
theorem w_aok : rAsg (.ok d) g ρ = rG (g d ρ) := rfl
theorem w_aexc : rAsg (.exc e) g ρ = .exc e := rfl
theorem w_gok : rG (.ok ρ') = .nx ρ' := rfl
theorem v_par : sPar i j fa fb ρ = rPar i j (fa ρ) (fb ρ) ρ := rfl
theorem w_par : rPar i j (.ok x) (.ok y) ρ = .nx ((ρ.set i (some x)).set j (some y)) := rfl
theorem v_for : DL.sFor fr g a ρ = rFor (fr ρ) g a ρ := rfl
theorem w_for : rFor (.ok ds) g a ρ = forL g a ds ρ := rfl
theorem v_drop : sDrop fe ρ = rDrop (fe ρ) ρ := rfl
theorem w_drop1 : rDrop (.ok d) ρ = .nx ρ := rfl
theorem w_drop2 : rDrop (.exc e) ρ = .exc e := rfl
theorem v_run : runF np N a ds = if ds.length = np then rEnd (a (ds.map some ++ List.replicate (N - ds.length) none)) else .bad := rfl
theorem w_end1 : rEnd (.nx ρ) = .ok .none := rfl
theorem w_end2 : rEnd (.ret d) = .ok d := rfl
theorem w_end3 : rEnd (.exc e) = .exc e := rfl
theorem v_e1 : e1 f1 fe ρ = (fe ρ).bind f1 := rfl
theorem v_e2 : e2 f fa fb ρ = rTwo f (fa ρ) (fb ρ) := rfl
theorem w_two : rTwo f (.ok x) (.ok y) = f x y := rfl
theorem v_eF : eF fl fr ρ = (fr ρ).bind fl := rfl
theorem v_nil : aNil ρ = .ok [] := rfl
theorem v_cons : aCons fe fr ρ = rCons (fe ρ) (fr ρ) := rfl
theorem w_cons : rCons (.ok x) (.ok xs) = .ok (x :: xs) := rfl
theorem v_tup : fTup xs = .ok (.tuple xs) := rfl
theorem v_lst : fLst xs = .ok (.list xs) := rfl
theorem v_var : eVar i ρ = rV ρ[i]? := rfl
theorem w_var : rV (some (some d)) = .ok d := rfl
theorem v_c : eC d ρ = .ok d := rfl
theorem v_and : eAnd fa fb ρ = rAnd (fa ρ) fb ρ := rfl
theorem w_andt : rAnd (.ok (.bool true)) fb ρ = fb ρ := rfl
theorem w_andf : rAnd (.ok (.bool false)) fb ρ = .ok (.bool false) := rfl
theorem v_or : eOr fa fb ρ = rOr (fa ρ) fb ρ := rfl
theorem w_ort : rOr (.ok (.bool true)) fb ρ = .ok (.bool true) := rfl
theorem w_orf : rOr (.ok (.bool false)) fb ρ = fb ρ := rfl
theorem v_not : eNot fe ρ = rNot (fe ρ) := rfl
theorem w_not : rNot (.ok (.bool t)) = .ok (.bool (!t)) := rfl
theorem v_ifE : eIf ft fa fb ρ = rIfE (ft ρ) fa fb ρ := rfl
theorem w_ifEt : rIfE (.ok true) fa fb ρ = fa ρ := rfl
theorem w_ifEf : rIfE (.ok false) fa fb ρ = fb ρ := rfl
theorem v_tB : DL.tB fe ρ = rB (fe ρ) := rfl
theorem w_tB : rB (.ok (.bool t)) = .ok t := rfl
theorem v_tTru : DL.tTru fe ρ = (fe ρ).bind truth := rfl
theorem v_tAnd : DL.tAnd ft fu ρ = rtA (ft ρ) fu ρ := rfl
theorem w_tAndt : rtA (.ok true) fu ρ = fu ρ := rfl
theorem w_tAndf : rtA (.ok false) fu ρ = .ok false := rfl
theorem v_tOr : DL.tOr ft fu ρ = rtO (ft ρ) fu ρ := rfl
theorem w_tOrt : rtO (.ok true) fu ρ = .ok true := rfl
theorem w_tOrf : rtO (.ok false) fu ρ = fu ρ := rfl
theorem v_tNot : DL.tNot ft ρ = rtN (ft ρ) := rfl
theorem w_tNot : rtN (.ok t) = .ok (!t) := rfl
theorem v_tYes : DL.tYes ρ = .ok true := rfl
theorem v_gName : DL.gName i d ρ = .ok (ρ.set i (some d)) := rfl
theorem v_gTup : DL.gTup gs (.tuple ds) ρ = gs ds ρ := rfl
theorem v_gLst : gLstD gs (.list ds) ρ = gs ds ρ := rfl
theorem v_gCons : DL.gCons g gs (d :: ds) ρ = (g d ρ).bind (gs ds) := rfl
theorem v_gNil : DL.gNil [] ρ = .ok ρ := rfl
theorem v_oNone : oNone ρ = .ok none := rfl
theorem v_oSome : oSome fe ρ = rO (fe ρ) := rfl
theorem w_oSome {k : Int} : rO (.ok (.int k)) = .ok (some k) := rfl
theorem v_slice : eSlice fe fo fp ρ = rSl (fe ρ) (fo ρ) (fp ρ) := rfl
theorem w_slice : rSl (.ok d) (.ok lo) (.ok hi) = dSlice d lo hi := rfl
theorem v_chain : eChain f h fa fb fc ρ = rCh f h (fa ρ) (fb ρ) fc ρ := rfl
theorem w_chain : rCh f h (.ok x) (.ok y) fc ρ = rCh2 h (f x y) y fc ρ := rfl
theorem w_chaint : rCh2 h (.ok (.bool true)) y fc ρ = (fc ρ).bind (h y) := rfl
theorem w_chainf : rCh2 h (.ok (.bool false)) y fc ρ = .ok (.bool false) := rfl
theorem v_iSeq : DL.iSeq fe ρ = (fe ρ).bind items := rfl
theorem w_items1 : items (.list xs) = .ok xs := rfl
theorem w_items2 : items (.tuple xs) = .ok xs := rfl
theorem w_trub : truth (.bool t) = .ok t := rfl
theorem w_truN : truth .none = .ok false := rfl
theorem w_truL : truth (.list xs) = .ok (!xs.isEmpty) := rfl
theorem w_truT : truth (.tuple xs) = .ok (!xs.isEmpty) := rfl
/-! tests that are known, whichever way -/
theorem s_if : rIf (.ok t) a b ρ = if t = true then a ρ else b ρ := by cases t <;> rfl
theorem s_tAnd : rtA (.ok t) fu ρ = if t = true then fu ρ else .ok false := by cases t <;> rfl
theorem s_tOr : rtO (.ok t) fu ρ = if t = true then .ok true else fu ρ := by cases t <;> rfl
theorem s_and : rAnd (.ok (.bool t)) fb ρ = if t = true then fb ρ else .ok (.bool false) := by cases t <;> rfl
theorem s_or : rOr (.ok (.bool t)) fb ρ = if t = true then .ok (.bool true) else fb ρ := by cases t <;> rfl
theorem s_ifE : rIfE (.ok t) fa fb ρ = if t = true then fa ρ else fb ρ := by cases t <;> rfl
theorem s_chain : rCh2 h (.ok (.bool t)) y fc ρ = if t = true then (fc ρ).bind (h y) else .ok (.bool false) := by cases t <;> rfl
theorem i_and {u : Bool} : (if t = true then (R.ok u : R Bool) else .ok false) = .ok (t && u) := by cases t <;> rfl
theorem i_or {u : Bool} : (if t = true then (R.ok true : R Bool) else .ok u) = .ok (t || u) := by cases t <;> rfl
theorem i_andD {u : Bool} : (if t = true then (R.ok (.bool u) : R D) else .ok (.bool false)) = .ok (.bool (t && u)) := by cases t <;> rfl
theorem i_orD {u : Bool} : (if t = true then (R.ok (.bool true) : R D) else .ok (.bool u)) = .ok (.bool (t || u)) := by cases t <;> rfl
theorem i_thn {p : Prop} [Decidable p] {r s : SR} : (if p then r else s).thn b = if p then r.thn b else s.thn b := by split <;> rfl
theorem i_end {p : Prop} [Decidable p] {r s : SR} : rEnd (if p then r else s) = if p then rEnd r else rEnd s := by split <;> rfl
theorem i_bind {α β : Type} {p : Prop} [Decidable p] {r s : R α} {f : α → R β} : (if p then r else s).bind f = if p then r.bind f else s.bind f := by split <;> rfl
theorem i_ret {p : Prop} [Decidable p] {r s : R D} : rRet (if p then r else s) = if p then rRet r else rRet s := by split <;> rfl
theorem i_asg {p : Prop} [Decidable p] {r s : R D} : rAsg (if p then r else s) g ρ = if p then rAsg r g ρ else rAsg s g ρ := by split <;> rfl
end
def rTold (word : Ex → PySem.Str) (r : R D) : R D := match r with
  | .ok d => .ok d
  | .exc e => .ok (.str (word e))
  | .bad => .bad
theorem v_told {vs : List Nat} {word : Ex → PySem.Str} {fe : FE} {ρ : Env} : eTold vs word fe ρ = rTold word (fe (wipeE ρ vs)) := rfl
theorem w_told1 {word : Ex → PySem.Str} {d : D} : rTold word (.ok d) = .ok d := rfl
theorem w_told2 {word : Ex → PySem.Str} {e : Ex} : rTold word (.exc e) = .ok (.str (word e)) := rfl
theorem w_wipe0 {ρ : Env} : wipeE ρ [] = ρ := rfl
theorem w_wipe1 {ρ : Env} {v : Nat} {vs : List Nat} : wipeE ρ (v :: vs) = (wipeE ρ vs).set v none := rfl
/-- whole numbers, lists, tuples -/
def encN (n : Nat) : D := .int (n : Int)
def encL {α : Type} (f : α → D) (xs : List α) : D := .list (xs.map f)
def encT {α : Type} (f : α → D) (xs : List α) : D := .tuple (xs.map f)
theorem v_encN {n : Nat} : encN n = .int (n : Int) := rfl
def rRng1 (r : R D) : R (List D) := r.bind fun x => match x with
  | .int n => if -(lim : Int) ≤ n ∧ n ≤ lim then .ok (rangeD 0 n.toNat) else .bad
  | _ => .bad
theorem v_rng1 {fe : FE} {ρ : Env} : DL.iRng1 fe ρ = rRng1 (fe ρ) := rfl
theorem rangeN (n : Nat) : rangeD 0 n = (List.range n).map encN := by
  unfold rangeD
  refine List.map_congr_left fun k _ => ?_
  rw [Int.zero_add]
  rfl
theorem w_rng1 {n : Nat} (h : n ≤ lim) : rRng1 (.ok (.int (n : Int))) = .ok ((List.range n).map encN) := by
  have h1 : -(lim : Int) ≤ (n : Int) ∧ (n : Int) ≤ lim := ⟨by omega, by omega⟩
  simp only [rRng1, R.bind_ok]
  rw [if_pos h1, Int.toNat_natCast, rangeN]
def rRng2 (a b : R D) : R (List D) := a.bind fun x => b.bind fun y => match x, y with
  | .int lo, .int hi => if -(lim : Int) ≤ lo ∧ lo ≤ lim ∧ hi ≤ lim ∧ -(lim : Int) ≤ hi then .ok (rangeD lo (hi - lo).toNat) else .bad
  | _, _ => .bad
theorem v_rng2 {fa fb : FE} {ρ : Env} : DL.iRng2 fa fb ρ = rRng2 (fa ρ) (fb ρ) := rfl
/-! ### comprehensions -/
theorem compL_fm {α β : Type} {g : FG} {t : FT} {e : FE} {ρ : Env} (enc1 : α → D) (enc2 : β → D) (p : α → Bool) (f : α → β) : ∀ xs : List α, (∀ x ∈ xs, ∃ ρ', g (enc1 x) ρ = .ok ρ' ∧ t ρ' = .ok (p x) ∧ (p x = true → e ρ' = .ok (enc2 (f x)))) →
    compL g t e ρ (xs.map enc1) = .ok (((xs.filter p).map f).map enc2)
  | [], _ => rfl
  | x :: xs, h => by
    obtain ⟨ρ', h1, h2, h3⟩ := h x List.mem_cons_self
    have ih := compL_fm enc1 enc2 p f xs fun y hy => h y (List.mem_cons_of_mem _ hy)
    rw [List.map_cons, compL, h1, R.bind_ok, h2, R.bind_ok]
    cases hp : p x
    · rw [if_neg Bool.false_ne_true, ih, List.filter_cons_of_neg (by simp [hp])]
    · rw [if_pos rfl, h3 hp, R.bind_ok, ih, R.bind_ok, List.filter_cons_of_pos hp]
      rfl
theorem eComp_fm {α β : Type} {it : FA} {vs : List Nat} {g : FG} {t : FT} {e : FE} {ρ : Env} (enc1 : α → D) (enc2 : β → D) (p : α → Bool) (f : α → β) (xs : List α) (hit : it ρ = .ok (xs.map enc1)) (hl : xs.length ≤ lim)
    (h : ∀ x ∈ xs, ∃ ρ', g (enc1 x) (wipeE ρ vs) = .ok ρ' ∧ t ρ' = .ok (p x) ∧ (p x = true → e ρ' = .ok (enc2 (f x)))) :
    eComp it vs g t e ρ = .ok (encL enc2 ((xs.filter p).map f)) := by
  unfold eComp
  rw [hit, R.bind_ok, compL_fm enc1 enc2 p f xs h]
  simp only [noX, R.bind_ok, List.length_map]
  rw [if_pos hl]
  rfl
theorem eComp_m {α β : Type} {it : FA} {vs : List Nat} {g : FG} {e : FE} {ρ : Env} (enc1 : α → D) (enc2 : β → D) (f : α → β) (xs : List α) (hit : it ρ = .ok (xs.map enc1)) (hl : xs.length ≤ lim)
    (h : ∀ x ∈ xs, ∃ ρ', g (enc1 x) (wipeE ρ vs) = .ok ρ' ∧ e ρ' = .ok (enc2 (f x))) :
    eComp it vs g DL.tYes e ρ = .ok (encL enc2 (xs.map f)) := by
  have := eComp_fm (t := DL.tYes) enc1 enc2 (fun _ => true) f xs hit hl fun x hx => let ⟨ρ', h1, h2⟩ := h x hx; ⟨ρ', h1, rfl, fun _ => h2⟩
  rw [List.filter_eq_self.mpr (fun _ _ => rfl)] at this
  exact this
/-- of each the value is known by a property alone -/
theorem eComp_ex {α β : Type} {it : FA} {vs : List Nat} {g : FG} {e : FE} {ρ : Env} (enc1 : α → D) (enc2 : β → D) (Pr : α → β → Prop) (xs : List α) (hit : it ρ = .ok (xs.map enc1)) (hl : xs.length ≤ lim)
    (h : ∀ x ∈ xs, ∃ ρ' y, g (enc1 x) (wipeE ρ vs) = .ok ρ' ∧ e ρ' = .ok (enc2 y) ∧ Pr x y) :
    ∃ ys : List β, eComp it vs g DL.tYes e ρ = .ok (encL enc2 ys) ∧ ys.length = xs.length ∧ ∀ y ∈ ys, ∃ x ∈ xs, Pr x y := by
  have c : ∀ xs : List α, (∀ x ∈ xs, ∃ ρ' y, g (enc1 x) (wipeE ρ vs) = .ok ρ' ∧ e ρ' = .ok (enc2 y) ∧ Pr x y) → ∃ ys : List β, compL g DL.tYes e (wipeE ρ vs) (xs.map enc1) = .ok (ys.map enc2) ∧ ys.length = xs.length ∧ ∀ y ∈ ys, ∃ x ∈ xs, Pr x y := by
    intro xs
    induction xs with
    | nil => intro _; exact ⟨[], rfl, rfl, fun y hy => nomatch hy⟩
    | cons x xs ih =>
      intro h
      obtain ⟨ρ', y, h1, h2, h3⟩ := h x List.mem_cons_self
      obtain ⟨ys, e1, e2, e3⟩ := ih fun y hy => h y (List.mem_cons_of_mem _ hy)
      refine ⟨y :: ys, ?_, by simp [e2], fun z hz => ?_⟩
      · rw [List.map_cons, compL, h1, R.bind_ok]
        simp only [DL.tYes, R.bind_ok, if_true, h2, e1, List.map_cons]
      · rcases List.mem_cons.mp hz with rfl | hz
        · exact ⟨x, List.mem_cons_self, h3⟩
        · obtain ⟨u, hu, q⟩ := e3 z hz
          exact ⟨u, List.mem_cons_of_mem _ hu, q⟩
  obtain ⟨ys, e1, e2, e3⟩ := c xs h
  refine ⟨ys, ?_, e2, e3⟩
  unfold eComp
  rw [hit, R.bind_ok, e1]
  simp only [noX, R.bind_ok, List.length_map]
  rw [if_pos hl]
  rfl
/-! ### loops: an invariant over what is gone through -/
theorem forL_inv {α : Type} {g : FG} {b : FS} (enc : α → D) (I : List α → Env → Prop) (xs : List α) (ρ : Env) (h0 : I [] ρ)
    (h : ∀ (pre : List α) (x : α) (post : List α) (ρ : Env), xs = pre ++ x :: post → I pre ρ → ∃ ρ1, g (enc x) ρ = .ok ρ1 ∧ ∃ ρ2, (b ρ1 = .nx ρ2 ∨ b ρ1 = .cnt ρ2) ∧ I (pre ++ [x]) ρ2) :
    ∃ ρ', forL g b (xs.map enc) ρ = .nx ρ' ∧ I xs ρ' := by
  have c : ∀ (post pre : List α) (ρ : Env), xs = pre ++ post → I pre ρ → ∃ ρ', forL g b (post.map enc) ρ = .nx ρ' ∧ I xs ρ' := by
    intro post
    induction post with
    | nil => intro pre ρ e hI; exact ⟨ρ, rfl, by rw [e, List.append_nil]; exact hI⟩
    | cons x post ih =>
      intro pre ρ e hI
      obtain ⟨ρ1, h1, ρ2, h2, h3⟩ := h pre x post ρ e hI
      obtain ⟨ρ', e1, e2⟩ := ih (pre ++ [x]) ρ2 (by rw [e]; simp) h3
      refine ⟨ρ', ?_, e2⟩
      rw [List.map_cons, forL, h1]
      rcases h2 with h2 | h2 <;> simp only [h2] <;> exact e1
  exact c xs [] ρ rfl h0
/-- a loop that ends by a return, or goes through -/
theorem forL_ret {α : Type} {g : FG} {b : FS} (enc : α → D) (I : List α → Env → Prop) (Z : D → Prop) (xs : List α) (ρ : Env) (h0 : I [] ρ)
    (h : ∀ (pre : List α) (x : α) (post : List α) (ρ : Env), xs = pre ++ x :: post → I pre ρ → ∃ ρ1, g (enc x) ρ = .ok ρ1 ∧ ((∃ d, b ρ1 = .ret d ∧ Z d) ∨ ∃ ρ2, (b ρ1 = .nx ρ2 ∨ b ρ1 = .cnt ρ2) ∧ I (pre ++ [x]) ρ2)) :
    (∃ d, forL g b (xs.map enc) ρ = .ret d ∧ Z d) ∨ ∃ ρ', forL g b (xs.map enc) ρ = .nx ρ' ∧ I xs ρ' := by
  have c : ∀ (post pre : List α) (ρ : Env), xs = pre ++ post → I pre ρ → (∃ d, forL g b (post.map enc) ρ = .ret d ∧ Z d) ∨ ∃ ρ', forL g b (post.map enc) ρ = .nx ρ' ∧ I xs ρ' := by
    intro post
    induction post with
    | nil => intro pre ρ e hI; exact .inr ⟨ρ, rfl, by rw [e, List.append_nil]; exact hI⟩
    | cons x post ih =>
      intro pre ρ e hI
      obtain ⟨ρ1, h1, h2⟩ := h pre x post ρ e hI
      rcases h2 with ⟨d, h2, h3⟩ | ⟨ρ2, h2, h3⟩
      · refine .inl ⟨d, ?_, h3⟩
        rw [List.map_cons, forL, h1]
        simp only [h2]
      · have e' : forL g b ((x :: post).map enc) ρ = forL g b (post.map enc) ρ2 := by
          rw [List.map_cons, forL, h1]
          rcases h2 with h2 | h2 <;> simp only [h2]
        rw [e']
        exact ih (pre ++ [x]) ρ2 (by rw [e]; simp) h3
  exact c xs [] ρ rfl h0
/-- the same, of a loop that stands in a goal: generalize hr : forL _ _ _ _ = r -/
theorem for_inv {α : Type} {g : FG} {b : FS} {ρ : Env} {ds : List D} {r : SR} (hr : forL g b ds ρ = r) (enc : α → D) (I : List α → Env → Prop) (xs : List α) (hd : ds = xs.map enc) (h0 : I [] ρ)
    (h : ∀ (pre : List α) (x : α) (post : List α) (ρ : Env), xs = pre ++ x :: post → I pre ρ → ∃ ρ1, g (enc x) ρ = .ok ρ1 ∧ ∃ ρ2, (b ρ1 = .nx ρ2 ∨ b ρ1 = .cnt ρ2) ∧ I (pre ++ [x]) ρ2) :
    ∃ ρ', r = .nx ρ' ∧ I xs ρ' := by
  subst hr hd
  exact forL_inv enc I xs ρ h0 h
theorem for_ret {α : Type} {g : FG} {b : FS} {ρ : Env} {ds : List D} {r : SR} (hr : forL g b ds ρ = r) (enc : α → D) (I : List α → Env → Prop) (Z : D → Prop) (xs : List α) (hd : ds = xs.map enc) (h0 : I [] ρ)
    (h : ∀ (pre : List α) (x : α) (post : List α) (ρ : Env), xs = pre ++ x :: post → I pre ρ → ∃ ρ1, g (enc x) ρ = .ok ρ1 ∧ ((∃ d, b ρ1 = .ret d ∧ Z d) ∨ ∃ ρ2, (b ρ1 = .nx ρ2 ∨ b ρ1 = .cnt ρ2) ∧ I (pre ++ [x]) ρ2)) :
    (∃ d, r = .ret d ∧ Z d) ∨ ∃ ρ', r = .nx ρ' ∧ I xs ρ' := by
  subst hr hd
  exact forL_ret enc I Z xs ρ h0 h
/-! ### x.append, x.extend, x[k] = v -/
def rApp (i : Nat) (x : Option (Option D)) (r : R D) (ρ : Env) : SR := match x with
  | some (some (.list xs)) => (match r with
    | .ok d => if xs.length < lim then .nx (ρ.set i (some (.list (xs ++ [d])))) else .bad
    | .exc e => .exc e
    | .bad => .bad)
  | _ => .bad
theorem v_app {i : Nat} {a : FE} {ρ : Env} : sApp i a ρ = rApp i ρ[i]? (a ρ) ρ := rfl
theorem w_app {α : Type} {i : Nat} {ρ : Env} {f : α → D} {xs : List α} {x : α} (h : xs.length < lim) : rApp i (some (some (encL f xs))) (.ok (f x)) ρ = .nx (ρ.set i (some (encL f (xs ++ [x])))) := by
  show (if (xs.map f).length < lim then _ else _) = _
  rw [if_pos (by simpa using h)]
  simp [encL]
def rExt (i : Nat) (x : Option (Option D)) (r : R D) (ρ : Env) : SR := match x with
  | some (some (.list xs)) => (match r with
    | .ok (.list ys) => if xs.length + ys.length ≤ lim then .nx (ρ.set i (some (.list (xs ++ ys)))) else .bad
    | .exc e => .exc e
    | _ => .bad)
  | _ => .bad
theorem v_ext {i : Nat} {a : FE} {ρ : Env} : sExt i a ρ = rExt i ρ[i]? (a ρ) ρ := rfl
theorem w_ext {α : Type} {i : Nat} {ρ : Env} {f : α → D} {xs ys : List α} (h : xs.length + ys.length ≤ lim) : rExt i (some (some (encL f xs))) (.ok (encL f ys)) ρ = .nx (ρ.set i (some (encL f (xs ++ ys)))) := by
  show (if (xs.map f).length + (ys.map f).length ≤ lim then _ else _) = _
  rw [if_pos (by simpa using h)]
  simp [encL]
def rPut (i : Nat) (x : Option (Option D)) (v k : R D) (ρ : Env) : SR := match v with
  | .ok y => (match x with
    | some (some (.dict kvs)) => (match k with
      | .ok x => if keyOk kvs x = true ∧ kvs.length < lim then .nx (ρ.set i (some (.dict (dPutK kvs x y)))) else .bad
      | .exc e => .exc e
      | .bad => .bad)
    | _ => .bad)
  | .exc e => .exc e
  | .bad => .bad
theorem v_put {i : Nat} {k v : FE} {ρ : Env} : sPut i k v ρ = rPut i ρ[i]? (v ρ) (k ρ) ρ := rfl
end DL
/-! PM5 -/
set_option Elab.async false
set_option linter.all false
set_option maxRecDepth 100000
set_option maxHeartbeats 2000000
/-! PM5: rules and houses as plain things, what stands for them. -/
namespace PG
open DL
open PySem (PyData Str)
def encP (p : List Nat) : D := .tuple (p.map encN)
def encR : Rule → D
  | .unlike p q => .tuple [.str "unlike", encN p, encN q]
  | .alike p q => .tuple [.str "alike", encN p, encN q]
  | .no p c => .tuple [.str "not", encN p, encN c]
  | .either p c q d => .tuple [.str "either", encN p, encN c, encN q, encN d]
  | .most c n => .tuple [.str "most", encN c, encN n]
  | .least c n => .tuple [.str "least", encN c, encN n]
def encH (h : House) : D := .tuple [encN h.P, encN h.C, .tuple (h.R.map encR)]
theorem str_ne {a b : Str} (h : (a == b) = false) : a ≠ b := by simpa using h
theorem ruleB_enc {P C : Nat} {r : Rule} : ruleB (encR r) P C = true ↔ r.ok P C := by
  have e1 : ("alike" : Str) ≠ "unlike" := str_ne rfl
  have e2 : ("not" : Str) ≠ "unlike" := str_ne rfl
  have e3 : ("not" : Str) ≠ "alike" := str_ne rfl
  have e4 : ("not" : Str) ≠ "most" := str_ne rfl
  have e5 : ("not" : Str) ≠ "least" := str_ne rfl
  have e6 : ("most" : Str) ≠ "unlike" := str_ne rfl
  have e7 : ("most" : Str) ≠ "alike" := str_ne rfl
  have e8 : ("least" : Str) ≠ "unlike" := str_ne rfl
  have e9 : ("least" : Str) ≠ "alike" := str_ne rfl
  have e10 : ("least" : Str) ≠ "most" := str_ne rfl
  cases r <;> simp [encR, encN, ruleB, cnt, ltB, lt2, lexLt, Rule.ok, e1, e2, e3, e4, e5, e6, e7, e8, e9, e10]
  all_goals (try omega)
  rename_i p c q d
  split <;> omega
theorem houseB_enc {h : House} : houseB (encH h) = true ↔ h.ok := by
  simp [houseB, encH, encN, cnt, rulesB, ruleB_enc]
  constructor
  · rintro ⟨⟨⟨⟨a, b⟩, c, d⟩, e⟩, f⟩
    exact ⟨by omega, by omega, by omega, by omega, e, f⟩
  · rintro ⟨a, b, c, d, e, f⟩
    exact ⟨⟨⟨⟨by omega, by omega⟩, by omega, by omega⟩, e⟩, f⟩
theorem pl_encR (r : Rule) : pl 1 8 (encR r) = true := by
  cases r <;> simp [encR, encN, pl] <;> exact strOk_of rfl
theorem pl_encH {h : House} (k : h.R.length ≤ 8) : pl 3 8 (encH h) = true := by
  simp [encH, encN, pl, k]
  intro r _
  exact pl_encR r
theorem pl_encH' {h : House} {L : Nat} (k : h.R.length ≤ L) (hL : 8 ≤ L) : pl 3 L (encH h) = true := by
  have e : ∀ r : Rule, pl 1 L (encR r) = true := by
    intro r
    cases r <;> simp [encR, encN, pl] <;> first | exact ⟨by omega, strOk_of rfl⟩ | omega
  simp [encH, encN, pl, k]
  exact ⟨by omega, fun r _ => e r⟩
theorem need_no {h : House} (k : ¬ h.ok) (hl : h.R.length ≤ 1000) : f_need_house [encH h] = .exc .house := by
  rw [need_eq (pl_encH' (L := 1000) hl (by omega)) (by omega) (by simp [lim])]
  rw [if_neg fun z => k (houseB_enc.mp z)]
theorem need_ok {h : House} (k : h.ok) : f_need_house [encH h] = .ok .none := by
  rw [need_eq (pl_encH k.r8) (by omega) (by simp [lim])]
  rw [if_pos (houseB_enc.mpr k)]
/-! ### the law's houses -/
theorem div_i {i j : Int} (h : 0 < j) (h2 : j < 2 ^ 64) : dDiv (.int i) (.int j) = .ok (.int (i / j)) := div_int h (by omega)
theorem ne_pair {a b c d : Int} : dNe (.tuple [.int a, .int b]) (.tuple [.int c, .int d]) = .ok (.bool (!((a == c) && (b == d)))) := by
  have h1 : shaped (.tuple [.int a, .int b]) = true := pl_shaped (L := 8) (n := 1) (by simp [pl]) (by omega)
  have h2 : shaped (.tuple [.int c, .int d]) = true := pl_shaped (L := 8) (n := 1) (by simp [pl]) (by omega)
  simp [dNe, h1, h2, PyData.eqv, PyData.eqvAll]
theorem nat_of {i : Int} (h : 0 ≤ i) : encN i.toNat = .int i := by
  unfold encN
  rw [Int.toNat_of_nonneg h]
theorem add_tup {xs ys : List D} (h : xs.length + ys.length ≤ lim) : dAdd (.tuple xs) (.tuple ys) = .ok (.tuple (xs ++ ys)) := by simp [dAdd, h]
theorem ltI_pair {a b c d : Int} : ltI (.tuple [.int a, .int b]) (.tuple [.int c, .int d]) = if a = c then decide (b < d) else decide (a < c) := by
  show lexLt [a, b] [c, d] = _
  simp only [lexLt]
  by_cases h : b = d <;> simp [h]
theorem sortP_two {x y : D} (hx : isPairI x = true) (hy : isPairI y = true) : dSortP (.list [x, y]) = .ok (.list (if ltI y x = true then [y, x] else [x, y])) := by
  simp only [dSortP, List.all_cons, List.all_nil, hx, hy, Bool.and_true, if_true, isort, insO]
theorem sort_two {a b c d : Int} (h : (a == c && b == d) = false) : ∃ a' b' c' d', dSortP (.list [.tuple [.int a, .int b], .tuple [.int c, .int d]]) = .ok (.list [.tuple [.int a', .int b'], .tuple [.int c', .int d']]) ∧ (a' < c' ∨ a' = c' ∧ b' < d') ∧ ((a' = a ∧ b' = b ∧ c' = c ∧ d' = d) ∨ (a' = c ∧ b' = d ∧ c' = a ∧ d' = b)) := by
  rw [sortP_two rfl rfl]
  cases e : ltI (.tuple [.int c, .int d]) (.tuple [.int a, .int b])
  · refine ⟨a, b, c, d, rfl, ?_, .inl ⟨rfl, rfl, rfl, rfl⟩⟩
    rw [ltI_pair] at e
    simp at h
    by_cases h2 : c = a
    · subst h2
      simp at e h
      omega
    · simp [h2] at e
      omega
  · refine ⟨c, d, a, b, rfl, ?_, .inr ⟨rfl, rfl, rfl, rfl⟩⟩
    rw [ltI_pair] at e
    by_cases h2 : c = a
    · subst h2
      simp at e
      omega
    · simp [h2] at e
      omega
theorem enc_unlike {p q : Nat} : encR (.unlike p q) = .tuple [.str "unlike", .int p, .int q] := rfl
theorem enc_alike {p q : Nat} : encR (.alike p q) = .tuple [.str "alike", .int p, .int q] := rfl
theorem enc_no {p q : Nat} : encR (.no p q) = .tuple [.str "not", .int p, .int q] := rfl
theorem enc_most {p q : Nat} : encR (.most p q) = .tuple [.str "most", .int p, .int q] := rfl
theorem enc_least {p q : Nat} : encR (.least p q) = .tuple [.str "least", .int p, .int q] := rfl
theorem enc_either {p c q d : Nat} : encR (.either p c q d) = .tuple [.str "either", .int p, .int c, .int q, .int d] := rfl
theorem modN {i : Int} {n : Nat} (h : 0 < n) : ∃ k : Nat, i % (n : Int) = k ∧ k < n := by
  have h1 : 0 ≤ i % (n : Int) := Int.emod_nonneg _ (by omega)
  have h2 : i % (n : Int) < n := Int.emod_lt_of_pos _ (by omega)
  exact ⟨(i % (n : Int)).toNat, by omega, by omega⟩
/-- the law's rules are rules -/
theorem law_rule_ok {m : Int} {P C : Nat} (hP : 1 ≤ P) (hC : 1 ≤ C) : ∃ r : Rule, f__law_rule [.int m, .int P, .int C] = .ok (encR r) ∧ r.ok P C := by
  have hP' : (0 : Int) < P := by omega
  have hC' : (0 : Int) < C := by omega
  obtain ⟨p, ep, lp⟩ := modN (i := m / 16) (n := P) hP
  obtain ⟨q, eq, lq⟩ := modN (i := m / 16 / 8) (n := P) hP
  obtain ⟨c, ec, lc⟩ := modN (i := m / 16 / 64) (n := C) hC
  obtain ⟨d, ed, ld⟩ := modN (i := m / 16 / 512) (n := C) hC
  obtain ⟨u, eu, lu⟩ := modN (i := m / 16 / 4096) (n := P + 1) (by omega)
  obtain ⟨v, ev, lv⟩ := modN (i := m / 16 / 4096) (n := 2) (by omega)
  obtain ⟨k, ek, lk⟩ := modN (i := m) (n := 8) (by omega)
  have d16 : dDiv (.int m) (.int 16) = .ok (.int (m / 16)) := div_i (by decide) (by decide)
  have d8 : dDiv (.int (m / 16)) (.int 8) = .ok (.int (m / 16 / 8)) := div_i (by decide) (by decide)
  have d64 : dDiv (.int (m / 16)) (.int 64) = .ok (.int (m / 16 / 64)) := div_i (by decide) (by decide)
  have d512 : dDiv (.int (m / 16)) (.int 512) = .ok (.int (m / 16 / 512)) := div_i (by decide) (by decide)
  have d4096 : dDiv (.int (m / 16)) (.int 4096) = .ok (.int (m / 16 / 4096)) := div_i (by decide) (by decide)
  have m1 : dMod (.int (m / 16)) (.int P) = .ok (.int p) := by rw [mod_int hP', ep]
  have m2 : dMod (.int (m / 16 / 8)) (.int P) = .ok (.int q) := by rw [mod_int hP', eq]
  have m3 : dMod (.int (m / 16 / 64)) (.int C) = .ok (.int c) := by rw [mod_int hC', ec]
  have m4 : dMod (.int (m / 16 / 512)) (.int C) = .ok (.int d) := by rw [mod_int hC', ed]
  have m5 : dMod (.int (m / 16 / 4096)) (.int (P + 1)) = .ok (.int u) := by rw [mod_int (by omega)]; congr 2
  have m6 : dMod (.int (m / 16 / 4096)) (.int 2) = .ok (.int v) := by rw [mod_int (by omega)]; congr 2
  have m7 : dMod (.int m) (.int 8) = .ok (.int k) := by rw [mod_int (by omega)]; congr 2
  have lt3 : dLt (.int k) (.int 3) = .ok (.bool (decide (k < 3))) := by rw [lt_int]; congr 2; simp only [decide_eq_decide]; omega
  have e3 : dEq (.int k) (.int 3) = .ok (.bool (decide (k = 3))) := by rw [eq_int]; congr 2; rw [Bool.beq_eq_decide_eq]; simp only [decide_eq_decide]; omega
  have e4 : dEq (.int k) (.int 4) = .ok (.bool (decide (k = 4))) := by rw [eq_int]; congr 2; rw [Bool.beq_eq_decide_eq]; simp only [decide_eq_decide]; omega
  have e5 : dEq (.int k) (.int 5) = .ok (.bool (decide (k = 5))) := by rw [eq_int]; congr 2; rw [Bool.beq_eq_decide_eq]; simp only [decide_eq_decide]; omega
  have e6 : dEq (.int k) (.int 6) = .ok (.bool (decide (k = 6))) := by rw [eq_int]; congr 2; rw [Bool.beq_eq_decide_eq]; simp only [decide_eq_decide]; omega
  have npq : dNe (.int p) (.int q) = .ok (.bool (!decide (p = q))) := by rw [ne_int]; congr 3; rw [Bool.beq_eq_decide_eq]; simp only [decide_eq_decide]; omega
  have np2 : dNe (.tuple [.int p, .int c]) (.tuple [.int q, .int d]) = .ok (.bool (!(((p : Int) == q) && ((c : Int) == d)))) := ne_pair
  have hi : dMin2 (.int p) (.int q) = .ok (.int (min p q : Nat)) := by simp only [dMin2]; congr 2; split <;> omega
  have ha : dMax2 (.int p) (.int q) = .ok (.int (max p q : Nat)) := by simp only [dMax2]; congr 2; split <;> omega
  have sa : dAdd (.int P) (.int 1) = .ok (.int (P + 1)) := add_int
  simp only [f__law_rule, v_seq, w_nx, w_ret, w_exc, w_brk, w_cnt, v_next, v_ret, v_retN, w_rok, w_rexc, v_brk, v_cnt, v_raise, v_if, w_ift, w_iff, w_ifx, v_asg, w_aok, w_aexc, w_gok, v_par, w_par, v_for, w_for, v_run, w_end1, w_end2, w_end3, v_e1, v_e2, w_two, v_eF, v_nil, v_cons, w_cons, v_tup, v_lst, v_var, w_var, v_c, v_and, w_andt, w_andf, v_or, w_ort, w_orf, v_not, w_not, v_ifE, w_ifEt, w_ifEf, v_tB, w_tB, v_tTru, v_tAnd, w_tAndt, w_tAndf, v_tOr, w_tOrt, w_tOrf, v_tNot, w_tNot, v_tYes, v_gName, v_gTup, v_gLst, v_gCons, v_gNil, v_oNone, v_oSome, w_oSome, v_slice, w_slice, v_chain, w_chain, w_chaint, w_chainf, v_iSeq, w_items1, w_items2, w_trub, w_truN, w_truL, w_truT, R.bind_ok, R.bind_exc, R.bind_bad, List.length_cons, List.length_nil, List.map_cons, List.map_nil, List.replicate, List.cons_append, List.nil_append, List.getElem?_cons_zero, List.getElem?_cons_succ, List.set_cons_zero, List.set_cons_succ, List.set_nil, Nat.reduceAdd, Nat.reduceSub, if_true, if_false, eq_self, reduceIte, Bool.not_true, Bool.not_false, v_encN, v_rng1, v_rng2, Bool.false_eq_true, v_told, w_told1, w_told2, w_wipe0, w_wipe1, v_app, v_ext, v_put, v_drop, w_drop1, w_drop2, s_if, s_tAnd, s_tOr, s_and, s_or, s_ifE, s_chain, i_and, i_or, i_andD, i_orD, i_thn, i_end, i_bind, i_ret, i_asg, d16, d8, d64, d512, m1, m2, m3, m4, m7, lt3, npq, hi, ha, e3, e4, e5, e6, np2, d4096, m5, m6, sa]
  split
  · rename_i h
    simp at h
    exact ⟨.unlike (min p q) (max p q), rfl, by show _ ∧ _; omega⟩
  split
  · rename_i h
    simp at h
    exact ⟨.alike (min p q) (max p q), rfl, by show _ ∧ _; omega⟩
  split
  · rename_i h
    have h' : ((p : Int) == q && (c : Int) == d) = false := by
      cases e : ((p : Int) == q && (c : Int) == d)
      · rfl
      · rw [e] at h; simp at h
    obtain ⟨a, b, a2, b2, e1, e2, e3⟩ := sort_two h'
    have ha : ∃ a' : Nat, a = a' ∧ a' < P := e3.elim (fun z => ⟨p, z.1, lp⟩) (fun z => ⟨q, z.1, lq⟩)
    have hb : ∃ a' : Nat, b = a' ∧ a' < C := e3.elim (fun z => ⟨c, z.2.1, lc⟩) (fun z => ⟨d, z.2.1, ld⟩)
    have ha2 : ∃ a' : Nat, a2 = a' ∧ a' < P := e3.elim (fun z => ⟨q, z.2.2.1, lq⟩) (fun z => ⟨p, z.2.2.1, lp⟩)
    have hb2 : ∃ a' : Nat, b2 = a' ∧ a' < C := e3.elim (fun z => ⟨d, z.2.2.2, ld⟩) (fun z => ⟨c, z.2.2.2, lc⟩)
    obtain ⟨a, rfl, la⟩ := ha
    obtain ⟨b, rfl, lb⟩ := hb
    obtain ⟨a2, rfl, la2⟩ := ha2
    obtain ⟨b2, rfl, lb2⟩ := hb2
    have s1 : dAdd (.tuple [.str "either"]) (.tuple [.int a, .int b]) = .ok (.tuple [.str "either", .int a, .int b]) := add_tup (by simp [lim])
    have s2 : dAdd (.tuple [.str "either", .int a, .int b]) (.tuple [.int a2, .int b2]) = .ok (.tuple [.str "either", .int a, .int b, .int a2, .int b2]) := add_tup (by simp [lim])
    simp only [v_seq, w_nx, w_ret, w_exc, w_brk, w_cnt, v_next, v_ret, v_retN, w_rok, w_rexc, v_brk, v_cnt, v_raise, v_if, w_ift, w_iff, w_ifx, v_asg, w_aok, w_aexc, w_gok, v_par, w_par, v_for, w_for, v_run, w_end1, w_end2, w_end3, v_e1, v_e2, w_two, v_eF, v_nil, v_cons, w_cons, v_tup, v_lst, v_var, w_var, v_c, v_and, w_andt, w_andf, v_or, w_ort, w_orf, v_not, w_not, v_ifE, w_ifEt, w_ifEf, v_tB, w_tB, v_tTru, v_tAnd, w_tAndt, w_tAndf, v_tOr, w_tOrt, w_tOrf, v_tNot, w_tNot, v_tYes, v_gName, v_gTup, v_gLst, v_gCons, v_gNil, v_oNone, v_oSome, w_oSome, v_slice, w_slice, v_chain, w_chain, w_chaint, w_chainf, v_iSeq, w_items1, w_items2, w_trub, w_truN, w_truL, w_truT, R.bind_ok, R.bind_exc, R.bind_bad, List.length_cons, List.length_nil, List.map_cons, List.map_nil, List.replicate, List.cons_append, List.nil_append, List.getElem?_cons_zero, List.getElem?_cons_succ, List.set_cons_zero, List.set_cons_succ, List.set_nil, Nat.reduceAdd, Nat.reduceSub, if_true, if_false, eq_self, reduceIte, Bool.not_true, Bool.not_false, v_encN, v_rng1, v_rng2, Bool.false_eq_true, v_told, w_told1, w_told2, w_wipe0, w_wipe1, v_app, v_ext, v_put, v_drop, w_drop1, w_drop2, e1, s1, s2]
    exact ⟨.either a b a2 b2, rfl, la, lb, la2, lb2, by omega⟩
  split
  · exact ⟨.most c u, rfl, lc, by omega⟩
  split
  · exact ⟨.least c v, rfl, lc, by omega⟩
  · exact ⟨.no p c, rfl, lp, lc⟩
end PG
/-! PM6 -/
set_option Elab.async false
set_option linter.all false
set_option maxRecDepth 100000
set_option maxHeartbeats 2000000
/-! PM6: the law's houses. -/
namespace PG
open DL
open PySem (PyData Str)
theorem eqN {a b : Nat} : dEq (.int a) (.int b) = .ok (.bool (decide (a = b))) := by rw [eq_int]; congr 2; rw [Bool.beq_eq_decide_eq]; simp only [decide_eq_decide]; omega
theorem eqN0 {a : Nat} : dEq (.int a) (.int 0) = .ok (.bool (decide (a = 0))) := eqN (b := 0)
theorem tup_of {xs : List D} : dTuple (.list xs) = .ok (.tuple xs) := rfl
theorem law_rules {m : Int} {P C n : Nat} {ρ : Env} (hP : 1 ≤ P) (hC : 1 ≤ C) (hn : n ≤ 8) (e0 : ρ[0]? = some (some (.int m))) (e2 : ρ[2]? = some (some (.int P))) (e3 : ρ[3]? = some (some (.int C))) (e4 : ρ[4]? = some (some (.int n))) (hl : ρ.length = 7) :
    ∃ rs : List Rule, eComp (DL.iRng1 (eVar 4)) [6] (DL.gName 6) DL.tYes (eF f__law_rule (aCons (eF f__law_drawn (aCons (eVar 0) (aCons (eVar 6) aNil))) (aCons (eVar 2) (aCons (eVar 3) aNil)))) ρ = .ok (encL encR rs) ∧ rs.length = n ∧ ∀ r ∈ rs, r.ok P C := by
  have hit : DL.iRng1 (eVar 4) ρ = .ok ((List.range n).map encN) := by
    simp only [v_seq, w_nx, w_ret, w_exc, w_brk, w_cnt, v_next, v_ret, v_retN, w_rok, w_rexc, v_brk, v_cnt, v_raise, v_if, w_ift, w_iff, w_ifx, v_asg, w_aok, w_aexc, w_gok, v_par, w_par, v_for, w_for, v_run, w_end1, w_end2, w_end3, v_e1, v_e2, w_two, v_eF, v_nil, v_cons, w_cons, v_tup, v_lst, v_var, w_var, v_c, v_and, w_andt, w_andf, v_or, w_ort, w_orf, v_not, w_not, v_ifE, w_ifEt, w_ifEf, v_tB, w_tB, v_tTru, v_tAnd, w_tAndt, w_tAndf, v_tOr, w_tOrt, w_tOrf, v_tNot, w_tNot, v_tYes, v_gName, v_gTup, v_gLst, v_gCons, v_gNil, v_oNone, v_oSome, w_oSome, v_slice, w_slice, v_chain, w_chain, w_chaint, w_chainf, v_iSeq, w_items1, w_items2, w_trub, w_truN, w_truL, w_truT, R.bind_ok, R.bind_exc, R.bind_bad, List.length_cons, List.length_nil, List.map_cons, List.map_nil, List.replicate, List.cons_append, List.nil_append, List.getElem?_cons_zero, List.getElem?_cons_succ, List.set_cons_zero, List.set_cons_succ, List.set_nil, Nat.reduceAdd, Nat.reduceSub, if_true, if_false, eq_self, reduceIte, Bool.not_true, Bool.not_false, v_encN, v_rng1, v_rng2, Bool.false_eq_true, v_told, w_told1, w_told2, w_wipe0, w_wipe1, v_app, v_ext, v_put, v_drop, w_drop1, w_drop2, e4, w_rng1 (show n ≤ lim by simp [lim]; omega)]
  obtain ⟨rs, h1, h2, h3⟩ := eComp_ex (vs := [6]) (g := DL.gName 6) (e := eF f__law_rule (aCons (eF f__law_drawn (aCons (eVar 0) (aCons (eVar 6) aNil))) (aCons (eVar 2) (aCons (eVar 3) aNil)))) encN encR (fun _ r => r.ok P C) (List.range n) hit (by simp [lim]; omega) fun k hk => by
    obtain ⟨r, hr, ok⟩ := law_rule_ok (m := drawn m k) hP hC
    refine ⟨_, r, rfl, ?_, ok⟩
    have z0 : ((ρ.set 6 none).set 6 (some (.int k)))[0]? = some (some (.int m)) := by simp [e0]
    have z2 : ((ρ.set 6 none).set 6 (some (.int k)))[2]? = some (some (.int P)) := by simp [e2]
    have z3 : ((ρ.set 6 none).set 6 (some (.int k)))[3]? = some (some (.int C)) := by simp [e3]
    have z6 : ((ρ.set 6 none).set 6 (some (.int k)))[6]? = some (some (.int k)) := by simp [hl]
    simp only [v_seq, w_nx, w_ret, w_exc, w_brk, w_cnt, v_next, v_ret, v_retN, w_rok, w_rexc, v_brk, v_cnt, v_raise, v_if, w_ift, w_iff, w_ifx, v_asg, w_aok, w_aexc, w_gok, v_par, w_par, v_for, w_for, v_run, w_end1, w_end2, w_end3, v_e1, v_e2, w_two, v_eF, v_nil, v_cons, w_cons, v_tup, v_lst, v_var, w_var, v_c, v_and, w_andt, w_andf, v_or, w_ort, w_orf, v_not, w_not, v_ifE, w_ifEt, w_ifEf, v_tB, w_tB, v_tTru, v_tAnd, w_tAndt, w_tAndf, v_tOr, w_tOrt, w_tOrf, v_tNot, w_tNot, v_tYes, v_gName, v_gTup, v_gLst, v_gCons, v_gNil, v_oNone, v_oSome, w_oSome, v_slice, w_slice, v_chain, w_chain, w_chaint, w_chainf, v_iSeq, w_items1, w_items2, w_trub, w_truN, w_truL, w_truT, R.bind_ok, R.bind_exc, R.bind_bad, List.length_cons, List.length_nil, List.map_cons, List.map_nil, List.replicate, List.cons_append, List.nil_append, List.getElem?_cons_zero, List.getElem?_cons_succ, List.set_cons_zero, List.set_cons_succ, List.set_nil, Nat.reduceAdd, Nat.reduceSub, if_true, if_false, eq_self, reduceIte, Bool.not_true, Bool.not_false, v_encN, v_rng1, v_rng2, Bool.false_eq_true, v_told, w_told1, w_told2, w_wipe0, w_wipe1, v_app, v_ext, v_put, v_drop, w_drop1, w_drop2, z0, z2, z3, z6, drawn_eq, hr]
  exact ⟨rs, h1, by simpa using h2, fun r hr => by obtain ⟨_, _, q⟩ := h3 r hr; exact q⟩
theorem law_house_ok {m : Int} {mo : Nat} (h1 : 1 ≤ mo) (h5 : mo ≤ 5) : ∃ h : House, f__law_house [.int m, .int mo] = .ok (encH h) ∧ h.ok ∧ ((h.P ≤ mo ∧ h.C ≤ 3) ∨ (h.P = 5 ∧ h.C = 2) ∨ (h.P = 3 ∧ h.C = 4) ∨ (h.P = 2 ∧ h.C = 4)) := by
  obtain ⟨a, ea, la⟩ := modN (i := m / 8) (n := mo) h1
  obtain ⟨b, eb, lb⟩ := modN (i := m / 64) (n := 3) (by omega)
  obtain ⟨c, ec, lc⟩ := modN (i := m / 512) (n := 12) (by omega)
  obtain ⟨d, ed, ld⟩ := modN (i := m / 8192) (n := 3) (by omega)
  obtain ⟨e, ee, le⟩ := modN (i := m / 1073741824) (n := 3) (by omega)
  have d8 : dDiv (.int m) (.int 8) = .ok (.int (m / 8)) := div_i (by decide) (by decide)
  have d64 : dDiv (.int m) (.int 64) = .ok (.int (m / 64)) := div_i (by decide) (by decide)
  have d512 : dDiv (.int m) (.int 512) = .ok (.int (m / 512)) := div_i (by decide) (by decide)
  have d8192 : dDiv (.int m) (.int 8192) = .ok (.int (m / 8192)) := div_i (by decide) (by decide)
  have d20 : dDiv (.int m) (.int 1048576) = .ok (.int (m / 1048576)) := div_i (by decide) (by decide)
  have d30 : dDiv (.int m) (.int 1073741824) = .ok (.int (m / 1073741824)) := div_i (by decide) (by decide)
  have p20 : dPow (.int 2) (.int 20) = .ok (.int 1048576) := by simp [dPow]
  have p30 : dPow (.int 2) (.int 30) = .ok (.int 1073741824) := by simp [dPow]
  have m1 : dMod (.int (m / 8)) (.int mo) = .ok (.int a) := by rw [mod_int (by omega), ea]
  have m2 : dMod (.int (m / 64)) (.int 3) = .ok (.int b) := by rw [mod_int (by omega)]; congr 2
  have m3 : dMod (.int (m / 512)) (.int 12) = .ok (.int c) := by rw [mod_int (by omega)]; congr 2
  have m4 : dMod (.int (m / 8192)) (.int 3) = .ok (.int d) := by rw [mod_int (by omega)]; congr 2
  have m5 : dMod (.int (m / 1073741824)) (.int 3) = .ok (.int e) := by rw [mod_int (by omega)]; congr 2
  have w : ∃ w n : Nat, dIdx (.list [.int 3, .int 5, .int 9]) (.int e) = .ok (.int w) ∧ dMod (.int (m / 1048576)) (.int w) = .ok (.int n) ∧ n ≤ 8 := by
    have aux : ∀ w : Nat, 0 < w → w ≤ 9 → ∃ n : Nat, dMod (.int (m / 1048576)) (.int w) = .ok (.int n) ∧ n ≤ 8 := fun w h1 h2 => by
      obtain ⟨n, e1, l1⟩ := modN (i := m / 1048576) (n := w) h1
      exact ⟨n, by rw [mod_int (by omega), e1], by omega⟩
    rcases (by omega : e = 0 ∨ e = 1 ∨ e = 2) with rfl | rfl | rfl
    · obtain ⟨n, q1, q2⟩ := aux 3 (by omega) (by omega); exact ⟨3, n, rfl, q1, q2⟩
    · obtain ⟨n, q1, q2⟩ := aux 5 (by omega) (by omega); exact ⟨5, n, rfl, q1, q2⟩
    · obtain ⟨n, q1, q2⟩ := aux 9 (by omega) (by omega); exact ⟨9, n, rfl, q1, q2⟩
  obtain ⟨w, n, w1, w2, hn⟩ := w
  have pc : ∃ P C : Nat, dIdx (.list [.tuple [.int 5, .int 2], .tuple [.int 3, .int 4], .tuple [.int 2, .int 4]]) (.int d) = .ok (.tuple [.int P, .int C]) ∧ ((P = 5 ∧ C = 2) ∨ (P = 3 ∧ C = 4) ∨ (P = 2 ∧ C = 4)) := by
    rcases (by omega : d = 0 ∨ d = 1 ∨ d = 2) with rfl | rfl | rfl
    · exact ⟨5, 2, rfl, .inl ⟨rfl, rfl⟩⟩
    · exact ⟨3, 4, rfl, .inr (.inl ⟨rfl, rfl⟩)⟩
    · exact ⟨2, 4, rfl, .inr (.inr ⟨rfl, rfl⟩)⟩
  obtain ⟨P, C, w3, hPC⟩ := pc
  have sa : dAdd (.int 1) (.int a) = .ok (.int (1 + a : Nat)) := by rw [add_int]; congr 2
  have sb : dAdd (.int 1) (.int b) = .ok (.int (1 + b : Nat)) := by rw [add_int]; congr 2
  simp only [f__law_house, v_seq, w_nx, w_ret, w_exc, w_brk, w_cnt, v_next, v_ret, v_retN, w_rok, w_rexc, v_brk, v_cnt, v_raise, v_if, w_ift, w_iff, w_ifx, v_asg, w_aok, w_aexc, w_gok, v_par, w_par, v_for, w_for, v_run, w_end1, w_end2, w_end3, v_e1, v_e2, w_two, v_eF, v_nil, v_cons, w_cons, v_tup, v_lst, v_var, w_var, v_c, v_and, w_andt, w_andf, v_or, w_ort, w_orf, v_not, w_not, v_ifE, w_ifEt, w_ifEf, v_tB, w_tB, v_tTru, v_tAnd, w_tAndt, w_tAndf, v_tOr, w_tOrt, w_tOrf, v_tNot, w_tNot, v_tYes, v_gName, v_gTup, v_gLst, v_gCons, v_gNil, v_oNone, v_oSome, w_oSome, v_slice, w_slice, v_chain, w_chain, w_chaint, w_chainf, v_iSeq, w_items1, w_items2, w_trub, w_truN, w_truL, w_truT, R.bind_ok, R.bind_exc, R.bind_bad, List.length_cons, List.length_nil, List.map_cons, List.map_nil, List.replicate, List.cons_append, List.nil_append, List.getElem?_cons_zero, List.getElem?_cons_succ, List.set_cons_zero, List.set_cons_succ, List.set_nil, Nat.reduceAdd, Nat.reduceSub, if_true, if_false, eq_self, reduceIte, Bool.not_true, Bool.not_false, v_encN, v_rng1, v_rng2, Bool.false_eq_true, v_told, w_told1, w_told2, w_wipe0, w_wipe1, v_app, v_ext, v_put, v_drop, w_drop1, w_drop2, s_if, s_tAnd, s_tOr, s_and, s_or, s_ifE, s_chain, i_and, i_or, i_andD, i_orD, i_thn, i_end, i_bind, i_ret, i_asg, d8, d64, d512, d8192, d20, d30, p20, p30, m1, m2, m3, m4, m5, w1, w2, w3, sa, sb, eqN0]
  split
  · obtain ⟨rs, h1, h2, h3⟩ := law_rules (m := m) (P := P) (C := C) (n := n) (ρ := [some (.int m), some (.int mo), some (.int P), some (.int C), some (.int n), none, none]) (by omega) (by omega) hn rfl rfl rfl rfl rfl
    simp only [h1, v_seq, w_nx, w_ret, w_exc, w_brk, w_cnt, v_next, v_ret, v_retN, w_rok, w_rexc, v_brk, v_cnt, v_raise, v_if, w_ift, w_iff, w_ifx, v_asg, w_aok, w_aexc, w_gok, v_par, w_par, v_for, w_for, v_run, w_end1, w_end2, w_end3, v_e1, v_e2, w_two, v_eF, v_nil, v_cons, w_cons, v_tup, v_lst, v_var, w_var, v_c, v_and, w_andt, w_andf, v_or, w_ort, w_orf, v_not, w_not, v_ifE, w_ifEt, w_ifEf, v_tB, w_tB, v_tTru, v_tAnd, w_tAndt, w_tAndf, v_tOr, w_tOrt, w_tOrf, v_tNot, w_tNot, v_tYes, v_gName, v_gTup, v_gLst, v_gCons, v_gNil, v_oNone, v_oSome, w_oSome, v_slice, w_slice, v_chain, w_chain, w_chaint, w_chainf, v_iSeq, w_items1, w_items2, w_trub, w_truN, w_truL, w_truT, R.bind_ok, R.bind_exc, R.bind_bad, List.length_cons, List.length_nil, List.map_cons, List.map_nil, List.replicate, List.cons_append, List.nil_append, List.getElem?_cons_zero, List.getElem?_cons_succ, List.set_cons_zero, List.set_cons_succ, List.set_nil, Nat.reduceAdd, Nat.reduceSub, if_true, if_false, eq_self, reduceIte, Bool.not_true, Bool.not_false, v_encN, v_rng1, v_rng2, Bool.false_eq_true, v_told, w_told1, w_told2, w_wipe0, w_wipe1, v_app, v_ext, v_put, v_drop, w_drop1, w_drop2, s_if, s_tAnd, s_tOr, s_and, s_or, s_ifE, s_chain, i_and, i_or, i_andD, i_orD, i_thn, i_end, i_bind, i_ret, i_asg, encL, tup_of]
    exact ⟨⟨P, C, rs⟩, rfl, ⟨by show 1 ≤ P; omega, by show P ≤ 5; omega, by show 1 ≤ C; omega, by show C ≤ 4; omega, by show rs.length ≤ 8; omega, h3⟩, .inr hPC⟩
  · obtain ⟨rs, h1, h2, h3⟩ := law_rules (m := m) (P := 1 + a) (C := 1 + b) (n := n) (ρ := [some (.int m), some (.int mo), some (.int (1 + a : Nat)), some (.int (1 + b : Nat)), some (.int n), none, none]) (by omega) (by omega) hn rfl rfl rfl rfl rfl
    simp only [h1, v_seq, w_nx, w_ret, w_exc, w_brk, w_cnt, v_next, v_ret, v_retN, w_rok, w_rexc, v_brk, v_cnt, v_raise, v_if, w_ift, w_iff, w_ifx, v_asg, w_aok, w_aexc, w_gok, v_par, w_par, v_for, w_for, v_run, w_end1, w_end2, w_end3, v_e1, v_e2, w_two, v_eF, v_nil, v_cons, w_cons, v_tup, v_lst, v_var, w_var, v_c, v_and, w_andt, w_andf, v_or, w_ort, w_orf, v_not, w_not, v_ifE, w_ifEt, w_ifEf, v_tB, w_tB, v_tTru, v_tAnd, w_tAndt, w_tAndf, v_tOr, w_tOrt, w_tOrf, v_tNot, w_tNot, v_tYes, v_gName, v_gTup, v_gLst, v_gCons, v_gNil, v_oNone, v_oSome, w_oSome, v_slice, w_slice, v_chain, w_chain, w_chaint, w_chainf, v_iSeq, w_items1, w_items2, w_trub, w_truN, w_truL, w_truT, R.bind_ok, R.bind_exc, R.bind_bad, List.length_cons, List.length_nil, List.map_cons, List.map_nil, List.replicate, List.cons_append, List.nil_append, List.getElem?_cons_zero, List.getElem?_cons_succ, List.set_cons_zero, List.set_cons_succ, List.set_nil, Nat.reduceAdd, Nat.reduceSub, if_true, if_false, eq_self, reduceIte, Bool.not_true, Bool.not_false, v_encN, v_rng1, v_rng2, Bool.false_eq_true, v_told, w_told1, w_told2, w_wipe0, w_wipe1, v_app, v_ext, v_put, v_drop, w_drop1, w_drop2, s_if, s_tAnd, s_tOr, s_and, s_or, s_ifE, s_chain, i_and, i_or, i_andD, i_orD, i_thn, i_end, i_bind, i_ret, i_asg, encL, tup_of]
    exact ⟨⟨1 + a, 1 + b, rs⟩, rfl, ⟨by show 1 ≤ 1 + a; omega, by show 1 + a ≤ 5; omega, by show 1 ≤ 1 + b; omega, by show 1 + b ≤ 4; omega, by show rs.length ≤ 8; omega, h3⟩, .inl ⟨by show 1 + a ≤ mo; omega, by show 1 + b ≤ 3; omega⟩⟩
end PG
/-! PM7 -/
set_option Elab.async false
set_option linter.all false
set_option maxRecDepth 100000
set_option maxHeartbeats 2000000
/-! PM7: slices, what is plain. -/
namespace PG
open DL
open PySem (PyData Str)
theorem fm_self {α : Type} : ∀ ys : List α, ((List.range ys.length).filterMap fun m => ys[m]?) = ys
  | [] => rfl
  | y :: ys => by
    rw [List.length_cons, List.range_succ_eq_map, List.filterMap_cons]
    simp only [List.getElem?_cons_zero]
    rw [List.filterMap_map]
    congr 1
    have := fm_self ys
    exact this
theorem fm_congr {α β : Type} {f g : α → Option β} : ∀ {l : List α}, (∀ x ∈ l, f x = g x) → l.filterMap f = l.filterMap g
  | [], _ => rfl
  | x :: l, h => by
    rw [List.filterMap_cons, List.filterMap_cons, h x List.mem_cons_self, fm_congr fun y hy => h y (List.mem_cons_of_mem _ hy)]
theorem fm_rev {α : Type} (xs : List α) : ((List.range xs.length).filterMap fun (m : Nat) => xs[(((xs.length : Int) - 1) + (m : Int) * (-1)).toNat]?) = xs.reverse := by
  have e : ((List.range xs.length).filterMap fun (m : Nat) => xs[(((xs.length : Int) - 1) + (m : Int) * (-1)).toNat]?) = (List.range xs.length).filterMap fun m => xs.reverse[m]? := by
    refine fm_congr fun m hm => ?_
    have hm := List.mem_range.mp hm
    rw [List.getElem?_reverse hm]
    congr 1
    omega
  rw [e]
  have := fm_self xs.reverse
  rw [List.length_reverse] at this
  exact this
theorem cut3_rev {α : Type} (xs : List α) : cut3 xs none none (-1) = xs.reverse := by
  unfold cut3
  have h1 : (PySem.Builtin.Slice.sliceAdjust none none (-1) (xs.length : Int)).1 = (xs.length : Int) - 1 := rfl
  have h2 : (PySem.Builtin.Slice.sliceAdjust none none (-1) (xs.length : Int)).2 = -1 := rfl
  have h3 : PySem.Builtin.Slice.slicePlaces ((xs.length : Int) - 1) (-1) (-1) = xs.length := by
    unfold PySem.Builtin.Slice.slicePlaces
    rw [if_neg (by decide)]
    split
    · simp only [Int.neg_neg, Int.ediv_one]
      omega
    · omega
  rw [h1, h2, h3, fm_rev]
theorem dRev_tup {xs : List D} (h : xs.length ≤ lim) : dCut3 none none (-1) (.tuple xs) = .ok (.tuple xs.reverse) := by
  simp only [dCut3, cut3_rev]
  rw [if_pos ⟨by decide, by decide, by rw [List.length_reverse]; exact h⟩]
theorem mem_cut {α : Type} {xs : List α} {lo hi : Option Int} {x : α} (h : x ∈ cut xs lo hi) : x ∈ xs := List.mem_of_mem_drop (List.mem_of_mem_take h)
theorem len_cut {α : Type} {xs : List α} {lo hi : Option Int} : (cut xs lo hi).length ≤ xs.length := by
  unfold cut
  rw [List.length_take, List.length_drop]
  omega
theorem sIx_nat {n d k : Nat} : sIx n d (some (k : Int)) = min k n := by
  show (if (k : Int) < 0 then ((k : Int) + n).toNat else min (k : Int).toNat n) = _
  rw [if_neg (by omega), Int.toNat_natCast]
theorem take_min' {α : Type} {xs : List α} {k : Nat} : xs.take (min k xs.length) = xs.take k := by
  by_cases h : k ≤ xs.length
  · rw [Nat.min_eq_left h]
  · rw [Nat.min_eq_right (by omega), List.take_length, List.take_of_length_le (by omega)]
theorem drop_min' {α : Type} {xs : List α} {k : Nat} : xs.drop (min k xs.length) = xs.drop k := by
  by_cases h : k ≤ xs.length
  · rw [Nat.min_eq_left h]
  · rw [Nat.min_eq_right (by omega), List.drop_length, List.drop_of_length_le (by omega)]
theorem cut_take {α : Type} {xs : List α} {k : Nat} : cut xs none (some (k : Int)) = xs.take k := by
  unfold cut
  rw [sIx_nat]
  show (xs.drop 0).take (min k xs.length - 0) = _
  rw [List.drop_zero, Nat.sub_zero, take_min']
theorem cut_drop {α : Type} {xs : List α} {k : Nat} : cut xs (some (k : Int)) none = xs.drop k := by
  unfold cut
  rw [sIx_nat]
  show (xs.drop (min k xs.length)).take (xs.length - min k xs.length) = _
  rw [drop_min', List.take_of_length_le]
  rw [List.length_drop]
  omega
theorem cut_mid {α : Type} {xs : List α} {a b : Nat} : cut xs (some (a : Int)) (some (b : Int)) = (xs.drop a).take (b - a) := by
  unfold cut
  rw [sIx_nat, sIx_nat, drop_min']
  by_cases h : b ≤ xs.length
  · rw [Nat.min_eq_left h]
    by_cases h2 : a ≤ xs.length
    · rw [Nat.min_eq_left h2]
    · rw [List.drop_of_length_le (by omega), List.take_nil, List.take_nil]
  · rw [Nat.min_eq_right (by omega), List.take_of_length_le (by rw [List.length_drop]; omega), List.take_of_length_le (by rw [List.length_drop]; omega)]
theorem pl_mono {L L' : Nat} (hL : L ≤ L') : ∀ (n n' : Nat) (d : D), n ≤ n' → pl n L d = true → pl n' L' d = true
  | 0, n', d, _, h => by cases d <;> cases n' <;> simp_all [pl]
  | n + 1, 0, d, hn, h => by omega
  | n + 1, n' + 1, d, hn, h => by
    have c : ∀ xs : List D, xs.all (pl n L) = true → xs.all (pl n' L') = true := fun xs h => List.all_eq_true.mpr fun x hx => pl_mono hL n n' x (by omega) (List.all_eq_true.mp h x hx)
    cases d with
    | list xs =>
      simp only [pl, Bool.and_eq_true, decide_eq_true_eq] at h ⊢
      exact ⟨by omega, c xs h.2⟩
    | tuple xs =>
      simp only [pl, Bool.and_eq_true, decide_eq_true_eq] at h ⊢
      exact ⟨by omega, c xs h.2⟩
    | _ => simp_all [pl]
theorem pl_tup {n L : Nat} {xs : List D} (h1 : xs.length ≤ L) (h2 : ∀ x ∈ xs, pl n L x = true) : pl (n + 1) L (.tuple xs) = true := by
  simp only [pl, Bool.and_eq_true, decide_eq_true_eq]
  exact ⟨h1, List.all_eq_true.mpr h2⟩
theorem pl_lst {n L : Nat} {xs : List D} (h1 : xs.length ≤ L) (h2 : ∀ x ∈ xs, pl n L x = true) : pl (n + 1) L (.list xs) = true := by
  simp only [pl, Bool.and_eq_true, decide_eq_true_eq]
  exact ⟨h1, List.all_eq_true.mpr h2⟩
/-- one of a written list -/
theorem pick {xs : List D} {k : Nat} (h : k < xs.length) (Pr : D → Prop) (hp : ∀ x ∈ xs, Pr x) : ∃ x, dIdx (.list xs) (.int k) = .ok x ∧ Pr x :=
  ⟨xs[k], idxL (List.getElem?_eq_getElem h), hp _ (List.getElem_mem h)⟩
end PG
/-! PM8 -/
set_option Elab.async false
set_option linter.all false
set_option maxRecDepth 100000
set_option maxHeartbeats 2000000
/-! PM8: equality of what stands for plain things; plans. -/
namespace PG
open DL
open PySem (PyData Str)
structure Good {α : Type} (f : α → D) (n : Nat) : Prop where
  lay : ∀ a, (f a).canLay0 = true
  dep : ∀ a, (f a).depth ≤ n
  inj : ∀ a b, PyData.eqv (f a) (f b) = true ↔ a = b
section
variable {α β : Type} {f : α → D} {g : β → D} {n m : Nat}
theorem Good.all (h : Good f n) : ∀ xs : List α, PyData.canLayAll0 (xs.map f) = true ∧ PyData.depthAll (xs.map f) ≤ n
  | [] => by simp [PyData.canLayAll0, PyData.depthAll]
  | x :: xs => by
    have ih := h.all xs
    have h1 := h.dep x
    rw [List.map_cons, PyData.canLayAll0, PyData.depthAll, h.lay x, ih.1]
    exact ⟨rfl, by omega⟩
theorem Good.eqvs (h : Good f n) : ∀ xs ys : List α, PyData.eqvAll (xs.map f) (ys.map f) = true ↔ xs = ys
  | [], [] => by simp [PyData.eqvAll]
  | [], _ :: _ => by simp [PyData.eqvAll]
  | _ :: _, [] => by simp [PyData.eqvAll]
  | x :: xs, y :: ys => by
    rw [List.map_cons, List.map_cons, PyData.eqvAll, Bool.and_eq_true, h.inj, h.eqvs xs ys, List.cons.injEq]
theorem good_N : Good encN 0 := ⟨fun a => rfl, fun a => Nat.le_refl _, fun a b => by
  simp only [encN, PyData.eqv, beq_iff_eq]
  exact Int.ofNat_inj⟩
theorem good_T (h : Good f n) : Good (encT f) (n + 1) := ⟨fun a => by rw [encT, PyData.canLay0]; exact (h.all a).1, fun a => by rw [encT, PyData.depth]; have := (h.all a).2; omega, fun a b => by rw [encT, encT, PyData.eqv]; exact h.eqvs a b⟩
theorem good_L (h : Good f n) : Good (encL f) (n + 1) := ⟨fun a => by rw [encL, PyData.canLay0]; exact (h.all a).1, fun a => by rw [encL, PyData.depth]; have := (h.all a).2; omega, fun a b => by rw [encL, encL, PyData.eqv]; exact h.eqvs a b⟩
/-- a pair -/
def enc2 (f : α → D) (g : β → D) (x : α × β) : D := .tuple [f x.1, g x.2]
theorem good_2 (h : Good f n) (h2 : Good g m) : Good (enc2 f g) (max n m + 1) := ⟨fun a => by simp [enc2, PyData.canLay0, PyData.canLayAll0, h.lay, h2.lay], fun a => by
  have := h.dep a.1
  have := h2.dep a.2
  simp only [enc2, PyData.depth, PyData.depthAll]
  omega, fun a b => by
  simp only [enc2, PyData.eqv, PyData.eqvAll, Bool.and_true, Bool.and_eq_true, h.inj, h2.inj]
  exact ⟨fun e => Prod.ext e.1 e.2, fun e => by rw [e]; exact ⟨rfl, rfl⟩⟩⟩
theorem Good.shaped (h : Good f n) (hn : n ≤ 64) (a : α) : shaped (f a) = true := by
  have h1 := h.dep a
  show ((f a).canLay0 && decide ((f a).depth ≤ 64)) = true
  rw [h.lay a, decide_eq_true (by omega)]
  rfl
theorem Good.eqv [DecidableEq α] (h : Good f n) (a b : α) : PyData.eqv (f a) (f b) = decide (a = b) := by
  rw [Bool.eq_iff_iff, decide_eq_true_iff]
  exact h.inj a b
theorem eq_good [DecidableEq α] (h : Good f n) (hn : n ≤ 64) (a b : α) : dEq (f a) (f b) = .ok (.bool (decide (a = b))) := by
  rw [dEq, if_pos ⟨h.shaped hn a, h.shaped hn b⟩, h.eqv]
theorem ne_good [DecidableEq α] (h : Good f n) (hn : n ≤ 64) (a b : α) : dNe (f a) (f b) = .ok (.bool (!decide (a = b))) := by
  rw [dNe, if_pos ⟨h.shaped hn a, h.shaped hn b⟩, h.eqv]
theorem in_good [DecidableEq α] (h : Good f n) (hn : n ≤ 63) (a : α) (xs : List α) : dIn (f a) (encL f xs) = .ok (.bool (decide (a ∈ xs))) := by
  have e : (xs.map f).any (fun z => PyData.eqv z (f a)) = decide (a ∈ xs) := by
    rw [Bool.eq_iff_iff, decide_eq_true_iff, List.any_map, List.any_eq_true]
    constructor
    · rintro ⟨x, hx, e⟩
      rwa [← (h.inj x a).mp e]
    · exact fun hx => ⟨a, hx, (h.inj a a).mpr rfl⟩
  have hs := (good_L h).shaped (by omega) xs
  rw [dIn]
  show (if DL.shaped (f a) = true ∧ DL.shaped (encL f xs) = true then R.ok ((xs.map f).any fun z => PyData.eqv z (f a)) else .bad).bind _ = _
  rw [if_pos ⟨h.shaped (by omega) a, hs⟩, e]
  rfl
theorem notIn_good [DecidableEq α] (h : Good f n) (hn : n ≤ 63) (a : α) (xs : List α) : dNotIn (f a) (encL f xs) = .ok (.bool (!decide (a ∈ xs))) := by
  have e := in_good h hn a xs
  rw [dIn] at e
  rw [dNotIn]
  cases hi : dInB (f a) (encL f xs) with
  | ok b => rw [hi] at e; simp only [R.bind_ok, R.ok.injEq, PyData.bool.injEq] at e ⊢; rw [e]
  | exc x => rw [hi] at e; cases e
  | bad => rw [hi] at e; cases e
/-! ### lists of them -/
theorem idx_L {xs : List α} {k : Nat} (h : k < xs.length) : dIdx (encL f xs) (.int (k : Int)) = .ok (f xs[k]) := idxL (by rw [List.getElem?_map, List.getElem?_eq_getElem h]; rfl)
theorem idx_T {xs : List α} {k : Nat} (h : k < xs.length) : dIdx (encT f xs) (.int (k : Int)) = .ok (f xs[k]) := idxT (by rw [List.getElem?_map, List.getElem?_eq_getElem h]; rfl)
theorem len_L {xs : List α} : dLen (encL f xs) = .ok (.int (xs.length : Int)) := by simp [dLen, encL]
theorem len_T {xs : List α} : dLen (encT f xs) = .ok (.int (xs.length : Int)) := by simp [dLen, encT]
theorem items_L {xs : List α} : items (encL f xs) = .ok (xs.map f) := rfl
theorem items_T {xs : List α} : items (encT f xs) = .ok (xs.map f) := rfl
/-- what enumerate gives -/
def encE (f : α → D) (x : α × Nat) : D := .tuple [encN x.2, f x.1]
theorem enumD_map : ∀ (xs : List α) (k : Nat), enumD k (xs.map f) = (xs.zipIdx k).map (encE f)
  | [], _ => rfl
  | x :: xs, k => by
    rw [List.map_cons, enumD, enumD_map xs, List.zipIdx_cons, List.map_cons]
    rfl
def rEnum (r : R D) : R (List D) := r.bind fun x => (items x).bind fun xs => .ok (enumD 0 xs)
theorem v_enum {fe : FE} {ρ : Env} : DL.iEnum fe ρ = rEnum (fe ρ) := rfl
theorem enum_L {xs : List α} : rEnum (.ok (encL f xs)) = .ok (xs.zipIdx.map (encE f)) := by rw [← enumD_map]; rfl
theorem enum_T {xs : List α} : rEnum (.ok (encT f xs)) = .ok (xs.zipIdx.map (encE f)) := by rw [← enumD_map]; rfl
theorem ext_L {xs ys : List α} (h : xs.length + ys.length ≤ lim) : dAdd (encL f xs) (encL f ys) = .ok (encL f (xs ++ ys)) := by simp [dAdd, encL, h]
theorem add_T {xs ys : List α} (h : xs.length + ys.length ≤ lim) : dAdd (encT f xs) (encT f ys) = .ok (encT f (xs ++ ys)) := by simp [dAdd, encT, h]
end
theorem encP_T (p : Plan) : encP p = encT encN p := rfl
theorem good_P : Good encP 1 := good_T good_N
/-- all of a list of bools -/
theorem all_L {α : Type} {xs : List α} {p : α → Bool} : dAll (encL PyData.bool (xs.map p)) = .ok (.bool (xs.all p)) := by
  show (allB ((xs.map p).map .bool)).bind _ = _
  have e : allB ((xs.map p).map PyData.bool) = .ok (xs.all p) := by
    induction xs with
    | nil => rfl
    | cons x xs ih =>
      rw [List.map_cons, List.map_cons, allB, ih]
      rfl
  rw [e]
  rfl
/-! ### plans -/
def planB (h : House) (x : D) : Bool := match x with
  | .tuple xs => decide (xs.length = h.P) && xs.all fun y => cnt y 0 (h.C - 1)
  | _ => false
theorem planB_iff {h : House} {x : D} : planB h x = true ↔ ∃ p : Plan, x = encP p ∧ isPlan h p := by
  cases x with
  | tuple xs =>
    simp only [planB, Bool.and_eq_true, decide_eq_true_eq, List.all_eq_true]
    constructor
    · rintro ⟨h1, h2⟩
      have c : ∀ xs : List D, (∀ y ∈ xs, cnt y 0 (h.C - 1) = true) → ∃ p : Plan, xs = p.map encN ∧ ∀ c ∈ p, c < h.C := by
        intro xs
        induction xs with
        | nil => intro _; exact ⟨[], rfl, fun c hc => nomatch hc⟩
        | cons y ys ih =>
          intro hy
          obtain ⟨p, rfl, hp⟩ := ih fun z hz => hy z (List.mem_cons_of_mem _ hz)
          have h1 := hy y List.mem_cons_self
          obtain ⟨i, rfl⟩ := cnt_int h1
          simp [cnt] at h1
          refine ⟨i.toNat :: p, ?_, fun c hc => ?_⟩
          · rw [List.map_cons, nat_of h1.1]
          · rcases List.mem_cons.mp hc with rfl | hc
            · omega
            · exact hp c hc
      obtain ⟨p, rfl, hp⟩ := c xs h2
      exact ⟨p, rfl, by simpa using h1, hp⟩
    · rintro ⟨p, e, h1, h2⟩
      cases e
      refine ⟨by simpa using h1, fun y hy => ?_⟩
      obtain ⟨c, hc, rfl⟩ := List.mem_map.mp hy
      have := h2 c hc
      simp [cnt, encN]
      omega
  | _ => simp [planB, encP]
theorem pl_encP {p : Plan} {L : Nat} (h : p.length ≤ L) : pl 1 L (encP p) = true := pl_tup (by simpa using h) fun x hx => by
  obtain ⟨c, _, rfl⟩ := List.mem_map.mp hx
  rfl
theorem idx0H {h : House} : dIdx (encH h) (.int 0) = .ok (.int h.P) := idx0
theorem idx1H {h : House} : dIdx (encH h) (.int 1) = .ok (.int h.C) := idx1
theorem idx2H {h : House} : dIdx (encH h) (.int 2) = .ok (encT encR h.R) := idx2
theorem is_plan_eq {h : House} {x : D} {n L : Nat} (k : h.ok) (hx : pl n L x = true) (hL : L ≤ lim) : f_is_plan [encH h, x] = .ok (.bool (planB h x)) := by
  have sC : dSub (.int h.C) (.int 1) = .ok (.int (h.C - 1)) := rfl
  cases x with
  | tuple xs =>
    have it : dIsi isT (.tuple xs) = .ok (.bool true) := rfl
    have nl : dNe (.int (xs.length : Int)) (.int h.P) = .ok (.bool (!decide (xs.length = h.P))) := ne_good good_N (by omega) _ _
    have hxl := pl_len hx
    simp only [f_is_plan, v_seq, w_nx, w_ret, w_exc, w_brk, w_cnt, v_next, v_ret, v_retN, w_rok, w_rexc, v_brk, v_cnt, v_raise, v_if, w_ift, w_iff, w_ifx, v_asg, w_aok, w_aexc, w_gok, v_par, w_par, v_for, w_for, v_run, w_end1, w_end2, w_end3, v_e1, v_e2, w_two, v_eF, v_nil, v_cons, w_cons, v_tup, v_lst, v_var, w_var, v_c, v_and, w_andt, w_andf, v_or, w_ort, w_orf, v_not, w_not, v_ifE, w_ifEt, w_ifEf, v_tB, w_tB, v_tTru, v_tAnd, w_tAndt, w_tAndf, v_tOr, w_tOrt, w_tOrf, v_tNot, w_tNot, v_tYes, v_gName, v_gTup, v_gLst, v_gCons, v_gNil, v_oNone, v_oSome, w_oSome, v_slice, w_slice, v_chain, w_chain, w_chaint, w_chainf, v_iSeq, w_items1, w_items2, w_trub, w_truN, w_truL, w_truT, R.bind_ok, R.bind_exc, R.bind_bad, List.length_cons, List.length_nil, List.map_cons, List.map_nil, List.replicate, List.cons_append, List.nil_append, List.getElem?_cons_zero, List.getElem?_cons_succ, List.set_cons_zero, List.set_cons_succ, List.set_nil, Nat.reduceAdd, Nat.reduceSub, if_true, if_false, eq_self, reduceIte, Bool.not_true, Bool.not_false, v_encN, v_rng1, v_rng2, Bool.false_eq_true, v_told, w_told1, w_told2, w_wipe0, w_wipe1, v_app, v_ext, v_put, v_drop, w_drop1, w_drop2, s_if, s_tAnd, s_tOr, s_and, s_or, s_ifE, s_chain, i_and, i_or, i_andD, i_orD, i_thn, i_end, i_bind, i_ret, i_asg, it, len_tup, idx0H, idx1H, nl, Bool.false_or]
    by_cases hl : xs.length = h.P
    · simp only [hl, decide_true, Bool.not_true, if_neg Bool.false_ne_true, Bool.false_eq_true, if_false]
      rw [eComp_m (fun y : D => y) PyData.bool (fun y => cnt y 0 (h.C - 1)) xs (by simp only [v_seq, w_nx, w_ret, w_exc, w_brk, w_cnt, v_next, v_ret, v_retN, w_rok, w_rexc, v_brk, v_cnt, v_raise, v_if, w_ift, w_iff, w_ifx, v_asg, w_aok, w_aexc, w_gok, v_par, w_par, v_for, w_for, v_run, w_end1, w_end2, w_end3, v_e1, v_e2, w_two, v_eF, v_nil, v_cons, w_cons, v_tup, v_lst, v_var, w_var, v_c, v_and, w_andt, w_andf, v_or, w_ort, w_orf, v_not, w_not, v_ifE, w_ifEt, w_ifEf, v_tB, w_tB, v_tTru, v_tAnd, w_tAndt, w_tAndf, v_tOr, w_tOrt, w_tOrf, v_tNot, w_tNot, v_tYes, v_gName, v_gTup, v_gLst, v_gCons, v_gNil, v_oNone, v_oSome, w_oSome, v_slice, w_slice, v_chain, w_chain, w_chaint, w_chainf, v_iSeq, w_items1, w_items2, w_trub, w_truN, w_truL, w_truT, R.bind_ok, R.bind_exc, R.bind_bad, List.length_cons, List.length_nil, List.map_cons, List.map_nil, List.replicate, List.cons_append, List.nil_append, List.getElem?_cons_zero, List.getElem?_cons_succ, List.set_cons_zero, List.set_cons_succ, List.set_nil, Nat.reduceAdd, Nat.reduceSub, if_true, if_false, eq_self, reduceIte, Bool.not_true, Bool.not_false, v_encN, v_rng1, v_rng2, Bool.false_eq_true, v_told, w_told1, w_told2, w_wipe0, w_wipe1, v_app, v_ext, v_put, v_drop, w_drop1, w_drop2, List.map_id']) (by omega) fun y hy => by
        obtain ⟨q, _, hq⟩ := pl_one hx hy
        refine ⟨_, rfl, ?_⟩
        simp only [v_seq, w_nx, w_ret, w_exc, w_brk, w_cnt, v_next, v_ret, v_retN, w_rok, w_rexc, v_brk, v_cnt, v_raise, v_if, w_ift, w_iff, w_ifx, v_asg, w_aok, w_aexc, w_gok, v_par, w_par, v_for, w_for, v_run, w_end1, w_end2, w_end3, v_e1, v_e2, w_two, v_eF, v_nil, v_cons, w_cons, v_tup, v_lst, v_var, w_var, v_c, v_and, w_andt, w_andf, v_or, w_ort, w_orf, v_not, w_not, v_ifE, w_ifEt, w_ifEf, v_tB, w_tB, v_tTru, v_tAnd, w_tAndt, w_tAndf, v_tOr, w_tOrt, w_tOrf, v_tNot, w_tNot, v_tYes, v_gName, v_gTup, v_gLst, v_gCons, v_gNil, v_oNone, v_oSome, w_oSome, v_slice, w_slice, v_chain, w_chain, w_chaint, w_chainf, v_iSeq, w_items1, w_items2, w_trub, w_truN, w_truL, w_truT, R.bind_ok, R.bind_exc, R.bind_bad, List.length_cons, List.length_nil, List.map_cons, List.map_nil, List.replicate, List.cons_append, List.nil_append, List.getElem?_cons_zero, List.getElem?_cons_succ, List.set_cons_zero, List.set_cons_succ, List.set_nil, Nat.reduceAdd, Nat.reduceSub, if_true, if_false, eq_self, reduceIte, Bool.not_true, Bool.not_false, v_encN, v_rng1, v_rng2, Bool.false_eq_true, v_told, w_told1, w_told2, w_wipe0, w_wipe1, v_app, v_ext, v_put, v_drop, w_drop1, w_drop2, idx1H, sC, is_count_eq (pl_nod hq)]]
      simp only [v_seq, w_nx, w_ret, w_exc, w_brk, w_cnt, v_next, v_ret, v_retN, w_rok, w_rexc, v_brk, v_cnt, v_raise, v_if, w_ift, w_iff, w_ifx, v_asg, w_aok, w_aexc, w_gok, v_par, w_par, v_for, w_for, v_run, w_end1, w_end2, w_end3, v_e1, v_e2, w_two, v_eF, v_nil, v_cons, w_cons, v_tup, v_lst, v_var, w_var, v_c, v_and, w_andt, w_andf, v_or, w_ort, w_orf, v_not, w_not, v_ifE, w_ifEt, w_ifEf, v_tB, w_tB, v_tTru, v_tAnd, w_tAndt, w_tAndf, v_tOr, w_tOrt, w_tOrf, v_tNot, w_tNot, v_tYes, v_gName, v_gTup, v_gLst, v_gCons, v_gNil, v_oNone, v_oSome, w_oSome, v_slice, w_slice, v_chain, w_chain, w_chaint, w_chainf, v_iSeq, w_items1, w_items2, w_trub, w_truN, w_truL, w_truT, R.bind_ok, R.bind_exc, R.bind_bad, List.length_cons, List.length_nil, List.map_cons, List.map_nil, List.replicate, List.cons_append, List.nil_append, List.getElem?_cons_zero, List.getElem?_cons_succ, List.set_cons_zero, List.set_cons_succ, List.set_nil, Nat.reduceAdd, Nat.reduceSub, if_true, if_false, eq_self, reduceIte, Bool.not_true, Bool.not_false, v_encN, v_rng1, v_rng2, Bool.false_eq_true, v_told, w_told1, w_told2, w_wipe0, w_wipe1, v_app, v_ext, v_put, v_drop, w_drop1, w_drop2, all_L, planB, hl, decide_true, Bool.true_and]
    · simp only [hl, decide_false, Bool.not_false, if_true, planB, Bool.false_and]
  | dict _ => exact absurd hx (by cases n <;> simp [pl])
  | _ => simp only [f_is_plan, v_seq, w_nx, w_ret, w_exc, w_brk, w_cnt, v_next, v_ret, v_retN, w_rok, w_rexc, v_brk, v_cnt, v_raise, v_if, w_ift, w_iff, w_ifx, v_asg, w_aok, w_aexc, w_gok, v_par, w_par, v_for, w_for, v_run, w_end1, w_end2, w_end3, v_e1, v_e2, w_two, v_eF, v_nil, v_cons, w_cons, v_tup, v_lst, v_var, w_var, v_c, v_and, w_andt, w_andf, v_or, w_ort, w_orf, v_not, w_not, v_ifE, w_ifEt, w_ifEf, v_tB, w_tB, v_tTru, v_tAnd, w_tAndt, w_tAndf, v_tOr, w_tOrt, w_tOrf, v_tNot, w_tNot, v_tYes, v_gName, v_gTup, v_gLst, v_gCons, v_gNil, v_oNone, v_oSome, w_oSome, v_slice, w_slice, v_chain, w_chain, w_chaint, w_chainf, v_iSeq, w_items1, w_items2, w_trub, w_truN, w_truL, w_truT, R.bind_ok, R.bind_exc, R.bind_bad, List.length_cons, List.length_nil, List.map_cons, List.map_nil, List.replicate, List.cons_append, List.nil_append, List.getElem?_cons_zero, List.getElem?_cons_succ, List.set_cons_zero, List.set_cons_succ, List.set_nil, Nat.reduceAdd, Nat.reduceSub, if_true, if_false, eq_self, reduceIte, Bool.not_true, Bool.not_false, v_encN, v_rng1, v_rng2, Bool.false_eq_true, v_told, w_told1, w_told2, w_wipe0, w_wipe1, v_app, v_ext, v_put, v_drop, w_drop1, w_drop2, dIsi, isT, planB]
theorem need_plan_eq {h : House} {x : D} {n L : Nat} (k : h.ok) (hx : pl n L x = true) (hL : L ≤ lim) : f_need_plan [encH h, x] = if planB h x = true then .ok .none else .exc .plan := by
  simp only [f_need_plan, v_seq, w_nx, w_ret, w_exc, w_brk, w_cnt, v_next, v_ret, v_retN, w_rok, w_rexc, v_brk, v_cnt, v_raise, v_if, w_ift, w_iff, w_ifx, v_asg, w_aok, w_aexc, w_gok, v_par, w_par, v_for, w_for, v_run, w_end1, w_end2, w_end3, v_e1, v_e2, w_two, v_eF, v_nil, v_cons, w_cons, v_tup, v_lst, v_var, w_var, v_c, v_and, w_andt, w_andf, v_or, w_ort, w_orf, v_not, w_not, v_ifE, w_ifEt, w_ifEf, v_tB, w_tB, v_tTru, v_tAnd, w_tAndt, w_tAndf, v_tOr, w_tOrt, w_tOrf, v_tNot, w_tNot, v_tYes, v_gName, v_gTup, v_gLst, v_gCons, v_gNil, v_oNone, v_oSome, w_oSome, v_slice, w_slice, v_chain, w_chain, w_chaint, w_chainf, v_iSeq, w_items1, w_items2, w_trub, w_truN, w_truL, w_truT, R.bind_ok, R.bind_exc, R.bind_bad, List.length_cons, List.length_nil, List.map_cons, List.map_nil, List.replicate, List.cons_append, List.nil_append, List.getElem?_cons_zero, List.getElem?_cons_succ, List.set_cons_zero, List.set_cons_succ, List.set_nil, Nat.reduceAdd, Nat.reduceSub, if_true, if_false, eq_self, reduceIte, Bool.not_true, Bool.not_false, v_encN, v_rng1, v_rng2, Bool.false_eq_true, v_told, w_told1, w_told2, w_wipe0, w_wipe1, v_app, v_ext, v_put, v_drop, w_drop1, w_drop2, is_plan_eq k hx hL]
  cases planB h x <;> simp only [v_seq, w_nx, w_ret, w_exc, w_brk, w_cnt, v_next, v_ret, v_retN, w_rok, w_rexc, v_brk, v_cnt, v_raise, v_if, w_ift, w_iff, w_ifx, v_asg, w_aok, w_aexc, w_gok, v_par, w_par, v_for, w_for, v_run, w_end1, w_end2, w_end3, v_e1, v_e2, w_two, v_eF, v_nil, v_cons, w_cons, v_tup, v_lst, v_var, w_var, v_c, v_and, w_andt, w_andf, v_or, w_ort, w_orf, v_not, w_not, v_ifE, w_ifEt, w_ifEf, v_tB, w_tB, v_tTru, v_tAnd, w_tAndt, w_tAndf, v_tOr, w_tOrt, w_tOrf, v_tNot, w_tNot, v_tYes, v_gName, v_gTup, v_gLst, v_gCons, v_gNil, v_oNone, v_oSome, w_oSome, v_slice, w_slice, v_chain, w_chain, w_chaint, w_chainf, v_iSeq, w_items1, w_items2, w_trub, w_truN, w_truL, w_truT, R.bind_ok, R.bind_exc, R.bind_bad, List.length_cons, List.length_nil, List.map_cons, List.map_nil, List.replicate, List.cons_append, List.nil_append, List.getElem?_cons_zero, List.getElem?_cons_succ, List.set_cons_zero, List.set_cons_succ, List.set_nil, Nat.reduceAdd, Nat.reduceSub, if_true, if_false, eq_self, reduceIte, Bool.not_true, Bool.not_false, v_encN, v_rng1, v_rng2, Bool.false_eq_true, v_told, w_told1, w_told2, w_wipe0, w_wipe1, v_app, v_ext, v_put, v_drop, w_drop1, w_drop2]
theorem need_plan_ok {h : House} {p : Plan} (k : h.ok) (hp : isPlan h p) : f_need_plan [encH h, encP p] = .ok .none := by
  rw [need_plan_eq (L := 5) k (pl_encP (by rw [hp.1]; exact k.p5)) (by simp [lim]), if_pos (planB_iff.mpr ⟨p, rfl, hp⟩)]
end PG
/-! PM9 -/
set_option Elab.async false
set_option linter.all false
set_option maxRecDepth 100000
set_option maxHeartbeats 2000000
/-! PM9: rules kept, plans let by. -/
namespace PG
open DL
open PySem (PyData Str)
theorem gd_idx {p : Plan} {a : Nat} (h : a < p.length) : dIdx (encP p) (.int (a : Int)) = .ok (.int (gd p a)) := by
  have e : gd p a = p[a] := by simp [gd, h]
  rw [e]
  exact idx_T h
theorem neN (a b : Nat) : dNe (.int a) (.int b) = .ok (.bool (!decide (a = b))) := ne_good good_N (by omega) a b
theorem leN (a b : Nat) : dLe (.int a) (.int b) = .ok (.bool (decide (a ≤ b))) := by
  show R.ok (PyData.bool (decide ((a : Int) ≤ b))) = _
  congr 2
  simp only [decide_eq_decide]
  omega
theorem geN (a b : Nat) : dGe (.int a) (.int b) = .ok (.bool (decide (b ≤ a))) := by
  show R.ok (PyData.bool (decide ((b : Int) ≤ a))) = _
  congr 2
  simp only [decide_eq_decide]
  omega
theorem intsOf_N : ∀ p : List Nat, intsOf (p.map encN) = some (p.map Int.ofNat)
  | [] => rfl
  | a :: p => by rw [List.map_cons, encN, intsOf, intsOf_N p]; rfl
theorem count_N (p : List Nat) (c : Nat) : (p.map Int.ofNat).count (c : Int) = p.count c := by
  induction p with
  | nil => rfl
  | cons a p ih =>
    rw [List.map_cons, List.count_cons, List.count_cons, ih]
    congr 1
    have : (Int.ofNat a == (c : Int)) = (a == c) := by
      rw [Bool.eq_iff_iff]
      simp
      exact Int.ofNat_inj
    rw [this]
def rCount (r : R D) (a : FE) (ρ : Env) : R D := r.bind fun x => match x with
  | .tuple ds => (a ρ).bind (dCnt ds)
  | _ => .bad
theorem v_count {o a : FE} {ρ : Env} : eCount o a ρ = rCount (o ρ) a ρ := rfl
theorem w_count {p : Plan} {a : FE} {ρ : Env} {c : Nat} (h : a ρ = .ok (.int c)) : rCount (.ok (encP p)) a ρ = .ok (.int (p.count c : Nat)) := by
  show (a ρ).bind (dCnt (p.map encN)) = _
  rw [h, R.bind_ok, dCnt, intsOf_N]
  simp only
  rw [count_N]
theorem strs_eq (x y : Str) (hx : shaped (.str x) = true) (hy : shaped (.str y) = true) (b : Bool) (hb : (x == y) = b) : dEq (.str x) (.str y) = .ok (.bool b) := by rw [eq_str hx hy, hb]
theorem is_kept_eq {r : Rule} {P C : Nat} {p : Plan} (k : r.ok P C) (hp : p.length = P) : f_is_kept [encR r, encP p] = .ok (.bool (keeps r p)) := by
  have s1 : shaped (.str "unlike") = true := shaped_s rfl
  have s2 : shaped (.str "alike") = true := shaped_s rfl
  have s3 : shaped (.str "not") = true := shaped_s rfl
  have s4 : shaped (.str "either") = true := shaped_s rfl
  have s5 : shaped (.str "most") = true := shaped_s rfl
  have s6 : shaped (.str "least") = true := shaped_s rfl
  cases r with
  | unlike a b =>
    have k1 := k.1
    have k2 := k.2
    have e1 := strs_eq "unlike" "unlike" s1 s1 true rfl
    simp only [f_is_kept, enc_unlike, v_seq, w_nx, w_ret, w_exc, w_brk, w_cnt, v_next, v_ret, v_retN, w_rok, w_rexc, v_brk, v_cnt, v_raise, v_if, w_ift, w_iff, w_ifx, v_asg, w_aok, w_aexc, w_gok, v_par, w_par, v_for, w_for, v_run, w_end1, w_end2, w_end3, v_e1, v_e2, w_two, v_eF, v_nil, v_cons, w_cons, v_tup, v_lst, v_var, w_var, v_c, v_and, w_andt, w_andf, v_or, w_ort, w_orf, v_not, w_not, v_ifE, w_ifEt, w_ifEf, v_tB, w_tB, v_tTru, v_tAnd, w_tAndt, w_tAndf, v_tOr, w_tOrt, w_tOrf, v_tNot, w_tNot, v_tYes, v_gName, v_gTup, v_gLst, v_gCons, v_gNil, v_oNone, v_oSome, w_oSome, v_slice, w_slice, v_chain, w_chain, w_chaint, w_chainf, v_iSeq, w_items1, w_items2, w_trub, w_truN, w_truL, w_truT, R.bind_ok, R.bind_exc, R.bind_bad, List.length_cons, List.length_nil, List.map_cons, List.map_nil, List.replicate, List.cons_append, List.nil_append, List.getElem?_cons_zero, List.getElem?_cons_succ, List.set_cons_zero, List.set_cons_succ, List.set_nil, Nat.reduceAdd, Nat.reduceSub, if_true, if_false, eq_self, reduceIte, Bool.not_true, Bool.not_false, v_encN, v_rng1, v_rng2, Bool.false_eq_true, v_told, w_told1, w_told2, w_wipe0, w_wipe1, v_app, v_ext, v_put, v_drop, w_drop1, w_drop2, idx0, idx1, idx2, e1, gd_idx (show a < p.length by omega), gd_idx (show b < p.length by omega), neN, keeps, Bool.beq_eq_decide_eq]
  | alike a b =>
    have k1 := k.1
    have k2 := k.2
    have e1 := strs_eq "alike" "unlike" s2 s1 false rfl
    have e2 := strs_eq "alike" "alike" s2 s2 true rfl
    simp only [f_is_kept, enc_alike, v_seq, w_nx, w_ret, w_exc, w_brk, w_cnt, v_next, v_ret, v_retN, w_rok, w_rexc, v_brk, v_cnt, v_raise, v_if, w_ift, w_iff, w_ifx, v_asg, w_aok, w_aexc, w_gok, v_par, w_par, v_for, w_for, v_run, w_end1, w_end2, w_end3, v_e1, v_e2, w_two, v_eF, v_nil, v_cons, w_cons, v_tup, v_lst, v_var, w_var, v_c, v_and, w_andt, w_andf, v_or, w_ort, w_orf, v_not, w_not, v_ifE, w_ifEt, w_ifEf, v_tB, w_tB, v_tTru, v_tAnd, w_tAndt, w_tAndf, v_tOr, w_tOrt, w_tOrf, v_tNot, w_tNot, v_tYes, v_gName, v_gTup, v_gLst, v_gCons, v_gNil, v_oNone, v_oSome, w_oSome, v_slice, w_slice, v_chain, w_chain, w_chaint, w_chainf, v_iSeq, w_items1, w_items2, w_trub, w_truN, w_truL, w_truT, R.bind_ok, R.bind_exc, R.bind_bad, List.length_cons, List.length_nil, List.map_cons, List.map_nil, List.replicate, List.cons_append, List.nil_append, List.getElem?_cons_zero, List.getElem?_cons_succ, List.set_cons_zero, List.set_cons_succ, List.set_nil, Nat.reduceAdd, Nat.reduceSub, if_true, if_false, eq_self, reduceIte, Bool.not_true, Bool.not_false, v_encN, v_rng1, v_rng2, Bool.false_eq_true, v_told, w_told1, w_told2, w_wipe0, w_wipe1, v_app, v_ext, v_put, v_drop, w_drop1, w_drop2, idx0, idx1, idx2, e1, e2, gd_idx (show a < p.length by omega), gd_idx (show b < p.length by omega), eqN, keeps, Bool.beq_eq_decide_eq]
  | no a c =>
    have k1 := k.1
    have e1 := strs_eq "not" "unlike" s3 s1 false rfl
    have e2 := strs_eq "not" "alike" s3 s2 false rfl
    have e3 := strs_eq "not" "not" s3 s3 true rfl
    simp only [f_is_kept, enc_no, v_seq, w_nx, w_ret, w_exc, w_brk, w_cnt, v_next, v_ret, v_retN, w_rok, w_rexc, v_brk, v_cnt, v_raise, v_if, w_ift, w_iff, w_ifx, v_asg, w_aok, w_aexc, w_gok, v_par, w_par, v_for, w_for, v_run, w_end1, w_end2, w_end3, v_e1, v_e2, w_two, v_eF, v_nil, v_cons, w_cons, v_tup, v_lst, v_var, w_var, v_c, v_and, w_andt, w_andf, v_or, w_ort, w_orf, v_not, w_not, v_ifE, w_ifEt, w_ifEf, v_tB, w_tB, v_tTru, v_tAnd, w_tAndt, w_tAndf, v_tOr, w_tOrt, w_tOrf, v_tNot, w_tNot, v_tYes, v_gName, v_gTup, v_gLst, v_gCons, v_gNil, v_oNone, v_oSome, w_oSome, v_slice, w_slice, v_chain, w_chain, w_chaint, w_chainf, v_iSeq, w_items1, w_items2, w_trub, w_truN, w_truL, w_truT, R.bind_ok, R.bind_exc, R.bind_bad, List.length_cons, List.length_nil, List.map_cons, List.map_nil, List.replicate, List.cons_append, List.nil_append, List.getElem?_cons_zero, List.getElem?_cons_succ, List.set_cons_zero, List.set_cons_succ, List.set_nil, Nat.reduceAdd, Nat.reduceSub, if_true, if_false, eq_self, reduceIte, Bool.not_true, Bool.not_false, v_encN, v_rng1, v_rng2, Bool.false_eq_true, v_told, w_told1, w_told2, w_wipe0, w_wipe1, v_app, v_ext, v_put, v_drop, w_drop1, w_drop2, idx0, idx1, idx2, e1, e2, e3, gd_idx (show a < p.length by omega), neN, keeps, Bool.beq_eq_decide_eq]
  | either a c b d =>
    obtain ⟨k1, k2, k3, k4, k5⟩ := k
    have e1 := strs_eq "either" "unlike" s4 s1 false rfl
    have e2 := strs_eq "either" "alike" s4 s2 false rfl
    have e3 := strs_eq "either" "not" s4 s3 false rfl
    have e4 := strs_eq "either" "either" s4 s4 true rfl
    simp only [f_is_kept, enc_either, v_seq, w_nx, w_ret, w_exc, w_brk, w_cnt, v_next, v_ret, v_retN, w_rok, w_rexc, v_brk, v_cnt, v_raise, v_if, w_ift, w_iff, w_ifx, v_asg, w_aok, w_aexc, w_gok, v_par, w_par, v_for, w_for, v_run, w_end1, w_end2, w_end3, v_e1, v_e2, w_two, v_eF, v_nil, v_cons, w_cons, v_tup, v_lst, v_var, w_var, v_c, v_and, w_andt, w_andf, v_or, w_ort, w_orf, v_not, w_not, v_ifE, w_ifEt, w_ifEf, v_tB, w_tB, v_tTru, v_tAnd, w_tAndt, w_tAndf, v_tOr, w_tOrt, w_tOrf, v_tNot, w_tNot, v_tYes, v_gName, v_gTup, v_gLst, v_gCons, v_gNil, v_oNone, v_oSome, w_oSome, v_slice, w_slice, v_chain, w_chain, w_chaint, w_chainf, v_iSeq, w_items1, w_items2, w_trub, w_truN, w_truL, w_truT, R.bind_ok, R.bind_exc, R.bind_bad, List.length_cons, List.length_nil, List.map_cons, List.map_nil, List.replicate, List.cons_append, List.nil_append, List.getElem?_cons_zero, List.getElem?_cons_succ, List.set_cons_zero, List.set_cons_succ, List.set_nil, Nat.reduceAdd, Nat.reduceSub, if_true, if_false, eq_self, reduceIte, Bool.not_true, Bool.not_false, v_encN, v_rng1, v_rng2, Bool.false_eq_true, v_told, w_told1, w_told2, w_wipe0, w_wipe1, v_app, v_ext, v_put, v_drop, w_drop1, w_drop2, s_if, s_tAnd, s_tOr, s_and, s_or, s_ifE, s_chain, i_and, i_or, i_andD, i_orD, i_thn, i_end, i_bind, i_ret, i_asg, idx0, idx1, idx2, idx3, idx4, e1, e2, e3, e4, gd_idx (show a < p.length by omega), gd_idx (show b < p.length by omega), eqN, keeps, Bool.beq_eq_decide_eq]
  | most c n =>
    have e1 := strs_eq "most" "unlike" s5 s1 false rfl
    have e2 := strs_eq "most" "alike" s5 s2 false rfl
    have e3 := strs_eq "most" "not" s5 s3 false rfl
    have e4 := strs_eq "most" "either" s5 s4 false rfl
    have e5 := strs_eq "most" "most" s5 s5 true rfl
    simp only [f_is_kept, enc_most, v_seq, w_nx, w_ret, w_exc, w_brk, w_cnt, v_next, v_ret, v_retN, w_rok, w_rexc, v_brk, v_cnt, v_raise, v_if, w_ift, w_iff, w_ifx, v_asg, w_aok, w_aexc, w_gok, v_par, w_par, v_for, w_for, v_run, w_end1, w_end2, w_end3, v_e1, v_e2, w_two, v_eF, v_nil, v_cons, w_cons, v_tup, v_lst, v_var, w_var, v_c, v_and, w_andt, w_andf, v_or, w_ort, w_orf, v_not, w_not, v_ifE, w_ifEt, w_ifEf, v_tB, w_tB, v_tTru, v_tAnd, w_tAndt, w_tAndf, v_tOr, w_tOrt, w_tOrf, v_tNot, w_tNot, v_tYes, v_gName, v_gTup, v_gLst, v_gCons, v_gNil, v_oNone, v_oSome, w_oSome, v_slice, w_slice, v_chain, w_chain, w_chaint, w_chainf, v_iSeq, w_items1, w_items2, w_trub, w_truN, w_truL, w_truT, R.bind_ok, R.bind_exc, R.bind_bad, List.length_cons, List.length_nil, List.map_cons, List.map_nil, List.replicate, List.cons_append, List.nil_append, List.getElem?_cons_zero, List.getElem?_cons_succ, List.set_cons_zero, List.set_cons_succ, List.set_nil, Nat.reduceAdd, Nat.reduceSub, if_true, if_false, eq_self, reduceIte, Bool.not_true, Bool.not_false, v_encN, v_rng1, v_rng2, Bool.false_eq_true, v_told, w_told1, w_told2, w_wipe0, w_wipe1, v_app, v_ext, v_put, v_drop, w_drop1, w_drop2, idx0, idx1, idx2, e1, e2, e3, e4, v_count]
    rw [w_count (c := c) (by simp only [v_seq, w_nx, w_ret, w_exc, w_brk, w_cnt, v_next, v_ret, v_retN, w_rok, w_rexc, v_brk, v_cnt, v_raise, v_if, w_ift, w_iff, w_ifx, v_asg, w_aok, w_aexc, w_gok, v_par, w_par, v_for, w_for, v_run, w_end1, w_end2, w_end3, v_e1, v_e2, w_two, v_eF, v_nil, v_cons, w_cons, v_tup, v_lst, v_var, w_var, v_c, v_and, w_andt, w_andf, v_or, w_ort, w_orf, v_not, w_not, v_ifE, w_ifEt, w_ifEf, v_tB, w_tB, v_tTru, v_tAnd, w_tAndt, w_tAndf, v_tOr, w_tOrt, w_tOrf, v_tNot, w_tNot, v_tYes, v_gName, v_gTup, v_gLst, v_gCons, v_gNil, v_oNone, v_oSome, w_oSome, v_slice, w_slice, v_chain, w_chain, w_chaint, w_chainf, v_iSeq, w_items1, w_items2, w_trub, w_truN, w_truL, w_truT, R.bind_ok, R.bind_exc, R.bind_bad, List.length_cons, List.length_nil, List.map_cons, List.map_nil, List.replicate, List.cons_append, List.nil_append, List.getElem?_cons_zero, List.getElem?_cons_succ, List.set_cons_zero, List.set_cons_succ, List.set_nil, Nat.reduceAdd, Nat.reduceSub, if_true, if_false, eq_self, reduceIte, Bool.not_true, Bool.not_false, v_encN, v_rng1, v_rng2, Bool.false_eq_true, v_told, w_told1, w_told2, w_wipe0, w_wipe1, v_app, v_ext, v_put, v_drop, w_drop1, w_drop2, idx1])]
    simp only [v_seq, w_nx, w_ret, w_exc, w_brk, w_cnt, v_next, v_ret, v_retN, w_rok, w_rexc, v_brk, v_cnt, v_raise, v_if, w_ift, w_iff, w_ifx, v_asg, w_aok, w_aexc, w_gok, v_par, w_par, v_for, w_for, v_run, w_end1, w_end2, w_end3, v_e1, v_e2, w_two, v_eF, v_nil, v_cons, w_cons, v_tup, v_lst, v_var, w_var, v_c, v_and, w_andt, w_andf, v_or, w_ort, w_orf, v_not, w_not, v_ifE, w_ifEt, w_ifEf, v_tB, w_tB, v_tTru, v_tAnd, w_tAndt, w_tAndf, v_tOr, w_tOrt, w_tOrf, v_tNot, w_tNot, v_tYes, v_gName, v_gTup, v_gLst, v_gCons, v_gNil, v_oNone, v_oSome, w_oSome, v_slice, w_slice, v_chain, w_chain, w_chaint, w_chainf, v_iSeq, w_items1, w_items2, w_trub, w_truN, w_truL, w_truT, R.bind_ok, R.bind_exc, R.bind_bad, List.length_cons, List.length_nil, List.map_cons, List.map_nil, List.replicate, List.cons_append, List.nil_append, List.getElem?_cons_zero, List.getElem?_cons_succ, List.set_cons_zero, List.set_cons_succ, List.set_nil, Nat.reduceAdd, Nat.reduceSub, if_true, if_false, eq_self, reduceIte, Bool.not_true, Bool.not_false, v_encN, v_rng1, v_rng2, Bool.false_eq_true, v_told, w_told1, w_told2, w_wipe0, w_wipe1, v_app, v_ext, v_put, v_drop, w_drop1, w_drop2, idx0, idx1, idx2, e5, leN, keeps]
  | least c n =>
    have e1 := strs_eq "least" "unlike" s6 s1 false rfl
    have e2 := strs_eq "least" "alike" s6 s2 false rfl
    have e3 := strs_eq "least" "not" s6 s3 false rfl
    have e4 := strs_eq "least" "either" s6 s4 false rfl
    have e5 := strs_eq "least" "most" s6 s5 false rfl
    simp only [f_is_kept, enc_least, v_seq, w_nx, w_ret, w_exc, w_brk, w_cnt, v_next, v_ret, v_retN, w_rok, w_rexc, v_brk, v_cnt, v_raise, v_if, w_ift, w_iff, w_ifx, v_asg, w_aok, w_aexc, w_gok, v_par, w_par, v_for, w_for, v_run, w_end1, w_end2, w_end3, v_e1, v_e2, w_two, v_eF, v_nil, v_cons, w_cons, v_tup, v_lst, v_var, w_var, v_c, v_and, w_andt, w_andf, v_or, w_ort, w_orf, v_not, w_not, v_ifE, w_ifEt, w_ifEf, v_tB, w_tB, v_tTru, v_tAnd, w_tAndt, w_tAndf, v_tOr, w_tOrt, w_tOrf, v_tNot, w_tNot, v_tYes, v_gName, v_gTup, v_gLst, v_gCons, v_gNil, v_oNone, v_oSome, w_oSome, v_slice, w_slice, v_chain, w_chain, w_chaint, w_chainf, v_iSeq, w_items1, w_items2, w_trub, w_truN, w_truL, w_truT, R.bind_ok, R.bind_exc, R.bind_bad, List.length_cons, List.length_nil, List.map_cons, List.map_nil, List.replicate, List.cons_append, List.nil_append, List.getElem?_cons_zero, List.getElem?_cons_succ, List.set_cons_zero, List.set_cons_succ, List.set_nil, Nat.reduceAdd, Nat.reduceSub, if_true, if_false, eq_self, reduceIte, Bool.not_true, Bool.not_false, v_encN, v_rng1, v_rng2, Bool.false_eq_true, v_told, w_told1, w_told2, w_wipe0, w_wipe1, v_app, v_ext, v_put, v_drop, w_drop1, w_drop2, idx0, idx1, idx2, e1, e2, e3, e4, v_count]
    rw [w_count (c := c) (by simp only [v_seq, w_nx, w_ret, w_exc, w_brk, w_cnt, v_next, v_ret, v_retN, w_rok, w_rexc, v_brk, v_cnt, v_raise, v_if, w_ift, w_iff, w_ifx, v_asg, w_aok, w_aexc, w_gok, v_par, w_par, v_for, w_for, v_run, w_end1, w_end2, w_end3, v_e1, v_e2, w_two, v_eF, v_nil, v_cons, w_cons, v_tup, v_lst, v_var, w_var, v_c, v_and, w_andt, w_andf, v_or, w_ort, w_orf, v_not, w_not, v_ifE, w_ifEt, w_ifEf, v_tB, w_tB, v_tTru, v_tAnd, w_tAndt, w_tAndf, v_tOr, w_tOrt, w_tOrf, v_tNot, w_tNot, v_tYes, v_gName, v_gTup, v_gLst, v_gCons, v_gNil, v_oNone, v_oSome, w_oSome, v_slice, w_slice, v_chain, w_chain, w_chaint, w_chainf, v_iSeq, w_items1, w_items2, w_trub, w_truN, w_truL, w_truT, R.bind_ok, R.bind_exc, R.bind_bad, List.length_cons, List.length_nil, List.map_cons, List.map_nil, List.replicate, List.cons_append, List.nil_append, List.getElem?_cons_zero, List.getElem?_cons_succ, List.set_cons_zero, List.set_cons_succ, List.set_nil, Nat.reduceAdd, Nat.reduceSub, if_true, if_false, eq_self, reduceIte, Bool.not_true, Bool.not_false, v_encN, v_rng1, v_rng2, Bool.false_eq_true, v_told, w_told1, w_told2, w_wipe0, w_wipe1, v_app, v_ext, v_put, v_drop, w_drop1, w_drop2, idx1])]
    simp only [v_seq, w_nx, w_ret, w_exc, w_brk, w_cnt, v_next, v_ret, v_retN, w_rok, w_rexc, v_brk, v_cnt, v_raise, v_if, w_ift, w_iff, w_ifx, v_asg, w_aok, w_aexc, w_gok, v_par, w_par, v_for, w_for, v_run, w_end1, w_end2, w_end3, v_e1, v_e2, w_two, v_eF, v_nil, v_cons, w_cons, v_tup, v_lst, v_var, w_var, v_c, v_and, w_andt, w_andf, v_or, w_ort, w_orf, v_not, w_not, v_ifE, w_ifEt, w_ifEf, v_tB, w_tB, v_tTru, v_tAnd, w_tAndt, w_tAndf, v_tOr, w_tOrt, w_tOrf, v_tNot, w_tNot, v_tYes, v_gName, v_gTup, v_gLst, v_gCons, v_gNil, v_oNone, v_oSome, w_oSome, v_slice, w_slice, v_chain, w_chain, w_chaint, w_chainf, v_iSeq, w_items1, w_items2, w_trub, w_truN, w_truL, w_truT, R.bind_ok, R.bind_exc, R.bind_bad, List.length_cons, List.length_nil, List.map_cons, List.map_nil, List.replicate, List.cons_append, List.nil_append, List.getElem?_cons_zero, List.getElem?_cons_succ, List.set_cons_zero, List.set_cons_succ, List.set_nil, Nat.reduceAdd, Nat.reduceSub, if_true, if_false, eq_self, reduceIte, Bool.not_true, Bool.not_false, v_encN, v_rng1, v_rng2, Bool.false_eq_true, v_told, w_told1, w_told2, w_wipe0, w_wipe1, v_app, v_ext, v_put, v_drop, w_drop1, w_drop2, idx0, idx1, idx2, e5, geN, keeps]
theorem is_let_eq {h : House} {p : Plan} (k : h.ok) (hp : p.length = h.P) : f_is_let [encH h, encP p] = .ok (.bool (letB h p)) := by
  have l := k.r8
  simp only [f_is_let, v_seq, w_nx, w_ret, w_exc, w_brk, w_cnt, v_next, v_ret, v_retN, w_rok, w_rexc, v_brk, v_cnt, v_raise, v_if, w_ift, w_iff, w_ifx, v_asg, w_aok, w_aexc, w_gok, v_par, w_par, v_for, w_for, v_run, w_end1, w_end2, w_end3, v_e1, v_e2, w_two, v_eF, v_nil, v_cons, w_cons, v_tup, v_lst, v_var, w_var, v_c, v_and, w_andt, w_andf, v_or, w_ort, w_orf, v_not, w_not, v_ifE, w_ifEt, w_ifEf, v_tB, w_tB, v_tTru, v_tAnd, w_tAndt, w_tAndf, v_tOr, w_tOrt, w_tOrf, v_tNot, w_tNot, v_tYes, v_gName, v_gTup, v_gLst, v_gCons, v_gNil, v_oNone, v_oSome, w_oSome, v_slice, w_slice, v_chain, w_chain, w_chaint, w_chainf, v_iSeq, w_items1, w_items2, w_trub, w_truN, w_truL, w_truT, R.bind_ok, R.bind_exc, R.bind_bad, List.length_cons, List.length_nil, List.map_cons, List.map_nil, List.replicate, List.cons_append, List.nil_append, List.getElem?_cons_zero, List.getElem?_cons_succ, List.set_cons_zero, List.set_cons_succ, List.set_nil, Nat.reduceAdd, Nat.reduceSub, if_true, if_false, eq_self, reduceIte, Bool.not_true, Bool.not_false, v_encN, v_rng1, v_rng2, Bool.false_eq_true, v_told, w_told1, w_told2, w_wipe0, w_wipe1, v_app, v_ext, v_put, v_drop, w_drop1, w_drop2, idx2H]
  rw [eComp_m encR PyData.bool (fun r => keeps r p) h.R (by simp only [v_seq, w_nx, w_ret, w_exc, w_brk, w_cnt, v_next, v_ret, v_retN, w_rok, w_rexc, v_brk, v_cnt, v_raise, v_if, w_ift, w_iff, w_ifx, v_asg, w_aok, w_aexc, w_gok, v_par, w_par, v_for, w_for, v_run, w_end1, w_end2, w_end3, v_e1, v_e2, w_two, v_eF, v_nil, v_cons, w_cons, v_tup, v_lst, v_var, w_var, v_c, v_and, w_andt, w_andf, v_or, w_ort, w_orf, v_not, w_not, v_ifE, w_ifEt, w_ifEf, v_tB, w_tB, v_tTru, v_tAnd, w_tAndt, w_tAndf, v_tOr, w_tOrt, w_tOrf, v_tNot, w_tNot, v_tYes, v_gName, v_gTup, v_gLst, v_gCons, v_gNil, v_oNone, v_oSome, w_oSome, v_slice, w_slice, v_chain, w_chain, w_chaint, w_chainf, v_iSeq, w_items1, w_items2, w_trub, w_truN, w_truL, w_truT, R.bind_ok, R.bind_exc, R.bind_bad, List.length_cons, List.length_nil, List.map_cons, List.map_nil, List.replicate, List.cons_append, List.nil_append, List.getElem?_cons_zero, List.getElem?_cons_succ, List.set_cons_zero, List.set_cons_succ, List.set_nil, Nat.reduceAdd, Nat.reduceSub, if_true, if_false, eq_self, reduceIte, Bool.not_true, Bool.not_false, v_encN, v_rng1, v_rng2, Bool.false_eq_true, v_told, w_told1, w_told2, w_wipe0, w_wipe1, v_app, v_ext, v_put, v_drop, w_drop1, w_drop2, idx2H, items_T]) (by simp [lim]; omega) fun r hr => ⟨_, rfl, by simp only [v_seq, w_nx, w_ret, w_exc, w_brk, w_cnt, v_next, v_ret, v_retN, w_rok, w_rexc, v_brk, v_cnt, v_raise, v_if, w_ift, w_iff, w_ifx, v_asg, w_aok, w_aexc, w_gok, v_par, w_par, v_for, w_for, v_run, w_end1, w_end2, w_end3, v_e1, v_e2, w_two, v_eF, v_nil, v_cons, w_cons, v_tup, v_lst, v_var, w_var, v_c, v_and, w_andt, w_andf, v_or, w_ort, w_orf, v_not, w_not, v_ifE, w_ifEt, w_ifEf, v_tB, w_tB, v_tTru, v_tAnd, w_tAndt, w_tAndf, v_tOr, w_tOrt, w_tOrf, v_tNot, w_tNot, v_tYes, v_gName, v_gTup, v_gLst, v_gCons, v_gNil, v_oNone, v_oSome, w_oSome, v_slice, w_slice, v_chain, w_chain, w_chaint, w_chainf, v_iSeq, w_items1, w_items2, w_trub, w_truN, w_truL, w_truT, R.bind_ok, R.bind_exc, R.bind_bad, List.length_cons, List.length_nil, List.map_cons, List.map_nil, List.replicate, List.cons_append, List.nil_append, List.getElem?_cons_zero, List.getElem?_cons_succ, List.set_cons_zero, List.set_cons_succ, List.set_nil, Nat.reduceAdd, Nat.reduceSub, if_true, if_false, eq_self, reduceIte, Bool.not_true, Bool.not_false, v_encN, v_rng1, v_rng2, Bool.false_eq_true, v_told, w_told1, w_told2, w_wipe0, w_wipe1, v_app, v_ext, v_put, v_drop, w_drop1, w_drop2, is_kept_eq (k.rs r hr) hp]⟩]
  simp only [v_seq, w_nx, w_ret, w_exc, w_brk, w_cnt, v_next, v_ret, v_retN, w_rok, w_rexc, v_brk, v_cnt, v_raise, v_if, w_ift, w_iff, w_ifx, v_asg, w_aok, w_aexc, w_gok, v_par, w_par, v_for, w_for, v_run, w_end1, w_end2, w_end3, v_e1, v_e2, w_two, v_eF, v_nil, v_cons, w_cons, v_tup, v_lst, v_var, w_var, v_c, v_and, w_andt, w_andf, v_or, w_ort, w_orf, v_not, w_not, v_ifE, w_ifEt, w_ifEf, v_tB, w_tB, v_tTru, v_tAnd, w_tAndt, w_tAndf, v_tOr, w_tOrt, w_tOrf, v_tNot, w_tNot, v_tYes, v_gName, v_gTup, v_gLst, v_gCons, v_gNil, v_oNone, v_oSome, w_oSome, v_slice, w_slice, v_chain, w_chain, w_chaint, w_chainf, v_iSeq, w_items1, w_items2, w_trub, w_truN, w_truL, w_truT, R.bind_ok, R.bind_exc, R.bind_bad, List.length_cons, List.length_nil, List.map_cons, List.map_nil, List.replicate, List.cons_append, List.nil_append, List.getElem?_cons_zero, List.getElem?_cons_succ, List.set_cons_zero, List.set_cons_succ, List.set_nil, Nat.reduceAdd, Nat.reduceSub, if_true, if_false, eq_self, reduceIte, Bool.not_true, Bool.not_false, v_encN, v_rng1, v_rng2, Bool.false_eq_true, v_told, w_told1, w_told2, w_wipe0, w_wipe1, v_app, v_ext, v_put, v_drop, w_drop1, w_drop2, all_L, letB]
def brokenL (h : House) (p : Plan) : List Nat := (h.R.zipIdx.filter fun x => !keeps x.1 p).map (·.2)
theorem mem_zip {α : Type} {xs : List α} {x : α × Nat} (h : x ∈ xs.zipIdx) : x.1 ∈ xs := by
  obtain ⟨a, i⟩ := x
  exact List.fst_mem_of_mem_zipIdx h
theorem broken_eq {h : House} {p : Plan} (k : h.ok) (hp : isPlan h p) : f_broken [encH h, encP p] = .ok (encL encN (brokenL h p)) := by
  have l := k.r8
  simp only [f_broken, v_seq, w_nx, w_ret, w_exc, w_brk, w_cnt, v_next, v_ret, v_retN, w_rok, w_rexc, v_brk, v_cnt, v_raise, v_if, w_ift, w_iff, w_ifx, v_asg, w_aok, w_aexc, w_gok, v_par, w_par, v_for, w_for, v_run, w_end1, w_end2, w_end3, v_e1, v_e2, w_two, v_eF, v_nil, v_cons, w_cons, v_tup, v_lst, v_var, w_var, v_c, v_and, w_andt, w_andf, v_or, w_ort, w_orf, v_not, w_not, v_ifE, w_ifEt, w_ifEf, v_tB, w_tB, v_tTru, v_tAnd, w_tAndt, w_tAndf, v_tOr, w_tOrt, w_tOrf, v_tNot, w_tNot, v_tYes, v_gName, v_gTup, v_gLst, v_gCons, v_gNil, v_oNone, v_oSome, w_oSome, v_slice, w_slice, v_chain, w_chain, w_chaint, w_chainf, v_iSeq, w_items1, w_items2, w_trub, w_truN, w_truL, w_truT, R.bind_ok, R.bind_exc, R.bind_bad, List.length_cons, List.length_nil, List.map_cons, List.map_nil, List.replicate, List.cons_append, List.nil_append, List.getElem?_cons_zero, List.getElem?_cons_succ, List.set_cons_zero, List.set_cons_succ, List.set_nil, Nat.reduceAdd, Nat.reduceSub, if_true, if_false, eq_self, reduceIte, Bool.not_true, Bool.not_false, v_encN, v_rng1, v_rng2, Bool.false_eq_true, v_told, w_told1, w_told2, w_wipe0, w_wipe1, v_app, v_ext, v_put, v_drop, w_drop1, w_drop2, v_drop, need_ok k, need_plan_ok k hp]
  rw [eComp_fm (encE encR) encN (fun x => !keeps x.1 p) (·.2) h.R.zipIdx (by simp only [v_seq, w_nx, w_ret, w_exc, w_brk, w_cnt, v_next, v_ret, v_retN, w_rok, w_rexc, v_brk, v_cnt, v_raise, v_if, w_ift, w_iff, w_ifx, v_asg, w_aok, w_aexc, w_gok, v_par, w_par, v_for, w_for, v_run, w_end1, w_end2, w_end3, v_e1, v_e2, w_two, v_eF, v_nil, v_cons, w_cons, v_tup, v_lst, v_var, w_var, v_c, v_and, w_andt, w_andf, v_or, w_ort, w_orf, v_not, w_not, v_ifE, w_ifEt, w_ifEf, v_tB, w_tB, v_tTru, v_tAnd, w_tAndt, w_tAndf, v_tOr, w_tOrt, w_tOrf, v_tNot, w_tNot, v_tYes, v_gName, v_gTup, v_gLst, v_gCons, v_gNil, v_oNone, v_oSome, w_oSome, v_slice, w_slice, v_chain, w_chain, w_chaint, w_chainf, v_iSeq, w_items1, w_items2, w_trub, w_truN, w_truL, w_truT, R.bind_ok, R.bind_exc, R.bind_bad, List.length_cons, List.length_nil, List.map_cons, List.map_nil, List.replicate, List.cons_append, List.nil_append, List.getElem?_cons_zero, List.getElem?_cons_succ, List.set_cons_zero, List.set_cons_succ, List.set_nil, Nat.reduceAdd, Nat.reduceSub, if_true, if_false, eq_self, reduceIte, Bool.not_true, Bool.not_false, v_encN, v_rng1, v_rng2, Bool.false_eq_true, v_told, w_told1, w_told2, w_wipe0, w_wipe1, v_app, v_ext, v_put, v_drop, w_drop1, w_drop2, v_enum, idx2H, enum_T]) (by simp [lim]; omega) fun x hx => ?_]
  · simp only [v_seq, w_nx, w_ret, w_exc, w_brk, w_cnt, v_next, v_ret, v_retN, w_rok, w_rexc, v_brk, v_cnt, v_raise, v_if, w_ift, w_iff, w_ifx, v_asg, w_aok, w_aexc, w_gok, v_par, w_par, v_for, w_for, v_run, w_end1, w_end2, w_end3, v_e1, v_e2, w_two, v_eF, v_nil, v_cons, w_cons, v_tup, v_lst, v_var, w_var, v_c, v_and, w_andt, w_andf, v_or, w_ort, w_orf, v_not, w_not, v_ifE, w_ifEt, w_ifEf, v_tB, w_tB, v_tTru, v_tAnd, w_tAndt, w_tAndf, v_tOr, w_tOrt, w_tOrf, v_tNot, w_tNot, v_tYes, v_gName, v_gTup, v_gLst, v_gCons, v_gNil, v_oNone, v_oSome, w_oSome, v_slice, w_slice, v_chain, w_chain, w_chaint, w_chainf, v_iSeq, w_items1, w_items2, w_trub, w_truN, w_truL, w_truT, R.bind_ok, R.bind_exc, R.bind_bad, List.length_cons, List.length_nil, List.map_cons, List.map_nil, List.replicate, List.cons_append, List.nil_append, List.getElem?_cons_zero, List.getElem?_cons_succ, List.set_cons_zero, List.set_cons_succ, List.set_nil, Nat.reduceAdd, Nat.reduceSub, if_true, if_false, eq_self, reduceIte, Bool.not_true, Bool.not_false, v_encN, v_rng1, v_rng2, Bool.false_eq_true, v_told, w_told1, w_told2, w_wipe0, w_wipe1, v_app, v_ext, v_put, v_drop, w_drop1, w_drop2]
    rfl
  · refine ⟨_, rfl, ?_, fun _ => ?_⟩
    · simp only [v_seq, w_nx, w_ret, w_exc, w_brk, w_cnt, v_next, v_ret, v_retN, w_rok, w_rexc, v_brk, v_cnt, v_raise, v_if, w_ift, w_iff, w_ifx, v_asg, w_aok, w_aexc, w_gok, v_par, w_par, v_for, w_for, v_run, w_end1, w_end2, w_end3, v_e1, v_e2, w_two, v_eF, v_nil, v_cons, w_cons, v_tup, v_lst, v_var, w_var, v_c, v_and, w_andt, w_andf, v_or, w_ort, w_orf, v_not, w_not, v_ifE, w_ifEt, w_ifEf, v_tB, w_tB, v_tTru, v_tAnd, w_tAndt, w_tAndf, v_tOr, w_tOrt, w_tOrf, v_tNot, w_tNot, v_tYes, v_gName, v_gTup, v_gLst, v_gCons, v_gNil, v_oNone, v_oSome, w_oSome, v_slice, w_slice, v_chain, w_chain, w_chaint, w_chainf, v_iSeq, w_items1, w_items2, w_trub, w_truN, w_truL, w_truT, R.bind_ok, R.bind_exc, R.bind_bad, List.length_cons, List.length_nil, List.map_cons, List.map_nil, List.replicate, List.cons_append, List.nil_append, List.getElem?_cons_zero, List.getElem?_cons_succ, List.set_cons_zero, List.set_cons_succ, List.set_nil, Nat.reduceAdd, Nat.reduceSub, if_true, if_false, eq_self, reduceIte, Bool.not_true, Bool.not_false, v_encN, v_rng1, v_rng2, Bool.false_eq_true, v_told, w_told1, w_told2, w_wipe0, w_wipe1, v_app, v_ext, v_put, v_drop, w_drop1, w_drop2, is_kept_eq (k.rs _ (mem_zip hx)) hp.1]
    · simp only [v_seq, w_nx, w_ret, w_exc, w_brk, w_cnt, v_next, v_ret, v_retN, w_rok, w_rexc, v_brk, v_cnt, v_raise, v_if, w_ift, w_iff, w_ifx, v_asg, w_aok, w_aexc, w_gok, v_par, w_par, v_for, w_for, v_run, w_end1, w_end2, w_end3, v_e1, v_e2, w_two, v_eF, v_nil, v_cons, w_cons, v_tup, v_lst, v_var, w_var, v_c, v_and, w_andt, w_andf, v_or, w_ort, w_orf, v_not, w_not, v_ifE, w_ifEt, w_ifEf, v_tB, w_tB, v_tTru, v_tAnd, w_tAndt, w_tAndf, v_tOr, w_tOrt, w_tOrf, v_tNot, w_tNot, v_tYes, v_gName, v_gTup, v_gLst, v_gCons, v_gNil, v_oNone, v_oSome, w_oSome, v_slice, w_slice, v_chain, w_chain, w_chaint, w_chainf, v_iSeq, w_items1, w_items2, w_trub, w_truN, w_truL, w_truT, R.bind_ok, R.bind_exc, R.bind_bad, List.length_cons, List.length_nil, List.map_cons, List.map_nil, List.replicate, List.cons_append, List.nil_append, List.getElem?_cons_zero, List.getElem?_cons_succ, List.set_cons_zero, List.set_cons_succ, List.set_nil, Nat.reduceAdd, Nat.reduceSub, if_true, if_false, eq_self, reduceIte, Bool.not_true, Bool.not_false, v_encN, v_rng1, v_rng2, Bool.false_eq_true, v_told, w_told1, w_told2, w_wipe0, w_wipe1, v_app, v_ext, v_put, v_drop, w_drop1, w_drop2]
theorem encL_nil {α : Type} (f : α → D) : PyData.list [] = encL f [] := rfl
theorem rows_le {C n : Nat} (hC : C ≤ 4) (hn : n ≤ 5) : (rows C n).length ≤ 1024 := by
  rw [rows_length]
  have h1 : C ^ n ≤ 4 ^ n := Nat.pow_le_pow_left hC _
  have h2 : 4 ^ n ≤ 4 ^ 5 := Nat.pow_le_pow_right (by omega) hn
  omega
abbrev longer (C : Nat) (x : Plan) : List Plan := (List.range C).map fun c => x ++ [c]
theorem longer_le {C : Nat} (l : List Plan) : (l.flatMap (longer C)).length = l.length * C := by
  induction l with
  | nil => simp
  | cons x l ih => simp [ih, Nat.succ_mul]; omega
theorem rows_eq {P C : Nat} (hP : P ≤ 5) (hC : C ≤ 4) : f_rows [.int P, .int C] = .ok (encL encP (rows C P)) := by
  simp only [f_rows, v_seq, w_nx, w_ret, w_exc, w_brk, w_cnt, v_next, v_ret, v_retN, w_rok, w_rexc, v_brk, v_cnt, v_raise, v_if, w_ift, w_iff, w_ifx, v_asg, w_aok, w_aexc, w_gok, v_par, w_par, v_for, w_for, v_run, w_end1, w_end2, w_end3, v_e1, v_e2, w_two, v_eF, v_nil, v_cons, w_cons, v_tup, v_lst, v_var, w_var, v_c, v_and, w_andt, w_andf, v_or, w_ort, w_orf, v_not, w_not, v_ifE, w_ifEt, w_ifEf, v_tB, w_tB, v_tTru, v_tAnd, w_tAndt, w_tAndf, v_tOr, w_tOrt, w_tOrf, v_tNot, w_tNot, v_tYes, v_gName, v_gTup, v_gLst, v_gCons, v_gNil, v_oNone, v_oSome, w_oSome, v_slice, w_slice, v_chain, w_chain, w_chaint, w_chainf, v_iSeq, w_items1, w_items2, w_trub, w_truN, w_truL, w_truT, R.bind_ok, R.bind_exc, R.bind_bad, List.length_cons, List.length_nil, List.map_cons, List.map_nil, List.replicate, List.cons_append, List.nil_append, List.getElem?_cons_zero, List.getElem?_cons_succ, List.set_cons_zero, List.set_cons_succ, List.set_nil, Nat.reduceAdd, Nat.reduceSub, if_true, if_false, eq_self, reduceIte, Bool.not_true, Bool.not_false, v_encN, v_rng1, v_rng2, Bool.false_eq_true, v_told, w_told1, w_told2, w_wipe0, w_wipe1, v_app, v_ext, v_put, v_drop, w_drop1, w_drop2, w_rng1 (show P ≤ lim by simp [lim]; omega)]
  generalize hr : forL _ _ _ _ = r
  obtain ⟨ρ', rfl, a, b, c, d, rfl⟩ := for_inv hr encN (fun pre ρ => ∃ a b c d, ρ = [some (.int P), some (.int C), some (encL encP (rows C pre.length)), a, b, c, d]) _ rfl ⟨none, none, none, none, rfl⟩ (by
    rintro pre k post ρ hpre ⟨a, b, c, d, rfl⟩
    have hlen : pre.length < P := by
      have := congrArg List.length hpre
      simp at this
      omega
    refine ⟨_, rfl, ?_⟩
    simp only [v_seq, w_nx, w_ret, w_exc, w_brk, w_cnt, v_next, v_ret, v_retN, w_rok, w_rexc, v_brk, v_cnt, v_raise, v_if, w_ift, w_iff, w_ifx, v_asg, w_aok, w_aexc, w_gok, v_par, w_par, v_for, w_for, v_run, w_end1, w_end2, w_end3, v_e1, v_e2, w_two, v_eF, v_nil, v_cons, w_cons, v_tup, v_lst, v_var, w_var, v_c, v_and, w_andt, w_andf, v_or, w_ort, w_orf, v_not, w_not, v_ifE, w_ifEt, w_ifEf, v_tB, w_tB, v_tTru, v_tAnd, w_tAndt, w_tAndf, v_tOr, w_tOrt, w_tOrf, v_tNot, w_tNot, v_tYes, v_gName, v_gTup, v_gLst, v_gCons, v_gNil, v_oNone, v_oSome, w_oSome, v_slice, w_slice, v_chain, w_chain, w_chaint, w_chainf, v_iSeq, w_items1, w_items2, w_trub, w_truN, w_truL, w_truT, R.bind_ok, R.bind_exc, R.bind_bad, List.length_cons, List.length_nil, List.map_cons, List.map_nil, List.replicate, List.cons_append, List.nil_append, List.getElem?_cons_zero, List.getElem?_cons_succ, List.set_cons_zero, List.set_cons_succ, List.set_nil, Nat.reduceAdd, Nat.reduceSub, if_true, if_false, eq_self, reduceIte, Bool.not_true, Bool.not_false, v_encN, v_rng1, v_rng2, Bool.false_eq_true, v_told, w_told1, w_told2, w_wipe0, w_wipe1, v_app, v_ext, v_put, v_drop, w_drop1, w_drop2, items_L]
    generalize hr2 : forL _ _ _ _ = r2
    obtain ⟨ρ2, rfl, c, rfl⟩ := for_inv hr2 encP (fun pre2 ρ => ∃ c, ρ = [some (.int P), some (.int C), some (encL encP (rows C pre.length)), some (.int k), some (encL encP (pre2.flatMap (longer C))), c, d]) _ rfl ⟨c, rfl⟩ (by
      rintro pre2 x post2 ρ hpre2 ⟨c, rfl⟩
      refine ⟨_, rfl, ?_⟩
      have l1 := rows_le (n := pre.length) hC (by omega)
      have l2 := congrArg List.length hpre2
      rw [List.length_append] at l2
      have xl : x.length = pre.length := (mem_rows.mp (show x ∈ rows C pre.length by rw [hpre2]; simp)).1
      simp only [v_seq, w_nx, w_ret, w_exc, w_brk, w_cnt, v_next, v_ret, v_retN, w_rok, w_rexc, v_brk, v_cnt, v_raise, v_if, w_ift, w_iff, w_ifx, v_asg, w_aok, w_aexc, w_gok, v_par, w_par, v_for, w_for, v_run, w_end1, w_end2, w_end3, v_e1, v_e2, w_two, v_eF, v_nil, v_cons, w_cons, v_tup, v_lst, v_var, w_var, v_c, v_and, w_andt, w_andf, v_or, w_ort, w_orf, v_not, w_not, v_ifE, w_ifEt, w_ifEf, v_tB, w_tB, v_tTru, v_tAnd, w_tAndt, w_tAndf, v_tOr, w_tOrt, w_tOrf, v_tNot, w_tNot, v_tYes, v_gName, v_gTup, v_gLst, v_gCons, v_gNil, v_oNone, v_oSome, w_oSome, v_slice, w_slice, v_chain, w_chain, w_chaint, w_chainf, v_iSeq, w_items1, w_items2, w_trub, w_truN, w_truL, w_truT, R.bind_ok, R.bind_exc, R.bind_bad, List.length_cons, List.length_nil, List.map_cons, List.map_nil, List.replicate, List.cons_append, List.nil_append, List.getElem?_cons_zero, List.getElem?_cons_succ, List.set_cons_zero, List.set_cons_succ, List.set_nil, Nat.reduceAdd, Nat.reduceSub, if_true, if_false, eq_self, reduceIte, Bool.not_true, Bool.not_false, v_encN, v_rng1, v_rng2, Bool.false_eq_true, v_told, w_told1, w_told2, w_wipe0, w_wipe1, v_app, v_ext, v_put, v_drop, w_drop1, w_drop2]
      rw [eComp_m encN encP (fun c => x ++ [c]) (List.range C) (by simp only [v_seq, w_nx, w_ret, w_exc, w_brk, w_cnt, v_next, v_ret, v_retN, w_rok, w_rexc, v_brk, v_cnt, v_raise, v_if, w_ift, w_iff, w_ifx, v_asg, w_aok, w_aexc, w_gok, v_par, w_par, v_for, w_for, v_run, w_end1, w_end2, w_end3, v_e1, v_e2, w_two, v_eF, v_nil, v_cons, w_cons, v_tup, v_lst, v_var, w_var, v_c, v_and, w_andt, w_andf, v_or, w_ort, w_orf, v_not, w_not, v_ifE, w_ifEt, w_ifEf, v_tB, w_tB, v_tTru, v_tAnd, w_tAndt, w_tAndf, v_tOr, w_tOrt, w_tOrf, v_tNot, w_tNot, v_tYes, v_gName, v_gTup, v_gLst, v_gCons, v_gNil, v_oNone, v_oSome, w_oSome, v_slice, w_slice, v_chain, w_chain, w_chaint, w_chainf, v_iSeq, w_items1, w_items2, w_trub, w_truN, w_truL, w_truT, R.bind_ok, R.bind_exc, R.bind_bad, List.length_cons, List.length_nil, List.map_cons, List.map_nil, List.replicate, List.cons_append, List.nil_append, List.getElem?_cons_zero, List.getElem?_cons_succ, List.set_cons_zero, List.set_cons_succ, List.set_nil, Nat.reduceAdd, Nat.reduceSub, if_true, if_false, eq_self, reduceIte, Bool.not_true, Bool.not_false, v_encN, v_rng1, v_rng2, Bool.false_eq_true, v_told, w_told1, w_told2, w_wipe0, w_wipe1, v_app, v_ext, v_put, v_drop, w_drop1, w_drop2, w_rng1 (show C ≤ lim by simp [lim]; omega)]) (by simp [lim]; omega) fun c hc => ⟨_, rfl, ?_⟩]
      · rw [w_ext (by rw [longer_le]; simp [lim]; have : pre2.length * C ≤ 1024 * 4 := Nat.mul_le_mul (by omega) hC; omega)]
        exact ⟨_, .inl rfl, _, by simp only [v_seq, w_nx, w_ret, w_exc, w_brk, w_cnt, v_next, v_ret, v_retN, w_rok, w_rexc, v_brk, v_cnt, v_raise, v_if, w_ift, w_iff, w_ifx, v_asg, w_aok, w_aexc, w_gok, v_par, w_par, v_for, w_for, v_run, w_end1, w_end2, w_end3, v_e1, v_e2, w_two, v_eF, v_nil, v_cons, w_cons, v_tup, v_lst, v_var, w_var, v_c, v_and, w_andt, w_andf, v_or, w_ort, w_orf, v_not, w_not, v_ifE, w_ifEt, w_ifEf, v_tB, w_tB, v_tTru, v_tAnd, w_tAndt, w_tAndf, v_tOr, w_tOrt, w_tOrf, v_tNot, w_tNot, v_tYes, v_gName, v_gTup, v_gLst, v_gCons, v_gNil, v_oNone, v_oSome, w_oSome, v_slice, w_slice, v_chain, w_chain, w_chaint, w_chainf, v_iSeq, w_items1, w_items2, w_trub, w_truN, w_truL, w_truT, R.bind_ok, R.bind_exc, R.bind_bad, List.length_cons, List.length_nil, List.map_cons, List.map_nil, List.replicate, List.cons_append, List.nil_append, List.getElem?_cons_zero, List.getElem?_cons_succ, List.set_cons_zero, List.set_cons_succ, List.set_nil, Nat.reduceAdd, Nat.reduceSub, if_true, if_false, eq_self, reduceIte, Bool.not_true, Bool.not_false, v_encN, v_rng1, v_rng2, Bool.false_eq_true, v_told, w_told1, w_told2, w_wipe0, w_wipe1, v_app, v_ext, v_put, v_drop, w_drop1, w_drop2, List.flatMap_append, List.flatMap_cons, List.flatMap_nil, List.append_nil]; rfl⟩
      · have := add_T (f := encN) (xs := x) (ys := [c]) (by simp [lim]; omega)
        simp only [v_seq, w_nx, w_ret, w_exc, w_brk, w_cnt, v_next, v_ret, v_retN, w_rok, w_rexc, v_brk, v_cnt, v_raise, v_if, w_ift, w_iff, w_ifx, v_asg, w_aok, w_aexc, w_gok, v_par, w_par, v_for, w_for, v_run, w_end1, w_end2, w_end3, v_e1, v_e2, w_two, v_eF, v_nil, v_cons, w_cons, v_tup, v_lst, v_var, w_var, v_c, v_and, w_andt, w_andf, v_or, w_ort, w_orf, v_not, w_not, v_ifE, w_ifEt, w_ifEf, v_tB, w_tB, v_tTru, v_tAnd, w_tAndt, w_tAndf, v_tOr, w_tOrt, w_tOrf, v_tNot, w_tNot, v_tYes, v_gName, v_gTup, v_gLst, v_gCons, v_gNil, v_oNone, v_oSome, w_oSome, v_slice, w_slice, v_chain, w_chain, w_chaint, w_chainf, v_iSeq, w_items1, w_items2, w_trub, w_truN, w_truL, w_truT, R.bind_ok, R.bind_exc, R.bind_bad, List.length_cons, List.length_nil, List.map_cons, List.map_nil, List.replicate, List.cons_append, List.nil_append, List.getElem?_cons_zero, List.getElem?_cons_succ, List.set_cons_zero, List.set_cons_succ, List.set_nil, Nat.reduceAdd, Nat.reduceSub, if_true, if_false, eq_self, reduceIte, Bool.not_true, Bool.not_false, v_encN, v_rng1, v_rng2, Bool.false_eq_true, v_told, w_told1, w_told2, w_wipe0, w_wipe1, v_app, v_ext, v_put, v_drop, w_drop1, w_drop2]
        exact this)
    refine ⟨_, .inl rfl, some (.int k), some (encL encP ((rows C pre.length).flatMap (longer C))), c, d, ?_⟩
    simp only [v_seq, w_nx, w_ret, w_exc, w_brk, w_cnt, v_next, v_ret, v_retN, w_rok, w_rexc, v_brk, v_cnt, v_raise, v_if, w_ift, w_iff, w_ifx, v_asg, w_aok, w_aexc, w_gok, v_par, w_par, v_for, w_for, v_run, w_end1, w_end2, w_end3, v_e1, v_e2, w_two, v_eF, v_nil, v_cons, w_cons, v_tup, v_lst, v_var, w_var, v_c, v_and, w_andt, w_andf, v_or, w_ort, w_orf, v_not, w_not, v_ifE, w_ifEt, w_ifEf, v_tB, w_tB, v_tTru, v_tAnd, w_tAndt, w_tAndf, v_tOr, w_tOrt, w_tOrf, v_tNot, w_tNot, v_tYes, v_gName, v_gTup, v_gLst, v_gCons, v_gNil, v_oNone, v_oSome, w_oSome, v_slice, w_slice, v_chain, w_chain, w_chaint, w_chainf, v_iSeq, w_items1, w_items2, w_trub, w_truN, w_truL, w_truT, R.bind_ok, R.bind_exc, R.bind_bad, List.length_cons, List.length_nil, List.map_cons, List.map_nil, List.replicate, List.cons_append, List.nil_append, List.getElem?_cons_zero, List.getElem?_cons_succ, List.set_cons_zero, List.set_cons_succ, List.set_nil, Nat.reduceAdd, Nat.reduceSub, if_true, if_false, eq_self, reduceIte, Bool.not_true, Bool.not_false, v_encN, v_rng1, v_rng2, Bool.false_eq_true, v_told, w_told1, w_told2, w_wipe0, w_wipe1, v_app, v_ext, v_put, v_drop, w_drop1, w_drop2, List.length_append, rows])
  simp only [v_seq, w_nx, w_ret, w_exc, w_brk, w_cnt, v_next, v_ret, v_retN, w_rok, w_rexc, v_brk, v_cnt, v_raise, v_if, w_ift, w_iff, w_ifx, v_asg, w_aok, w_aexc, w_gok, v_par, w_par, v_for, w_for, v_run, w_end1, w_end2, w_end3, v_e1, v_e2, w_two, v_eF, v_nil, v_cons, w_cons, v_tup, v_lst, v_var, w_var, v_c, v_and, w_andt, w_andf, v_or, w_ort, w_orf, v_not, w_not, v_ifE, w_ifEt, w_ifEf, v_tB, w_tB, v_tTru, v_tAnd, w_tAndt, w_tAndf, v_tOr, w_tOrt, w_tOrf, v_tNot, w_tNot, v_tYes, v_gName, v_gTup, v_gLst, v_gCons, v_gNil, v_oNone, v_oSome, w_oSome, v_slice, w_slice, v_chain, w_chain, w_chaint, w_chainf, v_iSeq, w_items1, w_items2, w_trub, w_truN, w_truL, w_truT, R.bind_ok, R.bind_exc, R.bind_bad, List.length_cons, List.length_nil, List.map_cons, List.map_nil, List.replicate, List.cons_append, List.nil_append, List.getElem?_cons_zero, List.getElem?_cons_succ, List.set_cons_zero, List.set_cons_succ, List.set_nil, Nat.reduceAdd, Nat.reduceSub, if_true, if_false, eq_self, reduceIte, Bool.not_true, Bool.not_false, v_encN, v_rng1, v_rng2, Bool.false_eq_true, v_told, w_told1, w_told2, w_wipe0, w_wipe1, v_app, v_ext, v_put, v_drop, w_drop1, w_drop2, List.length_range]
theorem plans_eq {h : House} (k : h.ok) : f_plans [encH h] = .ok (encL encP (plansL h)) := by
  have l := rows_le (n := h.P) k.c4 k.p5
  simp only [f_plans, v_seq, w_nx, w_ret, w_exc, w_brk, w_cnt, v_next, v_ret, v_retN, w_rok, w_rexc, v_brk, v_cnt, v_raise, v_if, w_ift, w_iff, w_ifx, v_asg, w_aok, w_aexc, w_gok, v_par, w_par, v_for, w_for, v_run, w_end1, w_end2, w_end3, v_e1, v_e2, w_two, v_eF, v_nil, v_cons, w_cons, v_tup, v_lst, v_var, w_var, v_c, v_and, w_andt, w_andf, v_or, w_ort, w_orf, v_not, w_not, v_ifE, w_ifEt, w_ifEf, v_tB, w_tB, v_tTru, v_tAnd, w_tAndt, w_tAndf, v_tOr, w_tOrt, w_tOrf, v_tNot, w_tNot, v_tYes, v_gName, v_gTup, v_gLst, v_gCons, v_gNil, v_oNone, v_oSome, w_oSome, v_slice, w_slice, v_chain, w_chain, w_chaint, w_chainf, v_iSeq, w_items1, w_items2, w_trub, w_truN, w_truL, w_truT, R.bind_ok, R.bind_exc, R.bind_bad, List.length_cons, List.length_nil, List.map_cons, List.map_nil, List.replicate, List.cons_append, List.nil_append, List.getElem?_cons_zero, List.getElem?_cons_succ, List.set_cons_zero, List.set_cons_succ, List.set_nil, Nat.reduceAdd, Nat.reduceSub, if_true, if_false, eq_self, reduceIte, Bool.not_true, Bool.not_false, v_encN, v_rng1, v_rng2, Bool.false_eq_true, v_told, w_told1, w_told2, w_wipe0, w_wipe1, v_app, v_ext, v_put, v_drop, w_drop1, w_drop2, need_ok k]
  rw [eComp_fm encP encP (letB h) (fun x => x) (rows h.C h.P) (by simp only [v_seq, w_nx, w_ret, w_exc, w_brk, w_cnt, v_next, v_ret, v_retN, w_rok, w_rexc, v_brk, v_cnt, v_raise, v_if, w_ift, w_iff, w_ifx, v_asg, w_aok, w_aexc, w_gok, v_par, w_par, v_for, w_for, v_run, w_end1, w_end2, w_end3, v_e1, v_e2, w_two, v_eF, v_nil, v_cons, w_cons, v_tup, v_lst, v_var, w_var, v_c, v_and, w_andt, w_andf, v_or, w_ort, w_orf, v_not, w_not, v_ifE, w_ifEt, w_ifEf, v_tB, w_tB, v_tTru, v_tAnd, w_tAndt, w_tAndf, v_tOr, w_tOrt, w_tOrf, v_tNot, w_tNot, v_tYes, v_gName, v_gTup, v_gLst, v_gCons, v_gNil, v_oNone, v_oSome, w_oSome, v_slice, w_slice, v_chain, w_chain, w_chaint, w_chainf, v_iSeq, w_items1, w_items2, w_trub, w_truN, w_truL, w_truT, R.bind_ok, R.bind_exc, R.bind_bad, List.length_cons, List.length_nil, List.map_cons, List.map_nil, List.replicate, List.cons_append, List.nil_append, List.getElem?_cons_zero, List.getElem?_cons_succ, List.set_cons_zero, List.set_cons_succ, List.set_nil, Nat.reduceAdd, Nat.reduceSub, if_true, if_false, eq_self, reduceIte, Bool.not_true, Bool.not_false, v_encN, v_rng1, v_rng2, Bool.false_eq_true, v_told, w_told1, w_told2, w_wipe0, w_wipe1, v_app, v_ext, v_put, v_drop, w_drop1, w_drop2, idx0H, idx1H, rows_eq k.p5 k.c4, items_L]) (by simp [lim]; omega) fun x hx => ⟨_, rfl, ?_, fun _ => ?_⟩]
  · simp only [v_seq, w_nx, w_ret, w_exc, w_brk, w_cnt, v_next, v_ret, v_retN, w_rok, w_rexc, v_brk, v_cnt, v_raise, v_if, w_ift, w_iff, w_ifx, v_asg, w_aok, w_aexc, w_gok, v_par, w_par, v_for, w_for, v_run, w_end1, w_end2, w_end3, v_e1, v_e2, w_two, v_eF, v_nil, v_cons, w_cons, v_tup, v_lst, v_var, w_var, v_c, v_and, w_andt, w_andf, v_or, w_ort, w_orf, v_not, w_not, v_ifE, w_ifEt, w_ifEf, v_tB, w_tB, v_tTru, v_tAnd, w_tAndt, w_tAndf, v_tOr, w_tOrt, w_tOrf, v_tNot, w_tNot, v_tYes, v_gName, v_gTup, v_gLst, v_gCons, v_gNil, v_oNone, v_oSome, w_oSome, v_slice, w_slice, v_chain, w_chain, w_chaint, w_chainf, v_iSeq, w_items1, w_items2, w_trub, w_truN, w_truL, w_truT, R.bind_ok, R.bind_exc, R.bind_bad, List.length_cons, List.length_nil, List.map_cons, List.map_nil, List.replicate, List.cons_append, List.nil_append, List.getElem?_cons_zero, List.getElem?_cons_succ, List.set_cons_zero, List.set_cons_succ, List.set_nil, Nat.reduceAdd, Nat.reduceSub, if_true, if_false, eq_self, reduceIte, Bool.not_true, Bool.not_false, v_encN, v_rng1, v_rng2, Bool.false_eq_true, v_told, w_told1, w_told2, w_wipe0, w_wipe1, v_app, v_ext, v_put, v_drop, w_drop1, w_drop2, plansL, List.map_id']
  · simp only [v_seq, w_nx, w_ret, w_exc, w_brk, w_cnt, v_next, v_ret, v_retN, w_rok, w_rexc, v_brk, v_cnt, v_raise, v_if, w_ift, w_iff, w_ifx, v_asg, w_aok, w_aexc, w_gok, v_par, w_par, v_for, w_for, v_run, w_end1, w_end2, w_end3, v_e1, v_e2, w_two, v_eF, v_nil, v_cons, w_cons, v_tup, v_lst, v_var, w_var, v_c, v_and, w_andt, w_andf, v_or, w_ort, w_orf, v_not, w_not, v_ifE, w_ifEt, w_ifEf, v_tB, w_tB, v_tTru, v_tAnd, w_tAndt, w_tAndf, v_tOr, w_tOrt, w_tOrf, v_tNot, w_tNot, v_tYes, v_gName, v_gTup, v_gLst, v_gCons, v_gNil, v_oNone, v_oSome, w_oSome, v_slice, w_slice, v_chain, w_chain, w_chaint, w_chainf, v_iSeq, w_items1, w_items2, w_trub, w_truN, w_truL, w_truT, R.bind_ok, R.bind_exc, R.bind_bad, List.length_cons, List.length_nil, List.map_cons, List.map_nil, List.replicate, List.cons_append, List.nil_append, List.getElem?_cons_zero, List.getElem?_cons_succ, List.set_cons_zero, List.set_cons_succ, List.set_nil, Nat.reduceAdd, Nat.reduceSub, if_true, if_false, eq_self, reduceIte, Bool.not_true, Bool.not_false, v_encN, v_rng1, v_rng2, Bool.false_eq_true, v_told, w_told1, w_told2, w_wipe0, w_wipe1, v_app, v_ext, v_put, v_drop, w_drop1, w_drop2, is_let_eq k (mem_rows.mp hx).1]
  · simp only [v_seq, w_nx, w_ret, w_exc, w_brk, w_cnt, v_next, v_ret, v_retN, w_rok, w_rexc, v_brk, v_cnt, v_raise, v_if, w_ift, w_iff, w_ifx, v_asg, w_aok, w_aexc, w_gok, v_par, w_par, v_for, w_for, v_run, w_end1, w_end2, w_end3, v_e1, v_e2, w_two, v_eF, v_nil, v_cons, w_cons, v_tup, v_lst, v_var, w_var, v_c, v_and, w_andt, w_andf, v_or, w_ort, w_orf, v_not, w_not, v_ifE, w_ifEt, w_ifEf, v_tB, w_tB, v_tTru, v_tAnd, w_tAndt, w_tAndf, v_tOr, w_tOrt, w_tOrf, v_tNot, w_tNot, v_tYes, v_gName, v_gTup, v_gLst, v_gCons, v_gNil, v_oNone, v_oSome, w_oSome, v_slice, w_slice, v_chain, w_chain, w_chaint, w_chainf, v_iSeq, w_items1, w_items2, w_trub, w_truN, w_truL, w_truT, R.bind_ok, R.bind_exc, R.bind_bad, List.length_cons, List.length_nil, List.map_cons, List.map_nil, List.replicate, List.cons_append, List.nil_append, List.getElem?_cons_zero, List.getElem?_cons_succ, List.set_cons_zero, List.set_cons_succ, List.set_nil, Nat.reduceAdd, Nat.reduceSub, if_true, if_false, eq_self, reduceIte, Bool.not_true, Bool.not_false, v_encN, v_rng1, v_rng2, Bool.false_eq_true, v_told, w_told1, w_told2, w_wipe0, w_wipe1, v_app, v_ext, v_put, v_drop, w_drop1, w_drop2]
theorem plans_no {x : D} {n L : Nat} (hx : pl n L x = true) (hn : n ≤ 60) (hL : L ≤ lim) (h : houseB x = false) : f_plans [x] = .exc .house := by
  simp only [f_plans, v_seq, w_nx, w_ret, w_exc, w_brk, w_cnt, v_next, v_ret, v_retN, w_rok, w_rexc, v_brk, v_cnt, v_raise, v_if, w_ift, w_iff, w_ifx, v_asg, w_aok, w_aexc, w_gok, v_par, w_par, v_for, w_for, v_run, w_end1, w_end2, w_end3, v_e1, v_e2, w_two, v_eF, v_nil, v_cons, w_cons, v_tup, v_lst, v_var, w_var, v_c, v_and, w_andt, w_andf, v_or, w_ort, w_orf, v_not, w_not, v_ifE, w_ifEt, w_ifEf, v_tB, w_tB, v_tTru, v_tAnd, w_tAndt, w_tAndf, v_tOr, w_tOrt, w_tOrf, v_tNot, w_tNot, v_tYes, v_gName, v_gTup, v_gLst, v_gCons, v_gNil, v_oNone, v_oSome, w_oSome, v_slice, w_slice, v_chain, w_chain, w_chaint, w_chainf, v_iSeq, w_items1, w_items2, w_trub, w_truN, w_truL, w_truT, R.bind_ok, R.bind_exc, R.bind_bad, List.length_cons, List.length_nil, List.map_cons, List.map_nil, List.replicate, List.cons_append, List.nil_append, List.getElem?_cons_zero, List.getElem?_cons_succ, List.set_cons_zero, List.set_cons_succ, List.set_nil, Nat.reduceAdd, Nat.reduceSub, if_true, if_false, eq_self, reduceIte, Bool.not_true, Bool.not_false, v_encN, v_rng1, v_rng2, Bool.false_eq_true, v_told, w_told1, w_told2, w_wipe0, w_wipe1, v_app, v_ext, v_put, v_drop, w_drop1, w_drop2, need_eq hx hn hL, h]
end PG
/-! PM10 -/
set_option Elab.async false
set_option linter.all false
set_option maxRecDepth 100000
set_option maxHeartbeats 2000000
/-! PM10: the law's own plans. -/
namespace PG
open DL
open PySem (PyData Str)
theorem good_B : Good PyData.bool 0 := ⟨fun a => rfl, fun a => Nat.le_refl _, fun a b => by cases a <;> cases b <;> simp [PyData.eqv]⟩
theorem eqB (a b : Bool) : dEq (.bool a) (.bool b) = .ok (.bool (decide (a = b))) := eq_good good_B (by omega) a b
theorem zip_count (p : List Nat) (c : Nat) : ∀ k, ((p.zipIdx k).filter fun x => decide (x.1 = c)).length = p.count c := by
  induction p with
  | nil => intro k; rfl
  | cons a p ih =>
    intro k
    rw [List.zipIdx_cons, List.filter_cons, List.count_cons]
    by_cases h : a = c
    · simp [h, ih]
    · simp [h, ih]
theorem zip_len {α : Type} (p : List α) : p.zipIdx.length = p.length := by simp
theorem keeps_same {p : Plan} {c : Nat} {ρ : Env} {it : FA} {g : FG} {t : FT} {e : FE} {vs : List Nat} (hl : p.length ≤ lim) (h1 : it ρ = .ok (p.zipIdx.map (encE encN))) (h2 : ∀ x : Nat × Nat, ∃ ρ', g (encE encN x) (wipeE ρ vs) = .ok ρ' ∧ t ρ' = .ok (decide (x.1 = c)) ∧ e ρ' = .ok (encN x.2)) :
    ∃ xs : List Nat, eComp it vs g t e ρ = .ok (encL encN xs) ∧ xs.length = p.count c := by
  refine ⟨_, eComp_fm (encE encN) encN (fun x => decide (x.1 = c)) (·.2) p.zipIdx h1 (by rw [zip_len]; exact hl) fun x _ => ?_, ?_⟩
  · obtain ⟨ρ', a1, a2, a3⟩ := h2 x
    exact ⟨ρ', a1, a2, fun _ => a3⟩
  · rw [List.length_map, zip_count]
theorem law_keeps_eq {r : Rule} {P C : Nat} {p : Plan} (k : r.ok P C) (hp : p.length = P) (h5 : P ≤ lim) : f__law_keeps [encR r, encP p] = .ok (.bool (keeps r p)) := by
  have s1 : shaped (.str "unlike") = true := shaped_s rfl
  have s2 : shaped (.str "alike") = true := shaped_s rfl
  have s3 : shaped (.str "not") = true := shaped_s rfl
  have s4 : shaped (.str "either") = true := shaped_s rfl
  have s5 : shaped (.str "most") = true := shaped_s rfl
  have s6 : shaped (.str "least") = true := shaped_s rfl
  have common : ∀ (w x y z u v : Option D) (f : Nat), ∃ xs : List Nat, eComp (DL.iEnum (eVar 1)) [6, 7] (DL.gTup (DL.gCons (DL.gName 6) (DL.gCons (DL.gName 7) DL.gNil))) (DL.tB (e2 dEq (eVar 7) (eVar 3))) (eVar 6) [some (encR r), some (encP p), w, some (.int f), x, y, z, u] = .ok (encL encN xs) ∧ xs.length = p.count f := fun w x y z u v f => by
    refine keeps_same (by omega) ?_ fun x => ⟨_, rfl, ?_, ?_⟩
    · simp only [v_seq, w_nx, w_ret, w_exc, w_brk, w_cnt, v_next, v_ret, v_retN, w_rok, w_rexc, v_brk, v_cnt, v_raise, v_if, w_ift, w_iff, w_ifx, v_asg, w_aok, w_aexc, w_gok, v_par, w_par, v_for, w_for, v_run, w_end1, w_end2, w_end3, v_e1, v_e2, w_two, v_eF, v_nil, v_cons, w_cons, v_tup, v_lst, v_var, w_var, v_c, v_and, w_andt, w_andf, v_or, w_ort, w_orf, v_not, w_not, v_ifE, w_ifEt, w_ifEf, v_tB, w_tB, v_tTru, v_tAnd, w_tAndt, w_tAndf, v_tOr, w_tOrt, w_tOrf, v_tNot, w_tNot, v_tYes, v_gName, v_gTup, v_gLst, v_gCons, v_gNil, v_oNone, v_oSome, w_oSome, v_slice, w_slice, v_chain, w_chain, w_chaint, w_chainf, v_iSeq, w_items1, w_items2, w_trub, w_truN, w_truL, w_truT, R.bind_ok, R.bind_exc, R.bind_bad, List.length_cons, List.length_nil, List.map_cons, List.map_nil, List.replicate, List.cons_append, List.nil_append, List.getElem?_cons_zero, List.getElem?_cons_succ, List.set_cons_zero, List.set_cons_succ, List.set_nil, Nat.reduceAdd, Nat.reduceSub, if_true, if_false, eq_self, reduceIte, Bool.not_true, Bool.not_false, v_encN, v_rng1, v_rng2, Bool.false_eq_true, v_told, w_told1, w_told2, w_wipe0, w_wipe1, v_app, v_ext, v_put, v_drop, w_drop1, w_drop2, v_enum, encP_T, enum_T]
    · simp only [v_seq, w_nx, w_ret, w_exc, w_brk, w_cnt, v_next, v_ret, v_retN, w_rok, w_rexc, v_brk, v_cnt, v_raise, v_if, w_ift, w_iff, w_ifx, v_asg, w_aok, w_aexc, w_gok, v_par, w_par, v_for, w_for, v_run, w_end1, w_end2, w_end3, v_e1, v_e2, w_two, v_eF, v_nil, v_cons, w_cons, v_tup, v_lst, v_var, w_var, v_c, v_and, w_andt, w_andf, v_or, w_ort, w_orf, v_not, w_not, v_ifE, w_ifEt, w_ifEf, v_tB, w_tB, v_tTru, v_tAnd, w_tAndt, w_tAndf, v_tOr, w_tOrt, w_tOrf, v_tNot, w_tNot, v_tYes, v_gName, v_gTup, v_gLst, v_gCons, v_gNil, v_oNone, v_oSome, w_oSome, v_slice, w_slice, v_chain, w_chain, w_chaint, w_chainf, v_iSeq, w_items1, w_items2, w_trub, w_truN, w_truL, w_truT, R.bind_ok, R.bind_exc, R.bind_bad, List.length_cons, List.length_nil, List.map_cons, List.map_nil, List.replicate, List.cons_append, List.nil_append, List.getElem?_cons_zero, List.getElem?_cons_succ, List.set_cons_zero, List.set_cons_succ, List.set_nil, Nat.reduceAdd, Nat.reduceSub, if_true, if_false, eq_self, reduceIte, Bool.not_true, Bool.not_false, v_encN, v_rng1, v_rng2, Bool.false_eq_true, v_told, w_told1, w_told2, w_wipe0, w_wipe1, v_app, v_ext, v_put, v_drop, w_drop1, w_drop2, eqN]
    · simp only [v_seq, w_nx, w_ret, w_exc, w_brk, w_cnt, v_next, v_ret, v_retN, w_rok, w_rexc, v_brk, v_cnt, v_raise, v_if, w_ift, w_iff, w_ifx, v_asg, w_aok, w_aexc, w_gok, v_par, w_par, v_for, w_for, v_run, w_end1, w_end2, w_end3, v_e1, v_e2, w_two, v_eF, v_nil, v_cons, w_cons, v_tup, v_lst, v_var, w_var, v_c, v_and, w_andt, w_andf, v_or, w_ort, w_orf, v_not, w_not, v_ifE, w_ifEt, w_ifEf, v_tB, w_tB, v_tTru, v_tAnd, w_tAndt, w_tAndf, v_tOr, w_tOrt, w_tOrf, v_tNot, w_tNot, v_tYes, v_gName, v_gTup, v_gLst, v_gCons, v_gNil, v_oNone, v_oSome, w_oSome, v_slice, w_slice, v_chain, w_chain, w_chaint, w_chainf, v_iSeq, w_items1, w_items2, w_trub, w_truN, w_truL, w_truT, R.bind_ok, R.bind_exc, R.bind_bad, List.length_cons, List.length_nil, List.map_cons, List.map_nil, List.replicate, List.cons_append, List.nil_append, List.getElem?_cons_zero, List.getElem?_cons_succ, List.set_cons_zero, List.set_cons_succ, List.set_nil, Nat.reduceAdd, Nat.reduceSub, if_true, if_false, eq_self, reduceIte, Bool.not_true, Bool.not_false, v_encN, v_rng1, v_rng2, Bool.false_eq_true, v_told, w_told1, w_told2, w_wipe0, w_wipe1, v_app, v_ext, v_put, v_drop, w_drop1, w_drop2]
  cases r with
  | unlike a b =>
    have k1 := k.1
    have k2 := k.2
    obtain ⟨xs, h1, h2⟩ := common (some (.str "unlike")) (some (.int b)) none none none none a
    have i1 : dIn (.str "unlike") (.tuple [.str "most", .str "least"]) = .ok (.bool false) := by rw [in2]; rfl
    have e1 := strs_eq "unlike" "not" s1 s3 false rfl
    have e2 := strs_eq "unlike" "either" s1 s4 false rfl
    have e3 := strs_eq "unlike" "alike" s1 s2 false rfl
    rw [enc_unlike] at h1 ⊢
    simp only [f__law_keeps, v_seq, w_nx, w_ret, w_exc, w_brk, w_cnt, v_next, v_ret, v_retN, w_rok, w_rexc, v_brk, v_cnt, v_raise, v_if, w_ift, w_iff, w_ifx, v_asg, w_aok, w_aexc, w_gok, v_par, w_par, v_for, w_for, v_run, w_end1, w_end2, w_end3, v_e1, v_e2, w_two, v_eF, v_nil, v_cons, w_cons, v_tup, v_lst, v_var, w_var, v_c, v_and, w_andt, w_andf, v_or, w_ort, w_orf, v_not, w_not, v_ifE, w_ifEt, w_ifEf, v_tB, w_tB, v_tTru, v_tAnd, w_tAndt, w_tAndf, v_tOr, w_tOrt, w_tOrf, v_tNot, w_tNot, v_tYes, v_gName, v_gTup, v_gLst, v_gCons, v_gNil, v_oNone, v_oSome, w_oSome, v_slice, w_slice, v_chain, w_chain, w_chaint, w_chainf, v_iSeq, w_items1, w_items2, w_trub, w_truN, w_truL, w_truT, R.bind_ok, R.bind_exc, R.bind_bad, List.length_cons, List.length_nil, List.map_cons, List.map_nil, List.replicate, List.cons_append, List.nil_append, List.getElem?_cons_zero, List.getElem?_cons_succ, List.set_cons_zero, List.set_cons_succ, List.set_nil, Nat.reduceAdd, Nat.reduceSub, if_true, if_false, eq_self, reduceIte, Bool.not_true, Bool.not_false, v_encN, v_rng1, v_rng2, Bool.false_eq_true, v_told, w_told1, w_told2, w_wipe0, w_wipe1, v_app, v_ext, v_put, v_drop, w_drop1, w_drop2, idx0, idx1, idx2, h1, i1, e1, e2, e3, gd_idx (show a < p.length by omega), gd_idx (show b < p.length by omega), eqN, eqB, keeps, Bool.beq_eq_decide_eq, decide_eq_false_iff_not, Bool.decide_eq_false, decide_not]
  | alike a b =>
    have k1 := k.1
    have k2 := k.2
    obtain ⟨xs, h1, h2⟩ := common (some (.str "alike")) (some (.int b)) none none none none a
    have i1 : dIn (.str "alike") (.tuple [.str "most", .str "least"]) = .ok (.bool false) := by rw [in2]; rfl
    have e1 := strs_eq "alike" "not" s2 s3 false rfl
    have e2 := strs_eq "alike" "either" s2 s4 false rfl
    have e3 := strs_eq "alike" "alike" s2 s2 true rfl
    rw [enc_alike] at h1 ⊢
    simp only [f__law_keeps, v_seq, w_nx, w_ret, w_exc, w_brk, w_cnt, v_next, v_ret, v_retN, w_rok, w_rexc, v_brk, v_cnt, v_raise, v_if, w_ift, w_iff, w_ifx, v_asg, w_aok, w_aexc, w_gok, v_par, w_par, v_for, w_for, v_run, w_end1, w_end2, w_end3, v_e1, v_e2, w_two, v_eF, v_nil, v_cons, w_cons, v_tup, v_lst, v_var, w_var, v_c, v_and, w_andt, w_andf, v_or, w_ort, w_orf, v_not, w_not, v_ifE, w_ifEt, w_ifEf, v_tB, w_tB, v_tTru, v_tAnd, w_tAndt, w_tAndf, v_tOr, w_tOrt, w_tOrf, v_tNot, w_tNot, v_tYes, v_gName, v_gTup, v_gLst, v_gCons, v_gNil, v_oNone, v_oSome, w_oSome, v_slice, w_slice, v_chain, w_chain, w_chaint, w_chainf, v_iSeq, w_items1, w_items2, w_trub, w_truN, w_truL, w_truT, R.bind_ok, R.bind_exc, R.bind_bad, List.length_cons, List.length_nil, List.map_cons, List.map_nil, List.replicate, List.cons_append, List.nil_append, List.getElem?_cons_zero, List.getElem?_cons_succ, List.set_cons_zero, List.set_cons_succ, List.set_nil, Nat.reduceAdd, Nat.reduceSub, if_true, if_false, eq_self, reduceIte, Bool.not_true, Bool.not_false, v_encN, v_rng1, v_rng2, Bool.false_eq_true, v_told, w_told1, w_told2, w_wipe0, w_wipe1, v_app, v_ext, v_put, v_drop, w_drop1, w_drop2, idx0, idx1, idx2, h1, i1, e1, e2, e3, gd_idx (show a < p.length by omega), gd_idx (show b < p.length by omega), eqN, eqB, keeps, Bool.beq_eq_decide_eq, Bool.decide_eq_true]
  | no a c =>
    have k1 := k.1
    obtain ⟨xs, h1, h2⟩ := common (some (.str "not")) (some (.int c)) none none none none a
    have i1 : dIn (.str "not") (.tuple [.str "most", .str "least"]) = .ok (.bool false) := by rw [in2]; rfl
    have e1 := strs_eq "not" "not" s3 s3 true rfl
    rw [enc_no] at h1 ⊢
    simp only [f__law_keeps, v_seq, w_nx, w_ret, w_exc, w_brk, w_cnt, v_next, v_ret, v_retN, w_rok, w_rexc, v_brk, v_cnt, v_raise, v_if, w_ift, w_iff, w_ifx, v_asg, w_aok, w_aexc, w_gok, v_par, w_par, v_for, w_for, v_run, w_end1, w_end2, w_end3, v_e1, v_e2, w_two, v_eF, v_nil, v_cons, w_cons, v_tup, v_lst, v_var, w_var, v_c, v_and, w_andt, w_andf, v_or, w_ort, w_orf, v_not, w_not, v_ifE, w_ifEt, w_ifEf, v_tB, w_tB, v_tTru, v_tAnd, w_tAndt, w_tAndf, v_tOr, w_tOrt, w_tOrf, v_tNot, w_tNot, v_tYes, v_gName, v_gTup, v_gLst, v_gCons, v_gNil, v_oNone, v_oSome, w_oSome, v_slice, w_slice, v_chain, w_chain, w_chaint, w_chainf, v_iSeq, w_items1, w_items2, w_trub, w_truN, w_truL, w_truT, R.bind_ok, R.bind_exc, R.bind_bad, List.length_cons, List.length_nil, List.map_cons, List.map_nil, List.replicate, List.cons_append, List.nil_append, List.getElem?_cons_zero, List.getElem?_cons_succ, List.set_cons_zero, List.set_cons_succ, List.set_nil, Nat.reduceAdd, Nat.reduceSub, if_true, if_false, eq_self, reduceIte, Bool.not_true, Bool.not_false, v_encN, v_rng1, v_rng2, Bool.false_eq_true, v_told, w_told1, w_told2, w_wipe0, w_wipe1, v_app, v_ext, v_put, v_drop, w_drop1, w_drop2, idx0, idx1, idx2, h1, i1, e1, gd_idx (show a < p.length by omega), eqN, keeps, Bool.beq_eq_decide_eq]
  | either a c b d =>
    obtain ⟨k1, k2, k3, k4, k5⟩ := k
    obtain ⟨xs, h1, h2⟩ := common (some (.str "either")) (some (.int c)) none none none none a
    have i1 : dIn (.str "either") (.tuple [.str "most", .str "least"]) = .ok (.bool false) := by rw [in2]; rfl
    have e1 := strs_eq "either" "not" s4 s3 false rfl
    have e2 := strs_eq "either" "either" s4 s4 true rfl
    rw [enc_either] at h1 ⊢
    simp only [f__law_keeps, v_seq, w_nx, w_ret, w_exc, w_brk, w_cnt, v_next, v_ret, v_retN, w_rok, w_rexc, v_brk, v_cnt, v_raise, v_if, w_ift, w_iff, w_ifx, v_asg, w_aok, w_aexc, w_gok, v_par, w_par, v_for, w_for, v_run, w_end1, w_end2, w_end3, v_e1, v_e2, w_two, v_eF, v_nil, v_cons, w_cons, v_tup, v_lst, v_var, w_var, v_c, v_and, w_andt, w_andf, v_or, w_ort, w_orf, v_not, w_not, v_ifE, w_ifEt, w_ifEf, v_tB, w_tB, v_tTru, v_tAnd, w_tAndt, w_tAndf, v_tOr, w_tOrt, w_tOrf, v_tNot, w_tNot, v_tYes, v_gName, v_gTup, v_gLst, v_gCons, v_gNil, v_oNone, v_oSome, w_oSome, v_slice, w_slice, v_chain, w_chain, w_chaint, w_chainf, v_iSeq, w_items1, w_items2, w_trub, w_truN, w_truL, w_truT, R.bind_ok, R.bind_exc, R.bind_bad, List.length_cons, List.length_nil, List.map_cons, List.map_nil, List.replicate, List.cons_append, List.nil_append, List.getElem?_cons_zero, List.getElem?_cons_succ, List.set_cons_zero, List.set_cons_succ, List.set_nil, Nat.reduceAdd, Nat.reduceSub, if_true, if_false, eq_self, reduceIte, Bool.not_true, Bool.not_false, v_encN, v_rng1, v_rng2, Bool.false_eq_true, v_told, w_told1, w_told2, w_wipe0, w_wipe1, v_app, v_ext, v_put, v_drop, w_drop1, w_drop2, s_if, s_tAnd, s_tOr, s_and, s_or, s_ifE, s_chain, i_and, i_or, i_andD, i_orD, i_thn, i_end, i_bind, i_ret, i_asg, idx0, idx1, idx2, idx3, idx4, h1, i1, e1, e2, gd_idx (show a < p.length by omega), gd_idx (show b < p.length by omega), eqN, keeps, Bool.beq_eq_decide_eq]
  | most c n =>
    obtain ⟨xs, h1, h2⟩ := common (some (.str "most")) (some (.int n)) none none none none c
    have i1 : dIn (.str "most") (.tuple [.str "most", .str "least"]) = .ok (.bool true) := by rw [in2]; rfl
    have e1 := strs_eq "most" "most" s5 s5 true rfl
    rw [enc_most] at h1 ⊢
    simp only [f__law_keeps, v_seq, w_nx, w_ret, w_exc, w_brk, w_cnt, v_next, v_ret, v_retN, w_rok, w_rexc, v_brk, v_cnt, v_raise, v_if, w_ift, w_iff, w_ifx, v_asg, w_aok, w_aexc, w_gok, v_par, w_par, v_for, w_for, v_run, w_end1, w_end2, w_end3, v_e1, v_e2, w_two, v_eF, v_nil, v_cons, w_cons, v_tup, v_lst, v_var, w_var, v_c, v_and, w_andt, w_andf, v_or, w_ort, w_orf, v_not, w_not, v_ifE, w_ifEt, w_ifEf, v_tB, w_tB, v_tTru, v_tAnd, w_tAndt, w_tAndf, v_tOr, w_tOrt, w_tOrf, v_tNot, w_tNot, v_tYes, v_gName, v_gTup, v_gLst, v_gCons, v_gNil, v_oNone, v_oSome, w_oSome, v_slice, w_slice, v_chain, w_chain, w_chaint, w_chainf, v_iSeq, w_items1, w_items2, w_trub, w_truN, w_truL, w_truT, R.bind_ok, R.bind_exc, R.bind_bad, List.length_cons, List.length_nil, List.map_cons, List.map_nil, List.replicate, List.cons_append, List.nil_append, List.getElem?_cons_zero, List.getElem?_cons_succ, List.set_cons_zero, List.set_cons_succ, List.set_nil, Nat.reduceAdd, Nat.reduceSub, if_true, if_false, eq_self, reduceIte, Bool.not_true, Bool.not_false, v_encN, v_rng1, v_rng2, Bool.false_eq_true, v_told, w_told1, w_told2, w_wipe0, w_wipe1, v_app, v_ext, v_put, v_drop, w_drop1, w_drop2, idx0, idx1, idx2, h1, i1, e1, len_L, h2, leN, keeps]
  | least c n =>
    obtain ⟨xs, h1, h2⟩ := common (some (.str "least")) (some (.int n)) none none none none c
    have i1 : dIn (.str "least") (.tuple [.str "most", .str "least"]) = .ok (.bool true) := by rw [in2]; rfl
    have e1 := strs_eq "least" "most" s6 s5 false rfl
    rw [enc_least] at h1 ⊢
    simp only [f__law_keeps, v_seq, w_nx, w_ret, w_exc, w_brk, w_cnt, v_next, v_ret, v_retN, w_rok, w_rexc, v_brk, v_cnt, v_raise, v_if, w_ift, w_iff, w_ifx, v_asg, w_aok, w_aexc, w_gok, v_par, w_par, v_for, w_for, v_run, w_end1, w_end2, w_end3, v_e1, v_e2, w_two, v_eF, v_nil, v_cons, w_cons, v_tup, v_lst, v_var, w_var, v_c, v_and, w_andt, w_andf, v_or, w_ort, w_orf, v_not, w_not, v_ifE, w_ifEt, w_ifEf, v_tB, w_tB, v_tTru, v_tAnd, w_tAndt, w_tAndf, v_tOr, w_tOrt, w_tOrf, v_tNot, w_tNot, v_tYes, v_gName, v_gTup, v_gLst, v_gCons, v_gNil, v_oNone, v_oSome, w_oSome, v_slice, w_slice, v_chain, w_chain, w_chaint, w_chainf, v_iSeq, w_items1, w_items2, w_trub, w_truN, w_truL, w_truT, R.bind_ok, R.bind_exc, R.bind_bad, List.length_cons, List.length_nil, List.map_cons, List.map_nil, List.replicate, List.cons_append, List.nil_append, List.getElem?_cons_zero, List.getElem?_cons_succ, List.set_cons_zero, List.set_cons_succ, List.set_nil, Nat.reduceAdd, Nat.reduceSub, if_true, if_false, eq_self, reduceIte, Bool.not_true, Bool.not_false, v_encN, v_rng1, v_rng2, Bool.false_eq_true, v_told, w_told1, w_told2, w_wipe0, w_wipe1, v_app, v_ext, v_put, v_drop, w_drop1, w_drop2, idx0, idx1, idx2, h1, i1, e1, len_L, h2, geN, keeps]
theorem law_many_eq {P C : Nat} (hP : P ≤ 5) (hC : C ≤ 4) : f__law_many [.int P, .int C] = .ok (.int (C ^ P : Nat)) := by
  simp only [f__law_many, v_seq, w_nx, w_ret, w_exc, w_brk, w_cnt, v_next, v_ret, v_retN, w_rok, w_rexc, v_brk, v_cnt, v_raise, v_if, w_ift, w_iff, w_ifx, v_asg, w_aok, w_aexc, w_gok, v_par, w_par, v_for, w_for, v_run, w_end1, w_end2, w_end3, v_e1, v_e2, w_two, v_eF, v_nil, v_cons, w_cons, v_tup, v_lst, v_var, w_var, v_c, v_and, w_andt, w_andf, v_or, w_ort, w_orf, v_not, w_not, v_ifE, w_ifEt, w_ifEf, v_tB, w_tB, v_tTru, v_tAnd, w_tAndt, w_tAndf, v_tOr, w_tOrt, w_tOrf, v_tNot, w_tNot, v_tYes, v_gName, v_gTup, v_gLst, v_gCons, v_gNil, v_oNone, v_oSome, w_oSome, v_slice, w_slice, v_chain, w_chain, w_chaint, w_chainf, v_iSeq, w_items1, w_items2, w_trub, w_truN, w_truL, w_truT, R.bind_ok, R.bind_exc, R.bind_bad, List.length_cons, List.length_nil, List.map_cons, List.map_nil, List.replicate, List.cons_append, List.nil_append, List.getElem?_cons_zero, List.getElem?_cons_succ, List.set_cons_zero, List.set_cons_succ, List.set_nil, Nat.reduceAdd, Nat.reduceSub, if_true, if_false, eq_self, reduceIte, Bool.not_true, Bool.not_false, v_encN, v_rng1, v_rng2, Bool.false_eq_true, v_told, w_told1, w_told2, w_wipe0, w_wipe1, v_app, v_ext, v_put, v_drop, w_drop1, w_drop2, w_rng1 (show P ≤ lim by simp [lim]; omega)]
  generalize hr : forL _ _ _ _ = r
  obtain ⟨ρ', rfl, a, rfl⟩ := for_inv hr encN (fun pre ρ => ∃ a, ρ = [some (.int P), some (.int C), some (.int (C ^ pre.length : Nat)), a]) _ rfl ⟨none, rfl⟩ (by
    rintro pre k post ρ hpre ⟨a, rfl⟩
    refine ⟨_, rfl, ?_⟩
    have m : dMulI (.int (C ^ pre.length : Nat)) (.int C) = .ok (.int (C ^ (pre.length + 1) : Nat)) := by
      rw [mul_ok (mulOk_r (by omega)), Nat.pow_succ]
      rfl
    simp only [v_seq, w_nx, w_ret, w_exc, w_brk, w_cnt, v_next, v_ret, v_retN, w_rok, w_rexc, v_brk, v_cnt, v_raise, v_if, w_ift, w_iff, w_ifx, v_asg, w_aok, w_aexc, w_gok, v_par, w_par, v_for, w_for, v_run, w_end1, w_end2, w_end3, v_e1, v_e2, w_two, v_eF, v_nil, v_cons, w_cons, v_tup, v_lst, v_var, w_var, v_c, v_and, w_andt, w_andf, v_or, w_ort, w_orf, v_not, w_not, v_ifE, w_ifEt, w_ifEf, v_tB, w_tB, v_tTru, v_tAnd, w_tAndt, w_tAndf, v_tOr, w_tOrt, w_tOrf, v_tNot, w_tNot, v_tYes, v_gName, v_gTup, v_gLst, v_gCons, v_gNil, v_oNone, v_oSome, w_oSome, v_slice, w_slice, v_chain, w_chain, w_chaint, w_chainf, v_iSeq, w_items1, w_items2, w_trub, w_truN, w_truL, w_truT, R.bind_ok, R.bind_exc, R.bind_bad, List.length_cons, List.length_nil, List.map_cons, List.map_nil, List.replicate, List.cons_append, List.nil_append, List.getElem?_cons_zero, List.getElem?_cons_succ, List.set_cons_zero, List.set_cons_succ, List.set_nil, Nat.reduceAdd, Nat.reduceSub, if_true, if_false, eq_self, reduceIte, Bool.not_true, Bool.not_false, v_encN, v_rng1, v_rng2, Bool.false_eq_true, v_told, w_told1, w_told2, w_wipe0, w_wipe1, v_app, v_ext, v_put, v_drop, w_drop1, w_drop2, m]
    exact ⟨_, .inl rfl, _, by rw [List.length_append]; rfl⟩)
  simp only [v_seq, w_nx, w_ret, w_exc, w_brk, w_cnt, v_next, v_ret, v_retN, w_rok, w_rexc, v_brk, v_cnt, v_raise, v_if, w_ift, w_iff, w_ifx, v_asg, w_aok, w_aexc, w_gok, v_par, w_par, v_for, w_for, v_run, w_end1, w_end2, w_end3, v_e1, v_e2, w_two, v_eF, v_nil, v_cons, w_cons, v_tup, v_lst, v_var, w_var, v_c, v_and, w_andt, w_andf, v_or, w_ort, w_orf, v_not, w_not, v_ifE, w_ifEt, w_ifEf, v_tB, w_tB, v_tTru, v_tAnd, w_tAndt, w_tAndf, v_tOr, w_tOrt, w_tOrf, v_tNot, w_tNot, v_tYes, v_gName, v_gTup, v_gLst, v_gCons, v_gNil, v_oNone, v_oSome, w_oSome, v_slice, w_slice, v_chain, w_chain, w_chaint, w_chainf, v_iSeq, w_items1, w_items2, w_trub, w_truN, w_truL, w_truT, R.bind_ok, R.bind_exc, R.bind_bad, List.length_cons, List.length_nil, List.map_cons, List.map_nil, List.replicate, List.cons_append, List.nil_append, List.getElem?_cons_zero, List.getElem?_cons_succ, List.set_cons_zero, List.set_cons_succ, List.set_nil, Nat.reduceAdd, Nat.reduceSub, if_true, if_false, eq_self, reduceIte, Bool.not_true, Bool.not_false, v_encN, v_rng1, v_rng2, Bool.false_eq_true, v_told, w_told1, w_told2, w_wipe0, w_wipe1, v_app, v_ext, v_put, v_drop, w_drop1, w_drop2, List.length_range]
/-- the figures from the least on -/
def low (C : Nat) : Nat → Nat → List Nat
  | 0, _ => []
  | n + 1, k => low C n k ++ [k / C ^ n % C]
theorem low_succ (C : Nat) : ∀ n k, low C (n + 1) k = k % C :: low C n (k / C)
  | 0, k => by simp [low]
  | n + 1, k => by
    rw [low, low_succ C n k, low, List.cons_append, Nat.div_div_eq_div_mul, Nat.pow_succ, Nat.mul_comm]
theorem low_rev (C : Nat) : ∀ n k, (low C n k).reverse = digits C n k
  | 0, k => rfl
  | n + 1, k => by rw [low_succ, List.reverse_cons, low_rev C n, digits]
theorem low_len (C : Nat) : ∀ n k, (low C n k).length = n
  | 0, k => rfl
  | n + 1, k => by rw [low, List.length_append, low_len C n k]; rfl
theorem rev_L {α : Type} {f : α → D} {xs : List α} : dRevL (encL f xs) = .ok (encL f xs.reverse) := by simp [dRevL, encL]
theorem tuple_L {α : Type} {f : α → D} {xs : List α} : dTuple (encL f xs) = .ok (encT f xs) := rfl
theorem divN {a b : Nat} (h : 0 < b) (h2 : b < 2 ^ 62) : dDiv (.int a) (.int b) = .ok (.int (a / b : Nat)) := by
  rw [div_i (by omega) (by omega)]
  rfl
theorem modN' {a b : Nat} (h : 0 < b) : dMod (.int a) (.int b) = .ok (.int (a % b : Nat)) := by
  rw [mod_int (by omega)]
  rfl
theorem digits_len (C : Nat) : ∀ n k, (digits C n k).length = n := fun n k => by rw [← low_rev, List.length_reverse, low_len]
theorem law_plans_eq {h : House} (k : h.ok) : f__law_plans [encH h] = .ok (encL encP (plansL h)) := by
  obtain ⟨p1, p5, c1, c4, r8, rs⟩ := k
  have hpow : h.C ^ h.P ≤ 1024 := by rw [← rows_length]; exact rows_le c4 p5
  have eH : encH h = .tuple [.int h.P, .int h.C, encT encR h.R] := rfl
  simp only [f__law_plans, eH, v_seq, w_nx, w_ret, w_exc, w_brk, w_cnt, v_next, v_ret, v_retN, w_rok, w_rexc, v_brk, v_cnt, v_raise, v_if, w_ift, w_iff, w_ifx, v_asg, w_aok, w_aexc, w_gok, v_par, w_par, v_for, w_for, v_run, w_end1, w_end2, w_end3, v_e1, v_e2, w_two, v_eF, v_nil, v_cons, w_cons, v_tup, v_lst, v_var, w_var, v_c, v_and, w_andt, w_andf, v_or, w_ort, w_orf, v_not, w_not, v_ifE, w_ifEt, w_ifEf, v_tB, w_tB, v_tTru, v_tAnd, w_tAndt, w_tAndf, v_tOr, w_tOrt, w_tOrf, v_tNot, w_tNot, v_tYes, v_gName, v_gTup, v_gLst, v_gCons, v_gNil, v_oNone, v_oSome, w_oSome, v_slice, w_slice, v_chain, w_chain, w_chaint, w_chainf, v_iSeq, w_items1, w_items2, w_trub, w_truN, w_truL, w_truT, R.bind_ok, R.bind_exc, R.bind_bad, List.length_cons, List.length_nil, List.map_cons, List.map_nil, List.replicate, List.cons_append, List.nil_append, List.getElem?_cons_zero, List.getElem?_cons_succ, List.set_cons_zero, List.set_cons_succ, List.set_nil, Nat.reduceAdd, Nat.reduceSub, if_true, if_false, eq_self, reduceIte, Bool.not_true, Bool.not_false, v_encN, v_rng1, v_rng2, Bool.false_eq_true, v_told, w_told1, w_told2, w_wipe0, w_wipe1, v_app, v_ext, v_put, v_drop, w_drop1, w_drop2, law_many_eq p5 c4, w_rng1 (show h.C ^ h.P ≤ lim by simp [lim]; omega)]
  generalize hr : forL _ _ _ _ = r
  obtain ⟨ρ', rfl, a, b, c, d, e, rfl⟩ := for_inv hr encN (fun pre ρ => ∃ a b c d e, ρ = [some (.tuple [.int h.P, .int h.C, encT encR h.R]), some (.int h.P), some (.int h.C), some (encT encR h.R), some (encL encP ((pre.map (digits h.C h.P)).filter (letB h))), a, b, c, d, e]) _ rfl ⟨none, none, none, none, none, rfl⟩ (by
    rintro pre n post ρ hpre ⟨a, b, c, d, e, rfl⟩
    have hl := congrArg List.length hpre
    rw [List.length_range, List.length_append] at hl
    have hfl : ((pre.map (digits h.C h.P)).filter (letB h)).length ≤ pre.length := Nat.le_trans (List.length_filter_le _ _) (by simp)
    refine ⟨_, rfl, ?_⟩
    simp only [v_seq, w_nx, w_ret, w_exc, w_brk, w_cnt, v_next, v_ret, v_retN, w_rok, w_rexc, v_brk, v_cnt, v_raise, v_if, w_ift, w_iff, w_ifx, v_asg, w_aok, w_aexc, w_gok, v_par, w_par, v_for, w_for, v_run, w_end1, w_end2, w_end3, v_e1, v_e2, w_two, v_eF, v_nil, v_cons, w_cons, v_tup, v_lst, v_var, w_var, v_c, v_and, w_andt, w_andf, v_or, w_ort, w_orf, v_not, w_not, v_ifE, w_ifEt, w_ifEf, v_tB, w_tB, v_tTru, v_tAnd, w_tAndt, w_tAndf, v_tOr, w_tOrt, w_tOrf, v_tNot, w_tNot, v_tYes, v_gName, v_gTup, v_gLst, v_gCons, v_gNil, v_oNone, v_oSome, w_oSome, v_slice, w_slice, v_chain, w_chain, w_chaint, w_chainf, v_iSeq, w_items1, w_items2, w_trub, w_truN, w_truL, w_truT, R.bind_ok, R.bind_exc, R.bind_bad, List.length_cons, List.length_nil, List.map_cons, List.map_nil, List.replicate, List.cons_append, List.nil_append, List.getElem?_cons_zero, List.getElem?_cons_succ, List.set_cons_zero, List.set_cons_succ, List.set_nil, Nat.reduceAdd, Nat.reduceSub, if_true, if_false, eq_self, reduceIte, Bool.not_true, Bool.not_false, v_encN, v_rng1, v_rng2, Bool.false_eq_true, v_told, w_told1, w_told2, w_wipe0, w_wipe1, v_app, v_ext, v_put, v_drop, w_drop1, w_drop2, v_par, w_par, w_rng1 (show h.P ≤ lim by simp [lim]; omega)]
    generalize hr2 : forL _ _ _ _ = r2
    obtain ⟨ρ2, rfl, d, rfl⟩ := for_inv hr2 encN (fun pre2 ρ => ∃ d, ρ = [some (.tuple [.int h.P, .int h.C, encT encR h.R]), some (.int h.P), some (.int h.C), some (encT encR h.R), some (encL encP ((pre.map (digits h.C h.P)).filter (letB h))), some (.int n), some (encL encN (low h.C pre2.length n)), some (.int (n / h.C ^ pre2.length : Nat)), d, e]) _ rfl ⟨d, by simp [low, encL]⟩ (by
      rintro pre2 k2 post2 ρ hpre2 ⟨d, rfl⟩
      have hl2 := congrArg List.length hpre2
      rw [List.length_range, List.length_append] at hl2
      refine ⟨_, rfl, ?_⟩
      simp only [v_seq, w_nx, w_ret, w_exc, w_brk, w_cnt, v_next, v_ret, v_retN, w_rok, w_rexc, v_brk, v_cnt, v_raise, v_if, w_ift, w_iff, w_ifx, v_asg, w_aok, w_aexc, w_gok, v_par, w_par, v_for, w_for, v_run, w_end1, w_end2, w_end3, v_e1, v_e2, w_two, v_eF, v_nil, v_cons, w_cons, v_tup, v_lst, v_var, w_var, v_c, v_and, w_andt, w_andf, v_or, w_ort, w_orf, v_not, w_not, v_ifE, w_ifEt, w_ifEf, v_tB, w_tB, v_tTru, v_tAnd, w_tAndt, w_tAndf, v_tOr, w_tOrt, w_tOrf, v_tNot, w_tNot, v_tYes, v_gName, v_gTup, v_gLst, v_gCons, v_gNil, v_oNone, v_oSome, w_oSome, v_slice, w_slice, v_chain, w_chain, w_chaint, w_chainf, v_iSeq, w_items1, w_items2, w_trub, w_truN, w_truL, w_truT, R.bind_ok, R.bind_exc, R.bind_bad, List.length_cons, List.length_nil, List.map_cons, List.map_nil, List.replicate, List.cons_append, List.nil_append, List.getElem?_cons_zero, List.getElem?_cons_succ, List.set_cons_zero, List.set_cons_succ, List.set_nil, Nat.reduceAdd, Nat.reduceSub, if_true, if_false, eq_self, reduceIte, Bool.not_true, Bool.not_false, v_encN, v_rng1, v_rng2, Bool.false_eq_true, v_told, w_told1, w_told2, w_wipe0, w_wipe1, v_app, v_ext, v_put, v_drop, w_drop1, w_drop2, modN' (show 0 < h.C by omega), divN (show 0 < h.C by omega) (show h.C < 2 ^ 62 by omega)]
      have := w_app (i := 6) (f := encN) (xs := low h.C pre2.length n) (x := n / h.C ^ pre2.length % h.C) (ρ := [some (.tuple [.int h.P, .int h.C, encT encR h.R]), some (.int h.P), some (.int h.C), some (encT encR h.R), some (encL encP ((pre.map (digits h.C h.P)).filter (letB h))), some (.int n), some (encL encN (low h.C pre2.length n)), some (.int (n / h.C ^ pre2.length : Nat)), some (.int k2), e]) (by rw [low_len]; simp [lim]; simp at hl2; omega)
      simp only [v_seq, w_nx, w_ret, w_exc, w_brk, w_cnt, v_next, v_ret, v_retN, w_rok, w_rexc, v_brk, v_cnt, v_raise, v_if, w_ift, w_iff, w_ifx, v_asg, w_aok, w_aexc, w_gok, v_par, w_par, v_for, w_for, v_run, w_end1, w_end2, w_end3, v_e1, v_e2, w_two, v_eF, v_nil, v_cons, w_cons, v_tup, v_lst, v_var, w_var, v_c, v_and, w_andt, w_andf, v_or, w_ort, w_orf, v_not, w_not, v_ifE, w_ifEt, w_ifEf, v_tB, w_tB, v_tTru, v_tAnd, w_tAndt, w_tAndf, v_tOr, w_tOrt, w_tOrf, v_tNot, w_tNot, v_tYes, v_gName, v_gTup, v_gLst, v_gCons, v_gNil, v_oNone, v_oSome, w_oSome, v_slice, w_slice, v_chain, w_chain, w_chaint, w_chainf, v_iSeq, w_items1, w_items2, w_trub, w_truN, w_truL, w_truT, R.bind_ok, R.bind_exc, R.bind_bad, List.length_cons, List.length_nil, List.map_cons, List.map_nil, List.replicate, List.cons_append, List.nil_append, List.getElem?_cons_zero, List.getElem?_cons_succ, List.set_cons_zero, List.set_cons_succ, List.set_nil, Nat.reduceAdd, Nat.reduceSub, if_true, if_false, eq_self, reduceIte, Bool.not_true, Bool.not_false, v_encN, v_rng1, v_rng2, Bool.false_eq_true, v_told, w_told1, w_told2, w_wipe0, w_wipe1, v_app, v_ext, v_put, v_drop, w_drop1, w_drop2] at this
      simp only [this, v_seq, w_nx, w_ret, w_exc, w_brk, w_cnt, v_next, v_ret, v_retN, w_rok, w_rexc, v_brk, v_cnt, v_raise, v_if, w_ift, w_iff, w_ifx, v_asg, w_aok, w_aexc, w_gok, v_par, w_par, v_for, w_for, v_run, w_end1, w_end2, w_end3, v_e1, v_e2, w_two, v_eF, v_nil, v_cons, w_cons, v_tup, v_lst, v_var, w_var, v_c, v_and, w_andt, w_andf, v_or, w_ort, w_orf, v_not, w_not, v_ifE, w_ifEt, w_ifEf, v_tB, w_tB, v_tTru, v_tAnd, w_tAndt, w_tAndf, v_tOr, w_tOrt, w_tOrf, v_tNot, w_tNot, v_tYes, v_gName, v_gTup, v_gLst, v_gCons, v_gNil, v_oNone, v_oSome, w_oSome, v_slice, w_slice, v_chain, w_chain, w_chaint, w_chainf, v_iSeq, w_items1, w_items2, w_trub, w_truN, w_truL, w_truT, R.bind_ok, R.bind_exc, R.bind_bad, List.length_cons, List.length_nil, List.map_cons, List.map_nil, List.replicate, List.cons_append, List.nil_append, List.getElem?_cons_zero, List.getElem?_cons_succ, List.set_cons_zero, List.set_cons_succ, List.set_nil, Nat.reduceAdd, Nat.reduceSub, if_true, if_false, eq_self, reduceIte, Bool.not_true, Bool.not_false, v_encN, v_rng1, v_rng2, Bool.false_eq_true, v_told, w_told1, w_told2, w_wipe0, w_wipe1, v_app, v_ext, v_put, v_drop, w_drop1, w_drop2, divN (show 0 < h.C by omega) (show h.C < 2 ^ 62 by omega)]
      refine ⟨_, .inl rfl, some (.int k2), ?_⟩
      rw [List.length_append, List.length_cons, List.length_nil, low, Nat.pow_succ, Nat.div_div_eq_div_mul])
    simp only [v_seq, w_nx, w_ret, w_exc, w_brk, w_cnt, v_next, v_ret, v_retN, w_rok, w_rexc, v_brk, v_cnt, v_raise, v_if, w_ift, w_iff, w_ifx, v_asg, w_aok, w_aexc, w_gok, v_par, w_par, v_for, w_for, v_run, w_end1, w_end2, w_end3, v_e1, v_e2, w_two, v_eF, v_nil, v_cons, w_cons, v_tup, v_lst, v_var, w_var, v_c, v_and, w_andt, w_andf, v_or, w_ort, w_orf, v_not, w_not, v_ifE, w_ifEt, w_ifEf, v_tB, w_tB, v_tTru, v_tAnd, w_tAndt, w_tAndf, v_tOr, w_tOrt, w_tOrf, v_tNot, w_tNot, v_tYes, v_gName, v_gTup, v_gLst, v_gCons, v_gNil, v_oNone, v_oSome, w_oSome, v_slice, w_slice, v_chain, w_chain, w_chaint, w_chainf, v_iSeq, w_items1, w_items2, w_trub, w_truN, w_truL, w_truT, R.bind_ok, R.bind_exc, R.bind_bad, List.length_cons, List.length_nil, List.map_cons, List.map_nil, List.replicate, List.cons_append, List.nil_append, List.getElem?_cons_zero, List.getElem?_cons_succ, List.set_cons_zero, List.set_cons_succ, List.set_nil, Nat.reduceAdd, Nat.reduceSub, if_true, if_false, eq_self, reduceIte, Bool.not_true, Bool.not_false, v_encN, v_rng1, v_rng2, Bool.false_eq_true, v_told, w_told1, w_told2, w_wipe0, w_wipe1, v_app, v_ext, v_put, v_drop, w_drop1, w_drop2, List.length_range, rev_L, low_rev, tuple_L, items_T]
    have dl := digits_len h.C h.P n
    rw [eComp_m encR PyData.bool (fun r => keeps r (digits h.C h.P n)) h.R (by simp only [v_seq, w_nx, w_ret, w_exc, w_brk, w_cnt, v_next, v_ret, v_retN, w_rok, w_rexc, v_brk, v_cnt, v_raise, v_if, w_ift, w_iff, w_ifx, v_asg, w_aok, w_aexc, w_gok, v_par, w_par, v_for, w_for, v_run, w_end1, w_end2, w_end3, v_e1, v_e2, w_two, v_eF, v_nil, v_cons, w_cons, v_tup, v_lst, v_var, w_var, v_c, v_and, w_andt, w_andf, v_or, w_ort, w_orf, v_not, w_not, v_ifE, w_ifEt, w_ifEf, v_tB, w_tB, v_tTru, v_tAnd, w_tAndt, w_tAndf, v_tOr, w_tOrt, w_tOrf, v_tNot, w_tNot, v_tYes, v_gName, v_gTup, v_gLst, v_gCons, v_gNil, v_oNone, v_oSome, w_oSome, v_slice, w_slice, v_chain, w_chain, w_chaint, w_chainf, v_iSeq, w_items1, w_items2, w_trub, w_truN, w_truL, w_truT, R.bind_ok, R.bind_exc, R.bind_bad, List.length_cons, List.length_nil, List.map_cons, List.map_nil, List.replicate, List.cons_append, List.nil_append, List.getElem?_cons_zero, List.getElem?_cons_succ, List.set_cons_zero, List.set_cons_succ, List.set_nil, Nat.reduceAdd, Nat.reduceSub, if_true, if_false, eq_self, reduceIte, Bool.not_true, Bool.not_false, v_encN, v_rng1, v_rng2, Bool.false_eq_true, v_told, w_told1, w_told2, w_wipe0, w_wipe1, v_app, v_ext, v_put, v_drop, w_drop1, w_drop2, items_T]) (by simp [lim]; omega) fun r hr => ⟨_, rfl, by
      simp only [v_seq, w_nx, w_ret, w_exc, w_brk, w_cnt, v_next, v_ret, v_retN, w_rok, w_rexc, v_brk, v_cnt, v_raise, v_if, w_ift, w_iff, w_ifx, v_asg, w_aok, w_aexc, w_gok, v_par, w_par, v_for, w_for, v_run, w_end1, w_end2, w_end3, v_e1, v_e2, w_two, v_eF, v_nil, v_cons, w_cons, v_tup, v_lst, v_var, w_var, v_c, v_and, w_andt, w_andf, v_or, w_ort, w_orf, v_not, w_not, v_ifE, w_ifEt, w_ifEf, v_tB, w_tB, v_tTru, v_tAnd, w_tAndt, w_tAndf, v_tOr, w_tOrt, w_tOrf, v_tNot, w_tNot, v_tYes, v_gName, v_gTup, v_gLst, v_gCons, v_gNil, v_oNone, v_oSome, w_oSome, v_slice, w_slice, v_chain, w_chain, w_chaint, w_chainf, v_iSeq, w_items1, w_items2, w_trub, w_truN, w_truL, w_truT, R.bind_ok, R.bind_exc, R.bind_bad, List.length_cons, List.length_nil, List.map_cons, List.map_nil, List.replicate, List.cons_append, List.nil_append, List.getElem?_cons_zero, List.getElem?_cons_succ, List.set_cons_zero, List.set_cons_succ, List.set_nil, Nat.reduceAdd, Nat.reduceSub, if_true, if_false, eq_self, reduceIte, Bool.not_true, Bool.not_false, v_encN, v_rng1, v_rng2, Bool.false_eq_true, v_told, w_told1, w_told2, w_wipe0, w_wipe1, v_app, v_ext, v_put, v_drop, w_drop1, w_drop2]
      exact law_keeps_eq (rs r hr) dl (by simp [lim]; omega)⟩]
    simp only [v_seq, w_nx, w_ret, w_exc, w_brk, w_cnt, v_next, v_ret, v_retN, w_rok, w_rexc, v_brk, v_cnt, v_raise, v_if, w_ift, w_iff, w_ifx, v_asg, w_aok, w_aexc, w_gok, v_par, w_par, v_for, w_for, v_run, w_end1, w_end2, w_end3, v_e1, v_e2, w_two, v_eF, v_nil, v_cons, w_cons, v_tup, v_lst, v_var, w_var, v_c, v_and, w_andt, w_andf, v_or, w_ort, w_orf, v_not, w_not, v_ifE, w_ifEt, w_ifEf, v_tB, w_tB, v_tTru, v_tAnd, w_tAndt, w_tAndf, v_tOr, w_tOrt, w_tOrf, v_tNot, w_tNot, v_tYes, v_gName, v_gTup, v_gLst, v_gCons, v_gNil, v_oNone, v_oSome, w_oSome, v_slice, w_slice, v_chain, w_chain, w_chaint, w_chainf, v_iSeq, w_items1, w_items2, w_trub, w_truN, w_truL, w_truT, R.bind_ok, R.bind_exc, R.bind_bad, List.length_cons, List.length_nil, List.map_cons, List.map_nil, List.replicate, List.cons_append, List.nil_append, List.getElem?_cons_zero, List.getElem?_cons_succ, List.set_cons_zero, List.set_cons_succ, List.set_nil, Nat.reduceAdd, Nat.reduceSub, if_true, if_false, eq_self, reduceIte, Bool.not_true, Bool.not_false, v_encN, v_rng1, v_rng2, Bool.false_eq_true, v_told, w_told1, w_told2, w_wipe0, w_wipe1, v_app, v_ext, v_put, v_drop, w_drop1, w_drop2, all_L]
    rw [List.map_append, List.map_cons, List.map_nil, List.filter_append, List.filter_cons, List.filter_nil]
    rw [show (h.R.all fun r => keeps r (digits h.C h.P n)) = letB h (digits h.C h.P n) from rfl]
    cases hb : letB h (digits h.C h.P n)
    · simp only [v_seq, w_nx, w_ret, w_exc, w_brk, w_cnt, v_next, v_ret, v_retN, w_rok, w_rexc, v_brk, v_cnt, v_raise, v_if, w_ift, w_iff, w_ifx, v_asg, w_aok, w_aexc, w_gok, v_par, w_par, v_for, w_for, v_run, w_end1, w_end2, w_end3, v_e1, v_e2, w_two, v_eF, v_nil, v_cons, w_cons, v_tup, v_lst, v_var, w_var, v_c, v_and, w_andt, w_andf, v_or, w_ort, w_orf, v_not, w_not, v_ifE, w_ifEt, w_ifEf, v_tB, w_tB, v_tTru, v_tAnd, w_tAndt, w_tAndf, v_tOr, w_tOrt, w_tOrf, v_tNot, w_tNot, v_tYes, v_gName, v_gTup, v_gLst, v_gCons, v_gNil, v_oNone, v_oSome, w_oSome, v_slice, w_slice, v_chain, w_chain, w_chaint, w_chainf, v_iSeq, w_items1, w_items2, w_trub, w_truN, w_truL, w_truT, R.bind_ok, R.bind_exc, R.bind_bad, List.length_cons, List.length_nil, List.map_cons, List.map_nil, List.replicate, List.cons_append, List.nil_append, List.getElem?_cons_zero, List.getElem?_cons_succ, List.set_cons_zero, List.set_cons_succ, List.set_nil, Nat.reduceAdd, Nat.reduceSub, if_true, if_false, eq_self, reduceIte, Bool.not_true, Bool.not_false, v_encN, v_rng1, v_rng2, Bool.false_eq_true, v_told, w_told1, w_told2, w_wipe0, w_wipe1, v_app, v_ext, v_put, v_drop, w_drop1, w_drop2]
      exact ⟨_, .inl rfl, _, _, _, _, _, by rw [List.append_nil]⟩
    · have := w_app (i := 4) (f := encP) (xs := (pre.map (digits h.C h.P)).filter (letB h)) (x := digits h.C h.P n) (ρ := [some (.tuple [.int h.P, .int h.C, encT encR h.R]), some (.int h.P), some (.int h.C), some (encT encR h.R), some (encL encP ((pre.map (digits h.C h.P)).filter (letB h))), some (.int n), some (encT encN (digits h.C h.P n)), some (.int (n / h.C ^ h.P : Nat)), d, e]) (by simp [lim]; simp at hl hfl; omega)
      rw [encP_T] at this
      simp only [v_seq, w_nx, w_ret, w_exc, w_brk, w_cnt, v_next, v_ret, v_retN, w_rok, w_rexc, v_brk, v_cnt, v_raise, v_if, w_ift, w_iff, w_ifx, v_asg, w_aok, w_aexc, w_gok, v_par, w_par, v_for, w_for, v_run, w_end1, w_end2, w_end3, v_e1, v_e2, w_two, v_eF, v_nil, v_cons, w_cons, v_tup, v_lst, v_var, w_var, v_c, v_and, w_andt, w_andf, v_or, w_ort, w_orf, v_not, w_not, v_ifE, w_ifEt, w_ifEf, v_tB, w_tB, v_tTru, v_tAnd, w_tAndt, w_tAndf, v_tOr, w_tOrt, w_tOrf, v_tNot, w_tNot, v_tYes, v_gName, v_gTup, v_gLst, v_gCons, v_gNil, v_oNone, v_oSome, w_oSome, v_slice, w_slice, v_chain, w_chain, w_chaint, w_chainf, v_iSeq, w_items1, w_items2, w_trub, w_truN, w_truL, w_truT, R.bind_ok, R.bind_exc, R.bind_bad, List.length_cons, List.length_nil, List.map_cons, List.map_nil, List.replicate, List.cons_append, List.nil_append, List.getElem?_cons_zero, List.getElem?_cons_succ, List.set_cons_zero, List.set_cons_succ, List.set_nil, Nat.reduceAdd, Nat.reduceSub, if_true, if_false, eq_self, reduceIte, Bool.not_true, Bool.not_false, v_encN, v_rng1, v_rng2, Bool.false_eq_true, v_told, w_told1, w_told2, w_wipe0, w_wipe1, v_app, v_ext, v_put, v_drop, w_drop1, w_drop2, this]
      exact ⟨_, .inl rfl, _, _, _, _, _, by rfl⟩)
  simp only [v_seq, w_nx, w_ret, w_exc, w_brk, w_cnt, v_next, v_ret, v_retN, w_rok, w_rexc, v_brk, v_cnt, v_raise, v_if, w_ift, w_iff, w_ifx, v_asg, w_aok, w_aexc, w_gok, v_par, w_par, v_for, w_for, v_run, w_end1, w_end2, w_end3, v_e1, v_e2, w_two, v_eF, v_nil, v_cons, w_cons, v_tup, v_lst, v_var, w_var, v_c, v_and, w_andt, w_andf, v_or, w_ort, w_orf, v_not, w_not, v_ifE, w_ifEt, w_ifEf, v_tB, w_tB, v_tTru, v_tAnd, w_tAndt, w_tAndf, v_tOr, w_tOrt, w_tOrf, v_tNot, w_tNot, v_tYes, v_gName, v_gTup, v_gLst, v_gCons, v_gNil, v_oNone, v_oSome, w_oSome, v_slice, w_slice, v_chain, w_chain, w_chaint, w_chainf, v_iSeq, w_items1, w_items2, w_trub, w_truN, w_truL, w_truT, R.bind_ok, R.bind_exc, R.bind_bad, List.length_cons, List.length_nil, List.map_cons, List.map_nil, List.replicate, List.cons_append, List.nil_append, List.getElem?_cons_zero, List.getElem?_cons_succ, List.set_cons_zero, List.set_cons_succ, List.set_nil, Nat.reduceAdd, Nat.reduceSub, if_true, if_false, eq_self, reduceIte, Bool.not_true, Bool.not_false, v_encN, v_rng1, v_rng2, Bool.false_eq_true, v_told, w_told1, w_told2, w_wipe0, w_wipe1, v_app, v_ext, v_put, v_drop, w_drop1, w_drop2, plansL, rows_digits (show 0 < h.C by omega)]
end PG
/-! PM11 -/
set_option Elab.async false
set_option linter.all false
set_option maxRecDepth 100000
set_option maxHeartbeats 2000000
/-! PM11: small things that the laws have in common. -/
namespace PG
open DL
open PySem (PyData Str)
theorem script_len (ns : List Int) : dLen (scriptD ns) = .ok (.int (ns.length : Int)) := by simp [scriptD, dLen]
theorem cells_min (n m : Nat) : dMin2 (.int n) (.int (m : Int)) = .ok (.int (min n m : Nat)) := by simp only [dMin2]; congr 2; split <;> omega
theorem cells_max (m : Nat) : dMax2 (.int 1) (.int (m : Int)) = .ok (.int (max 1 m : Nat)) := by simp only [dMax2]; congr 2; split <;> omega
theorem cells_rng {n m : Nat} (h : n ≤ 1000) : rRng1 (.ok (.int (max 1 (min n m) : Nat))) = .ok ((List.range (max 1 (min n m))).map encN) := w_rng1 (by simp [lim]; omega)
theorem ne_strs {x y : Str} (hx : shaped (.str x) = true) (hy : shaped (.str y) = true) : dNe (.str x) (.str y) = .ok (.bool (!(x == y))) := by
  simp [dNe, hx, hy, PyData.eqv]
theorem ne_self {x : Str} (hx : shaped (.str x) = true) : dNe (.str x) (.str x) = .ok (.bool false) := by rw [ne_strs hx hx]; simp
theorem min_N (a b : Nat) : dMin2 (.int a) (.int b) = .ok (.int (min a b : Nat)) := cells_min a b
/-- an item at a drawn place -/
theorem at_drawn {α : Type} {f : α → D} {xs : List α} (h : xs ≠ []) (z : Int) : ∃ x ∈ xs, ∃ k : Nat, dMod (.int z) (.int (xs.length : Int)) = .ok (.int k) ∧ dIdx (encL f xs) (.int k) = .ok (f x) := by
  have hl : 0 < xs.length := List.length_pos_iff.mpr h
  obtain ⟨k, ek, lk⟩ := modN (i := z) (n := xs.length) hl
  exact ⟨xs[k], List.getElem_mem lk, k, by rw [mod_int (by omega), ek], idx_L lk⟩
theorem inP (p : Plan) (xs : List Plan) : dIn (encP p) (encL encP xs) = .ok (.bool (decide (p ∈ xs))) := by
  rw [in_good good_P (by omega)]
  have e : ∀ (i j : Decidable (p ∈ xs)), @decide _ i = @decide _ j := fun i j => by congr
  rw [e]
theorem ninP (p : Plan) (xs : List Plan) : dNotIn (encP p) (encL encP xs) = .ok (.bool (!decide (p ∈ xs))) := by
  rw [notIn_good good_P (by omega)]
  have e : ∀ (i j : Decidable (p ∈ xs)), @decide _ i = @decide _ j := fun i j => by congr
  rw [e]
theorem eqP (p q : Plan) : dEq (encP p) (encP q) = .ok (.bool (decide (p = q))) := by
  rw [eq_good good_P (by omega)]
theorem neP (p q : Plan) : dNe (encP p) (encP q) = .ok (.bool (!decide (p = q))) := by
  rw [ne_good good_P (by omega)]
theorem eqLP (p q : List Plan) : dEq (encL encP p) (encL encP q) = .ok (.bool (decide (p = q))) := by
  rw [eq_good (good_L good_P) (by omega)]
theorem neLP (p q : List Plan) : dNe (encL encP p) (encL encP q) = .ok (.bool (!decide (p = q))) := by
  rw [ne_good (good_L good_P) (by omega)]
theorem ne_refl {α : Type} {f : α → D} {n : Nat} (h : Good f n) (hn : n ≤ 64) (a : α) : dNe (f a) (f a) = .ok (.bool false) := by
  rw [dNe, if_pos ⟨h.shaped hn a, h.shaped hn a⟩, (h.inj a a).mpr rfl]
  rfl
theorem broken_nil {h : House} {p : Plan} (hp : isPlan h p) : brokenL h p = [] ↔ p ∈ plansL h := by
  rw [mem_plansL, brokenL, List.map_eq_nil_iff, List.filter_eq_nil_iff]
  constructor
  · intro q
    refine ⟨hp, List.all_eq_true.mpr fun r hr => ?_⟩
    obtain ⟨i, hi, e⟩ := List.getElem_of_mem hr
    have m : (r, i) ∈ h.R.zipIdx := by
      rw [List.mem_zipIdx_iff_getElem?, List.getElem?_eq_getElem hi, e]
    simpa using q _ m
  · rintro ⟨_, q⟩ x hx
    have := List.all_eq_true.mp q x.1 (mem_zip hx)
    simp [this]
theorem broken_badplan {h : House} {x : D} {n L : Nat} (k : h.ok) (hx : pl n L x = true) (hL : L ≤ lim) (hb : planB h x = false) : f_broken [encH h, x] = .exc .plan := by
  simp only [f_broken, v_seq, w_nx, w_ret, w_exc, w_brk, w_cnt, v_next, v_ret, v_retN, w_rok, w_rexc, v_brk, v_cnt, v_raise, v_if, w_ift, w_iff, w_ifx, v_asg, w_aok, w_aexc, w_gok, v_par, w_par, v_for, w_for, v_run, w_end1, w_end2, w_end3, v_e1, v_e2, w_two, v_eF, v_nil, v_cons, w_cons, v_tup, v_lst, v_var, w_var, v_c, v_and, w_andt, w_andf, v_or, w_ort, w_orf, v_not, w_not, v_ifE, w_ifEt, w_ifEf, v_tB, w_tB, v_tTru, v_tAnd, w_tAndt, w_tAndf, v_tOr, w_tOrt, w_tOrf, v_tNot, w_tNot, v_tYes, v_gName, v_gTup, v_gLst, v_gCons, v_gNil, v_oNone, v_oSome, w_oSome, v_slice, w_slice, v_chain, w_chain, w_chaint, w_chainf, v_iSeq, w_items1, w_items2, w_trub, w_truN, w_truL, w_truT, R.bind_ok, R.bind_exc, R.bind_bad, List.length_cons, List.length_nil, List.map_cons, List.map_nil, List.replicate, List.cons_append, List.nil_append, List.getElem?_cons_zero, List.getElem?_cons_succ, List.set_cons_zero, List.set_cons_succ, List.set_nil, Nat.reduceAdd, Nat.reduceSub, if_true, if_false, eq_self, reduceIte, Bool.not_true, Bool.not_false, v_encN, v_rng1, v_rng2, Bool.false_eq_true, v_told, w_told1, w_told2, w_wipe0, w_wipe1, v_app, v_ext, v_put, v_drop, w_drop1, w_drop2, need_ok k, need_plan_eq k hx hL, hb]
theorem broken_badhouse {y x : D} {n L : Nat} (hy : pl n L y = true) (hn : n ≤ 60) (hL : L ≤ lim) (hb : houseB y = false) : f_broken [y, x] = .exc .house := by
  simp only [f_broken, v_seq, w_nx, w_ret, w_exc, w_brk, w_cnt, v_next, v_ret, v_retN, w_rok, w_rexc, v_brk, v_cnt, v_raise, v_if, w_ift, w_iff, w_ifx, v_asg, w_aok, w_aexc, w_gok, v_par, w_par, v_for, w_for, v_run, w_end1, w_end2, w_end3, v_e1, v_e2, w_two, v_eF, v_nil, v_cons, w_cons, v_tup, v_lst, v_var, w_var, v_c, v_and, w_andt, w_andf, v_or, w_ort, w_orf, v_not, w_not, v_ifE, w_ifEt, w_ifEf, v_tB, w_tB, v_tTru, v_tAnd, w_tAndt, w_tAndf, v_tOr, w_tOrt, w_tOrf, v_tNot, w_tNot, v_tYes, v_gName, v_gTup, v_gLst, v_gCons, v_gNil, v_oNone, v_oSome, w_oSome, v_slice, w_slice, v_chain, w_chain, w_chaint, w_chainf, v_iSeq, w_items1, w_items2, w_trub, w_truN, w_truL, w_truT, R.bind_ok, R.bind_exc, R.bind_bad, List.length_cons, List.length_nil, List.map_cons, List.map_nil, List.replicate, List.cons_append, List.nil_append, List.getElem?_cons_zero, List.getElem?_cons_succ, List.set_cons_zero, List.set_cons_succ, List.set_nil, Nat.reduceAdd, Nat.reduceSub, if_true, if_false, eq_self, reduceIte, Bool.not_true, Bool.not_false, v_encN, v_rng1, v_rng2, Bool.false_eq_true, v_told, w_told1, w_told2, w_wipe0, w_wipe1, v_app, v_ext, v_put, v_drop, w_drop1, w_drop2, need_eq hy hn hL, hb]
theorem rows_ne {C P : Nat} (hC : 1 ≤ C) : rows C P ≠ [] := fun e => by
  have := rows_length (C := C) P
  rw [e, List.length_nil] at this
  have := Nat.pow_pos (n := P) hC
  omega
end PG
/-! PP2 -/
set_option Elab.async false
set_option linter.all false
set_option maxRecDepth 100000
set_option maxHeartbeats 1000000
/-! PP2: how far two plans are apart, single changes between them. -/
namespace PG
def diffs (p q : Plan) : List Nat := (List.range p.length).filter fun i => !(gd p i == gd q i)
def apart (p q : Plan) : Nat := (diffs p q).length
theorem gd_cons0 (a : Nat) (p : Plan) : gd (a :: p) 0 = a := rfl
theorem gd_consS (a : Nat) (p : Plan) (i : Nat) : gd (a :: p) (i + 1) = gd p i := by simp [gd]
theorem gd_get {p : Plan} {i : Nat} (h : i < p.length) : gd p i = p[i] := by simp [gd, h]
theorem gd_set_eq {p : Plan} {i c : Nat} (h : i < p.length) : gd (p.set i c) i = c := by simp [gd, h]
theorem gd_set_ne {p : Plan} {i j c : Nat} (h : j ≠ i) : gd (p.set i c) j = gd p j := by
  simp only [gd, List.getD_eq_getElem?_getD]
  rw [List.getElem?_set_ne (Ne.symm h)]
theorem ext_gd {p q : Plan} (hl : p.length = q.length) (h : ∀ i, i < p.length → gd p i = gd q i) : p = q := by
  refine List.ext_getElem hl fun i h1 h2 => ?_
  have := h i h1
  rwa [gd_get h1, gd_get h2] at this
theorem filter_eq_one {n i : Nat} (h : i < n) : ((List.range n).filter fun j => decide (j = i)) = [i] := by
  induction n with
  | zero => omega
  | succ n ih =>
    rw [List.range_succ, List.filter_append]
    by_cases e : i = n
    · subst e
      have : ((List.range i).filter fun j => decide (j = i)) = [] := List.filter_eq_nil_iff.mpr fun j hj => by
        have := List.mem_range.mp hj
        simp; omega
      rw [this]; simp
    · rw [ih (by omega)]
      have : ¬ n = i := fun z => e z.symm
      simp [this]
theorem diffs_set {p : Plan} {i c : Nat} (h : i < p.length) (hc : c ≠ gd p i) : diffs p (p.set i c) = [i] := by
  have e : diffs p (p.set i c) = (List.range p.length).filter fun j => decide (j = i) := by
    unfold diffs
    refine List.filter_congr fun j hj => ?_
    by_cases hj' : j = i
    · subst hj'
      rw [gd_set_eq h]
      simp [Ne.symm hc]
    · rw [gd_set_ne hj']
      simp [hj']
  rw [e, filter_eq_one h]
theorem diffs_mem {p q : Plan} {i : Nat} : i ∈ diffs p q ↔ i < p.length ∧ gd p i ≠ gd q i := by
  unfold diffs
  rw [List.mem_filter, List.mem_range]
  simp
theorem diffs_one {p q : Plan} {i : Nat} (hl : p.length = q.length) (h : diffs p q = [i]) : i < p.length ∧ gd p i ≠ gd q i ∧ q = p.set i (gd q i) := by
  have hi := diffs_mem.mp (show i ∈ diffs p q by rw [h]; simp)
  refine ⟨hi.1, hi.2, ext_gd (by simp [hl]) fun j hj => ?_⟩
  by_cases hj' : j = i
  · subst hj'
    rw [gd_set_eq hi.1]
  · rw [gd_set_ne hj']
    by_cases e : gd p j = gd q j
    · exact e.symm
    · have : j ∈ diffs p q := diffs_mem.mpr ⟨by omega, e⟩
      rw [h] at this
      exact absurd (List.mem_singleton.mp this) hj'
theorem diffs_comm {p q : Plan} (hl : p.length = q.length) : diffs p q = diffs q p := by
  unfold diffs
  rw [hl]
  refine List.filter_congr fun i _ => ?_
  rw [Bool.beq_comm]
theorem apart_comm {p q : Plan} (hl : p.length = q.length) : apart p q = apart q p := by rw [apart, apart, diffs_comm hl]
theorem apart_self (p : Plan) : apart p p = 0 := by
  rw [apart, diffs]
  simp
theorem apart_zero {p q : Plan} (hl : p.length = q.length) (h : apart p q = 0) : p = q := by
  refine ext_gd hl fun i hi => ?_
  by_cases e : gd p i = gd q i
  · exact e
  · have : i ∈ diffs p q := diffs_mem.mpr ⟨hi, e⟩
    rw [List.length_eq_zero_iff.mp h] at this
    cases this
/-- the change between two plans one change apart -/
def stepC (p q : Plan) : Chg := ((diffs p q).headD 0, gd q ((diffs p q).headD 0))
theorem apart_one {p q : Plan} (h : apart p q = 1) : ∃ i, diffs p q = [i] := List.length_eq_one_iff.mp h
theorem stepC_of {p q : Plan} {i : Nat} (h : diffs p q = [i]) : stepC p q = (i, gd q i) := by rw [stepC, h]; rfl
theorem after_step {p q : Plan} (hl : p.length = q.length) (h : apart p q = 1) : after p (stepC p q) = q := by
  obtain ⟨i, hi⟩ := apart_one h
  rw [stepC_of hi]
  exact (diffs_one hl hi).2.2.symm
theorem step_after {p : Plan} {c : Chg} (h : c.1 < p.length) (hc : c.2 ≠ gd p c.1) : stepC p (after p c) = c := by
  have e : diffs p (after p c) = [c.1] := diffs_set h hc
  rw [stepC_of e]
  show (c.1, gd (p.set c.1 c.2) c.1) = c
  rw [gd_set_eq h]
theorem apart_after {p : Plan} {c : Chg} (h : c.1 < p.length) (hc : c.2 ≠ gd p c.1) : apart p (after p c) = 1 := by
  show (diffs p (p.set c.1 c.2)).length = 1
  rw [diffs_set h hc]
  rfl
theorem after_len {p : Plan} {c : Chg} : (after p c).length = p.length := by simp [after]
theorem after_plan {h : House} {p : Plan} {c : Chg} (hp : isPlan h p) (hc : c.2 < h.C) : isPlan h (after p c) := by
  refine ⟨by rw [after_len]; exact hp.1, fun d hd => ?_⟩
  rcases List.mem_or_eq_of_mem_set hd with hd | rfl
  · exact hp.2 d hd
  · exact hc
theorem gd_lt {h : House} {p : Plan} (hp : isPlan h p) {i : Nat} (hi : i < h.P) : gd p i < h.C := by
  rw [gd_get (by rw [hp.1]; exact hi)]
  exact hp.2 _ (List.getElem_mem _)
theorem mem_lch {h : House} {p : Plan} {c : Chg} (hp : isPlan h p) : c ∈ lchanges h p ↔ c.1 < h.P ∧ c.2 < h.C ∧ c.2 ≠ gd p c.1 ∧ after p c ∈ plansL h := by
  obtain ⟨i, d⟩ := c
  rw [mem_lchanges, mem_plansL]
  constructor
  · rintro ⟨h1, h2, h3, h4⟩
    exact ⟨h1, h2, h3, after_plan hp h2, h4⟩
  · rintro ⟨h1, h2, h3, _, h4⟩
    exact ⟨h1, h2, h3, h4⟩
theorem lch_after {h : House} {p : Plan} {c : Chg} (hp : isPlan h p) (hc : c ∈ lchanges h p) : after p c ∈ plansL h ∧ apart p (after p c) = 1 ∧ stepC p (after p c) = c := by
  obtain ⟨h1, h2, h3, h4⟩ := (mem_lch hp).mp hc
  have hl : c.1 < p.length := by rw [hp.1]; exact h1
  exact ⟨h4, apart_after hl h3, step_after hl h3⟩
theorem step_lch {h : House} {p q : Plan} (hp : isPlan h p) (hq : q ∈ plansL h) (ha : apart p q = 1) : stepC p q ∈ lchanges h p ∧ after p (stepC p q) = q := by
  have iq := (mem_plansL.mp hq).1
  have hl : p.length = q.length := hp.1.trans iq.1.symm
  obtain ⟨i, hi⟩ := apart_one ha
  obtain ⟨h1, h2, h3⟩ := diffs_one hl hi
  have e := after_step hl ha
  refine ⟨(mem_lch hp).mpr ?_, e⟩
  rw [e]
  rw [stepC_of hi]
  have : i < h.P := by rw [← hp.1]; exact h1
  exact ⟨this, gd_lt iq this, fun z => h2 z.symm, hq⟩
/-- the plans one change away -/
def nearL (every : List Plan) (p : Plan) : List Plan := every.filter fun q => decide (apart p q = 1)
theorem mem_near {h : House} {p q : Plan} (hp : isPlan h p) : q ∈ nearL (plansL h) p ↔ ∃ c ∈ lchanges h p, after p c = q := by
  rw [nearL, List.mem_filter, decide_eq_true_iff]
  constructor
  · rintro ⟨h1, h2⟩
    obtain ⟨a, b⟩ := step_lch hp h1 h2
    exact ⟨_, a, b⟩
  · rintro ⟨c, hc, rfl⟩
    obtain ⟨a, b, _⟩ := lch_after hp hc
    exact ⟨a, b⟩
/-! ### changes in order -/
def ltC (a b : Chg) : Bool := if a.1 = b.1 then decide (a.2 < b.2) else decide (a.1 < b.1)
theorem ltC_irr (a : Chg) : ltC a a = false := by simp [ltC]
theorem ltC_trans {a b c : Chg} (h1 : ltC a b = true) (h2 : ltC b c = true) : ltC a c = true := by
  unfold ltC at *
  split at h1 <;> split at h2 <;> split <;> simp at * <;> omega
theorem ltC_asym {a b : Chg} (h1 : ltC a b = true) : ltC b a = false := by
  cases h : ltC b a
  · rfl
  · have := ltC_trans h1 h
    rw [ltC_irr] at this
    cases this
theorem ltC_tri {a b : Chg} (h1 : ltC a b = false) (h2 : ltC b a = false) : a = b := by
  obtain ⟨a1, a2⟩ := a
  obtain ⟨b1, b2⟩ := b
  unfold ltC at *
  simp at *
  split at h1 <;> split at h2 <;> simp_all <;> omega
theorem lchanges_rising (h : House) (p : Plan) : (lchanges h p).Pairwise fun a b => ltC a b = true := by
  unfold lchanges
  rw [List.flatMap_def]
  refine List.pairwise_flatten.mpr ⟨?_, ?_⟩
  · intro l hl
    obtain ⟨i, _, rfl⟩ := List.mem_map.mp hl
    refine List.pairwise_map.mpr (List.Pairwise.sublist List.filter_sublist (List.pairwise_lt_range.imp fun h => ?_))
    simp [ltC, h]
  · refine List.pairwise_map.mpr (List.pairwise_lt_range.imp fun {i j} hij => ?_)
    intro a ha b hb
    obtain ⟨c, _, rfl⟩ := List.mem_map.mp ha
    obtain ⟨d, _, rfl⟩ := List.mem_map.mp hb
    have : ¬ i = j := by omega
    simp [ltC, this, hij]
theorem lchanges_nodup (h : House) (p : Plan) : (lchanges h p).Nodup := (lchanges_rising h p).imp fun h e => by
  subst e
  rw [ltC_irr] at h
  cases h
/-- two rising lists of the same things are one -/
theorem rising_unique {α : Type} {lt : α → α → Bool} (irr : ∀ a, lt a a = false) (tr : ∀ {a b c}, lt a b = true → lt b c = true → lt a c = true) : ∀ {l m : List α}, l.Pairwise (fun a b => lt a b = true) → m.Pairwise (fun a b => lt a b = true) → (∀ x, x ∈ l ↔ x ∈ m) → l = m
  | [], [], _, _, _ => rfl
  | [], b :: m, _, _, h => by have := (h b).mpr List.mem_cons_self; cases this
  | a :: l, [], _, _, h => by have := (h a).mp List.mem_cons_self; cases this
  | a :: l, b :: m, h1, h2, h => by
    obtain ⟨a1, a2⟩ := List.pairwise_cons.mp h1
    obtain ⟨b1, b2⟩ := List.pairwise_cons.mp h2
    have e : a = b := by
      rcases List.mem_cons.mp ((h a).mp List.mem_cons_self) with e | e
      · exact e
      · rcases List.mem_cons.mp ((h b).mpr List.mem_cons_self) with e2 | e2
        · exact e2.symm
        · have := tr (b1 a e) (a1 b e2)
          rw [irr] at this
          cases this
    subst e
    congr 1
    refine rising_unique irr tr a2 b2 fun x => ?_
    constructor
    · intro hx
      rcases List.mem_cons.mp ((h x).mp (List.mem_cons_of_mem _ hx)) with e | e
      · subst e
        have := a1 x hx
        rw [irr] at this; cases this
      · exact e
    · intro hx
      rcases List.mem_cons.mp ((h x).mpr (List.mem_cons_of_mem _ hx)) with e | e
      · subst e
        have := b1 x hx
        rw [irr] at this; cases this
      · exact e
end PG
/-! PM12 -/
set_option Elab.async false
set_option linter.all false
set_option maxRecDepth 100000
set_option maxHeartbeats 2000000
/-! PM12: changes, as the program reckons them. -/
namespace PG
open DL
open PySem (PyData Str)
def encC : Chg → D := enc2 encN encN
theorem good_C : Good encC 1 := good_2 good_N good_N
theorem encC_eq (c : Chg) : encC c = .tuple [.int c.1, .int c.2] := rfl
theorem need_let_ok {h : House} {p : Plan} (k : h.ok) (hp : p ∈ plansL h) : f_need_let [encH h, encP p] = .ok .none := by
  obtain ⟨h1, h2⟩ := mem_plansL.mp hp
  simp only [f_need_let, v_seq, w_nx, w_ret, w_exc, w_brk, w_cnt, v_next, v_ret, v_retN, w_rok, w_rexc, v_brk, v_cnt, v_raise, v_if, w_ift, w_iff, w_ifx, v_asg, w_aok, w_aexc, w_gok, v_par, w_par, v_for, w_for, v_run, w_end1, w_end2, w_end3, v_e1, v_e2, w_two, v_eF, v_nil, v_cons, w_cons, v_tup, v_lst, v_var, w_var, v_c, v_and, w_andt, w_andf, v_or, w_ort, w_orf, v_not, w_not, v_ifE, w_ifEt, w_ifEf, v_tB, w_tB, v_tTru, v_tAnd, w_tAndt, w_tAndf, v_tOr, w_tOrt, w_tOrf, v_tNot, w_tNot, v_tYes, v_gName, v_gTup, v_gLst, v_gCons, v_gNil, v_oNone, v_oSome, w_oSome, v_slice, w_slice, v_chain, w_chain, w_chaint, w_chainf, v_iSeq, w_items1, w_items2, w_trub, w_truN, w_truL, w_truT, R.bind_ok, R.bind_exc, R.bind_bad, List.length_cons, List.length_nil, List.map_cons, List.map_nil, List.replicate, List.cons_append, List.nil_append, List.getElem?_cons_zero, List.getElem?_cons_succ, List.set_cons_zero, List.set_cons_succ, List.set_nil, Nat.reduceAdd, Nat.reduceSub, if_true, if_false, eq_self, reduceIte, Bool.not_true, Bool.not_false, v_encN, v_rng1, v_rng2, Bool.false_eq_true, v_told, w_told1, w_told2, w_wipe0, w_wipe1, v_app, v_ext, v_put, v_drop, w_drop1, w_drop2, need_plan_ok k h1, is_let_eq k h1.1, h2]
theorem need_let_no {h : House} {x : D} {n L : Nat} (k : h.ok) (hx : pl n L x = true) (hL : L ≤ lim) (hb : ∀ p, x = encP p → p ∉ plansL h) : f_need_let [encH h, x] = .exc .plan := by
  cases e : planB h x
  · simp only [f_need_let, v_seq, w_nx, w_ret, w_exc, w_brk, w_cnt, v_next, v_ret, v_retN, w_rok, w_rexc, v_brk, v_cnt, v_raise, v_if, w_ift, w_iff, w_ifx, v_asg, w_aok, w_aexc, w_gok, v_par, w_par, v_for, w_for, v_run, w_end1, w_end2, w_end3, v_e1, v_e2, w_two, v_eF, v_nil, v_cons, w_cons, v_tup, v_lst, v_var, w_var, v_c, v_and, w_andt, w_andf, v_or, w_ort, w_orf, v_not, w_not, v_ifE, w_ifEt, w_ifEf, v_tB, w_tB, v_tTru, v_tAnd, w_tAndt, w_tAndf, v_tOr, w_tOrt, w_tOrf, v_tNot, w_tNot, v_tYes, v_gName, v_gTup, v_gLst, v_gCons, v_gNil, v_oNone, v_oSome, w_oSome, v_slice, w_slice, v_chain, w_chain, w_chaint, w_chainf, v_iSeq, w_items1, w_items2, w_trub, w_truN, w_truL, w_truT, R.bind_ok, R.bind_exc, R.bind_bad, List.length_cons, List.length_nil, List.map_cons, List.map_nil, List.replicate, List.cons_append, List.nil_append, List.getElem?_cons_zero, List.getElem?_cons_succ, List.set_cons_zero, List.set_cons_succ, List.set_nil, Nat.reduceAdd, Nat.reduceSub, if_true, if_false, eq_self, reduceIte, Bool.not_true, Bool.not_false, v_encN, v_rng1, v_rng2, Bool.false_eq_true, v_told, w_told1, w_told2, w_wipe0, w_wipe1, v_app, v_ext, v_put, v_drop, w_drop1, w_drop2, need_plan_eq k hx hL, e]
  · obtain ⟨p, rfl, hp⟩ := planB_iff.mp e
    have h2 : letB h p = false := by
      cases h2 : letB h p
      · rfl
      · exact absurd (mem_plansL.mpr ⟨hp, h2⟩) (hb p rfl)
    simp only [f_need_let, v_seq, w_nx, w_ret, w_exc, w_brk, w_cnt, v_next, v_ret, v_retN, w_rok, w_rexc, v_brk, v_cnt, v_raise, v_if, w_ift, w_iff, w_ifx, v_asg, w_aok, w_aexc, w_gok, v_par, w_par, v_for, w_for, v_run, w_end1, w_end2, w_end3, v_e1, v_e2, w_two, v_eF, v_nil, v_cons, w_cons, v_tup, v_lst, v_var, w_var, v_c, v_and, w_andt, w_andf, v_or, w_ort, w_orf, v_not, w_not, v_ifE, w_ifEt, w_ifEf, v_tB, w_tB, v_tTru, v_tAnd, w_tAndt, w_tAndf, v_tOr, w_tOrt, w_tOrf, v_tNot, w_tNot, v_tYes, v_gName, v_gTup, v_gLst, v_gCons, v_gNil, v_oNone, v_oSome, w_oSome, v_slice, w_slice, v_chain, w_chain, w_chaint, w_chainf, v_iSeq, w_items1, w_items2, w_trub, w_truN, w_truL, w_truT, R.bind_ok, R.bind_exc, R.bind_bad, List.length_cons, List.length_nil, List.map_cons, List.map_nil, List.replicate, List.cons_append, List.nil_append, List.getElem?_cons_zero, List.getElem?_cons_succ, List.set_cons_zero, List.set_cons_succ, List.set_nil, Nat.reduceAdd, Nat.reduceSub, if_true, if_false, eq_self, reduceIte, Bool.not_true, Bool.not_false, v_encN, v_rng1, v_rng2, Bool.false_eq_true, v_told, w_told1, w_told2, w_wipe0, w_wipe1, v_app, v_ext, v_put, v_drop, w_drop1, w_drop2, need_plan_ok k hp, is_let_eq k hp.1, h2]
theorem after_eq {p : Plan} {c : Chg} (hc : c.1 < p.length) (hl : p.length ≤ 1000) : f_after [encP p, encC c] = .ok (encP (after p c)) := by
  have i0 : dIdx (encC c) (.int 0) = .ok (.int c.1) := idx0
  have i1 : dIdx (encC c) (.int 1) = .ok (.int c.2) := idx1
  have s1 : dSlice (encP p) none (some (c.1 : Int)) = .ok (encP (p.take c.1)) := by
    show R.ok (PyData.tuple (cut (p.map encN) none (some (c.1 : Int)))) = _
    rw [cut_take, ← List.map_take]
    rfl
  have s2 : dSlice (encP p) (some ((c.1 : Int) + 1)) none = .ok (encP (p.drop (c.1 + 1))) := by
    show R.ok (PyData.tuple (cut (p.map encN) (some ((c.1 + 1 : Nat) : Int)) none)) = _
    rw [cut_drop, ← List.map_drop]
    rfl
  have a1 : dAdd (.int c.1) (.int 1) = .ok (.int ((c.1 : Int) + 1)) := rfl
  have t1 : (p.take c.1).length ≤ p.length := by rw [List.length_take]; omega
  have t2 : (p.drop (c.1 + 1)).length ≤ p.length := by rw [List.length_drop]; omega
  have a2 : dAdd (encP (p.take c.1)) (.tuple [.int c.2]) = .ok (encP (p.take c.1 ++ [c.2])) := add_T (f := encN) (ys := [c.2]) (by simp [lim]; omega)
  have a3 : dAdd (encP (p.take c.1 ++ [c.2])) (encP (p.drop (c.1 + 1))) = .ok (encP (p.take c.1 ++ [c.2] ++ p.drop (c.1 + 1))) := add_T (f := encN) (by simp [lim]; omega)
  have e : p.take c.1 ++ [c.2] ++ p.drop (c.1 + 1) = after p c := by
    rw [after, List.set_eq_take_append_cons_drop, if_pos hc]
    simp
  simp only [f_after, v_seq, w_nx, w_ret, w_exc, w_brk, w_cnt, v_next, v_ret, v_retN, w_rok, w_rexc, v_brk, v_cnt, v_raise, v_if, w_ift, w_iff, w_ifx, v_asg, w_aok, w_aexc, w_gok, v_par, w_par, v_for, w_for, v_run, w_end1, w_end2, w_end3, v_e1, v_e2, w_two, v_eF, v_nil, v_cons, w_cons, v_tup, v_lst, v_var, w_var, v_c, v_and, w_andt, w_andf, v_or, w_ort, w_orf, v_not, w_not, v_ifE, w_ifEt, w_ifEf, v_tB, w_tB, v_tTru, v_tAnd, w_tAndt, w_tAndf, v_tOr, w_tOrt, w_tOrf, v_tNot, w_tNot, v_tYes, v_gName, v_gTup, v_gLst, v_gCons, v_gNil, v_oNone, v_oSome, w_oSome, v_slice, w_slice, v_chain, w_chain, w_chaint, w_chainf, v_iSeq, w_items1, w_items2, w_trub, w_truN, w_truL, w_truT, R.bind_ok, R.bind_exc, R.bind_bad, List.length_cons, List.length_nil, List.map_cons, List.map_nil, List.replicate, List.cons_append, List.nil_append, List.getElem?_cons_zero, List.getElem?_cons_succ, List.set_cons_zero, List.set_cons_succ, List.set_nil, Nat.reduceAdd, Nat.reduceSub, if_true, if_false, eq_self, reduceIte, Bool.not_true, Bool.not_false, v_encN, v_rng1, v_rng2, Bool.false_eq_true, v_told, w_told1, w_told2, w_wipe0, w_wipe1, v_app, v_ext, v_put, v_drop, w_drop1, w_drop2, i0, i1, s1, s2, a1, a2, a3, e]
abbrev rowC (h : House) (p : Plan) (i : Nat) (l : List Nat) : List Chg := (l.filter fun c => !(c == gd p i) && letB h (after p (i, c))).map fun c => (i, c)
theorem rowC_le (h : House) (p : Plan) (i : Nat) (l : List Nat) : (rowC h p i l).length ≤ l.length := by
  rw [List.length_map]
  exact List.length_filter_le _ _
theorem rowsC_le (h : House) (p : Plan) (C : Nat) : ∀ pre : List Nat, (pre.flatMap fun i => rowC h p i (List.range C)).length ≤ pre.length * C
  | [] => by simp
  | i :: pre => by
    rw [List.flatMap_cons, List.length_append, List.length_cons, Nat.succ_mul]
    have := rowC_le h p i (List.range C)
    rw [List.length_range] at this
    have := rowsC_le h p C pre
    omega
theorem let_changes_eq {h : House} {p : Plan} (k : h.ok) (hp : isPlan h p) : f_let_changes [encH h, encP p] = .ok (encL encC (lchanges h p)) := by
  have p5 := k.p5
  have c4 := k.c4
  simp only [f_let_changes, v_seq, w_nx, w_ret, w_exc, w_brk, w_cnt, v_next, v_ret, v_retN, w_rok, w_rexc, v_brk, v_cnt, v_raise, v_if, w_ift, w_iff, w_ifx, v_asg, w_aok, w_aexc, w_gok, v_par, w_par, v_for, w_for, v_run, w_end1, w_end2, w_end3, v_e1, v_e2, w_two, v_eF, v_nil, v_cons, w_cons, v_tup, v_lst, v_var, w_var, v_c, v_and, w_andt, w_andf, v_or, w_ort, w_orf, v_not, w_not, v_ifE, w_ifEt, w_ifEf, v_tB, w_tB, v_tTru, v_tAnd, w_tAndt, w_tAndf, v_tOr, w_tOrt, w_tOrf, v_tNot, w_tNot, v_tYes, v_gName, v_gTup, v_gLst, v_gCons, v_gNil, v_oNone, v_oSome, w_oSome, v_slice, w_slice, v_chain, w_chain, w_chaint, w_chainf, v_iSeq, w_items1, w_items2, w_trub, w_truN, w_truL, w_truT, R.bind_ok, R.bind_exc, R.bind_bad, List.length_cons, List.length_nil, List.map_cons, List.map_nil, List.replicate, List.cons_append, List.nil_append, List.getElem?_cons_zero, List.getElem?_cons_succ, List.set_cons_zero, List.set_cons_succ, List.set_nil, Nat.reduceAdd, Nat.reduceSub, if_true, if_false, eq_self, reduceIte, Bool.not_true, Bool.not_false, v_encN, v_rng1, v_rng2, Bool.false_eq_true, v_told, w_told1, w_told2, w_wipe0, w_wipe1, v_app, v_ext, v_put, v_drop, w_drop1, w_drop2, idx0H, w_rng1 (show h.P ≤ lim by simp [lim]; omega), encL_nil encC]
  generalize hr : forL _ _ _ _ = r
  obtain ⟨ρ', rfl, a, b, rfl⟩ := for_inv hr encN (fun pre ρ => ∃ a b, ρ = [some (encH h), some (encP p), some (encL encC (pre.flatMap fun i => rowC h p i (List.range h.C))), a, b]) _ rfl ⟨none, none, rfl⟩ (by
    rintro pre i post ρ hpre ⟨a, b, rfl⟩
    have hl := congrArg List.length hpre
    rw [List.length_range, List.length_append, List.length_cons] at hl
    have hi : i < h.P := List.mem_range.mp (show i ∈ List.range h.P by rw [hpre]; simp)
    have hil : i < p.length := by rw [hp.1]; exact hi
    refine ⟨_, rfl, ?_⟩
    simp only [v_seq, w_nx, w_ret, w_exc, w_brk, w_cnt, v_next, v_ret, v_retN, w_rok, w_rexc, v_brk, v_cnt, v_raise, v_if, w_ift, w_iff, w_ifx, v_asg, w_aok, w_aexc, w_gok, v_par, w_par, v_for, w_for, v_run, w_end1, w_end2, w_end3, v_e1, v_e2, w_two, v_eF, v_nil, v_cons, w_cons, v_tup, v_lst, v_var, w_var, v_c, v_and, w_andt, w_andf, v_or, w_ort, w_orf, v_not, w_not, v_ifE, w_ifEt, w_ifEf, v_tB, w_tB, v_tTru, v_tAnd, w_tAndt, w_tAndf, v_tOr, w_tOrt, w_tOrf, v_tNot, w_tNot, v_tYes, v_gName, v_gTup, v_gLst, v_gCons, v_gNil, v_oNone, v_oSome, w_oSome, v_slice, w_slice, v_chain, w_chain, w_chaint, w_chainf, v_iSeq, w_items1, w_items2, w_trub, w_truN, w_truL, w_truT, R.bind_ok, R.bind_exc, R.bind_bad, List.length_cons, List.length_nil, List.map_cons, List.map_nil, List.replicate, List.cons_append, List.nil_append, List.getElem?_cons_zero, List.getElem?_cons_succ, List.set_cons_zero, List.set_cons_succ, List.set_nil, Nat.reduceAdd, Nat.reduceSub, if_true, if_false, eq_self, reduceIte, Bool.not_true, Bool.not_false, v_encN, v_rng1, v_rng2, Bool.false_eq_true, v_told, w_told1, w_told2, w_wipe0, w_wipe1, v_app, v_ext, v_put, v_drop, w_drop1, w_drop2, idx1H, w_rng1 (show h.C ≤ lim by simp [lim]; omega)]
    generalize hr2 : forL _ _ _ _ = r2
    obtain ⟨ρ2, rfl, b, rfl⟩ := for_inv hr2 encN (fun pre2 ρ => ∃ b, ρ = [some (encH h), some (encP p), some (encL encC ((pre.flatMap fun i => rowC h p i (List.range h.C)) ++ rowC h p i pre2)), some (.int i), b]) _ rfl ⟨b, by rw [rowC]; simp⟩ (by
      rintro pre2 c post2 ρ hpre2 ⟨b, rfl⟩
      have hl2 := congrArg List.length hpre2
      rw [List.length_range, List.length_append, List.length_cons] at hl2
      have hc : c < h.C := List.mem_range.mp (show c ∈ List.range h.C by rw [hpre2]; simp)
      refine ⟨_, rfl, ?_⟩
      have ic : PyData.tuple [.int i, .int c] = encC (i, c) := rfl
      have aft := after_eq (p := p) (c := (i, c)) hil (by rw [hp.1]; omega)
      have ip := after_plan (c := (i, c)) hp hc
      have bound := rowsC_le h p h.C pre
      have bound2 := rowC_le h p i pre2
      have b3 : pre.length * h.C ≤ 5 * 4 := Nat.mul_le_mul (by omega) c4
      have room : ((pre.flatMap fun i => rowC h p i (List.range h.C)) ++ rowC h p i pre2).length < lim := by
        rw [List.length_append]
        show _ + _ < 16000000
        omega
      have ap := w_app (i := 2) (f := encC) (xs := (pre.flatMap fun i => rowC h p i (List.range h.C)) ++ rowC h p i pre2) (x := (i, c)) (ρ := [some (encH h), some (encP p), some (encL encC ((pre.flatMap fun i => rowC h p i (List.range h.C)) ++ rowC h p i pre2)), some (.int i), some (.int c)]) room
      simp only [v_seq, w_nx, w_ret, w_exc, w_brk, w_cnt, v_next, v_ret, v_retN, w_rok, w_rexc, v_brk, v_cnt, v_raise, v_if, w_ift, w_iff, w_ifx, v_asg, w_aok, w_aexc, w_gok, v_par, w_par, v_for, w_for, v_run, w_end1, w_end2, w_end3, v_e1, v_e2, w_two, v_eF, v_nil, v_cons, w_cons, v_tup, v_lst, v_var, w_var, v_c, v_and, w_andt, w_andf, v_or, w_ort, w_orf, v_not, w_not, v_ifE, w_ifEt, w_ifEf, v_tB, w_tB, v_tTru, v_tAnd, w_tAndt, w_tAndf, v_tOr, w_tOrt, w_tOrf, v_tNot, w_tNot, v_tYes, v_gName, v_gTup, v_gLst, v_gCons, v_gNil, v_oNone, v_oSome, w_oSome, v_slice, w_slice, v_chain, w_chain, w_chaint, w_chainf, v_iSeq, w_items1, w_items2, w_trub, w_truN, w_truL, w_truT, R.bind_ok, R.bind_exc, R.bind_bad, List.length_cons, List.length_nil, List.map_cons, List.map_nil, List.replicate, List.cons_append, List.nil_append, List.getElem?_cons_zero, List.getElem?_cons_succ, List.set_cons_zero, List.set_cons_succ, List.set_nil, Nat.reduceAdd, Nat.reduceSub, if_true, if_false, eq_self, reduceIte, Bool.not_true, Bool.not_false, v_encN, v_rng1, v_rng2, Bool.false_eq_true, v_told, w_told1, w_told2, w_wipe0, w_wipe1, v_app, v_ext, v_put, v_drop, w_drop1, w_drop2, s_if, s_tAnd, s_tOr, s_and, s_or, s_ifE, s_chain, i_and, i_or, i_andD, i_orD, i_thn, i_end, i_bind, i_ret, i_asg, gd_idx hil, neN, ic, aft, is_let_eq k ip.1, ap]
      have er : rowC h p i (pre2 ++ [c]) = if (!decide (c = gd p i) && letB h (after p (i, c))) = true then rowC h p i pre2 ++ [(i, c)] else rowC h p i pre2 := by
        rw [rowC, List.filter_append, List.map_append, List.filter_cons, List.filter_nil]
        rw [show (c == gd p i) = decide (c = gd p i) from rfl]
        split <;> simp
      rw [er]
      cases hb : (!decide (c = gd p i) && letB h (after p (i, c)))
      · exact ⟨_, .inl (by rw [if_neg Bool.false_ne_true]), _, by rw [if_neg Bool.false_ne_true]⟩
      · exact ⟨_, .inl (by rw [if_pos rfl]), _, by rw [if_pos rfl, List.append_assoc]⟩)
    exact ⟨_, .inl rfl, _, _, by rw [List.flatMap_append, List.flatMap_cons, List.flatMap_nil, List.append_nil]⟩)
  simp only [v_seq, w_nx, w_ret, w_exc, w_brk, w_cnt, v_next, v_ret, v_retN, w_rok, w_rexc, v_brk, v_cnt, v_raise, v_if, w_ift, w_iff, w_ifx, v_asg, w_aok, w_aexc, w_gok, v_par, w_par, v_for, w_for, v_run, w_end1, w_end2, w_end3, v_e1, v_e2, w_two, v_eF, v_nil, v_cons, w_cons, v_tup, v_lst, v_var, w_var, v_c, v_and, w_andt, w_andf, v_or, w_ort, w_orf, v_not, w_not, v_ifE, w_ifEt, w_ifEf, v_tB, w_tB, v_tTru, v_tAnd, w_tAndt, w_tAndf, v_tOr, w_tOrt, w_tOrf, v_tNot, w_tNot, v_tYes, v_gName, v_gTup, v_gLst, v_gCons, v_gNil, v_oNone, v_oSome, w_oSome, v_slice, w_slice, v_chain, w_chain, w_chaint, w_chainf, v_iSeq, w_items1, w_items2, w_trub, w_truN, w_truL, w_truT, R.bind_ok, R.bind_exc, R.bind_bad, List.length_cons, List.length_nil, List.map_cons, List.map_nil, List.replicate, List.cons_append, List.nil_append, List.getElem?_cons_zero, List.getElem?_cons_succ, List.set_cons_zero, List.set_cons_succ, List.set_nil, Nat.reduceAdd, Nat.reduceSub, if_true, if_false, eq_self, reduceIte, Bool.not_true, Bool.not_false, v_encN, v_rng1, v_rng2, Bool.false_eq_true, v_told, w_told1, w_told2, w_wipe0, w_wipe1, v_app, v_ext, v_put, v_drop, w_drop1, w_drop2, lchanges]
theorem lch_len {h : House} {p : Plan} (k : h.ok) : (lchanges h p).length ≤ 20 := by
  have a := rowsC_le h p h.C (List.range h.P)
  rw [List.length_range] at a
  have b : h.P * h.C ≤ 5 * 4 := Nat.mul_le_mul k.p5 k.c4
  have e : (List.range h.P).flatMap (fun i => rowC h p i (List.range h.C)) = lchanges h p := rfl
  rw [e] at a
  omega
end PG
/-! PM13 -/
set_option Elab.async false
set_option linter.all false
set_option maxRecDepth 100000
set_option maxHeartbeats 2000000
/-! PM13: changed, walked. -/
namespace PG
open DL
open PySem (PyData Str)
theorem plan_of {h : House} {p : Plan} (hp : p ∈ plansL h) : isPlan h p := (mem_plansL.mp hp).1
theorem changes_eq {h : House} {p : Plan} (k : h.ok) (hp : p ∈ plansL h) : f_changes [encH h, encP p] = .ok (encL encC (lchanges h p)) := by
  simp only [f_changes, v_seq, w_nx, w_ret, w_exc, w_brk, w_cnt, v_next, v_ret, v_retN, w_rok, w_rexc, v_brk, v_cnt, v_raise, v_if, w_ift, w_iff, w_ifx, v_asg, w_aok, w_aexc, w_gok, v_par, w_par, v_for, w_for, v_run, w_end1, w_end2, w_end3, v_e1, v_e2, w_two, v_eF, v_nil, v_cons, w_cons, v_tup, v_lst, v_var, w_var, v_c, v_and, w_andt, w_andf, v_or, w_ort, w_orf, v_not, w_not, v_ifE, w_ifEt, w_ifEf, v_tB, w_tB, v_tTru, v_tAnd, w_tAndt, w_tAndf, v_tOr, w_tOrt, w_tOrf, v_tNot, w_tNot, v_tYes, v_gName, v_gTup, v_gLst, v_gCons, v_gNil, v_oNone, v_oSome, w_oSome, v_slice, w_slice, v_chain, w_chain, w_chaint, w_chainf, v_iSeq, w_items1, w_items2, w_trub, w_truN, w_truL, w_truT, R.bind_ok, R.bind_exc, R.bind_bad, List.length_cons, List.length_nil, List.map_cons, List.map_nil, List.replicate, List.cons_append, List.nil_append, List.getElem?_cons_zero, List.getElem?_cons_succ, List.set_cons_zero, List.set_cons_succ, List.set_nil, Nat.reduceAdd, Nat.reduceSub, if_true, if_false, eq_self, reduceIte, Bool.not_true, Bool.not_false, v_encN, v_rng1, v_rng2, Bool.false_eq_true, v_told, w_told1, w_told2, w_wipe0, w_wipe1, v_app, v_ext, v_put, v_drop, w_drop1, w_drop2, need_ok k, need_let_ok k hp, let_changes_eq k (plan_of hp)]
theorem changes_badplan {h : House} {x : D} {n L : Nat} (k : h.ok) (hx : pl n L x = true) (hL : L ≤ lim) (hb : ∀ p, x = encP p → p ∉ plansL h) : f_changes [encH h, x] = .exc .plan := by
  simp only [f_changes, v_seq, w_nx, w_ret, w_exc, w_brk, w_cnt, v_next, v_ret, v_retN, w_rok, w_rexc, v_brk, v_cnt, v_raise, v_if, w_ift, w_iff, w_ifx, v_asg, w_aok, w_aexc, w_gok, v_par, w_par, v_for, w_for, v_run, w_end1, w_end2, w_end3, v_e1, v_e2, w_two, v_eF, v_nil, v_cons, w_cons, v_tup, v_lst, v_var, w_var, v_c, v_and, w_andt, w_andf, v_or, w_ort, w_orf, v_not, w_not, v_ifE, w_ifEt, w_ifEf, v_tB, w_tB, v_tTru, v_tAnd, w_tAndt, w_tAndf, v_tOr, w_tOrt, w_tOrf, v_tNot, w_tNot, v_tYes, v_gName, v_gTup, v_gLst, v_gCons, v_gNil, v_oNone, v_oSome, w_oSome, v_slice, w_slice, v_chain, w_chain, w_chaint, w_chainf, v_iSeq, w_items1, w_items2, w_trub, w_truN, w_truL, w_truT, R.bind_ok, R.bind_exc, R.bind_bad, List.length_cons, List.length_nil, List.map_cons, List.map_nil, List.replicate, List.cons_append, List.nil_append, List.getElem?_cons_zero, List.getElem?_cons_succ, List.set_cons_zero, List.set_cons_succ, List.set_nil, Nat.reduceAdd, Nat.reduceSub, if_true, if_false, eq_self, reduceIte, Bool.not_true, Bool.not_false, v_encN, v_rng1, v_rng2, Bool.false_eq_true, v_told, w_told1, w_told2, w_wipe0, w_wipe1, v_app, v_ext, v_put, v_drop, w_drop1, w_drop2, need_ok k, need_let_no k hx hL hb]
theorem changed_badplan {h : House} {x y : D} {n L : Nat} (k : h.ok) (hx : pl n L x = true) (hL : L ≤ lim) (hb : ∀ p, x = encP p → p ∉ plansL h) : f_changed [encH h, x, y] = .exc .plan := by
  simp only [f_changed, v_seq, w_nx, w_ret, w_exc, w_brk, w_cnt, v_next, v_ret, v_retN, w_rok, w_rexc, v_brk, v_cnt, v_raise, v_if, w_ift, w_iff, w_ifx, v_asg, w_aok, w_aexc, w_gok, v_par, w_par, v_for, w_for, v_run, w_end1, w_end2, w_end3, v_e1, v_e2, w_two, v_eF, v_nil, v_cons, w_cons, v_tup, v_lst, v_var, w_var, v_c, v_and, w_andt, w_andf, v_or, w_ort, w_orf, v_not, w_not, v_ifE, w_ifEt, w_ifEf, v_tB, w_tB, v_tTru, v_tAnd, w_tAndt, w_tAndf, v_tOr, w_tOrt, w_tOrf, v_tNot, w_tNot, v_tYes, v_gName, v_gTup, v_gLst, v_gCons, v_gNil, v_oNone, v_oSome, w_oSome, v_slice, w_slice, v_chain, w_chain, w_chaint, w_chainf, v_iSeq, w_items1, w_items2, w_trub, w_truN, w_truL, w_truT, R.bind_ok, R.bind_exc, R.bind_bad, List.length_cons, List.length_nil, List.map_cons, List.map_nil, List.replicate, List.cons_append, List.nil_append, List.getElem?_cons_zero, List.getElem?_cons_succ, List.set_cons_zero, List.set_cons_succ, List.set_nil, Nat.reduceAdd, Nat.reduceSub, if_true, if_false, eq_self, reduceIte, Bool.not_true, Bool.not_false, v_encN, v_rng1, v_rng2, Bool.false_eq_true, v_told, w_told1, w_told2, w_wipe0, w_wipe1, v_app, v_ext, v_put, v_drop, w_drop1, w_drop2, need_ok k, need_let_no k hx hL hb]
theorem walked_badplan {h : House} {x y : D} {n L : Nat} (k : h.ok) (hx : pl n L x = true) (hL : L ≤ lim) (hb : ∀ p, x = encP p → p ∉ plansL h) : f_walked [encH h, x, y] = .exc .plan := by
  simp only [f_walked, v_seq, w_nx, w_ret, w_exc, w_brk, w_cnt, v_next, v_ret, v_retN, w_rok, w_rexc, v_brk, v_cnt, v_raise, v_if, w_ift, w_iff, w_ifx, v_asg, w_aok, w_aexc, w_gok, v_par, w_par, v_for, w_for, v_run, w_end1, w_end2, w_end3, v_e1, v_e2, w_two, v_eF, v_nil, v_cons, w_cons, v_tup, v_lst, v_var, w_var, v_c, v_and, w_andt, w_andf, v_or, w_ort, w_orf, v_not, w_not, v_ifE, w_ifEt, w_ifEf, v_tB, w_tB, v_tTru, v_tAnd, w_tAndt, w_tAndf, v_tOr, w_tOrt, w_tOrf, v_tNot, w_tNot, v_tYes, v_gName, v_gTup, v_gLst, v_gCons, v_gNil, v_oNone, v_oSome, w_oSome, v_slice, w_slice, v_chain, w_chain, w_chaint, w_chainf, v_iSeq, w_items1, w_items2, w_trub, w_truN, w_truL, w_truT, R.bind_ok, R.bind_exc, R.bind_bad, List.length_cons, List.length_nil, List.map_cons, List.map_nil, List.replicate, List.cons_append, List.nil_append, List.getElem?_cons_zero, List.getElem?_cons_succ, List.set_cons_zero, List.set_cons_succ, List.set_nil, Nat.reduceAdd, Nat.reduceSub, if_true, if_false, eq_self, reduceIte, Bool.not_true, Bool.not_false, v_encN, v_rng1, v_rng2, Bool.false_eq_true, v_told, w_told1, w_told2, w_wipe0, w_wipe1, v_app, v_ext, v_put, v_drop, w_drop1, w_drop2, need_ok k, need_let_no k hx hL hb]
/-- the change that a thing is -/
def decC (x : D) : Option Chg := match x with
  | .tuple [.int i, .int c] => if 0 ≤ i ∧ 0 ≤ c then some (i.toNat, c.toNat) else none
  | _ => none
theorem decC_enc (c : Chg) : decC (encC c) = some c := by
  show (if 0 ≤ (c.1 : Int) ∧ 0 ≤ (c.2 : Int) then some ((c.1 : Int).toNat, (c.2 : Int).toNat) else none) = some c
  rw [if_pos ⟨by omega, by omega⟩]
  rfl
theorem decC_some {x : D} {c : Chg} (h : decC x = some c) : x = encC c := by
  unfold decC at h
  split at h
  · split at h
    · rename_i i j hij
      cases h
      simp only [encC_eq]
      rw [Int.toNat_of_nonneg hij.1, Int.toNat_of_nonneg hij.2]
    · cases h
  · cases h
def chgB (h : House) (x : D) : Bool := match x with
  | .tuple [a, b] => cnt a 0 (h.P - 1) && cnt b 0 (h.C - 1)
  | _ => false
theorem chgB_dec {h : House} {x : D} (hb : chgB h x = true) : ∃ c, x = encC c ∧ c.1 < h.P ∧ c.2 < h.C := by
  unfold chgB at hb
  split at hb
  · rename_i a b
    rw [Bool.and_eq_true] at hb
    obtain ⟨i, rfl⟩ := cnt_int hb.1
    obtain ⟨j, rfl⟩ := cnt_int hb.2
    simp [cnt] at hb
    refine ⟨(i.toNat, j.toNat), ?_, by show i.toNat < h.P; omega, by show j.toNat < h.C; omega⟩
    rw [encC_eq]
    simp only
    rw [Int.toNat_of_nonneg (by omega), Int.toNat_of_nonneg (by omega)]
  · cases hb
theorem chgB_enc {h : House} {c : Chg} (h1 : c.1 < h.P) (h2 : c.2 < h.C) : chgB h (encC c) = true := by
  show (cnt (.int c.1) 0 (h.P - 1) && cnt (.int c.2) 0 (h.C - 1)) = true
  simp [cnt]
  omega
theorem is_change_eq {h : House} {x : D} {n L : Nat} (hx : pl n L x = true) : f_is_change [encH h, x] = .ok (.bool (chgB h x)) := by
  have sP : dSub (.int h.P) (.int 1) = .ok (.int (h.P - 1)) := rfl
  have sC : dSub (.int h.C) (.int 1) = .ok (.int (h.C - 1)) := rfl
  cases x with
  | tuple xs =>
    have it : dIsi isT (.tuple xs) = .ok (.bool true) := rfl
    have e2 : dEq (.int (xs.length : Int)) (.int 2) = .ok (.bool (decide (xs.length = 2))) := eqN (b := 2)
    by_cases hl : xs.length = 2
    · match xs, hl, hx, e2, it with
      | [a, b], _, hx, e2, it =>
        have ha : nod a = true := by obtain ⟨m, _, q⟩ := pl_one hx (d := a) (by simp); exact pl_nod q
        have hb : nod b = true := by obtain ⟨m, _, q⟩ := pl_one hx (d := b) (by simp); exact pl_nod q
        simp only [List.length_cons, List.length_nil, Nat.reduceAdd, decide_true] at e2
        have e2' : dEq (.int 2) (.int 2) = .ok (.bool true) := e2
        have ln : dLen (.tuple [a, b]) = .ok (.int 2) := rfl
        simp only [f_is_change, v_seq, w_nx, w_ret, w_exc, w_brk, w_cnt, v_next, v_ret, v_retN, w_rok, w_rexc, v_brk, v_cnt, v_raise, v_if, w_ift, w_iff, w_ifx, v_asg, w_aok, w_aexc, w_gok, v_par, w_par, v_for, w_for, v_run, w_end1, w_end2, w_end3, v_e1, v_e2, w_two, v_eF, v_nil, v_cons, w_cons, v_tup, v_lst, v_var, w_var, v_c, v_and, w_andt, w_andf, v_or, w_ort, w_orf, v_not, w_not, v_ifE, w_ifEt, w_ifEf, v_tB, w_tB, v_tTru, v_tAnd, w_tAndt, w_tAndf, v_tOr, w_tOrt, w_tOrf, v_tNot, w_tNot, v_tYes, v_gName, v_gTup, v_gLst, v_gCons, v_gNil, v_oNone, v_oSome, w_oSome, v_slice, w_slice, v_chain, w_chain, w_chaint, w_chainf, v_iSeq, w_items1, w_items2, w_trub, w_truN, w_truL, w_truT, R.bind_ok, R.bind_exc, R.bind_bad, List.length_cons, List.length_nil, List.map_cons, List.map_nil, List.replicate, List.cons_append, List.nil_append, List.getElem?_cons_zero, List.getElem?_cons_succ, List.set_cons_zero, List.set_cons_succ, List.set_nil, Nat.reduceAdd, Nat.reduceSub, if_true, if_false, eq_self, reduceIte, Bool.not_true, Bool.not_false, v_encN, v_rng1, v_rng2, Bool.false_eq_true, v_told, w_told1, w_told2, w_wipe0, w_wipe1, v_app, v_ext, v_put, v_drop, w_drop1, w_drop2, s_if, s_tAnd, s_tOr, s_and, s_or, s_ifE, s_chain, i_and, i_or, i_andD, i_orD, i_thn, i_end, i_bind, i_ret, i_asg, it, ln, e2', idx0, idx1, idx0H, idx1H, sP, sC, is_count_eq ha, is_count_eq hb, chgB]
    · have z : chgB h (.tuple xs) = false := by
        unfold chgB
        split
        · rename_i e
          cases e
          exact absurd rfl hl
        · rfl
      rw [decide_eq_false hl] at e2
      simp only [f_is_change, v_seq, w_nx, w_ret, w_exc, w_brk, w_cnt, v_next, v_ret, v_retN, w_rok, w_rexc, v_brk, v_cnt, v_raise, v_if, w_ift, w_iff, w_ifx, v_asg, w_aok, w_aexc, w_gok, v_par, w_par, v_for, w_for, v_run, w_end1, w_end2, w_end3, v_e1, v_e2, w_two, v_eF, v_nil, v_cons, w_cons, v_tup, v_lst, v_var, w_var, v_c, v_and, w_andt, w_andf, v_or, w_ort, w_orf, v_not, w_not, v_ifE, w_ifEt, w_ifEf, v_tB, w_tB, v_tTru, v_tAnd, w_tAndt, w_tAndf, v_tOr, w_tOrt, w_tOrf, v_tNot, w_tNot, v_tYes, v_gName, v_gTup, v_gLst, v_gCons, v_gNil, v_oNone, v_oSome, w_oSome, v_slice, w_slice, v_chain, w_chain, w_chaint, w_chainf, v_iSeq, w_items1, w_items2, w_trub, w_truN, w_truL, w_truT, R.bind_ok, R.bind_exc, R.bind_bad, List.length_cons, List.length_nil, List.map_cons, List.map_nil, List.replicate, List.cons_append, List.nil_append, List.getElem?_cons_zero, List.getElem?_cons_succ, List.set_cons_zero, List.set_cons_succ, List.set_nil, Nat.reduceAdd, Nat.reduceSub, if_true, if_false, eq_self, reduceIte, Bool.not_true, Bool.not_false, v_encN, v_rng1, v_rng2, Bool.false_eq_true, v_told, w_told1, w_told2, w_wipe0, w_wipe1, v_app, v_ext, v_put, v_drop, w_drop1, w_drop2, it, len_tup, e2, z]
  | dict _ => exact absurd hx (by cases n <;> simp [pl])
  | _ => simp only [f_is_change, v_seq, w_nx, w_ret, w_exc, w_brk, w_cnt, v_next, v_ret, v_retN, w_rok, w_rexc, v_brk, v_cnt, v_raise, v_if, w_ift, w_iff, w_ifx, v_asg, w_aok, w_aexc, w_gok, v_par, w_par, v_for, w_for, v_run, w_end1, w_end2, w_end3, v_e1, v_e2, w_two, v_eF, v_nil, v_cons, w_cons, v_tup, v_lst, v_var, w_var, v_c, v_and, w_andt, w_andf, v_or, w_ort, w_orf, v_not, w_not, v_ifE, w_ifEt, w_ifEf, v_tB, w_tB, v_tTru, v_tAnd, w_tAndt, w_tAndf, v_tOr, w_tOrt, w_tOrf, v_tNot, w_tNot, v_tYes, v_gName, v_gTup, v_gLst, v_gCons, v_gNil, v_oNone, v_oSome, w_oSome, v_slice, w_slice, v_chain, w_chain, w_chaint, w_chainf, v_iSeq, w_items1, w_items2, w_trub, w_truN, w_truL, w_truT, R.bind_ok, R.bind_exc, R.bind_bad, List.length_cons, List.length_nil, List.map_cons, List.map_nil, List.replicate, List.cons_append, List.nil_append, List.getElem?_cons_zero, List.getElem?_cons_succ, List.set_cons_zero, List.set_cons_succ, List.set_nil, Nat.reduceAdd, Nat.reduceSub, if_true, if_false, eq_self, reduceIte, Bool.not_true, Bool.not_false, v_encN, v_rng1, v_rng2, Bool.false_eq_true, v_told, w_told1, w_told2, w_wipe0, w_wipe1, v_app, v_ext, v_put, v_drop, w_drop1, w_drop2, dIsi, isT, chgB]
/-- one step -/
def step (h : House) (p : Plan) (x : D) : Option Plan := match decC x with
  | some c => if c ∈ lchanges h p then some (after p c) else none
  | none => none
theorem step_enc {h : House} {p : Plan} {c : Chg} (hc : c ∈ lchanges h p) : step h p (encC c) = some (after p c) := by
  unfold step
  rw [decC_enc]
  simp only [if_pos hc]
theorem step_plan {h : House} {p q : Plan} {x : D} (hp : p ∈ plansL h) (hs : step h p x = some q) : q ∈ plansL h := by
  unfold step at hs
  split at hs
  · split at hs
    · rename_i c _ hc
      cases hs
      exact (lch_after (plan_of hp) hc).1
    · cases hs
  · cases hs
def rStep (r : Option Plan) : R D := match r with
  | some q => .ok (encP q)
  | none => .exc .change
theorem inC (c : Chg) (xs : List Chg) : dNotIn (encC c) (encL encC xs) = .ok (.bool (!decide (c ∈ xs))) := by
  rw [notIn_good good_C (by omega)]
  have e : ∀ (i j : Decidable (c ∈ xs)), @decide _ i = @decide _ j := fun i j => by congr
  rw [e]
theorem changed_eq {h : House} {p : Plan} {x : D} {n L : Nat} (k : h.ok) (hp : p ∈ plansL h) (hx : pl n L x = true) : f_changed [encH h, encP p, x] = rStep (step h p x) := by
  have ip := plan_of hp
  have p5 := k.p5
  simp only [f_changed, v_seq, w_nx, w_ret, w_exc, w_brk, w_cnt, v_next, v_ret, v_retN, w_rok, w_rexc, v_brk, v_cnt, v_raise, v_if, w_ift, w_iff, w_ifx, v_asg, w_aok, w_aexc, w_gok, v_par, w_par, v_for, w_for, v_run, w_end1, w_end2, w_end3, v_e1, v_e2, w_two, v_eF, v_nil, v_cons, w_cons, v_tup, v_lst, v_var, w_var, v_c, v_and, w_andt, w_andf, v_or, w_ort, w_orf, v_not, w_not, v_ifE, w_ifEt, w_ifEf, v_tB, w_tB, v_tTru, v_tAnd, w_tAndt, w_tAndf, v_tOr, w_tOrt, w_tOrf, v_tNot, w_tNot, v_tYes, v_gName, v_gTup, v_gLst, v_gCons, v_gNil, v_oNone, v_oSome, w_oSome, v_slice, w_slice, v_chain, w_chain, w_chaint, w_chainf, v_iSeq, w_items1, w_items2, w_trub, w_truN, w_truL, w_truT, R.bind_ok, R.bind_exc, R.bind_bad, List.length_cons, List.length_nil, List.map_cons, List.map_nil, List.replicate, List.cons_append, List.nil_append, List.getElem?_cons_zero, List.getElem?_cons_succ, List.set_cons_zero, List.set_cons_succ, List.set_nil, Nat.reduceAdd, Nat.reduceSub, if_true, if_false, eq_self, reduceIte, Bool.not_true, Bool.not_false, v_encN, v_rng1, v_rng2, Bool.false_eq_true, v_told, w_told1, w_told2, w_wipe0, w_wipe1, v_app, v_ext, v_put, v_drop, w_drop1, w_drop2, need_ok k, need_let_ok k hp, is_change_eq hx]
  cases hb : chgB h x
  · have z : step h p x = none := by
      unfold step
      split
      · rename_i c hc
        have := decC_some hc
        subst this
        split
        · rename_i hm
          obtain ⟨h1, h2, _⟩ := (mem_lch ip).mp hm
          rw [chgB_enc h1 h2] at hb
          cases hb
        · rfl
      · rfl
    simp only [v_seq, w_nx, w_ret, w_exc, w_brk, w_cnt, v_next, v_ret, v_retN, w_rok, w_rexc, v_brk, v_cnt, v_raise, v_if, w_ift, w_iff, w_ifx, v_asg, w_aok, w_aexc, w_gok, v_par, w_par, v_for, w_for, v_run, w_end1, w_end2, w_end3, v_e1, v_e2, w_two, v_eF, v_nil, v_cons, w_cons, v_tup, v_lst, v_var, w_var, v_c, v_and, w_andt, w_andf, v_or, w_ort, w_orf, v_not, w_not, v_ifE, w_ifEt, w_ifEf, v_tB, w_tB, v_tTru, v_tAnd, w_tAndt, w_tAndf, v_tOr, w_tOrt, w_tOrf, v_tNot, w_tNot, v_tYes, v_gName, v_gTup, v_gLst, v_gCons, v_gNil, v_oNone, v_oSome, w_oSome, v_slice, w_slice, v_chain, w_chain, w_chaint, w_chainf, v_iSeq, w_items1, w_items2, w_trub, w_truN, w_truL, w_truT, R.bind_ok, R.bind_exc, R.bind_bad, List.length_cons, List.length_nil, List.map_cons, List.map_nil, List.replicate, List.cons_append, List.nil_append, List.getElem?_cons_zero, List.getElem?_cons_succ, List.set_cons_zero, List.set_cons_succ, List.set_nil, Nat.reduceAdd, Nat.reduceSub, if_true, if_false, eq_self, reduceIte, Bool.not_true, Bool.not_false, v_encN, v_rng1, v_rng2, Bool.false_eq_true, v_told, w_told1, w_told2, w_wipe0, w_wipe1, v_app, v_ext, v_put, v_drop, w_drop1, w_drop2, z, rStep]
  · obtain ⟨c, rfl, h1, h2⟩ := chgB_dec hb
    simp only [v_seq, w_nx, w_ret, w_exc, w_brk, w_cnt, v_next, v_ret, v_retN, w_rok, w_rexc, v_brk, v_cnt, v_raise, v_if, w_ift, w_iff, w_ifx, v_asg, w_aok, w_aexc, w_gok, v_par, w_par, v_for, w_for, v_run, w_end1, w_end2, w_end3, v_e1, v_e2, w_two, v_eF, v_nil, v_cons, w_cons, v_tup, v_lst, v_var, w_var, v_c, v_and, w_andt, w_andf, v_or, w_ort, w_orf, v_not, w_not, v_ifE, w_ifEt, w_ifEf, v_tB, w_tB, v_tTru, v_tAnd, w_tAndt, w_tAndf, v_tOr, w_tOrt, w_tOrf, v_tNot, w_tNot, v_tYes, v_gName, v_gTup, v_gLst, v_gCons, v_gNil, v_oNone, v_oSome, w_oSome, v_slice, w_slice, v_chain, w_chain, w_chaint, w_chainf, v_iSeq, w_items1, w_items2, w_trub, w_truN, w_truL, w_truT, R.bind_ok, R.bind_exc, R.bind_bad, List.length_cons, List.length_nil, List.map_cons, List.map_nil, List.replicate, List.cons_append, List.nil_append, List.getElem?_cons_zero, List.getElem?_cons_succ, List.set_cons_zero, List.set_cons_succ, List.set_nil, Nat.reduceAdd, Nat.reduceSub, if_true, if_false, eq_self, reduceIte, Bool.not_true, Bool.not_false, v_encN, v_rng1, v_rng2, Bool.false_eq_true, v_told, w_told1, w_told2, w_wipe0, w_wipe1, v_app, v_ext, v_put, v_drop, w_drop1, w_drop2, let_changes_eq k ip, inC]
    by_cases hm : c ∈ lchanges h p
    · have aft := after_eq (p := p) (c := c) (by rw [ip.1]; exact h1) (by rw [ip.1]; omega)
      rw [step_enc hm]
      simp only [v_seq, w_nx, w_ret, w_exc, w_brk, w_cnt, v_next, v_ret, v_retN, w_rok, w_rexc, v_brk, v_cnt, v_raise, v_if, w_ift, w_iff, w_ifx, v_asg, w_aok, w_aexc, w_gok, v_par, w_par, v_for, w_for, v_run, w_end1, w_end2, w_end3, v_e1, v_e2, w_two, v_eF, v_nil, v_cons, w_cons, v_tup, v_lst, v_var, w_var, v_c, v_and, w_andt, w_andf, v_or, w_ort, w_orf, v_not, w_not, v_ifE, w_ifEt, w_ifEf, v_tB, w_tB, v_tTru, v_tAnd, w_tAndt, w_tAndf, v_tOr, w_tOrt, w_tOrf, v_tNot, w_tNot, v_tYes, v_gName, v_gTup, v_gLst, v_gCons, v_gNil, v_oNone, v_oSome, w_oSome, v_slice, w_slice, v_chain, w_chain, w_chaint, w_chainf, v_iSeq, w_items1, w_items2, w_trub, w_truN, w_truL, w_truT, R.bind_ok, R.bind_exc, R.bind_bad, List.length_cons, List.length_nil, List.map_cons, List.map_nil, List.replicate, List.cons_append, List.nil_append, List.getElem?_cons_zero, List.getElem?_cons_succ, List.set_cons_zero, List.set_cons_succ, List.set_nil, Nat.reduceAdd, Nat.reduceSub, if_true, if_false, eq_self, reduceIte, Bool.not_true, Bool.not_false, v_encN, v_rng1, v_rng2, Bool.false_eq_true, v_told, w_told1, w_told2, w_wipe0, w_wipe1, v_app, v_ext, v_put, v_drop, w_drop1, w_drop2, decide_eq_true hm, aft, rStep]
    · have z : step h p (encC c) = none := by
        unfold step
        rw [decC_enc]
        simp only [if_neg hm]
      simp only [v_seq, w_nx, w_ret, w_exc, w_brk, w_cnt, v_next, v_ret, v_retN, w_rok, w_rexc, v_brk, v_cnt, v_raise, v_if, w_ift, w_iff, w_ifx, v_asg, w_aok, w_aexc, w_gok, v_par, w_par, v_for, w_for, v_run, w_end1, w_end2, w_end3, v_e1, v_e2, w_two, v_eF, v_nil, v_cons, w_cons, v_tup, v_lst, v_var, w_var, v_c, v_and, w_andt, w_andf, v_or, w_ort, w_orf, v_not, w_not, v_ifE, w_ifEt, w_ifEf, v_tB, w_tB, v_tTru, v_tAnd, w_tAndt, w_tAndf, v_tOr, w_tOrt, w_tOrf, v_tNot, w_tNot, v_tYes, v_gName, v_gTup, v_gLst, v_gCons, v_gNil, v_oNone, v_oSome, w_oSome, v_slice, w_slice, v_chain, w_chain, w_chaint, w_chainf, v_iSeq, w_items1, w_items2, w_trub, w_truN, w_truL, w_truT, R.bind_ok, R.bind_exc, R.bind_bad, List.length_cons, List.length_nil, List.map_cons, List.map_nil, List.replicate, List.cons_append, List.nil_append, List.getElem?_cons_zero, List.getElem?_cons_succ, List.set_cons_zero, List.set_cons_succ, List.set_nil, Nat.reduceAdd, Nat.reduceSub, if_true, if_false, eq_self, reduceIte, Bool.not_true, Bool.not_false, v_encN, v_rng1, v_rng2, Bool.false_eq_true, v_told, w_told1, w_told2, w_wipe0, w_wipe1, v_app, v_ext, v_put, v_drop, w_drop1, w_drop2, decide_eq_false hm, z, rStep]
/-- all plans on a way -/
def walkL (h : House) : Plan → List D → Option (List Plan)
  | p, [] => some [p]
  | p, x :: xs => (step h p x).bind fun q => (walkL h q xs).map (p :: ·)
def rWalk (r : Option (List Plan)) : R D := match r with
  | some ps => .ok (encL encP ps)
  | none => .exc .change
theorem idx_last {α : Type} {f : α → D} {xs : List α} {x : α} : dIdx (encL f (xs ++ [x])) (.int (-1)) = .ok (f x) := by
  have e : atI ((xs ++ [x]).map f) (-1) = some (f x) := by
    have l : (((xs ++ [x]).map f).length : Int) = xs.length + 1 := by simp
    unfold atI ixN
    rw [if_neg (by decide), l, if_pos (by omega)]
    have : ((-1 : Int) + ((xs.length : Int) + 1)).toNat = xs.length := by omega
    simp only [Option.bind_some, this]
    simp
  show (match atI ((xs ++ [x]).map f) (-1) with | some d => R.ok d | none => .bad) = _
  rw [e]
theorem walk_loop {h : House} (k : h.ok) (L0 P0 : D) : ∀ (xs : List D) (acc : List Plan) (p : Plan) (e : Option D), p ∈ plansL h → (∀ x ∈ xs, ∃ n L, pl n L x = true) → acc.length + xs.length < 1000000 →
    (∃ ps e', walkL h p xs = some ps ∧ forL (DL.gName 4) (sSeq (sApp 3 (eF f_changed (aCons (eVar 0) (aCons (e2 dIdx (eVar 3) (e1 dNeg (eC (.int 1)))) (aCons (eVar 4) aNil))))) (sNext)) xs [some (encH h), some P0, some L0, some (encL encP (acc ++ [p])), e] = .nx [some (encH h), some P0, some L0, some (encL encP (acc ++ ps)), e'])
    ∨ (walkL h p xs = none ∧ forL (DL.gName 4) (sSeq (sApp 3 (eF f_changed (aCons (eVar 0) (aCons (e2 dIdx (eVar 3) (e1 dNeg (eC (.int 1)))) (aCons (eVar 4) aNil))))) (sNext)) xs [some (encH h), some P0, some L0, some (encL encP (acc ++ [p])), e] = .exc .change)
  | [], acc, p, e, hp, hx, hl => .inl ⟨[p], e, rfl, rfl⟩
  | x :: xs, acc, p, e, hp, hx, hl => by
    obtain ⟨n, L, hpl⟩ := hx x List.mem_cons_self
    have ng : dNeg (.int 1) = .ok (.int (-1)) := rfl
    rw [List.length_cons] at hl
    cases hs : step h p x with
    | none =>
      refine .inr ⟨by rw [walkL, hs]; rfl, ?_⟩
      rw [forL]
      simp only [v_seq, w_nx, w_ret, w_exc, w_brk, w_cnt, v_next, v_ret, v_retN, w_rok, w_rexc, v_brk, v_cnt, v_raise, v_if, w_ift, w_iff, w_ifx, v_asg, w_aok, w_aexc, w_gok, v_par, w_par, v_for, w_for, v_run, w_end1, w_end2, w_end3, v_e1, v_e2, w_two, v_eF, v_nil, v_cons, w_cons, v_tup, v_lst, v_var, w_var, v_c, v_and, w_andt, w_andf, v_or, w_ort, w_orf, v_not, w_not, v_ifE, w_ifEt, w_ifEf, v_tB, w_tB, v_tTru, v_tAnd, w_tAndt, w_tAndf, v_tOr, w_tOrt, w_tOrf, v_tNot, w_tNot, v_tYes, v_gName, v_gTup, v_gLst, v_gCons, v_gNil, v_oNone, v_oSome, w_oSome, v_slice, w_slice, v_chain, w_chain, w_chaint, w_chainf, v_iSeq, w_items1, w_items2, w_trub, w_truN, w_truL, w_truT, R.bind_ok, R.bind_exc, R.bind_bad, List.length_cons, List.length_nil, List.map_cons, List.map_nil, List.replicate, List.cons_append, List.nil_append, List.getElem?_cons_zero, List.getElem?_cons_succ, List.set_cons_zero, List.set_cons_succ, List.set_nil, Nat.reduceAdd, Nat.reduceSub, if_true, if_false, eq_self, reduceIte, Bool.not_true, Bool.not_false, v_encN, v_rng1, v_rng2, Bool.false_eq_true, v_told, w_told1, w_told2, w_wipe0, w_wipe1, v_app, v_ext, v_put, v_drop, w_drop1, w_drop2, ng, idx_last, changed_eq k hp hpl, hs, rStep]
      rfl
    | some q =>
      have hq := step_plan hp hs
      have ap := w_app (i := 3) (f := encP) (xs := acc ++ [p]) (x := q) (ρ := [some (encH h), some P0, some L0, some (encL encP (acc ++ [p])), some x]) (by rw [List.length_append]; show _ + 1 < 16000000; omega)
      have e1 : ∀ r : Unit, forL (DL.gName 4) (sSeq (sApp 3 (eF f_changed (aCons (eVar 0) (aCons (e2 dIdx (eVar 3) (e1 dNeg (eC (.int 1)))) (aCons (eVar 4) aNil))))) (sNext)) (x :: xs) [some (encH h), some P0, some L0, some (encL encP (acc ++ [p])), e] = forL (DL.gName 4) (sSeq (sApp 3 (eF f_changed (aCons (eVar 0) (aCons (e2 dIdx (eVar 3) (e1 dNeg (eC (.int 1)))) (aCons (eVar 4) aNil))))) (sNext)) xs [some (encH h), some P0, some L0, some (encL encP (acc ++ [p] ++ [q])), some x] := fun r => by
        rw [forL]
        simp only [v_seq, w_nx, w_ret, w_exc, w_brk, w_cnt, v_next, v_ret, v_retN, w_rok, w_rexc, v_brk, v_cnt, v_raise, v_if, w_ift, w_iff, w_ifx, v_asg, w_aok, w_aexc, w_gok, v_par, w_par, v_for, w_for, v_run, w_end1, w_end2, w_end3, v_e1, v_e2, w_two, v_eF, v_nil, v_cons, w_cons, v_tup, v_lst, v_var, w_var, v_c, v_and, w_andt, w_andf, v_or, w_ort, w_orf, v_not, w_not, v_ifE, w_ifEt, w_ifEf, v_tB, w_tB, v_tTru, v_tAnd, w_tAndt, w_tAndf, v_tOr, w_tOrt, w_tOrf, v_tNot, w_tNot, v_tYes, v_gName, v_gTup, v_gLst, v_gCons, v_gNil, v_oNone, v_oSome, w_oSome, v_slice, w_slice, v_chain, w_chain, w_chaint, w_chainf, v_iSeq, w_items1, w_items2, w_trub, w_truN, w_truL, w_truT, R.bind_ok, R.bind_exc, R.bind_bad, List.length_cons, List.length_nil, List.map_cons, List.map_nil, List.replicate, List.cons_append, List.nil_append, List.getElem?_cons_zero, List.getElem?_cons_succ, List.set_cons_zero, List.set_cons_succ, List.set_nil, Nat.reduceAdd, Nat.reduceSub, if_true, if_false, eq_self, reduceIte, Bool.not_true, Bool.not_false, v_encN, v_rng1, v_rng2, Bool.false_eq_true, v_told, w_told1, w_told2, w_wipe0, w_wipe1, v_app, v_ext, v_put, v_drop, w_drop1, w_drop2, ng, idx_last, changed_eq k hp hpl, hs, rStep, ap]
      rw [e1 ()]
      rcases walk_loop k L0 P0 xs (acc ++ [p]) q (some x) hq (fun y hy => hx y (List.mem_cons_of_mem _ hy)) (by simp; omega) with ⟨ps, e', h1, h2⟩ | ⟨h1, h2⟩
      · refine .inl ⟨p :: ps, e', by rw [walkL, hs]; simp [h1], ?_⟩
        rw [h2, List.append_assoc]
        rfl
      · exact .inr ⟨by rw [walkL, hs]; simp [h1], h2⟩
theorem walked_eq {h : House} {p : Plan} {xs : List D} (k : h.ok) (hp : p ∈ plansL h) (hx : ∀ x ∈ xs, ∃ n L, pl n L x = true) (hl : xs.length < 1000000) : f_walked [encH h, encP p, .list xs] = rWalk (walkL h p xs) := by
  have it : dIsi isL (.list xs) = .ok (.bool true) := rfl
  have l1 : PyData.list [encP p] = encL encP ([] ++ [p]) := rfl
  simp only [f_walked, v_seq, w_nx, w_ret, w_exc, w_brk, w_cnt, v_next, v_ret, v_retN, w_rok, w_rexc, v_brk, v_cnt, v_raise, v_if, w_ift, w_iff, w_ifx, v_asg, w_aok, w_aexc, w_gok, v_par, w_par, v_for, w_for, v_run, w_end1, w_end2, w_end3, v_e1, v_e2, w_two, v_eF, v_nil, v_cons, w_cons, v_tup, v_lst, v_var, w_var, v_c, v_and, w_andt, w_andf, v_or, w_ort, w_orf, v_not, w_not, v_ifE, w_ifEt, w_ifEf, v_tB, w_tB, v_tTru, v_tAnd, w_tAndt, w_tAndf, v_tOr, w_tOrt, w_tOrf, v_tNot, w_tNot, v_tYes, v_gName, v_gTup, v_gLst, v_gCons, v_gNil, v_oNone, v_oSome, w_oSome, v_slice, w_slice, v_chain, w_chain, w_chaint, w_chainf, v_iSeq, w_items1, w_items2, w_trub, w_truN, w_truL, w_truT, R.bind_ok, R.bind_exc, R.bind_bad, List.length_cons, List.length_nil, List.map_cons, List.map_nil, List.replicate, List.cons_append, List.nil_append, List.getElem?_cons_zero, List.getElem?_cons_succ, List.set_cons_zero, List.set_cons_succ, List.set_nil, Nat.reduceAdd, Nat.reduceSub, if_true, if_false, eq_self, reduceIte, Bool.not_true, Bool.not_false, v_encN, v_rng1, v_rng2, Bool.false_eq_true, v_told, w_told1, w_told2, w_wipe0, w_wipe1, v_app, v_ext, v_put, v_drop, w_drop1, w_drop2, need_ok k, need_let_ok k hp, it, l1]
  rcases walk_loop k (.list xs) (encP p) xs [] p none hp hx (by simpa using hl) with ⟨ps, e', h1, h2⟩ | ⟨h1, h2⟩
  · simp only [List.nil_append] at h2
    simp only [h1, h2, v_seq, w_nx, w_ret, w_exc, w_brk, w_cnt, v_next, v_ret, v_retN, w_rok, w_rexc, v_brk, v_cnt, v_raise, v_if, w_ift, w_iff, w_ifx, v_asg, w_aok, w_aexc, w_gok, v_par, w_par, v_for, w_for, v_run, w_end1, w_end2, w_end3, v_e1, v_e2, w_two, v_eF, v_nil, v_cons, w_cons, v_tup, v_lst, v_var, w_var, v_c, v_and, w_andt, w_andf, v_or, w_ort, w_orf, v_not, w_not, v_ifE, w_ifEt, w_ifEf, v_tB, w_tB, v_tTru, v_tAnd, w_tAndt, w_tAndf, v_tOr, w_tOrt, w_tOrf, v_tNot, w_tNot, v_tYes, v_gName, v_gTup, v_gLst, v_gCons, v_gNil, v_oNone, v_oSome, w_oSome, v_slice, w_slice, v_chain, w_chain, w_chaint, w_chainf, v_iSeq, w_items1, w_items2, w_trub, w_truN, w_truL, w_truT, R.bind_ok, R.bind_exc, R.bind_bad, List.length_cons, List.length_nil, List.map_cons, List.map_nil, List.replicate, List.cons_append, List.nil_append, List.getElem?_cons_zero, List.getElem?_cons_succ, List.set_cons_zero, List.set_cons_succ, List.set_nil, Nat.reduceAdd, Nat.reduceSub, if_true, if_false, eq_self, reduceIte, Bool.not_true, Bool.not_false, v_encN, v_rng1, v_rng2, Bool.false_eq_true, v_told, w_told1, w_told2, w_wipe0, w_wipe1, v_app, v_ext, v_put, v_drop, w_drop1, w_drop2, rWalk]
  · simp only [List.nil_append] at h2
    simp only [h1, h2, v_seq, w_nx, w_ret, w_exc, w_brk, w_cnt, v_next, v_ret, v_retN, w_rok, w_rexc, v_brk, v_cnt, v_raise, v_if, w_ift, w_iff, w_ifx, v_asg, w_aok, w_aexc, w_gok, v_par, w_par, v_for, w_for, v_run, w_end1, w_end2, w_end3, v_e1, v_e2, w_two, v_eF, v_nil, v_cons, w_cons, v_tup, v_lst, v_var, w_var, v_c, v_and, w_andt, w_andf, v_or, w_ort, w_orf, v_not, w_not, v_ifE, w_ifEt, w_ifEf, v_tB, w_tB, v_tTru, v_tAnd, w_tAndt, w_tAndf, v_tOr, w_tOrt, w_tOrf, v_tNot, w_tNot, v_tYes, v_gName, v_gTup, v_gLst, v_gCons, v_gNil, v_oNone, v_oSome, w_oSome, v_slice, w_slice, v_chain, w_chain, w_chaint, w_chainf, v_iSeq, w_items1, w_items2, w_trub, w_truN, w_truL, w_truT, R.bind_ok, R.bind_exc, R.bind_bad, List.length_cons, List.length_nil, List.map_cons, List.map_nil, List.replicate, List.cons_append, List.nil_append, List.getElem?_cons_zero, List.getElem?_cons_succ, List.set_cons_zero, List.set_cons_succ, List.set_nil, Nat.reduceAdd, Nat.reduceSub, if_true, if_false, eq_self, reduceIte, Bool.not_true, Bool.not_false, v_encN, v_rng1, v_rng2, Bool.false_eq_true, v_told, w_told1, w_told2, w_wipe0, w_wipe1, v_app, v_ext, v_put, v_drop, w_drop1, w_drop2, rWalk]
theorem walked_nolist {h : House} {p : Plan} {x : D} (k : h.ok) (hp : p ∈ plansL h) (hb : isL x = false) (hd : nod x = true) : f_walked [encH h, encP p, x] = .exc .change := by
  have it : dIsi isL x = .ok (.bool false) := by
    cases x <;> first | rfl | (cases hb; done) | (cases hd; done)
  simp only [f_walked, v_seq, w_nx, w_ret, w_exc, w_brk, w_cnt, v_next, v_ret, v_retN, w_rok, w_rexc, v_brk, v_cnt, v_raise, v_if, w_ift, w_iff, w_ifx, v_asg, w_aok, w_aexc, w_gok, v_par, w_par, v_for, w_for, v_run, w_end1, w_end2, w_end3, v_e1, v_e2, w_two, v_eF, v_nil, v_cons, w_cons, v_tup, v_lst, v_var, w_var, v_c, v_and, w_andt, w_andf, v_or, w_ort, w_orf, v_not, w_not, v_ifE, w_ifEt, w_ifEf, v_tB, w_tB, v_tTru, v_tAnd, w_tAndt, w_tAndf, v_tOr, w_tOrt, w_tOrf, v_tNot, w_tNot, v_tYes, v_gName, v_gTup, v_gLst, v_gCons, v_gNil, v_oNone, v_oSome, w_oSome, v_slice, w_slice, v_chain, w_chain, w_chaint, w_chainf, v_iSeq, w_items1, w_items2, w_trub, w_truN, w_truL, w_truT, R.bind_ok, R.bind_exc, R.bind_bad, List.length_cons, List.length_nil, List.map_cons, List.map_nil, List.replicate, List.cons_append, List.nil_append, List.getElem?_cons_zero, List.getElem?_cons_succ, List.set_cons_zero, List.set_cons_succ, List.set_nil, Nat.reduceAdd, Nat.reduceSub, if_true, if_false, eq_self, reduceIte, Bool.not_true, Bool.not_false, v_encN, v_rng1, v_rng2, Bool.false_eq_true, v_told, w_told1, w_told2, w_wipe0, w_wipe1, v_app, v_ext, v_put, v_drop, w_drop1, w_drop2, need_ok k, need_let_ok k hp, it]
end PG
/-! PM14 -/
set_option Elab.async false
set_option linter.all false
set_option maxRecDepth 100000
set_option maxHeartbeats 2000000
/-! PM14: dicts by plans; the law's own neighbours. -/
namespace PG
open DL
open PySem (PyData Str)
/-! ### dicts whose keys are plans -/
def encD {α : Type} (g : α → D) (kvs : List (Plan × α)) : D := .dict (markT :: kvs.map fun x => (encP x.1, g x.2))
def lookA {α : Type} (kvs : List (Plan × α)) (p : Plan) : Option α := (kvs.find? fun x => decide (x.1 = p)).map (·.2)
def putA {α : Type} (kvs : List (Plan × α)) (p : Plan) (v : α) : List (Plan × α) := if (lookA kvs p).isSome = true then kvs.map (fun x => if x.1 = p then (x.1, v) else x) else kvs ++ [(p, v)]
section
variable {α : Type} {g : α → D} {kvs : List (Plan × α)} {p : Plan} {v : α}
theorem isKT_P (p : Plan) : isKT (encP p) = true := by
  show (p.map encN).all isK = true
  rw [List.all_map, List.all_eq_true]
  exact fun x _ => rfl
theorem mark_ne (p : Plan) : PyData.eqv markT.1 (encP p) = false := by simp [markT, encP, PyData.eqv]
theorem getK_mark (es : List (D × D)) (p : Plan) : dGetK (markT :: es) (encP p) = dGetK es (encP p) := by
  unfold dGetK
  rw [List.find?_cons_of_neg (by rw [mark_ne]; exact Bool.false_ne_true)]
theorem putK_mark (es : List (D × D)) (p : Plan) (v : D) : dPutK (markT :: es) (encP p) v = markT :: dPutK es (encP p) v := by
  unfold dPutK
  rw [List.any_cons, mark_ne, Bool.false_or]
  split
  · rw [List.map_cons, mark_ne, if_neg Bool.false_ne_true]
  · rfl
theorem keyOk_P : keyOk (markT :: kvs.map fun x => (encP x.1, g x.2)) (encP p) = true := by
  show (!isXd (markT :: _) && (if isTd (markT :: _) = true then isKT (encP p) else isK (encP p))) = true
  rw [show isTd (markT :: kvs.map fun x => (encP x.1, g x.2)) = true from rfl, if_pos rfl, isKT_P]
  rfl
theorem eqvP (a b : Plan) : PyData.eqv (encP a) (encP b) = decide (a = b) := by rw [good_P.eqv]
theorem getK_P : dGetK (markT :: kvs.map fun x => (encP x.1, g x.2)) (encP p) = (lookA kvs p).map g := by
  rw [getK_mark, dGetK, lookA, List.find?_map]
  have e : ((fun kv : D × D => PyData.eqv kv.1 (encP p)) ∘ fun x : Plan × α => (encP x.1, g x.2)) = fun x => decide (x.1 = p) := by
    funext x
    exact eqvP x.1 p
  rw [e]
  cases kvs.find? fun x => decide (x.1 = p) <;> rfl
theorem idx_D (h : lookA kvs p = some v) : dIdx (encD g kvs) (encP p) = .ok (g v) := by
  rw [encD, dIdx]
  · rw [if_pos keyOk_P, getK_P, h]
    rfl
theorem inB_D : dInB (encP p) (encD g kvs) = .ok (lookA kvs p).isSome := by
  rw [encD, dInB]
  · rw [if_pos keyOk_P, getK_P, Option.isSome_map]
theorem in_D : dIn (encP p) (encD g kvs) = .ok (.bool (lookA kvs p).isSome) := by
  rw [dIn, inB_D]
  rfl
theorem notIn_D : dNotIn (encP p) (encD g kvs) = .ok (.bool (!(lookA kvs p).isSome)) := by
  rw [dNotIn, inB_D]
  rfl
theorem any_P : ((kvs.map fun x => (encP x.1, g x.2)).any fun kv => PyData.eqv kv.1 (encP p)) = (lookA kvs p).isSome := by
  rw [List.any_map, lookA, Option.isSome_map, Bool.eq_iff_iff, List.find?_isSome]
  simp only [List.any_eq_true, Function.comp, eqvP, decide_eq_true_eq]
theorem put_P : dPutK (markT :: kvs.map fun x => (encP x.1, g x.2)) (encP p) (g v) = markT :: (putA kvs p v).map fun x => (encP x.1, g x.2) := by
  rw [putK_mark, dPutK, any_P, putA]
  congr 1
  by_cases h : (lookA kvs p).isSome = true
  · rw [if_pos h, if_pos h, List.map_map, List.map_map]
    refine List.map_congr_left fun x _ => ?_
    simp only [Function.comp, eqvP, decide_eq_true_eq]
    split <;> rfl
  · rw [if_neg h, if_neg h, List.map_append]
    rfl
theorem w_put {i : Nat} {ρ : Env} (h : kvs.length + 1 < lim) : rPut i (some (some (encD g kvs))) (.ok (g v)) (.ok (encP p)) ρ = .nx (ρ.set i (some (encD g (putA kvs p v)))) := by
  show (if keyOk (markT :: kvs.map fun x => (encP x.1, g x.2)) (encP p) = true ∧ (markT :: kvs.map fun x => (encP x.1, g x.2)).length < lim then _ else _) = _
  rw [if_pos ⟨keyOk_P, by rw [List.length_cons, List.length_map]; exact h⟩, put_P]
  rfl
theorem lookA_none : lookA kvs p = none ↔ p ∉ kvs.map (·.1) := by
  rw [lookA, Option.map_eq_none_iff, List.find?_eq_none]
  simp only [decide_eq_true_eq, List.mem_map, not_exists, not_and]
theorem putA_new (h : lookA kvs p = none) : putA kvs p v = kvs ++ [(p, v)] := by
  rw [putA, h]
  simp
theorem lookA_put (q : Plan) : lookA (putA kvs p v) q = if q = p then some v else lookA kvs q := by
  unfold putA
  by_cases h : (lookA kvs p).isSome = true
  · rw [if_pos h]
    by_cases e : q = p
    · subst e
      rw [if_pos rfl]
      induction kvs with
      | nil => simp [lookA] at h
      | cons x kvs ih =>
        by_cases hx : x.1 = q
        · simp [lookA, hx]
        · have h' : (lookA kvs q).isSome = true := by
            simpa [lookA, List.find?_cons, hx] using h
          have := ih h'
          simp only [lookA, List.map_cons, List.find?_cons, hx, if_false, decide_false] at this ⊢
          exact this
    · rw [if_neg e]
      have hm : ∀ l : List (Plan × α), lookA (l.map fun x => if x.1 = p then (x.1, v) else x) q = lookA l q := by
        intro l
        induction l with
        | nil => rfl
        | cons x l ih =>
          by_cases hx : x.1 = p
          · have hq : ¬ x.1 = q := fun z => e (z.symm.trans hx)
            simp only [lookA, List.map_cons, List.find?_cons, hx, if_true] at ih ⊢
            have hq' : ¬ p = q := fun z => e z.symm
            simp only [hx, hq', decide_false] at ih ⊢
            exact ih
          · by_cases hq : x.1 = q
            · have hq' : ¬ q = p := e
              simp [lookA, hq, hq']
            · simp only [lookA, List.map_cons, List.find?_cons, hx, if_false, hq, decide_false] at ih ⊢
              exact ih
      exact hm kvs
  · rw [if_neg h]
    have h0 : lookA kvs p = none := by simpa using h
    unfold lookA
    rw [List.find?_append]
    by_cases e : q = p
    · subst e
      rw [if_pos rfl]
      have : kvs.find? (fun x => decide (x.1 = q)) = none := by
        rw [lookA, Option.map_eq_none_iff] at h0
        exact h0
      rw [this]
      simp
    · rw [if_neg e]
      have : ¬ p = q := fun z => e z.symm
      simp [this]
theorem putA_len : (putA kvs p v).length ≤ kvs.length + 1 := by
  unfold putA
  split <;> simp
end
/-! ### zip, sum -/
def rZip (a b : R D) : R (List D) := a.bind fun x => b.bind fun y => match x, y with
  | .list xs, .list ys => .ok (zipD xs ys)
  | .tuple xs, .tuple ys => .ok (zipD xs ys)
  | _, _ => .bad
theorem v_zip {fa fb : FE} {ρ : Env} : DL.iZip fa fb ρ = rZip (fa ρ) (fb ρ) := rfl
section
variable {α β : Type} {f : α → D} {g : β → D}
theorem zipD_map : ∀ (xs : List α) (ys : List β), zipD (xs.map f) (ys.map g) = (xs.zip ys).map (enc2 f g)
  | [], ys => by cases ys <;> rfl
  | x :: xs, [] => rfl
  | x :: xs, y :: ys => by
    rw [List.map_cons, List.map_cons, zipD, zipD_map xs ys, List.zip_cons_cons, List.map_cons]
    rfl
theorem zip_T {xs : List α} {ys : List β} : rZip (.ok (encT f xs)) (.ok (encT g ys)) = .ok ((xs.zip ys).map (enc2 f g)) := by rw [← zipD_map]; rfl
theorem zip_L {xs : List α} {ys : List β} : rZip (.ok (encL f xs)) (.ok (encL g ys)) = .ok ((xs.zip ys).map (enc2 f g)) := by rw [← zipD_map]; rfl
end
theorem sum_I (ns : List Int) : dSum (encL PyData.int ns) = .ok (.int ns.sum) := by
  have e : intsOf (ns.map PyData.int) = some ns := by
    induction ns with
    | nil => rfl
    | cons n ns ih => rw [List.map_cons, intsOf, ih]; rfl
  show (match intsOf (ns.map PyData.int) with | some ns => R.ok (PyData.int ns.sum) | none => .bad) = _
  rw [e]
theorem diffs_cons (a b : Nat) (p q : Plan) : diffs (a :: p) (b :: q) = (if a = b then [] else [0]) ++ (diffs p q).map Nat.succ := by
  unfold diffs
  rw [List.length_cons, List.range_succ_eq_map, List.filter_cons]
  simp only [gd_cons0]
  rw [List.filter_map]
  have e : ((fun i => !(gd (a :: p) i == gd (b :: q) i)) ∘ Nat.succ) = fun i => !(gd p i == gd q i) := by
    funext i
    show (!(gd (a :: p) (i + 1) == gd (b :: q) (i + 1))) = _
    rw [gd_consS, gd_consS]
  rw [e]
  by_cases h : a = b <;> simp [h]
theorem sum_apart : ∀ {p q : Plan}, p.length = q.length → ((p.zip q).map fun x : Nat × Nat => (if x.1 = x.2 then (0 : Int) else 1)).sum = (apart p q : Int)
  | [], [], _ => rfl
  | a :: p, b :: q, h => by
    rw [List.zip_cons_cons, List.map_cons, List.sum_cons, sum_apart (by simpa using h), apart, apart, diffs_cons, List.length_append, List.length_map]
    by_cases e : a = b <;> simp [e]
theorem law_apart_eq {p q : Plan} (h : p.length = q.length) (hl : p.length ≤ 1000) : f__law_apart [encP p, encP q] = .ok (.int (apart p q : Nat)) := by
  have bi : ∀ b : Bool, dInt (.bool b) = .ok (.int (if b = true then 1 else 0)) := fun b => rfl
  simp only [f__law_apart, v_seq, w_nx, w_ret, w_exc, w_brk, w_cnt, v_next, v_ret, v_retN, w_rok, w_rexc, v_brk, v_cnt, v_raise, v_if, w_ift, w_iff, w_ifx, v_asg, w_aok, w_aexc, w_gok, v_par, w_par, v_for, w_for, v_run, w_end1, w_end2, w_end3, v_e1, v_e2, w_two, v_eF, v_nil, v_cons, w_cons, v_tup, v_lst, v_var, w_var, v_c, v_and, w_andt, w_andf, v_or, w_ort, w_orf, v_not, w_not, v_ifE, w_ifEt, w_ifEf, v_tB, w_tB, v_tTru, v_tAnd, w_tAndt, w_tAndf, v_tOr, w_tOrt, w_tOrf, v_tNot, w_tNot, v_tYes, v_gName, v_gTup, v_gLst, v_gCons, v_gNil, v_oNone, v_oSome, w_oSome, v_slice, w_slice, v_chain, w_chain, w_chaint, w_chainf, v_iSeq, w_items1, w_items2, w_trub, w_truN, w_truL, w_truT, R.bind_ok, R.bind_exc, R.bind_bad, List.length_cons, List.length_nil, List.map_cons, List.map_nil, List.replicate, List.cons_append, List.nil_append, List.getElem?_cons_zero, List.getElem?_cons_succ, List.set_cons_zero, List.set_cons_succ, List.set_nil, Nat.reduceAdd, Nat.reduceSub, if_true, if_false, eq_self, reduceIte, Bool.not_true, Bool.not_false, v_encN, v_rng1, v_rng2, Bool.false_eq_true, v_told, w_told1, w_told2, w_wipe0, w_wipe1, v_app, v_ext, v_put, v_drop, w_drop1, w_drop2]
  rw [eComp_m (enc2 encN encN) PyData.int (fun x : Nat × Nat => if x.1 = x.2 then (0 : Int) else 1) (p.zip q) (by simp only [v_seq, w_nx, w_ret, w_exc, w_brk, w_cnt, v_next, v_ret, v_retN, w_rok, w_rexc, v_brk, v_cnt, v_raise, v_if, w_ift, w_iff, w_ifx, v_asg, w_aok, w_aexc, w_gok, v_par, w_par, v_for, w_for, v_run, w_end1, w_end2, w_end3, v_e1, v_e2, w_two, v_eF, v_nil, v_cons, w_cons, v_tup, v_lst, v_var, w_var, v_c, v_and, w_andt, w_andf, v_or, w_ort, w_orf, v_not, w_not, v_ifE, w_ifEt, w_ifEf, v_tB, w_tB, v_tTru, v_tAnd, w_tAndt, w_tAndf, v_tOr, w_tOrt, w_tOrf, v_tNot, w_tNot, v_tYes, v_gName, v_gTup, v_gLst, v_gCons, v_gNil, v_oNone, v_oSome, w_oSome, v_slice, w_slice, v_chain, w_chain, w_chaint, w_chainf, v_iSeq, w_items1, w_items2, w_trub, w_truN, w_truL, w_truT, R.bind_ok, R.bind_exc, R.bind_bad, List.length_cons, List.length_nil, List.map_cons, List.map_nil, List.replicate, List.cons_append, List.nil_append, List.getElem?_cons_zero, List.getElem?_cons_succ, List.set_cons_zero, List.set_cons_succ, List.set_nil, Nat.reduceAdd, Nat.reduceSub, if_true, if_false, eq_self, reduceIte, Bool.not_true, Bool.not_false, v_encN, v_rng1, v_rng2, Bool.false_eq_true, v_told, w_told1, w_told2, w_wipe0, w_wipe1, v_app, v_ext, v_put, v_drop, w_drop1, w_drop2, v_zip, encP_T, zip_T]) (by rw [List.length_zip]; show _ ≤ 16000000; omega) fun x _ => ⟨_, rfl, by
    simp only [v_seq, w_nx, w_ret, w_exc, w_brk, w_cnt, v_next, v_ret, v_retN, w_rok, w_rexc, v_brk, v_cnt, v_raise, v_if, w_ift, w_iff, w_ifx, v_asg, w_aok, w_aexc, w_gok, v_par, w_par, v_for, w_for, v_run, w_end1, w_end2, w_end3, v_e1, v_e2, w_two, v_eF, v_nil, v_cons, w_cons, v_tup, v_lst, v_var, w_var, v_c, v_and, w_andt, w_andf, v_or, w_ort, w_orf, v_not, w_not, v_ifE, w_ifEt, w_ifEf, v_tB, w_tB, v_tTru, v_tAnd, w_tAndt, w_tAndf, v_tOr, w_tOrt, w_tOrf, v_tNot, w_tNot, v_tYes, v_gName, v_gTup, v_gLst, v_gCons, v_gNil, v_oNone, v_oSome, w_oSome, v_slice, w_slice, v_chain, w_chain, w_chaint, w_chainf, v_iSeq, w_items1, w_items2, w_trub, w_truN, w_truL, w_truT, R.bind_ok, R.bind_exc, R.bind_bad, List.length_cons, List.length_nil, List.map_cons, List.map_nil, List.replicate, List.cons_append, List.nil_append, List.getElem?_cons_zero, List.getElem?_cons_succ, List.set_cons_zero, List.set_cons_succ, List.set_nil, Nat.reduceAdd, Nat.reduceSub, if_true, if_false, eq_self, reduceIte, Bool.not_true, Bool.not_false, v_encN, v_rng1, v_rng2, Bool.false_eq_true, v_told, w_told1, w_told2, w_wipe0, w_wipe1, v_app, v_ext, v_put, v_drop, w_drop1, w_drop2, neN, bi]
    by_cases e : x.1 = x.2 <;> simp [e]⟩]
  simp only [v_seq, w_nx, w_ret, w_exc, w_brk, w_cnt, v_next, v_ret, v_retN, w_rok, w_rexc, v_brk, v_cnt, v_raise, v_if, w_ift, w_iff, w_ifx, v_asg, w_aok, w_aexc, w_gok, v_par, w_par, v_for, w_for, v_run, w_end1, w_end2, w_end3, v_e1, v_e2, w_two, v_eF, v_nil, v_cons, w_cons, v_tup, v_lst, v_var, w_var, v_c, v_and, w_andt, w_andf, v_or, w_ort, w_orf, v_not, w_not, v_ifE, w_ifEt, w_ifEf, v_tB, w_tB, v_tTru, v_tAnd, w_tAndt, w_tAndf, v_tOr, w_tOrt, w_tOrf, v_tNot, w_tNot, v_tYes, v_gName, v_gTup, v_gLst, v_gCons, v_gNil, v_oNone, v_oSome, w_oSome, v_slice, w_slice, v_chain, w_chain, w_chaint, w_chainf, v_iSeq, w_items1, w_items2, w_trub, w_truN, w_truL, w_truT, R.bind_ok, R.bind_exc, R.bind_bad, List.length_cons, List.length_nil, List.map_cons, List.map_nil, List.replicate, List.cons_append, List.nil_append, List.getElem?_cons_zero, List.getElem?_cons_succ, List.set_cons_zero, List.set_cons_succ, List.set_nil, Nat.reduceAdd, Nat.reduceSub, if_true, if_false, eq_self, reduceIte, Bool.not_true, Bool.not_false, v_encN, v_rng1, v_rng2, Bool.false_eq_true, v_told, w_told1, w_told2, w_wipe0, w_wipe1, v_app, v_ext, v_put, v_drop, w_drop1, w_drop2, sum_I, sum_apart h]
theorem zip_range {p : Plan} : p.zipIdx = (List.range p.length).map fun i => (gd p i, i) := by
  refine List.ext_getElem (by simp) fun i h1 h2 => ?_
  have hi : i < p.length := by simpa using h1
  simp [gd_get hi]
theorem zip_diffs {p q : Plan} : (p.zipIdx.filter fun x => !decide (x.1 = gd q x.2)).map (·.2) = diffs p q := by
  rw [zip_range, List.filter_map, List.map_map]
  have e : ((fun x : Nat × Nat => x.2) ∘ fun i => (gd p i, i)) = id := rfl
  rw [e, List.map_id]
  rfl
theorem law_step_eq {p q : Plan} (h : p.length = q.length) (hl : p.length ≤ 1000) (ha : apart p q = 1) : f__law_step [encP p, encP q] = .ok (encC (stepC p q)) := by
  obtain ⟨i, hi⟩ := apart_one ha
  obtain ⟨h1, h2, h3⟩ := diffs_one h hi
  simp only [f__law_step, v_seq, w_nx, w_ret, w_exc, w_brk, w_cnt, v_next, v_ret, v_retN, w_rok, w_rexc, v_brk, v_cnt, v_raise, v_if, w_ift, w_iff, w_ifx, v_asg, w_aok, w_aexc, w_gok, v_par, w_par, v_for, w_for, v_run, w_end1, w_end2, w_end3, v_e1, v_e2, w_two, v_eF, v_nil, v_cons, w_cons, v_tup, v_lst, v_var, w_var, v_c, v_and, w_andt, w_andf, v_or, w_ort, w_orf, v_not, w_not, v_ifE, w_ifEt, w_ifEf, v_tB, w_tB, v_tTru, v_tAnd, w_tAndt, w_tAndf, v_tOr, w_tOrt, w_tOrf, v_tNot, w_tNot, v_tYes, v_gName, v_gTup, v_gLst, v_gCons, v_gNil, v_oNone, v_oSome, w_oSome, v_slice, w_slice, v_chain, w_chain, w_chaint, w_chainf, v_iSeq, w_items1, w_items2, w_trub, w_truN, w_truL, w_truT, R.bind_ok, R.bind_exc, R.bind_bad, List.length_cons, List.length_nil, List.map_cons, List.map_nil, List.replicate, List.cons_append, List.nil_append, List.getElem?_cons_zero, List.getElem?_cons_succ, List.set_cons_zero, List.set_cons_succ, List.set_nil, Nat.reduceAdd, Nat.reduceSub, if_true, if_false, eq_self, reduceIte, Bool.not_true, Bool.not_false, v_encN, v_rng1, v_rng2, Bool.false_eq_true, v_told, w_told1, w_told2, w_wipe0, w_wipe1, v_app, v_ext, v_put, v_drop, w_drop1, w_drop2]
  rw [eComp_fm (encE encN) encN (fun x => !decide (x.1 = gd q x.2)) (·.2) p.zipIdx (by simp only [v_seq, w_nx, w_ret, w_exc, w_brk, w_cnt, v_next, v_ret, v_retN, w_rok, w_rexc, v_brk, v_cnt, v_raise, v_if, w_ift, w_iff, w_ifx, v_asg, w_aok, w_aexc, w_gok, v_par, w_par, v_for, w_for, v_run, w_end1, w_end2, w_end3, v_e1, v_e2, w_two, v_eF, v_nil, v_cons, w_cons, v_tup, v_lst, v_var, w_var, v_c, v_and, w_andt, w_andf, v_or, w_ort, w_orf, v_not, w_not, v_ifE, w_ifEt, w_ifEf, v_tB, w_tB, v_tTru, v_tAnd, w_tAndt, w_tAndf, v_tOr, w_tOrt, w_tOrf, v_tNot, w_tNot, v_tYes, v_gName, v_gTup, v_gLst, v_gCons, v_gNil, v_oNone, v_oSome, w_oSome, v_slice, w_slice, v_chain, w_chain, w_chaint, w_chainf, v_iSeq, w_items1, w_items2, w_trub, w_truN, w_truL, w_truT, R.bind_ok, R.bind_exc, R.bind_bad, List.length_cons, List.length_nil, List.map_cons, List.map_nil, List.replicate, List.cons_append, List.nil_append, List.getElem?_cons_zero, List.getElem?_cons_succ, List.set_cons_zero, List.set_cons_succ, List.set_nil, Nat.reduceAdd, Nat.reduceSub, if_true, if_false, eq_self, reduceIte, Bool.not_true, Bool.not_false, v_encN, v_rng1, v_rng2, Bool.false_eq_true, v_told, w_told1, w_told2, w_wipe0, w_wipe1, v_app, v_ext, v_put, v_drop, w_drop1, w_drop2, v_enum, encP_T, enum_T]) (by rw [zip_len]; show _ ≤ 16000000; omega) fun x hx => ⟨_, rfl, ?_, fun _ => ?_⟩]
  · rw [zip_diffs, hi]
    have i0 : dIdx (encL encN [i]) (.int 0) = .ok (.int i) := rfl
    simp only [v_seq, w_nx, w_ret, w_exc, w_brk, w_cnt, v_next, v_ret, v_retN, w_rok, w_rexc, v_brk, v_cnt, v_raise, v_if, w_ift, w_iff, w_ifx, v_asg, w_aok, w_aexc, w_gok, v_par, w_par, v_for, w_for, v_run, w_end1, w_end2, w_end3, v_e1, v_e2, w_two, v_eF, v_nil, v_cons, w_cons, v_tup, v_lst, v_var, w_var, v_c, v_and, w_andt, w_andf, v_or, w_ort, w_orf, v_not, w_not, v_ifE, w_ifEt, w_ifEf, v_tB, w_tB, v_tTru, v_tAnd, w_tAndt, w_tAndf, v_tOr, w_tOrt, w_tOrf, v_tNot, w_tNot, v_tYes, v_gName, v_gTup, v_gLst, v_gCons, v_gNil, v_oNone, v_oSome, w_oSome, v_slice, w_slice, v_chain, w_chain, w_chaint, w_chainf, v_iSeq, w_items1, w_items2, w_trub, w_truN, w_truL, w_truT, R.bind_ok, R.bind_exc, R.bind_bad, List.length_cons, List.length_nil, List.map_cons, List.map_nil, List.replicate, List.cons_append, List.nil_append, List.getElem?_cons_zero, List.getElem?_cons_succ, List.set_cons_zero, List.set_cons_succ, List.set_nil, Nat.reduceAdd, Nat.reduceSub, if_true, if_false, eq_self, reduceIte, Bool.not_true, Bool.not_false, v_encN, v_rng1, v_rng2, Bool.false_eq_true, v_told, w_told1, w_told2, w_wipe0, w_wipe1, v_app, v_ext, v_put, v_drop, w_drop1, w_drop2, i0, gd_idx (show i < q.length by omega), stepC_of hi]
    rfl
  · have hx2 : x.2 < q.length := by
      rw [zip_range] at hx
      obtain ⟨j, hj, rfl⟩ := List.mem_map.mp hx
      have := List.mem_range.mp hj
      omega
    simp only [v_seq, w_nx, w_ret, w_exc, w_brk, w_cnt, v_next, v_ret, v_retN, w_rok, w_rexc, v_brk, v_cnt, v_raise, v_if, w_ift, w_iff, w_ifx, v_asg, w_aok, w_aexc, w_gok, v_par, w_par, v_for, w_for, v_run, w_end1, w_end2, w_end3, v_e1, v_e2, w_two, v_eF, v_nil, v_cons, w_cons, v_tup, v_lst, v_var, w_var, v_c, v_and, w_andt, w_andf, v_or, w_ort, w_orf, v_not, w_not, v_ifE, w_ifEt, w_ifEf, v_tB, w_tB, v_tTru, v_tAnd, w_tAndt, w_tAndf, v_tOr, w_tOrt, w_tOrf, v_tNot, w_tNot, v_tYes, v_gName, v_gTup, v_gLst, v_gCons, v_gNil, v_oNone, v_oSome, w_oSome, v_slice, w_slice, v_chain, w_chain, w_chaint, w_chainf, v_iSeq, w_items1, w_items2, w_trub, w_truN, w_truL, w_truT, R.bind_ok, R.bind_exc, R.bind_bad, List.length_cons, List.length_nil, List.map_cons, List.map_nil, List.replicate, List.cons_append, List.nil_append, List.getElem?_cons_zero, List.getElem?_cons_succ, List.set_cons_zero, List.set_cons_succ, List.set_nil, Nat.reduceAdd, Nat.reduceSub, if_true, if_false, eq_self, reduceIte, Bool.not_true, Bool.not_false, v_encN, v_rng1, v_rng2, Bool.false_eq_true, v_told, w_told1, w_told2, w_wipe0, w_wipe1, v_app, v_ext, v_put, v_drop, w_drop1, w_drop2, gd_idx hx2, neN]
  · simp only [v_seq, w_nx, w_ret, w_exc, w_brk, w_cnt, v_next, v_ret, v_retN, w_rok, w_rexc, v_brk, v_cnt, v_raise, v_if, w_ift, w_iff, w_ifx, v_asg, w_aok, w_aexc, w_gok, v_par, w_par, v_for, w_for, v_run, w_end1, w_end2, w_end3, v_e1, v_e2, w_two, v_eF, v_nil, v_cons, w_cons, v_tup, v_lst, v_var, w_var, v_c, v_and, w_andt, w_andf, v_or, w_ort, w_orf, v_not, w_not, v_ifE, w_ifEt, w_ifEf, v_tB, w_tB, v_tTru, v_tAnd, w_tAndt, w_tAndf, v_tOr, w_tOrt, w_tOrf, v_tNot, w_tNot, v_tYes, v_gName, v_gTup, v_gLst, v_gCons, v_gNil, v_oNone, v_oSome, w_oSome, v_slice, w_slice, v_chain, w_chain, w_chaint, w_chainf, v_iSeq, w_items1, w_items2, w_trub, w_truN, w_truL, w_truT, R.bind_ok, R.bind_exc, R.bind_bad, List.length_cons, List.length_nil, List.map_cons, List.map_nil, List.replicate, List.cons_append, List.nil_append, List.getElem?_cons_zero, List.getElem?_cons_succ, List.set_cons_zero, List.set_cons_succ, List.set_nil, Nat.reduceAdd, Nat.reduceSub, if_true, if_false, eq_self, reduceIte, Bool.not_true, Bool.not_false, v_encN, v_rng1, v_rng2, Bool.false_eq_true, v_told, w_told1, w_told2, w_wipe0, w_wipe1, v_app, v_ext, v_put, v_drop, w_drop1, w_drop2]
/-- the neighbours of all -/
def nearD (every : List Plan) : List (Plan × List Plan) := every.map fun p => (p, nearL every p)
theorem lookA_near {every : List Plan} {p : Plan} (h : p ∈ every) : lookA (nearD every) p = some (nearL every p) := by
  have c : ∀ l : List Plan, p ∈ l → lookA (l.map fun q => (q, nearL every q)) p = some (nearL every p) := by
    intro l
    induction l with
    | nil => intro h; cases h
    | cons q l ih =>
      intro h
      by_cases e : q = p
      · subst e; simp [lookA]
      · have hm : p ∈ l := by
          rcases List.mem_cons.mp h with z | z
          · exact absurd z.symm e
          · exact z
        have := ih hm
        simp only [lookA, List.map_cons, List.find?_cons, e, decide_false] at this ⊢
        exact this
  exact c every h
theorem law_near_eq {every : List Plan} {n : Nat} (hn : n ≤ 1000) (hp : ∀ p ∈ every, p.length = n) (nd : every.Nodup) (hl : every.length ≤ 10000) : f__law_near [encL encP every] = .ok (encD (encL encP) (nearD every)) := by
  have d0 : PyData.dict [markT] = encD (encL encP) [] := rfl
  simp only [f__law_near, v_seq, w_nx, w_ret, w_exc, w_brk, w_cnt, v_next, v_ret, v_retN, w_rok, w_rexc, v_brk, v_cnt, v_raise, v_if, w_ift, w_iff, w_ifx, v_asg, w_aok, w_aexc, w_gok, v_par, w_par, v_for, w_for, v_run, w_end1, w_end2, w_end3, v_e1, v_e2, w_two, v_eF, v_nil, v_cons, w_cons, v_tup, v_lst, v_var, w_var, v_c, v_and, w_andt, w_andf, v_or, w_ort, w_orf, v_not, w_not, v_ifE, w_ifEt, w_ifEf, v_tB, w_tB, v_tTru, v_tAnd, w_tAndt, w_tAndf, v_tOr, w_tOrt, w_tOrf, v_tNot, w_tNot, v_tYes, v_gName, v_gTup, v_gLst, v_gCons, v_gNil, v_oNone, v_oSome, w_oSome, v_slice, w_slice, v_chain, w_chain, w_chaint, w_chainf, v_iSeq, w_items1, w_items2, w_trub, w_truN, w_truL, w_truT, R.bind_ok, R.bind_exc, R.bind_bad, List.length_cons, List.length_nil, List.map_cons, List.map_nil, List.replicate, List.cons_append, List.nil_append, List.getElem?_cons_zero, List.getElem?_cons_succ, List.set_cons_zero, List.set_cons_succ, List.set_nil, Nat.reduceAdd, Nat.reduceSub, if_true, if_false, eq_self, reduceIte, Bool.not_true, Bool.not_false, v_encN, v_rng1, v_rng2, Bool.false_eq_true, v_told, w_told1, w_told2, w_wipe0, w_wipe1, v_app, v_ext, v_put, v_drop, w_drop1, w_drop2, d0, items_L]
  generalize hr : forL _ _ _ _ = r
  obtain ⟨ρ', rfl, a, b, rfl⟩ := for_inv hr encP (fun pre ρ => ∃ a b, ρ = [some (encL encP every), some (encD (encL encP) (pre.map fun p => (p, nearL every p))), a, b]) _ rfl ⟨none, none, rfl⟩ (by
    rintro pre p post ρ hpre ⟨a, b, rfl⟩
    refine ⟨_, rfl, ?_⟩
    have hm : p ∈ every := by rw [hpre]; simp
    have hll := congrArg List.length hpre
    rw [List.length_append, List.length_cons] at hll
    have hnew : lookA (pre.map fun p => (p, nearL every p)) p = none := lookA_none.mpr fun z => by
      rw [List.map_map] at z
      obtain ⟨q, hq, e⟩ := List.mem_map.mp z
      have e : q = p := e
      subst e
      rw [hpre] at nd
      have := (List.nodup_append.mp nd).2.2 q hq q List.mem_cons_self
      exact this rfl
    simp only [v_seq, w_nx, w_ret, w_exc, w_brk, w_cnt, v_next, v_ret, v_retN, w_rok, w_rexc, v_brk, v_cnt, v_raise, v_if, w_ift, w_iff, w_ifx, v_asg, w_aok, w_aexc, w_gok, v_par, w_par, v_for, w_for, v_run, w_end1, w_end2, w_end3, v_e1, v_e2, w_two, v_eF, v_nil, v_cons, w_cons, v_tup, v_lst, v_var, w_var, v_c, v_and, w_andt, w_andf, v_or, w_ort, w_orf, v_not, w_not, v_ifE, w_ifEt, w_ifEf, v_tB, w_tB, v_tTru, v_tAnd, w_tAndt, w_tAndf, v_tOr, w_tOrt, w_tOrf, v_tNot, w_tNot, v_tYes, v_gName, v_gTup, v_gLst, v_gCons, v_gNil, v_oNone, v_oSome, w_oSome, v_slice, w_slice, v_chain, w_chain, w_chaint, w_chainf, v_iSeq, w_items1, w_items2, w_trub, w_truN, w_truL, w_truT, R.bind_ok, R.bind_exc, R.bind_bad, List.length_cons, List.length_nil, List.map_cons, List.map_nil, List.replicate, List.cons_append, List.nil_append, List.getElem?_cons_zero, List.getElem?_cons_succ, List.set_cons_zero, List.set_cons_succ, List.set_nil, Nat.reduceAdd, Nat.reduceSub, if_true, if_false, eq_self, reduceIte, Bool.not_true, Bool.not_false, v_encN, v_rng1, v_rng2, Bool.false_eq_true, v_told, w_told1, w_told2, w_wipe0, w_wipe1, v_app, v_ext, v_put, v_drop, w_drop1, w_drop2]
    rw [eComp_fm encP encP (fun q => decide (apart p q = 1)) (fun q => q) every (by simp only [v_seq, w_nx, w_ret, w_exc, w_brk, w_cnt, v_next, v_ret, v_retN, w_rok, w_rexc, v_brk, v_cnt, v_raise, v_if, w_ift, w_iff, w_ifx, v_asg, w_aok, w_aexc, w_gok, v_par, w_par, v_for, w_for, v_run, w_end1, w_end2, w_end3, v_e1, v_e2, w_two, v_eF, v_nil, v_cons, w_cons, v_tup, v_lst, v_var, w_var, v_c, v_and, w_andt, w_andf, v_or, w_ort, w_orf, v_not, w_not, v_ifE, w_ifEt, w_ifEf, v_tB, w_tB, v_tTru, v_tAnd, w_tAndt, w_tAndf, v_tOr, w_tOrt, w_tOrf, v_tNot, w_tNot, v_tYes, v_gName, v_gTup, v_gLst, v_gCons, v_gNil, v_oNone, v_oSome, w_oSome, v_slice, w_slice, v_chain, w_chain, w_chaint, w_chainf, v_iSeq, w_items1, w_items2, w_trub, w_truN, w_truL, w_truT, R.bind_ok, R.bind_exc, R.bind_bad, List.length_cons, List.length_nil, List.map_cons, List.map_nil, List.replicate, List.cons_append, List.nil_append, List.getElem?_cons_zero, List.getElem?_cons_succ, List.set_cons_zero, List.set_cons_succ, List.set_nil, Nat.reduceAdd, Nat.reduceSub, if_true, if_false, eq_self, reduceIte, Bool.not_true, Bool.not_false, v_encN, v_rng1, v_rng2, Bool.false_eq_true, v_told, w_told1, w_told2, w_wipe0, w_wipe1, v_app, v_ext, v_put, v_drop, w_drop1, w_drop2, items_L]) (by show _ ≤ 16000000; omega) fun q hq => ⟨_, rfl, by
      have e1 : dEq (.int (apart p q : Nat)) (.int 1) = .ok (.bool (decide (apart p q = 1))) := eqN (b := 1)
      have e2 := law_apart_eq (p := p) (q := q) ((hp p hm).trans (hp q hq).symm) (by rw [hp p hm]; exact hn)
      simp only [v_seq, w_nx, w_ret, w_exc, w_brk, w_cnt, v_next, v_ret, v_retN, w_rok, w_rexc, v_brk, v_cnt, v_raise, v_if, w_ift, w_iff, w_ifx, v_asg, w_aok, w_aexc, w_gok, v_par, w_par, v_for, w_for, v_run, w_end1, w_end2, w_end3, v_e1, v_e2, w_two, v_eF, v_nil, v_cons, w_cons, v_tup, v_lst, v_var, w_var, v_c, v_and, w_andt, w_andf, v_or, w_ort, w_orf, v_not, w_not, v_ifE, w_ifEt, w_ifEf, v_tB, w_tB, v_tTru, v_tAnd, w_tAndt, w_tAndf, v_tOr, w_tOrt, w_tOrf, v_tNot, w_tNot, v_tYes, v_gName, v_gTup, v_gLst, v_gCons, v_gNil, v_oNone, v_oSome, w_oSome, v_slice, w_slice, v_chain, w_chain, w_chaint, w_chainf, v_iSeq, w_items1, w_items2, w_trub, w_truN, w_truL, w_truT, R.bind_ok, R.bind_exc, R.bind_bad, List.length_cons, List.length_nil, List.map_cons, List.map_nil, List.replicate, List.cons_append, List.nil_append, List.getElem?_cons_zero, List.getElem?_cons_succ, List.set_cons_zero, List.set_cons_succ, List.set_nil, Nat.reduceAdd, Nat.reduceSub, if_true, if_false, eq_self, reduceIte, Bool.not_true, Bool.not_false, v_encN, v_rng1, v_rng2, Bool.false_eq_true, v_told, w_told1, w_told2, w_wipe0, w_wipe1, v_app, v_ext, v_put, v_drop, w_drop1, w_drop2, e2, e1], fun _ => by simp only [v_seq, w_nx, w_ret, w_exc, w_brk, w_cnt, v_next, v_ret, v_retN, w_rok, w_rexc, v_brk, v_cnt, v_raise, v_if, w_ift, w_iff, w_ifx, v_asg, w_aok, w_aexc, w_gok, v_par, w_par, v_for, w_for, v_run, w_end1, w_end2, w_end3, v_e1, v_e2, w_two, v_eF, v_nil, v_cons, w_cons, v_tup, v_lst, v_var, w_var, v_c, v_and, w_andt, w_andf, v_or, w_ort, w_orf, v_not, w_not, v_ifE, w_ifEt, w_ifEf, v_tB, w_tB, v_tTru, v_tAnd, w_tAndt, w_tAndf, v_tOr, w_tOrt, w_tOrf, v_tNot, w_tNot, v_tYes, v_gName, v_gTup, v_gLst, v_gCons, v_gNil, v_oNone, v_oSome, w_oSome, v_slice, w_slice, v_chain, w_chain, w_chaint, w_chainf, v_iSeq, w_items1, w_items2, w_trub, w_truN, w_truL, w_truT, R.bind_ok, R.bind_exc, R.bind_bad, List.length_cons, List.length_nil, List.map_cons, List.map_nil, List.replicate, List.cons_append, List.nil_append, List.getElem?_cons_zero, List.getElem?_cons_succ, List.set_cons_zero, List.set_cons_succ, List.set_nil, Nat.reduceAdd, Nat.reduceSub, if_true, if_false, eq_self, reduceIte, Bool.not_true, Bool.not_false, v_encN, v_rng1, v_rng2, Bool.false_eq_true, v_told, w_told1, w_told2, w_wipe0, w_wipe1, v_app, v_ext, v_put, v_drop, w_drop1, w_drop2]⟩]
    rw [List.map_id', show every.filter (fun q => decide (apart p q = 1)) = nearL every p from rfl]
    rw [w_put (by rw [List.length_map]; show _ < 16000000; omega), putA_new hnew]
    simp only [v_seq, w_nx, w_ret, w_exc, w_brk, w_cnt, v_next, v_ret, v_retN, w_rok, w_rexc, v_brk, v_cnt, v_raise, v_if, w_ift, w_iff, w_ifx, v_asg, w_aok, w_aexc, w_gok, v_par, w_par, v_for, w_for, v_run, w_end1, w_end2, w_end3, v_e1, v_e2, w_two, v_eF, v_nil, v_cons, w_cons, v_tup, v_lst, v_var, w_var, v_c, v_and, w_andt, w_andf, v_or, w_ort, w_orf, v_not, w_not, v_ifE, w_ifEt, w_ifEf, v_tB, w_tB, v_tTru, v_tAnd, w_tAndt, w_tAndf, v_tOr, w_tOrt, w_tOrf, v_tNot, w_tNot, v_tYes, v_gName, v_gTup, v_gLst, v_gCons, v_gNil, v_oNone, v_oSome, w_oSome, v_slice, w_slice, v_chain, w_chain, w_chaint, w_chainf, v_iSeq, w_items1, w_items2, w_trub, w_truN, w_truL, w_truT, R.bind_ok, R.bind_exc, R.bind_bad, List.length_cons, List.length_nil, List.map_cons, List.map_nil, List.replicate, List.cons_append, List.nil_append, List.getElem?_cons_zero, List.getElem?_cons_succ, List.set_cons_zero, List.set_cons_succ, List.set_nil, Nat.reduceAdd, Nat.reduceSub, if_true, if_false, eq_self, reduceIte, Bool.not_true, Bool.not_false, v_encN, v_rng1, v_rng2, Bool.false_eq_true, v_told, w_told1, w_told2, w_wipe0, w_wipe1, v_app, v_ext, v_put, v_drop, w_drop1, w_drop2]
    exact ⟨_, .inl rfl, _, _, by rw [List.map_append]; rfl⟩)
  simp only [v_seq, w_nx, w_ret, w_exc, w_brk, w_cnt, v_next, v_ret, v_retN, w_rok, w_rexc, v_brk, v_cnt, v_raise, v_if, w_ift, w_iff, w_ifx, v_asg, w_aok, w_aexc, w_gok, v_par, w_par, v_for, w_for, v_run, w_end1, w_end2, w_end3, v_e1, v_e2, w_two, v_eF, v_nil, v_cons, w_cons, v_tup, v_lst, v_var, w_var, v_c, v_and, w_andt, w_andf, v_or, w_ort, w_orf, v_not, w_not, v_ifE, w_ifEt, w_ifEf, v_tB, w_tB, v_tTru, v_tAnd, w_tAndt, w_tAndf, v_tOr, w_tOrt, w_tOrf, v_tNot, w_tNot, v_tYes, v_gName, v_gTup, v_gLst, v_gCons, v_gNil, v_oNone, v_oSome, w_oSome, v_slice, w_slice, v_chain, w_chain, w_chaint, w_chainf, v_iSeq, w_items1, w_items2, w_trub, w_truN, w_truL, w_truT, R.bind_ok, R.bind_exc, R.bind_bad, List.length_cons, List.length_nil, List.map_cons, List.map_nil, List.replicate, List.cons_append, List.nil_append, List.getElem?_cons_zero, List.getElem?_cons_succ, List.set_cons_zero, List.set_cons_succ, List.set_nil, Nat.reduceAdd, Nat.reduceSub, if_true, if_false, eq_self, reduceIte, Bool.not_true, Bool.not_false, v_encN, v_rng1, v_rng2, Bool.false_eq_true, v_told, w_told1, w_told2, w_wipe0, w_wipe1, v_app, v_ext, v_put, v_drop, w_drop1, w_drop2, nearD]
end PG
/-! PM15 -/
set_option Elab.async false
set_option linter.all false
set_option maxRecDepth 100000
set_option maxHeartbeats 2000000
/-! PM15: sorted changes, paths. -/
namespace PG
open DL
open PySem (PyData Str)
section
variable {α : Type} {lt : α → α → Bool}
theorem mem_insO {x z : α} : ∀ {l : List α}, z ∈ insO lt x l ↔ z = x ∨ z ∈ l
  | [] => by simp [insO]
  | y :: ys => by
    unfold insO
    split
    · simp only [List.mem_cons, mem_insO (l := ys)]
      constructor
      · rintro (h | h | h)
        · exact .inr (.inl h)
        · exact .inl h
        · exact .inr (.inr h)
      · rintro (h | h | h)
        · exact .inr (.inl h)
        · exact .inl h
        · exact .inr (.inr h)
    · simp only [List.mem_cons]
theorem mem_isort {z : α} : ∀ {l : List α}, z ∈ isort lt l ↔ z ∈ l
  | [] => by simp [isort]
  | x :: xs => by rw [isort, mem_insO, mem_isort, List.mem_cons]
theorem insO_rising (tr : ∀ a b c, lt a b = true → lt b c = true → lt a c = true) (tri : ∀ a b, lt a b = false → lt b a = false → a = b) {x : α} : ∀ {l : List α}, x ∉ l → l.Pairwise (fun a b => lt a b = true) → (insO lt x l).Pairwise fun a b => lt a b = true
  | [], _, _ => by simp [insO]
  | y :: ys, hx, h => by
    obtain ⟨h1, h2⟩ := List.pairwise_cons.mp h
    have hne : ¬ x = y := fun e => hx (by simp [e])
    unfold insO
    split
    · rename_i hy
      refine List.pairwise_cons.mpr ⟨fun z hz => ?_, insO_rising tr tri (fun m => hx (List.mem_cons_of_mem _ m)) h2⟩
      rcases mem_insO.mp hz with rfl | hz
      · exact hy
      · exact h1 z hz
    · rename_i hy
      have hxy : lt x y = true := by
        cases e : lt x y
        · exact absurd (tri _ _ e (by simpa using hy)) hne
        · rfl
      refine List.pairwise_cons.mpr ⟨fun z hz => ?_, h⟩
      rcases List.mem_cons.mp hz with rfl | hz
      · exact hxy
      · exact tr _ _ _ hxy (h1 z hz)
theorem isort_rising (tr : ∀ a b c, lt a b = true → lt b c = true → lt a c = true) (tri : ∀ a b, lt a b = false → lt b a = false → a = b) : ∀ {l : List α}, l.Nodup → (isort lt l).Pairwise fun a b => lt a b = true
  | [], _ => by simp [isort]
  | x :: xs, h => by
    obtain ⟨h1, h2⟩ := List.nodup_cons.mp h
    exact insO_rising tr tri (fun m => h1 (mem_isort.mp m)) (isort_rising tr tri h2)
theorem insO_map {f : α → D} {lt' : D → D → Bool} (h : ∀ a b, lt' (f a) (f b) = lt a b) (x : α) : ∀ l : List α, insO lt' (f x) (l.map f) = (insO lt x l).map f
  | [] => rfl
  | y :: ys => by
    rw [List.map_cons, insO, insO, h]
    split
    · rw [insO_map h x ys, List.map_cons]
    · rfl
theorem isort_map {f : α → D} {lt' : D → D → Bool} (h : ∀ a b, lt' (f a) (f b) = lt a b) : ∀ l : List α, isort lt' (l.map f) = (isort lt l).map f
  | [] => rfl
  | x :: xs => by rw [List.map_cons, isort, isort_map h xs, insO_map h, isort]
end
theorem ltI_C (a b : Chg) : ltI (encC a) (encC b) = ltC a b := by
  rw [encC_eq, encC_eq, ltI_pair, ltC]
  by_cases h : a.1 = b.1
  · rw [if_pos h, if_pos (by omega)]
    simp only [decide_eq_decide]
    omega
  · rw [if_neg h, if_neg (by omega)]
    simp only [decide_eq_decide]
    omega
theorem sort_C (cs : List Chg) : dSortP (encL encC cs) = .ok (encL encC (isort ltC cs)) := by
  have h : (cs.map encC).all isPairI = true := by
    rw [List.all_map, List.all_eq_true]
    exact fun x _ => rfl
  show (if (cs.map encC).all isPairI = true then R.ok (PyData.list (isort ltI (cs.map encC))) else .bad) = _
  rw [if_pos h, isort_map ltI_C]
  rfl
/-- the changes to the neighbours, sorted, are all changes -/
theorem sort_near {h : House} {p : Plan} (hp : p ∈ plansL h) : isort ltC ((nearL (plansL h) p).map (stepC p)) = lchanges h p := by
  have ip := (mem_plansL.mp hp).1
  have key : ∀ q ∈ nearL (plansL h) p, stepC p q ∈ lchanges h p ∧ after p (stepC p q) = q := fun q hq => by
    rw [nearL, List.mem_filter, decide_eq_true_iff] at hq
    exact step_lch ip hq.1 hq.2
  have nd : ((nearL (plansL h) p).map (stepC p)).Nodup := by
    have nn : (nearL (plansL h) p).Nodup := ((plansL_rising h).filter _).nodup
    refine List.pairwise_map.mpr (nn.imp_of_mem fun {a b} ha hb hab e => hab ?_)
    rw [← (key a ha).2, ← (key b hb).2, e]
  refine rising_unique ltC_irr ltC_trans (isort_rising (lt := ltC) (fun _ _ _ => ltC_trans) (fun _ _ => ltC_tri) nd) (lchanges_rising h p) fun c => ?_
  rw [mem_isort, List.mem_map]
  constructor
  · rintro ⟨q, hq, rfl⟩
    exact (key q hq).1
  · intro hc
    obtain ⟨a, b, e⟩ := lch_after ip hc
    exact ⟨after p c, (mem_near ip).mpr ⟨c, hc, rfl⟩, e⟩
/-! ### paths -/
def isPath (h : House) : Plan → List Plan → Prop
  | _, [] => True
  | p, q :: r => q ∈ plansL h ∧ apart p q = 1 ∧ isPath h q r
def stepsL : Plan → List Plan → List Chg
  | _, [] => []
  | p, q :: r => stepC p q :: stepsL q r
def lastP : Plan → List Plan → Plan
  | p, [] => p
  | _, q :: r => lastP q r
theorem path_snoc {h : House} {q : Plan} : ∀ {r : List Plan} {p : Plan}, isPath h p r → q ∈ plansL h → apart (lastP p r) q = 1 → isPath h p (r ++ [q])
  | [], p, _, hq, ha => ⟨hq, ha, trivial⟩
  | x :: r, p, hp, hq, ha => ⟨hp.1, hp.2.1, path_snoc hp.2.2 hq ha⟩
theorem lastP_snoc {q : Plan} : ∀ {r : List Plan} {p : Plan}, lastP p (r ++ [q]) = q
  | [], _ => rfl
  | _ :: r, _ => lastP_snoc (r := r)
theorem lastP_mem {h : House} : ∀ {r : List Plan} {p : Plan}, p ∈ plansL h → isPath h p r → lastP p r ∈ plansL h
  | [], _, hp, _ => hp
  | _ :: r, _, _, hr => lastP_mem (r := r) hr.1 hr.2.2
theorem walk_path {h : House} : ∀ {r : List Plan} {p : Plan}, p ∈ plansL h → isPath h p r → walkL h p ((stepsL p r).map encC) = some (p :: r)
  | [], p, _, _ => rfl
  | q :: r, p, hp, hr => by
    obtain ⟨h1, h2⟩ := step_lch (plan_of hp) hr.1 hr.2.1
    rw [stepsL, List.map_cons, walkL, step_enc h1, h2, Option.bind_some, walk_path hr.1 hr.2.2]
    rfl
theorem zip_path {h : House} : ∀ {r : List Plan} {p : Plan}, p ∈ plansL h → isPath h p r → (((p :: r).dropLast.zip r).map fun x : Plan × Plan => stepC x.1 x.2) = stepsL p r ∧ ∀ x ∈ (p :: r).dropLast.zip r, x.1.length = h.P ∧ x.2.length = h.P ∧ apart x.1 x.2 = 1
  | [], p, _, _ => ⟨rfl, fun x hx => by cases hx⟩
  | q :: r, p, hp, hr => by
    obtain ⟨i1, i2⟩ := zip_path hr.1 hr.2.2
    rw [List.dropLast_cons_cons, List.zip_cons_cons, List.map_cons, i1]
    refine ⟨rfl, fun x hx => ?_⟩
    rcases List.mem_cons.mp hx with rfl | hx
    · exact ⟨(plan_of hp).1, (plan_of hr.1).1, hr.2.1⟩
    · exact i2 x hx
theorem cut_last {α : Type} {xs : List α} : cut xs none (some (-1)) = xs.dropLast := by
  unfold cut
  show (xs.drop 0).take ((-1 + (xs.length : Int)).toNat - 0) = _
  rw [List.drop_zero, List.dropLast_eq_take]
  congr 1
  try omega
theorem slice_last {α : Type} {f : α → D} {xs : List α} : dSlice (encL f xs) none (some (-1)) = .ok (encL f xs.dropLast) := by
  show R.ok (PyData.list (cut (xs.map f) none (some (-1)))) = _
  rw [cut_last, ← List.map_dropLast]
  try rfl
theorem slice_from {α : Type} {f : α → D} {xs : List α} {k : Nat} : dSlice (encL f xs) (some (k : Int)) none = .ok (encL f (xs.drop k)) := by
  show R.ok (PyData.list (cut (xs.map f) (some (k : Int)) none)) = _
  rw [cut_drop, ← List.map_drop]
  rfl
theorem slice_to {α : Type} {f : α → D} {xs : List α} {k : Nat} : dSlice (encL f xs) none (some (k : Int)) = .ok (encL f (xs.take k)) := by
  show R.ok (PyData.list (cut (xs.map f) none (some (k : Int)))) = _
  rw [cut_take, ← List.map_take]
  rfl
theorem neLC (p q : List Chg) : dNe (encL encC p) (encL encC q) = .ok (.bool (!decide (p = q))) := by
  rw [ne_good (good_L good_C) (by omega)]
end PG
/-! PP3 -/
set_option Elab.async false
set_option linter.all false
set_option maxRecDepth 100000
set_option maxHeartbeats 1000000
/-! PP3: going from plan to plan breadth first; the least way. -/
namespace PG
/-! ### lists of changes in order -/
def lexC : List Chg → List Chg → Bool
  | [], [] => false
  | [], _ :: _ => true
  | _ :: _, [] => false
  | x :: xs, y :: ys => if x = y then lexC xs ys else ltC x y
theorem lexC_irr : ∀ x, lexC x x = false
  | [] => rfl
  | x :: xs => by simp [lexC, lexC_irr xs]
theorem lexC_trans : ∀ {x y z}, lexC x y = true → lexC y z = true → lexC x z = true
  | [], [], _, h, _ => by simp [lexC] at h
  | [], _ :: _, [], _, h => by simp [lexC] at h
  | [], _ :: _, _ :: _, _, _ => rfl
  | _ :: _, [], _, h, _ => by simp [lexC] at h
  | _ :: _, _ :: _, [], _, h => by simp [lexC] at h
  | a :: x, b :: y, c :: z, h1, h2 => by
    simp only [lexC] at h1 h2 ⊢
    by_cases e1 : a = b
    · subst e1
      by_cases e2 : a = c
      · subst e2
        simp only [if_true] at h1 h2 ⊢
        exact lexC_trans h1 h2
      · simp only [if_neg e2] at h2 ⊢; exact h2
    · simp only [if_neg e1] at h1
      by_cases e2 : b = c
      · subst e2
        simp only [if_neg e1]; exact h1
      · simp only [if_neg e2] at h2
        have h3 := ltC_trans h1 h2
        rw [if_neg (fun e => by subst e; rw [ltC_asym h1] at h2; cases h2)]
        exact h3
theorem lexC_tri : ∀ {x y}, x.length = y.length → lexC x y = false → lexC y x = false → x = y
  | [], [], _, _, _ => rfl
  | a :: x, b :: y, h, h1, h2 => by
    simp only [lexC] at h1 h2
    by_cases e : a = b
    · subst e
      simp only [if_true] at h1 h2
      rw [lexC_tri (by simpa using h) h1 h2]
    · rw [if_neg e] at h1
      rw [if_neg (fun z => e z.symm)] at h2
      exact absurd (ltC_tri h1 h2) e
theorem lexC_snoc : ∀ {x c d}, ltC c d = true → lexC (x ++ [c]) (x ++ [d]) = true
  | [], c, d, h => by
    have : ¬ c = d := fun e => by subst e; rw [ltC_irr] at h; cases h
    simp [lexC, h, this]
  | a :: x, c, d, h => by simp [lexC, lexC_snoc h]
theorem lexC_app : ∀ {x y u v : List Chg}, x.length = y.length → lexC x y = true → lexC (x ++ u) (y ++ v) = true
  | [], [], _, _, _, h => by simp [lexC] at h
  | a :: x, b :: y, u, v, hl, h => by
    simp only [lexC, List.cons_append] at h ⊢
    by_cases e : a = b
    · subst e
      simp only [if_true] at h ⊢
      exact lexC_app (by simpa using hl) h
    · simp only [if_neg e] at h ⊢; exact h
def slt (v w : List Chg) : Prop := v.length < w.length ∨ v.length = w.length ∧ lexC v w = true
def sle (v w : List Chg) : Prop := v = w ∨ slt v w
theorem slt_irr {v} : ¬ slt v v := fun h => by
  rcases h with h | ⟨_, h⟩
  · omega
  · rw [lexC_irr] at h; cases h
theorem slt_trans {u v w} (h1 : slt u v) (h2 : slt v w) : slt u w := by
  rcases h1 with h1 | ⟨h1, l1⟩ <;> rcases h2 with h2 | ⟨h2, l2⟩
  · exact .inl (by omega)
  · exact .inl (by omega)
  · exact .inl (by omega)
  · exact .inr ⟨by omega, lexC_trans l1 l2⟩
theorem slt_snoc {w c d} (h : ltC c d = true) : slt (w ++ [c]) (w ++ [d]) := .inr ⟨by simp, lexC_snoc h⟩
theorem slt_app {v w c d} (h : slt v w) : slt (v ++ [c]) (w ++ [d]) := by
  rcases h with h | ⟨h, l⟩
  · exact .inl (by simp; omega)
  · exact .inr ⟨by simp [h], lexC_app h l⟩
theorem slt_nil {w : List Chg} (h : w ≠ []) : slt [] w := .inl (List.length_pos_iff.mpr h)
theorem sle_trans {u v w} (h1 : sle u v) (h2 : sle v w) : sle u w := by
  rcases h1 with rfl | h1
  · exact h2
  · rcases h2 with rfl | h2
    · exact .inr h1
    · exact .inr (slt_trans h1 h2)
theorem sle_snoc {v w c} (h : sle v w) : sle (v ++ [c]) (w ++ [c]) := by
  rcases h with rfl | h
  · exact .inl rfl
  · exact .inr (slt_app h)
theorem sle_anti {v w} (h1 : sle v w) (h2 : sle w v) : v = w := by
  rcases h1 with h1 | h1
  · exact h1
  · rcases h2 with h2 | h2
    · exact h2.symm
    · exact absurd (slt_trans h1 h2) slt_irr
theorem sle_len {v w} (h : sle v w) : v.length ≤ w.length := by
  rcases h with rfl | h | h
  · omega
  · omega
  · omega
theorem slt_total {v w} (h : v ≠ w) : slt v w ∨ slt w v := by
  rcases Nat.lt_trichotomy v.length w.length with l | l | l
  · exact .inl (.inl l)
  · cases e : lexC v w
    · cases e2 : lexC w v
      · exact absurd (lexC_tri l e e2) h
      · exact .inr (.inr ⟨l.symm, e2⟩)
    · exact .inl (.inr ⟨l, e⟩)
  · exact .inr (.inl l)
/-! ### ways by changes -/
def lpath (h : House) : Plan → List Chg → Plan → Prop
  | p, [], q => p = q
  | p, c :: W, q => c ∈ lchanges h p ∧ lpath h (after p c) W q
def goL : Plan → List Chg → Plan
  | p, [] => p
  | p, c :: W => goL (after p c) W
theorem lpath_go {h : House} : ∀ {W : List Chg} {p q : Plan}, lpath h p W q → goL p W = q
  | [], _, _, e => e
  | _ :: W, _, _, e => lpath_go (W := W) e.2
theorem goL_snoc : ∀ {W : List Chg} {p : Plan} {c : Chg}, goL p (W ++ [c]) = after (goL p W) c
  | [], _, _ => rfl
  | _ :: W, _, _ => goL_snoc (W := W)
theorem lpath_app {h : House} : ∀ {V W : List Chg} {p q : Plan}, lpath h p (V ++ W) q ↔ ∃ r, lpath h p V r ∧ lpath h r W q
  | [], W, p, q => by
    constructor
    · exact fun z => ⟨p, rfl, z⟩
    · rintro ⟨r, rfl, z⟩; exact z
  | c :: V, W, p, q => by
    show (_ ∧ lpath h (after p c) (V ++ W) q) ↔ _
    rw [lpath_app (V := V)]
    constructor
    · rintro ⟨a, r, b, d⟩; exact ⟨r, ⟨a, b⟩, d⟩
    · rintro ⟨r, ⟨a, b⟩, d⟩; exact ⟨a, r, b, d⟩
theorem lpath_snoc {h : House} {W : List Chg} {c : Chg} {p q : Plan} : lpath h p (W ++ [c]) q ↔ ∃ r, lpath h p W r ∧ c ∈ lchanges h r ∧ after r c = q := lpath_app
theorem lpath_mem {h : House} : ∀ {W : List Chg} {p q : Plan}, p ∈ plansL h → lpath h p W q → q ∈ plansL h
  | [], _, _, hp, e => e ▸ hp
  | c :: W, p, _, hp, e => lpath_mem (W := W) (lch_after (mem_plansL.mp hp).1 e.1).1 e.2
/-! ### breadth first -/
abbrev Ent := Plan × List Chg
def push (p : Plan) (W : List Chg) (G : List Ent) (c : Chg) : List Ent := if after p c ∈ G.map (·.1) then G else G ++ [(after p c, W ++ [c])]
def expand (h : House) (e : Ent) (G : List Ent) : List Ent := (lchanges h e.1).foldl (push e.1 e.2) G
def bfs (h : House) : Nat → Nat → List Ent → List Ent
  | 0, _, G => G
  | f + 1, n, G => match G[n]? with
    | none => G
    | some e => bfs h f (n + 1) (expand h e G)
structure XI (h : House) (x : Plan) (n : Nat) (a0 : Ent) (seen : List Chg) (G : List Ent) : Prop where
  hd : G[0]? = some (x, [])
  nd : (G.map (·.1)).Nodup
  val : ∀ e ∈ G, lpath h x e.2 e.1
  inc : G.Pairwise fun a b => slt a.2 b.2
  at0 : G[n]? = some a0
  par : ∀ e ∈ G, e.2 = [] ∨ (∃ j a c, j < n ∧ G[j]? = some a ∧ e.2 = a.2 ++ [c]) ∨ ∃ c ∈ seen, e.2 = a0.2 ++ [c]
  don : ∀ j a, j < n → G[j]? = some a → ∀ c ∈ lchanges h a.1, ∃ e ∈ G, e.1 = after a.1 c ∧ sle e.2 (a.2 ++ [c])
  don0 : ∀ c ∈ seen, ∃ e ∈ G, e.1 = after a0.1 c ∧ sle e.2 (a0.2 ++ [c])
structure BI (h : House) (x : Plan) (n : Nat) (G : List Ent) : Prop where
  hd : G[0]? = some (x, [])
  nd : (G.map (·.1)).Nodup
  val : ∀ e ∈ G, lpath h x e.2 e.1
  inc : G.Pairwise fun a b => slt a.2 b.2
  par : ∀ e ∈ G, e.2 = [] ∨ ∃ j a c, j < n ∧ G[j]? = some a ∧ e.2 = a.2 ++ [c]
  don : ∀ j a, j < n → G[j]? = some a → ∀ c ∈ lchanges h a.1, ∃ e ∈ G, e.1 = after a.1 c ∧ sle e.2 (a.2 ++ [c])
  le : n ≤ G.length
theorem inc_get {G : List Ent} (inc : G.Pairwise fun a b => slt a.2 b.2) {i j : Nat} {a b : Ent} (hi : G[i]? = some a) (hj : G[j]? = some b) (lt : i < j) : slt a.2 b.2 := by
  obtain ⟨h1, rfl⟩ := List.getElem?_eq_some_iff.mp hi
  obtain ⟨h2, rfl⟩ := List.getElem?_eq_some_iff.mp hj
  exact List.pairwise_iff_getElem.mp inc _ _ h1 h2 lt
theorem get_app {α : Type} {G H : List α} {i : Nat} {a : α} (h : G[i]? = some a) : (G ++ H)[i]? = some a := by
  obtain ⟨h1, rfl⟩ := List.getElem?_eq_some_iff.mp h
  rw [List.getElem?_append_left h1]
  exact h
theorem push_inv {h : House} {x : Plan} {n : Nat} {a0 : Ent} {seen : List Chg} {G : List Ent} {c : Chg} (I : XI h x n a0 seen G) (hc : c ∈ lchanges h a0.1) (hs : ∀ d ∈ seen, ltC d c = true) : XI h x n a0 (seen ++ [c]) (push a0.1 a0.2 G c) := by
  have m0 : a0 ∈ G := List.mem_of_getElem? I.at0
  have all : ∀ e ∈ G, slt e.2 (a0.2 ++ [c]) := fun e he => by
    rcases I.par e he with z | ⟨j, a, d, hj, ha, z⟩ | ⟨d, hd, z⟩
    · rw [z]; exact slt_nil (by simp)
    · rw [z]; exact slt_app (inc_get I.inc ha I.at0 hj)
    · rw [z]; exact slt_snoc (hs d hd)
  unfold push
  by_cases hm : after a0.1 c ∈ G.map (·.1)
  · rw [if_pos hm]
    obtain ⟨e, he, q⟩ := List.mem_map.mp hm
    refine ⟨I.hd, I.nd, I.val, I.inc, I.at0, fun e he => ?_, I.don, fun d hd => ?_⟩
    · rcases I.par e he with z | z | ⟨d, hd, z⟩
      · exact .inl z
      · exact .inr (.inl z)
      · exact .inr (.inr ⟨d, List.mem_append_left _ hd, z⟩)
    · rcases List.mem_append.mp hd with hd | hd
      · exact I.don0 d hd
      · rw [List.mem_singleton.mp hd]
        exact ⟨e, he, q, .inr (all e he)⟩
  · rw [if_neg hm]
    have lt : ∀ {j a}, j < n → (G ++ [(after a0.1 c, a0.2 ++ [c])])[j]? = some a → G[j]? = some a := fun {j a} hj ha => by
      have : n < G.length := (List.getElem?_eq_some_iff.mp I.at0).1
      rwa [List.getElem?_append_left (by omega)] at ha
    refine ⟨get_app I.hd, ?_, fun e he => ?_, ?_, get_app I.at0, fun e he => ?_, fun j a hj ha d hd => ?_, fun d hd => ?_⟩
    · rw [List.map_append]
      refine List.pairwise_append.mpr ⟨I.nd, by simp, fun u hu v hv => ?_⟩
      rw [List.map_cons, List.map_nil, List.mem_singleton] at hv
      subst hv
      intro e
      rw [e] at hu
      exact hm hu
    · rcases List.mem_append.mp he with he | he
      · exact I.val e he
      · rw [List.mem_singleton.mp he]
        exact lpath_snoc.mpr ⟨a0.1, I.val a0 m0, hc, rfl⟩
    · refine List.pairwise_append.mpr ⟨I.inc, by simp, fun u hu v hv => ?_⟩
      rw [List.mem_singleton.mp hv]
      exact all u hu
    · rcases List.mem_append.mp he with he | he
      · rcases I.par e he with z | ⟨j, a, d, hj, ha, z⟩ | ⟨d, hd, z⟩
        · exact .inl z
        · exact .inr (.inl ⟨j, a, d, hj, get_app ha, z⟩)
        · exact .inr (.inr ⟨d, List.mem_append_left _ hd, z⟩)
      · rw [List.mem_singleton.mp he]
        exact .inr (.inr ⟨c, by simp, rfl⟩)
    · obtain ⟨e, he, q⟩ := I.don j a hj (lt hj ha) d hd
      exact ⟨e, List.mem_append_left _ he, q⟩
    · rcases List.mem_append.mp hd with hd | hd
      · obtain ⟨e, he, q⟩ := I.don0 d hd
        exact ⟨e, List.mem_append_left _ he, q⟩
      · rw [List.mem_singleton.mp hd]
        exact ⟨_, List.mem_append_right _ List.mem_cons_self, rfl, .inl rfl⟩
theorem fold_inv {h : House} {x : Plan} {n : Nat} {a0 : Ent} {rest : List Chg} : ∀ {cs seen : List Chg} {G : List Ent}, lchanges h a0.1 = seen ++ (cs ++ rest) → XI h x n a0 seen G → XI h x n a0 (seen ++ cs) (cs.foldl (push a0.1 a0.2) G)
  | [], seen, G, _, I => by rw [List.append_nil]; exact I
  | c :: cs, seen, G, e, I => by
    have ri := lchanges_rising h a0.1
    rw [e] at ri
    have J := push_inv I (c := c) (by rw [e]; simp) fun d hd => (List.pairwise_append.mp ri).2.2 d hd c List.mem_cons_self
    have := fold_inv (rest := rest) (cs := cs) (seen := seen ++ [c]) (by rw [e]; simp) J
    rw [List.append_assoc] at this
    exact this
theorem start_xi {h : House} {x : Plan} {n : Nat} {a0 : Ent} {G : List Ent} (I : BI h x n G) (ha : G[n]? = some a0) : XI h x n a0 [] G := ⟨I.hd, I.nd, I.val, I.inc, ha, fun e he => by
    rcases I.par e he with z | z
    · exact .inl z
    · exact .inr (.inl z), I.don, fun c hc => by cases hc⟩
theorem expand_inv {h : House} {x : Plan} {n : Nat} {a0 : Ent} {G : List Ent} (I : BI h x n G) (ha : G[n]? = some a0) : BI h x (n + 1) (expand h a0 G) := by
  have J := fold_inv (cs := lchanges h a0.1) (seen := []) (rest := []) (by simp) (start_xi I ha)
  refine ⟨J.hd, J.nd, J.val, J.inc, fun e he => ?_, fun j a hj hg c hc => ?_, ?_⟩
  · rcases J.par e he with z | ⟨j, a, d, hj, hg, z⟩ | ⟨d, _, z⟩
    · exact .inl z
    · exact .inr ⟨j, a, d, by omega, hg, z⟩
    · exact .inr ⟨n, a0, d, by omega, J.at0, z⟩
  · by_cases e : j = n
    · subst e
      have : a = a0 := Option.some.inj (hg.symm.trans J.at0)
      subst this
      exact J.don0 c hc
    · exact J.don j a (by omega) hg c hc
  · exact (List.getElem?_eq_some_iff.mp J.at0).1
theorem nodup_len {α : Type} [DecidableEq α] : ∀ {l m : List α}, l.Nodup → (∀ x ∈ l, x ∈ m) → l.length ≤ m.length
  | [], _, _, _ => Nat.zero_le _
  | x :: l, m, h1, h2 => by
    obtain ⟨a, b⟩ := List.nodup_cons.mp h1
    have hx := h2 x List.mem_cons_self
    have := nodup_len (l := l) (m := m.erase x) b fun y hy => (List.mem_erase_of_ne (fun (e : y = x) => a (by rw [← e]; exact hy))).mpr (h2 y (List.mem_cons_of_mem _ hy))
    have hl := List.length_erase_of_mem hx
    have hp := List.length_pos_of_mem hx
    simp only [List.length_cons]
    omega
theorem BI.len {h : House} {x : Plan} {n : Nat} {G : List Ent} (hx : x ∈ plansL h) (I : BI h x n G) : G.length ≤ (plansL h).length := by
  have := nodup_len (l := G.map (·.1)) (m := plansL h) I.nd fun y hy => by
    obtain ⟨e, he, rfl⟩ := List.mem_map.mp hy
    exact lpath_mem hx (I.val e he)
  simpa using this
theorem bfs_inv {h : House} {x : Plan} (hx : x ∈ plansL h) : ∀ {f n : Nat} {G : List Ent}, BI h x n G → (plansL h).length ≤ f + n → BI h x (bfs h f n G).length (bfs h f n G)
  | 0, n, G, I, hf => by
    have := I.len hx
    have := I.le
    have e : n = G.length := by omega
    subst e
    exact I
  | f + 1, n, G, I, hf => by
    unfold bfs
    split
    · rename_i hg
      have := I.le
      have e : n = G.length := by
        have := List.getElem?_eq_none_iff.mp hg
        omega
      subst e
      exact I
    · rename_i e hg
      exact bfs_inv hx (expand_inv I hg) (by omega)
def reachedG (h : House) (x : Plan) : List Ent := bfs h 1024 0 [(x, [])]
theorem start_inv {h : House} {x : Plan} : BI h x 0 [(x, [])] :=
  ⟨rfl, by simp, fun e he => by rw [List.mem_singleton.mp he]; rfl, by simp, fun e he => .inl (by rw [List.mem_singleton.mp he]), fun j a hj => by omega, by simp⟩
theorem reached_inv {h : House} {x : Plan} (k : h.ok) (hx : x ∈ plansL h) : BI h x (reachedG h x).length (reachedG h x) := bfs_inv hx start_inv (by have := plansL_length k; omega)
theorem bfs_stable {h : House} {x : Plan} {G : List Ent} (I : BI h x G.length G) (f : Nat) : bfs h f G.length G = G := by
  cases f with
  | zero => rfl
  | succ f =>
    unfold bfs
    rw [List.getElem?_eq_none (Nat.le_refl _)]
/-! ### the least way -/
def wayP (h : House) (x y : Plan) : Option (List Chg) := ((reachedG h x).find? fun e => decide (e.1 = y)).map (·.2)
theorem find_key {α : Type} {G : List (Plan × α)} (nd : (G.map (·.1)).Nodup) {e : Plan × α} (he : e ∈ G) : (G.find? fun z => decide (z.1 = e.1)).map (·.2) = some e.2 := by
  induction G with
  | nil => cases he
  | cons g G ih =>
    rw [List.map_cons, List.nodup_cons] at nd
    rcases List.mem_cons.mp he with rfl | he
    · simp
    · have : ¬ g.1 = e.1 := fun q => nd.1 (q ▸ List.mem_map_of_mem he)
      rw [List.find?_cons_of_neg (by simpa using this)]
      exact ih nd.2 he
theorem find_mem {α : Type} {G : List (Plan × α)} {y : Plan} {a : α} (h : (G.find? fun z => decide (z.1 = y)).map (·.2) = some a) : (y, a) ∈ G := by
  rw [Option.map_eq_some_iff] at h
  obtain ⟨e, he, rfl⟩ := h
  have h1 := List.find?_some he
  have h2 := List.mem_of_find?_eq_some he
  rw [decide_eq_true_iff] at h1
  rw [← h1]
  exact h2
section
variable {h : House} {x y : Plan} {V W : List Chg} (k : h.ok) (hx : x ∈ plansL h)
include k hx
theorem reach_min : ∀ {V : List Chg} {y : Plan}, lpath h x V y → ∃ e ∈ reachedG h x, e.1 = y ∧ sle e.2 V := by
  intro V
  have I := reached_inv k hx
  generalize hn : V.length = n
  induction n generalizing V with
  | zero =>
    have : V = [] := List.eq_nil_of_length_eq_zero hn
    subst this
    rintro y rfl
    exact ⟨_, List.mem_of_getElem? I.hd, rfl, .inl rfl⟩
  | succ n ih =>
    have hne : V ≠ [] := fun e => by rw [e] at hn; cases hn
    have hv := List.dropLast_concat_getLast hne
    intro y hy
    rw [← hv] at hy ⊢
    obtain ⟨r, h1, h2, h3⟩ := lpath_snoc.mp hy
    obtain ⟨e, he, q1, q2⟩ := ih (V := V.dropLast) (by simp [hn]) h1
    obtain ⟨j, hj, rfl⟩ := List.getElem_of_mem he
    obtain ⟨e2, he2, q3, q4⟩ := I.don j _ hj (List.getElem?_eq_getElem hj) (V.getLast hne) (by rw [q1]; exact h2)
    exact ⟨e2, he2, by rw [q3, q1]; exact h3, sle_trans q4 (sle_snoc q2)⟩
theorem wayP_mem : wayP h x y = some W ↔ (y, W) ∈ reachedG h x :=
  ⟨find_mem, fun m => find_key (reached_inv k hx).nd m⟩
theorem wayP_lpath (hw : wayP h x y = some W) : lpath h x W y := (reached_inv k hx).val _ ((wayP_mem k hx).mp hw)
theorem wayP_least (hw : wayP h x y = some W) (hv : lpath h x V y) : sle W V := by
  obtain ⟨e, he, rfl, q⟩ := reach_min k hx hv
  have := (wayP_mem k hx).mpr he
  rw [hw] at this
  cases this
  exact q
theorem wayP_none (hw : wayP h x y = none) : ¬ lpath h x V y := fun hv => by
  obtain ⟨e, he, rfl, q⟩ := reach_min k hx hv
  have := (wayP_mem k hx).mpr he
  rw [hw] at this
  cases this
omit k hx in
theorem idx_len {n : Nat} {G : List Ent} (I : BI h x n G) : ∀ (i : Nat) (e : Ent), G[i]? = some e → e.2.length ≤ i := by
  intro i
  induction i using Nat.strongRecOn with
  | ind i ih =>
    intro e he
    rcases I.par e (List.mem_of_getElem? he) with z | ⟨j, a, c, _, ha, z⟩
    · rw [z]; exact Nat.zero_le _
    · have hji : j < i := by
        refine Decidable.byContradiction fun q => ?_
        have s1 : slt a.2 e.2 := by rw [z]; exact .inl (by simp)
        by_cases e2 : i = j
        · subst e2
          rw [he] at ha
          cases ha
          exact slt_irr s1
        · exact slt_irr (slt_trans s1 (inc_get I.inc he ha (by omega)))
      have := ih j hji a ha
      rw [z, List.length_append, List.length_singleton]
      omega
theorem wayP_len (hw : wayP h x y = some W) : W.length < 1024 := by
  have m := (wayP_mem k hx).mp hw
  have I := reached_inv k hx
  obtain ⟨j, hj, e⟩ := List.getElem_of_mem m
  have : W.length ≤ j := idx_len I j (y, W) (by rw [List.getElem?_eq_getElem hj, e])
  have := I.len hx
  have := plansL_length k
  omega
theorem wayP_self : wayP h x x = some [] := (wayP_mem k hx).mpr (List.mem_of_getElem? (reached_inv k hx).hd)
theorem wayP_pre {c : Chg} (hw : wayP h x y = some (W ++ [c])) : ∃ p, wayP h x p = some W ∧ c ∈ lchanges h p ∧ after p c = y := by
  have I := reached_inv k hx
  have m := (wayP_mem k hx).mp hw
  obtain ⟨r, h1, h2, h3⟩ := lpath_snoc.mp (I.val _ m)
  rcases I.par _ m with z | ⟨j, a, d, _, ha, z⟩
  · simp at z
  · have := List.append_inj' z rfl
    obtain ⟨z1, z2⟩ := this
    subst z1
    cases z2
    have ma := List.mem_of_getElem? ha
    have : a.1 = r := (lpath_go (I.val a ma)).symm.trans (lpath_go h1)
    subst this
    exact ⟨a.1, (wayP_mem k hx).mpr ma, h2, h3⟩
end
end PG
/-! PM16 -/
set_option Elab.async false
set_option linter.all false
set_option maxRecDepth 100000
set_option maxHeartbeats 2000000
/-! PM16: reached, way. -/
namespace PG
open DL
open PySem (PyData Str)
/-! ### while -/
theorem v_while {n : Nat} {t : FT} {b : FS} {ρ : Env} : DL.sWhile n t b ρ = whileN t b n ρ := rfl
theorem while_inv {t : FT} {b : FS} {n : Nat} {ρ : Env} {r : SR} (hr : whileN t b n ρ = r) (I : Nat → Env → Prop) (m : Nat) (h0 : I m ρ) (hm : m < n)
    (h : ∀ k ρ, I k ρ → t ρ = .ok false ∨ t ρ = .ok true ∧ ∃ j, k = j + 1 ∧ ∃ ρ2, (b ρ = .nx ρ2 ∨ b ρ = .cnt ρ2) ∧ I j ρ2) :
    ∃ k ρ', r = .nx ρ' ∧ I k ρ' ∧ t ρ' = .ok false := by
  subst hr
  induction n generalizing m ρ with
  | zero => omega
  | succ n ih =>
    rcases h m ρ h0 with h1 | ⟨h1, j, rfl, ρ2, h2, h3⟩
    · exact ⟨m, ρ, by rw [whileN, h1], h0, h1⟩
    · have e : whileN t b (n + 1) ρ = whileN t b n ρ2 := by
        rw [whileN, h1]
        rcases h2 with h2 | h2 <;> simp only [h2]
      rw [e]
      exact ih j h3 (by omega)
def rTry (p : Ex → Bool) (d : D) (r : SR) : SR := match r with
  | .exc e => if p e = true then .ret d else .exc e
  | r => r
theorem v_try {p : Ex → Bool} {d : D} {a : FS} {ρ : Env} : sTryC p d a ρ = rTry p d (a ρ) := rfl
theorem w_try1 {p : Ex → Bool} {d : D} {ρ : Env} : rTry p d (.nx ρ) = .nx ρ := rfl
theorem w_try2 {p : Ex → Bool} {d : D} {e : Ex} (h : p e = true) : rTry p d (.exc e) = .ret d := if_pos h
theorem ltN (a b : Nat) : dLt (.int a) (.int b) = .ok (.bool (decide (a < b))) := by
  show R.ok (PyData.bool (decide ((a : Int) < b))) = _
  congr 2
  simp only [decide_eq_decide]
  omega
/-! ### what is reached -/
def parD (x : Plan) (W : List Chg) : D := match W.getLast? with
  | none => .none
  | some c => .tuple [encP (goL x W.dropLast), encC c]
theorem parD_snoc {x : Plan} {W : List Chg} {c : Chg} : parD x (W ++ [c]) = .tuple [encP (goL x W), encC c] := by
  unfold parD
  rw [List.getLast?_append]
  simp
def redD (h : House) (x : Plan) : D := encD (parD x) (reachedG h x)
theorem look_G {G : List Ent} {y : Plan} : (lookA G y).isSome = decide (y ∈ G.map (·.1)) := by
  cases e : lookA G y with
  | none => rw [decide_eq_false (lookA_none.mp e)]; rfl
  | some a =>
    rw [decide_eq_true]
    · rfl
    · refine Decidable.byContradiction fun z => ?_
      rw [lookA_none.mpr z] at e
      cases e
theorem reached_eq {h : House} {x : Plan} (k : h.ok) (hx : x ∈ plansL h) : f_reached [encH h, encP x] = .ok (.tuple [redD h x, encL encP ((reachedG h x).map (·.1))]) := by
  have d1 : dDisp1 (encP x) .none = .ok (encD (parD x) [(x, [])]) := by
    show (if isKT (encP x) = true then R.ok (PyData.dict [markT, (encP x, .none)]) else _) = _
    rw [if_pos (isKT_P x)]
    rfl
  have l1 : PyData.list [encP x] = encL encP (([(x, [])] : List Ent).map (·.1)) := rfl
  have p5 := k.p5
  simp only [f_reached, v_seq, w_nx, w_ret, w_exc, w_brk, w_cnt, v_next, v_ret, v_retN, w_rok, w_rexc, v_brk, v_cnt, v_raise, v_if, w_ift, w_iff, w_ifx, v_asg, w_aok, w_aexc, w_gok, v_par, w_par, v_for, w_for, v_run, w_end1, w_end2, w_end3, v_e1, v_e2, w_two, v_eF, v_nil, v_cons, w_cons, v_tup, v_lst, v_var, w_var, v_c, v_and, w_andt, w_andf, v_or, w_ort, w_orf, v_not, w_not, v_ifE, w_ifEt, w_ifEf, v_tB, w_tB, v_tTru, v_tAnd, w_tAndt, w_tAndf, v_tOr, w_tOrt, w_tOrf, v_tNot, w_tNot, v_tYes, v_gName, v_gTup, v_gLst, v_gCons, v_gNil, v_oNone, v_oSome, w_oSome, v_slice, w_slice, v_chain, w_chain, w_chaint, w_chainf, v_iSeq, w_items1, w_items2, w_trub, w_truN, w_truL, w_truT, R.bind_ok, R.bind_exc, R.bind_bad, List.length_cons, List.length_nil, List.map_cons, List.map_nil, List.replicate, List.cons_append, List.nil_append, List.getElem?_cons_zero, List.getElem?_cons_succ, List.set_cons_zero, List.set_cons_succ, List.set_nil, Nat.reduceAdd, Nat.reduceSub, if_true, if_false, eq_self, reduceIte, Bool.not_true, Bool.not_false, v_encN, v_rng1, v_rng2, Bool.false_eq_true, v_told, w_told1, w_told2, w_wipe0, w_wipe1, v_app, v_ext, v_put, v_drop, w_drop1, w_drop2, d1, l1, v_while]
  generalize hr : whileN _ _ _ _ = r
  obtain ⟨m, ρ', rfl, ⟨n, G, a, b, I, e1, e2, rfl⟩, ht⟩ := while_inv hr (fun m ρ => ∃ n G a b, BI h x n G ∧ bfs h m n G = reachedG h x ∧ 1024 ≤ m + n ∧ ρ = [some (encH h), some (encP x), some (encD (parD x) G), some (encL encP (G.map (·.1))), some (.int (n : Nat)), a, b]) 1024 ⟨0, _, _, _, start_inv, rfl, by omega, rfl⟩ (by omega) (by
    rintro m ρ ⟨n, G, a, b, I, e1, e2, rfl⟩
    have GL := I.len hx
    have pl := plansL_length k
    have lt := ltN n (G.map (·.1)).length
    by_cases hn : n < G.length
    · refine .inr ⟨?_, ?_⟩
      · rw [decide_eq_true (by rw [List.length_map]; exact hn)] at lt
        simp only [v_seq, w_nx, w_ret, w_exc, w_brk, w_cnt, v_next, v_ret, v_retN, w_rok, w_rexc, v_brk, v_cnt, v_raise, v_if, w_ift, w_iff, w_ifx, v_asg, w_aok, w_aexc, w_gok, v_par, w_par, v_for, w_for, v_run, w_end1, w_end2, w_end3, v_e1, v_e2, w_two, v_eF, v_nil, v_cons, w_cons, v_tup, v_lst, v_var, w_var, v_c, v_and, w_andt, w_andf, v_or, w_ort, w_orf, v_not, w_not, v_ifE, w_ifEt, w_ifEf, v_tB, w_tB, v_tTru, v_tAnd, w_tAndt, w_tAndf, v_tOr, w_tOrt, w_tOrf, v_tNot, w_tNot, v_tYes, v_gName, v_gTup, v_gLst, v_gCons, v_gNil, v_oNone, v_oSome, w_oSome, v_slice, w_slice, v_chain, w_chain, w_chaint, w_chainf, v_iSeq, w_items1, w_items2, w_trub, w_truN, w_truL, w_truT, R.bind_ok, R.bind_exc, R.bind_bad, List.length_cons, List.length_nil, List.map_cons, List.map_nil, List.replicate, List.cons_append, List.nil_append, List.getElem?_cons_zero, List.getElem?_cons_succ, List.set_cons_zero, List.set_cons_succ, List.set_nil, Nat.reduceAdd, Nat.reduceSub, if_true, if_false, eq_self, reduceIte, Bool.not_true, Bool.not_false, v_encN, v_rng1, v_rng2, Bool.false_eq_true, v_told, w_told1, w_told2, w_wipe0, w_wipe1, v_app, v_ext, v_put, v_drop, w_drop1, w_drop2, len_L, lt]
      · obtain ⟨j, rfl⟩ : ∃ j, m = j + 1 := ⟨m - 1, by omega⟩
        have ha : G[n]? = some G[n] := List.getElem?_eq_getElem hn
        generalize G[n] = a0 at ha
        refine ⟨j, rfl, ?_⟩
        have X0 := start_xi I ha
        have pa : a0.1 ∈ plansL h := lpath_mem hx (I.val _ (List.mem_of_getElem? ha))
        have ip := plan_of pa
        have rowat : ∀ G' : List Ent, G'[n]? = some a0 → dIdx (encL encP (G'.map (·.1))) (.int (n : Nat)) = .ok (encP a0.1) := fun G' hg => by
          refine idxL ?_
          rw [List.map_map, List.getElem?_map, hg]
          rfl
        simp only [v_seq, w_nx, w_ret, w_exc, w_brk, w_cnt, v_next, v_ret, v_retN, w_rok, w_rexc, v_brk, v_cnt, v_raise, v_if, w_ift, w_iff, w_ifx, v_asg, w_aok, w_aexc, w_gok, v_par, w_par, v_for, w_for, v_run, w_end1, w_end2, w_end3, v_e1, v_e2, w_two, v_eF, v_nil, v_cons, w_cons, v_tup, v_lst, v_var, w_var, v_c, v_and, w_andt, w_andf, v_or, w_ort, w_orf, v_not, w_not, v_ifE, w_ifEt, w_ifEf, v_tB, w_tB, v_tTru, v_tAnd, w_tAndt, w_tAndf, v_tOr, w_tOrt, w_tOrf, v_tNot, w_tNot, v_tYes, v_gName, v_gTup, v_gLst, v_gCons, v_gNil, v_oNone, v_oSome, w_oSome, v_slice, w_slice, v_chain, w_chain, w_chaint, w_chainf, v_iSeq, w_items1, w_items2, w_trub, w_truN, w_truL, w_truT, R.bind_ok, R.bind_exc, R.bind_bad, List.length_cons, List.length_nil, List.map_cons, List.map_nil, List.replicate, List.cons_append, List.nil_append, List.getElem?_cons_zero, List.getElem?_cons_succ, List.set_cons_zero, List.set_cons_succ, List.set_nil, Nat.reduceAdd, Nat.reduceSub, if_true, if_false, eq_self, reduceIte, Bool.not_true, Bool.not_false, v_encN, v_rng1, v_rng2, Bool.false_eq_true, v_told, w_told1, w_told2, w_wipe0, w_wipe1, v_app, v_ext, v_put, v_drop, w_drop1, w_drop2, rowat G ha, let_changes_eq k ip, items_L]
        generalize hr2 : forL _ _ _ _ = r2
        obtain ⟨ρ2, rfl, u, v, rfl⟩ := for_inv hr2 encC (fun pre ρ => ∃ u v, ρ = [some (encH h), some (encP x), some (encD (parD x) (pre.foldl (push a0.1 a0.2) G)), some (encL encP ((pre.foldl (push a0.1 a0.2) G).map (·.1))), some (.int (n : Nat)), u, v]) _ rfl ⟨_, _, rfl⟩ (by
          rintro pre c post ρ hpre ⟨u, v, rfl⟩
          refine ⟨_, rfl, ?_⟩
          have J := fold_inv (cs := pre) (seen := []) (rest := c :: post) hpre X0
          have J2 := fold_inv (cs := pre ++ [c]) (seen := []) (rest := post) (by rw [hpre]; simp) X0
          rw [List.foldl_append] at J2 ⊢
          revert J J2
          generalize pre.foldl (push a0.1 a0.2) G = G'
          intro J J2
          have hc : c ∈ lchanges h a0.1 := by rw [hpre]; simp
          have hc1 : c.1 < a0.1.length := by rw [ip.1]; exact ((mem_lch ip).mp hc).1
          have aft := after_eq (p := a0.1) (c := c) hc1 (by rw [ip.1]; omega)
          have go : goL x a0.2 = a0.1 := lpath_go (J.val _ (List.mem_of_getElem? J.at0))
          have GL' : G'.length ≤ 1024 := by
            have := nodup_len (l := G'.map (·.1)) (m := plansL h) J.nd fun y hy => by
              obtain ⟨e, he, rfl⟩ := List.mem_map.mp hy
              exact lpath_mem hx (J.val e he)
            rw [List.length_map] at this
            omega
          have pe : PyData.tuple [encP a0.1, encC c] = parD x (a0.2 ++ [c]) := by rw [parD_snoc, go]
          have nin := notIn_D (g := parD x) (kvs := G') (p := after a0.1 c)
          rw [look_G] at nin
          show ∃ ρ2, _ ∧ ∃ u v, ρ2 = [_, _, some (encD (parD x) (push a0.1 a0.2 G' c)), some (encL encP ((push a0.1 a0.2 G' c).map (·.1))), _, u, v]
          by_cases hm : after a0.1 c ∈ G'.map (·.1)
          · rw [decide_eq_true hm] at nin
            simp only [v_seq, w_nx, w_ret, w_exc, w_brk, w_cnt, v_next, v_ret, v_retN, w_rok, w_rexc, v_brk, v_cnt, v_raise, v_if, w_ift, w_iff, w_ifx, v_asg, w_aok, w_aexc, w_gok, v_par, w_par, v_for, w_for, v_run, w_end1, w_end2, w_end3, v_e1, v_e2, w_two, v_eF, v_nil, v_cons, w_cons, v_tup, v_lst, v_var, w_var, v_c, v_and, w_andt, w_andf, v_or, w_ort, w_orf, v_not, w_not, v_ifE, w_ifEt, w_ifEf, v_tB, w_tB, v_tTru, v_tAnd, w_tAndt, w_tAndf, v_tOr, w_tOrt, w_tOrf, v_tNot, w_tNot, v_tYes, v_gName, v_gTup, v_gLst, v_gCons, v_gNil, v_oNone, v_oSome, w_oSome, v_slice, w_slice, v_chain, w_chain, w_chaint, w_chainf, v_iSeq, w_items1, w_items2, w_trub, w_truN, w_truL, w_truT, R.bind_ok, R.bind_exc, R.bind_bad, List.length_cons, List.length_nil, List.map_cons, List.map_nil, List.replicate, List.cons_append, List.nil_append, List.getElem?_cons_zero, List.getElem?_cons_succ, List.set_cons_zero, List.set_cons_succ, List.set_nil, Nat.reduceAdd, Nat.reduceSub, if_true, if_false, eq_self, reduceIte, Bool.not_true, Bool.not_false, v_encN, v_rng1, v_rng2, Bool.false_eq_true, v_told, w_told1, w_told2, w_wipe0, w_wipe1, v_app, v_ext, v_put, v_drop, w_drop1, w_drop2, rowat G' J.at0, aft, nin]
            exact ⟨_, .inl rfl, _, _, by rw [push, if_pos hm]⟩
          · rw [decide_eq_false hm] at nin
            simp only [v_seq, w_nx, w_ret, w_exc, w_brk, w_cnt, v_next, v_ret, v_retN, w_rok, w_rexc, v_brk, v_cnt, v_raise, v_if, w_ift, w_iff, w_ifx, v_asg, w_aok, w_aexc, w_gok, v_par, w_par, v_for, w_for, v_run, w_end1, w_end2, w_end3, v_e1, v_e2, w_two, v_eF, v_nil, v_cons, w_cons, v_tup, v_lst, v_var, w_var, v_c, v_and, w_andt, w_andf, v_or, w_ort, w_orf, v_not, w_not, v_ifE, w_ifEt, w_ifEf, v_tB, w_tB, v_tTru, v_tAnd, w_tAndt, w_tAndf, v_tOr, w_tOrt, w_tOrf, v_tNot, w_tNot, v_tYes, v_gName, v_gTup, v_gLst, v_gCons, v_gNil, v_oNone, v_oSome, w_oSome, v_slice, w_slice, v_chain, w_chain, w_chaint, w_chainf, v_iSeq, w_items1, w_items2, w_trub, w_truN, w_truL, w_truT, R.bind_ok, R.bind_exc, R.bind_bad, List.length_cons, List.length_nil, List.map_cons, List.map_nil, List.replicate, List.cons_append, List.nil_append, List.getElem?_cons_zero, List.getElem?_cons_succ, List.set_cons_zero, List.set_cons_succ, List.set_nil, Nat.reduceAdd, Nat.reduceSub, if_true, if_false, eq_self, reduceIte, Bool.not_true, Bool.not_false, v_encN, v_rng1, v_rng2, Bool.false_eq_true, v_told, w_told1, w_told2, w_wipe0, w_wipe1, v_app, v_ext, v_put, v_drop, w_drop1, w_drop2, rowat G' J.at0, aft, nin, pe]
            rw [w_put (by show _ < 16000000; omega), putA_new (lookA_none.mpr hm)]
            have ap := w_app (i := 3) (f := encP) (xs := G'.map (·.1)) (x := after a0.1 c) (ρ := [some (encH h), some (encP x), some (encD (parD x) (G' ++ [(after a0.1 c, a0.2 ++ [c])])), some (encL encP (G'.map (·.1))), some (.int (n : Nat)), some (encC c), some (encP (after a0.1 c))]) (by rw [List.length_map]; show _ < 16000000; omega)
            simp only [v_seq, w_nx, w_ret, w_exc, w_brk, w_cnt, v_next, v_ret, v_retN, w_rok, w_rexc, v_brk, v_cnt, v_raise, v_if, w_ift, w_iff, w_ifx, v_asg, w_aok, w_aexc, w_gok, v_par, w_par, v_for, w_for, v_run, w_end1, w_end2, w_end3, v_e1, v_e2, w_two, v_eF, v_nil, v_cons, w_cons, v_tup, v_lst, v_var, w_var, v_c, v_and, w_andt, w_andf, v_or, w_ort, w_orf, v_not, w_not, v_ifE, w_ifEt, w_ifEf, v_tB, w_tB, v_tTru, v_tAnd, w_tAndt, w_tAndf, v_tOr, w_tOrt, w_tOrf, v_tNot, w_tNot, v_tYes, v_gName, v_gTup, v_gLst, v_gCons, v_gNil, v_oNone, v_oSome, w_oSome, v_slice, w_slice, v_chain, w_chain, w_chaint, w_chainf, v_iSeq, w_items1, w_items2, w_trub, w_truN, w_truL, w_truT, R.bind_ok, R.bind_exc, R.bind_bad, List.length_cons, List.length_nil, List.map_cons, List.map_nil, List.replicate, List.cons_append, List.nil_append, List.getElem?_cons_zero, List.getElem?_cons_succ, List.set_cons_zero, List.set_cons_succ, List.set_nil, Nat.reduceAdd, Nat.reduceSub, if_true, if_false, eq_self, reduceIte, Bool.not_true, Bool.not_false, v_encN, v_rng1, v_rng2, Bool.false_eq_true, v_told, w_told1, w_told2, w_wipe0, w_wipe1, v_app, v_ext, v_put, v_drop, w_drop1, w_drop2, ap]
            exact ⟨_, .inl rfl, _, _, by rw [push, if_neg hm, List.map_append]; rfl⟩)
        simp only [v_seq, w_nx, w_ret, w_exc, w_brk, w_cnt, v_next, v_ret, v_retN, w_rok, w_rexc, v_brk, v_cnt, v_raise, v_if, w_ift, w_iff, w_ifx, v_asg, w_aok, w_aexc, w_gok, v_par, w_par, v_for, w_for, v_run, w_end1, w_end2, w_end3, v_e1, v_e2, w_two, v_eF, v_nil, v_cons, w_cons, v_tup, v_lst, v_var, w_var, v_c, v_and, w_andt, w_andf, v_or, w_ort, w_orf, v_not, w_not, v_ifE, w_ifEt, w_ifEf, v_tB, w_tB, v_tTru, v_tAnd, w_tAndt, w_tAndf, v_tOr, w_tOrt, w_tOrf, v_tNot, w_tNot, v_tYes, v_gName, v_gTup, v_gLst, v_gCons, v_gNil, v_oNone, v_oSome, w_oSome, v_slice, w_slice, v_chain, w_chain, w_chaint, w_chainf, v_iSeq, w_items1, w_items2, w_trub, w_truN, w_truL, w_truT, R.bind_ok, R.bind_exc, R.bind_bad, List.length_cons, List.length_nil, List.map_cons, List.map_nil, List.replicate, List.cons_append, List.nil_append, List.getElem?_cons_zero, List.getElem?_cons_succ, List.set_cons_zero, List.set_cons_succ, List.set_nil, Nat.reduceAdd, Nat.reduceSub, if_true, if_false, eq_self, reduceIte, Bool.not_true, Bool.not_false, v_encN, v_rng1, v_rng2, Bool.false_eq_true, v_told, w_told1, w_told2, w_wipe0, w_wipe1, v_app, v_ext, v_put, v_drop, w_drop1, w_drop2]
        have ad : dAdd (.int (n : Nat)) (.int 1) = .ok (.int (n + 1 : Nat)) := rfl
        simp only [ad, v_seq, w_nx, w_ret, w_exc, w_brk, w_cnt, v_next, v_ret, v_retN, w_rok, w_rexc, v_brk, v_cnt, v_raise, v_if, w_ift, w_iff, w_ifx, v_asg, w_aok, w_aexc, w_gok, v_par, w_par, v_for, w_for, v_run, w_end1, w_end2, w_end3, v_e1, v_e2, w_two, v_eF, v_nil, v_cons, w_cons, v_tup, v_lst, v_var, w_var, v_c, v_and, w_andt, w_andf, v_or, w_ort, w_orf, v_not, w_not, v_ifE, w_ifEt, w_ifEf, v_tB, w_tB, v_tTru, v_tAnd, w_tAndt, w_tAndf, v_tOr, w_tOrt, w_tOrf, v_tNot, w_tNot, v_tYes, v_gName, v_gTup, v_gLst, v_gCons, v_gNil, v_oNone, v_oSome, w_oSome, v_slice, w_slice, v_chain, w_chain, w_chaint, w_chainf, v_iSeq, w_items1, w_items2, w_trub, w_truN, w_truL, w_truT, R.bind_ok, R.bind_exc, R.bind_bad, List.length_cons, List.length_nil, List.map_cons, List.map_nil, List.replicate, List.cons_append, List.nil_append, List.getElem?_cons_zero, List.getElem?_cons_succ, List.set_cons_zero, List.set_cons_succ, List.set_nil, Nat.reduceAdd, Nat.reduceSub, if_true, if_false, eq_self, reduceIte, Bool.not_true, Bool.not_false, v_encN, v_rng1, v_rng2, Bool.false_eq_true, v_told, w_told1, w_told2, w_wipe0, w_wipe1, v_app, v_ext, v_put, v_drop, w_drop1, w_drop2]
        refine ⟨_, .inl rfl, n + 1, expand h a0 G, _, _, expand_inv I ha, ?_, by omega, rfl⟩
        rw [← e1, bfs, ha]
    · refine .inl ?_
      rw [decide_eq_false (by rw [List.length_map]; exact hn)] at lt
      simp only [v_seq, w_nx, w_ret, w_exc, w_brk, w_cnt, v_next, v_ret, v_retN, w_rok, w_rexc, v_brk, v_cnt, v_raise, v_if, w_ift, w_iff, w_ifx, v_asg, w_aok, w_aexc, w_gok, v_par, w_par, v_for, w_for, v_run, w_end1, w_end2, w_end3, v_e1, v_e2, w_two, v_eF, v_nil, v_cons, w_cons, v_tup, v_lst, v_var, w_var, v_c, v_and, w_andt, w_andf, v_or, w_ort, w_orf, v_not, w_not, v_ifE, w_ifEt, w_ifEf, v_tB, w_tB, v_tTru, v_tAnd, w_tAndt, w_tAndf, v_tOr, w_tOrt, w_tOrf, v_tNot, w_tNot, v_tYes, v_gName, v_gTup, v_gLst, v_gCons, v_gNil, v_oNone, v_oSome, w_oSome, v_slice, w_slice, v_chain, w_chain, w_chaint, w_chainf, v_iSeq, w_items1, w_items2, w_trub, w_truN, w_truL, w_truT, R.bind_ok, R.bind_exc, R.bind_bad, List.length_cons, List.length_nil, List.map_cons, List.map_nil, List.replicate, List.cons_append, List.nil_append, List.getElem?_cons_zero, List.getElem?_cons_succ, List.set_cons_zero, List.set_cons_succ, List.set_nil, Nat.reduceAdd, Nat.reduceSub, if_true, if_false, eq_self, reduceIte, Bool.not_true, Bool.not_false, v_encN, v_rng1, v_rng2, Bool.false_eq_true, v_told, w_told1, w_told2, w_wipe0, w_wipe1, v_app, v_ext, v_put, v_drop, w_drop1, w_drop2, len_L, lt])
  have lt := ltN n (G.map (·.1)).length
  simp only [v_seq, w_nx, w_ret, w_exc, w_brk, w_cnt, v_next, v_ret, v_retN, w_rok, w_rexc, v_brk, v_cnt, v_raise, v_if, w_ift, w_iff, w_ifx, v_asg, w_aok, w_aexc, w_gok, v_par, w_par, v_for, w_for, v_run, w_end1, w_end2, w_end3, v_e1, v_e2, w_two, v_eF, v_nil, v_cons, w_cons, v_tup, v_lst, v_var, w_var, v_c, v_and, w_andt, w_andf, v_or, w_ort, w_orf, v_not, w_not, v_ifE, w_ifEt, w_ifEf, v_tB, w_tB, v_tTru, v_tAnd, w_tAndt, w_tAndf, v_tOr, w_tOrt, w_tOrf, v_tNot, w_tNot, v_tYes, v_gName, v_gTup, v_gLst, v_gCons, v_gNil, v_oNone, v_oSome, w_oSome, v_slice, w_slice, v_chain, w_chain, w_chaint, w_chainf, v_iSeq, w_items1, w_items2, w_trub, w_truN, w_truL, w_truT, R.bind_ok, R.bind_exc, R.bind_bad, List.length_cons, List.length_nil, List.map_cons, List.map_nil, List.replicate, List.cons_append, List.nil_append, List.getElem?_cons_zero, List.getElem?_cons_succ, List.set_cons_zero, List.set_cons_succ, List.set_nil, Nat.reduceAdd, Nat.reduceSub, if_true, if_false, eq_self, reduceIte, Bool.not_true, Bool.not_false, v_encN, v_rng1, v_rng2, Bool.false_eq_true, v_told, w_told1, w_told2, w_wipe0, w_wipe1, v_app, v_ext, v_put, v_drop, w_drop1, w_drop2, len_L, lt, R.ok.injEq, decide_eq_false_iff_not] at ht
  rw [List.length_map] at ht
  have e : n = G.length := by
    have := I.le
    omega
  subst e
  rw [bfs_stable I] at e1
  subst e1
  simp only [v_seq, w_nx, w_ret, w_exc, w_brk, w_cnt, v_next, v_ret, v_retN, w_rok, w_rexc, v_brk, v_cnt, v_raise, v_if, w_ift, w_iff, w_ifx, v_asg, w_aok, w_aexc, w_gok, v_par, w_par, v_for, w_for, v_run, w_end1, w_end2, w_end3, v_e1, v_e2, w_two, v_eF, v_nil, v_cons, w_cons, v_tup, v_lst, v_var, w_var, v_c, v_and, w_andt, w_andf, v_or, w_ort, w_orf, v_not, w_not, v_ifE, w_ifEt, w_ifEf, v_tB, w_tB, v_tTru, v_tAnd, w_tAndt, w_tAndf, v_tOr, w_tOrt, w_tOrf, v_tNot, w_tNot, v_tYes, v_gName, v_gTup, v_gLst, v_gCons, v_gNil, v_oNone, v_oSome, w_oSome, v_slice, w_slice, v_chain, w_chain, w_chaint, w_chainf, v_iSeq, w_items1, w_items2, w_trub, w_truN, w_truL, w_truT, R.bind_ok, R.bind_exc, R.bind_bad, List.length_cons, List.length_nil, List.map_cons, List.map_nil, List.replicate, List.cons_append, List.nil_append, List.getElem?_cons_zero, List.getElem?_cons_succ, List.set_cons_zero, List.set_cons_succ, List.set_nil, Nat.reduceAdd, Nat.reduceSub, if_true, if_false, eq_self, reduceIte, Bool.not_true, Bool.not_false, v_encN, v_rng1, v_rng2, Bool.false_eq_true, v_told, w_told1, w_told2, w_wipe0, w_wipe1, v_app, v_ext, v_put, v_drop, w_drop1, w_drop2]
  rfl
theorem way_idx {h : House} {x y : Plan} {W : List Chg} (hw : wayP h x y = some W) : dIdx (redD h x) (encP y) = .ok (parD x W) := idx_D hw
theorem way_notIn {h : House} {x y : Plan} : dNotIn (encP y) (redD h x) = .ok (.bool (!(wayP h x y).isSome)) := notIn_D
theorem way_in {h : House} {x y : Plan} : dIn (encP y) (redD h x) = .ok (.bool ((wayP h x y).isSome)) := in_D
def wayD (w : Option (List Chg)) : D := match w with
  | none => .none
  | some W => encL encC W
theorem isn_none : dIsNot .none .none = .ok (.bool false) := rfl
theorem isn_tup {xs : List D} : dIsNot (.tuple xs) .none = .ok (.bool true) := rfl
theorem way_eq {h : House} {x y : Plan} (k : h.ok) (hx : x ∈ plansL h) (hy : y ∈ plansL h) : f_way [encH h, encP x, encP y] = .ok (wayD (wayP h x y)) := by
  have i0 : dIdx (.tuple [redD h x, encL encP ((reachedG h x).map (·.1))]) (.int 0) = .ok (redD h x) := idx0
  have nin := way_notIn (h := h) (x := x) (y := y)
  have l0 : PyData.list [] = encL encC [] := rfl
  cases hw : wayP h x y with
  | none =>
    rw [hw] at nin
    simp only [f_way, v_seq, w_nx, w_ret, w_exc, w_brk, w_cnt, v_next, v_ret, v_retN, w_rok, w_rexc, v_brk, v_cnt, v_raise, v_if, w_ift, w_iff, w_ifx, v_asg, w_aok, w_aexc, w_gok, v_par, w_par, v_for, w_for, v_run, w_end1, w_end2, w_end3, v_e1, v_e2, w_two, v_eF, v_nil, v_cons, w_cons, v_tup, v_lst, v_var, w_var, v_c, v_and, w_andt, w_andf, v_or, w_ort, w_orf, v_not, w_not, v_ifE, w_ifEt, w_ifEf, v_tB, w_tB, v_tTru, v_tAnd, w_tAndt, w_tAndf, v_tOr, w_tOrt, w_tOrf, v_tNot, w_tNot, v_tYes, v_gName, v_gTup, v_gLst, v_gCons, v_gNil, v_oNone, v_oSome, w_oSome, v_slice, w_slice, v_chain, w_chain, w_chaint, w_chainf, v_iSeq, w_items1, w_items2, w_trub, w_truN, w_truL, w_truT, R.bind_ok, R.bind_exc, R.bind_bad, List.length_cons, List.length_nil, List.map_cons, List.map_nil, List.replicate, List.cons_append, List.nil_append, List.getElem?_cons_zero, List.getElem?_cons_succ, List.set_cons_zero, List.set_cons_succ, List.set_nil, Nat.reduceAdd, Nat.reduceSub, if_true, if_false, eq_self, reduceIte, Bool.not_true, Bool.not_false, v_encN, v_rng1, v_rng2, Bool.false_eq_true, v_told, w_told1, w_told2, w_wipe0, w_wipe1, v_app, v_ext, v_put, v_drop, w_drop1, w_drop2, need_ok k, need_let_ok k hx, need_let_ok k hy, reached_eq k hx, i0, nin, Option.isSome, wayD]
  | some W =>
    rw [hw] at nin
    have wl := wayP_len k hx hw
    simp only [f_way, v_seq, w_nx, w_ret, w_exc, w_brk, w_cnt, v_next, v_ret, v_retN, w_rok, w_rexc, v_brk, v_cnt, v_raise, v_if, w_ift, w_iff, w_ifx, v_asg, w_aok, w_aexc, w_gok, v_par, w_par, v_for, w_for, v_run, w_end1, w_end2, w_end3, v_e1, v_e2, w_two, v_eF, v_nil, v_cons, w_cons, v_tup, v_lst, v_var, w_var, v_c, v_and, w_andt, w_andf, v_or, w_ort, w_orf, v_not, w_not, v_ifE, w_ifEt, w_ifEf, v_tB, w_tB, v_tTru, v_tAnd, w_tAndt, w_tAndf, v_tOr, w_tOrt, w_tOrf, v_tNot, w_tNot, v_tYes, v_gName, v_gTup, v_gLst, v_gCons, v_gNil, v_oNone, v_oSome, w_oSome, v_slice, w_slice, v_chain, w_chain, w_chaint, w_chainf, v_iSeq, w_items1, w_items2, w_trub, w_truN, w_truL, w_truT, R.bind_ok, R.bind_exc, R.bind_bad, List.length_cons, List.length_nil, List.map_cons, List.map_nil, List.replicate, List.cons_append, List.nil_append, List.getElem?_cons_zero, List.getElem?_cons_succ, List.set_cons_zero, List.set_cons_succ, List.set_nil, Nat.reduceAdd, Nat.reduceSub, if_true, if_false, eq_self, reduceIte, Bool.not_true, Bool.not_false, v_encN, v_rng1, v_rng2, Bool.false_eq_true, v_told, w_told1, w_told2, w_wipe0, w_wipe1, v_app, v_ext, v_put, v_drop, w_drop1, w_drop2, need_ok k, need_let_ok k hx, need_let_ok k hy, reached_eq k hx, i0, nin, Option.isSome, l0, v_while]
    generalize hr : whileN _ _ _ _ = r
    obtain ⟨m, ρ', rfl, ⟨V, U, p, a, e1, e2, e3, rfl⟩, ht⟩ := while_inv hr (fun m ρ => ∃ V U p a, V.length = m ∧ wayP h x p = some V ∧ W = V ++ U ∧ ρ = [some (encH h), some (encP x), some (encP p), some (redD h x), some (encL encC U), a]) W.length ⟨W, [], y, _, rfl, hw, by simp, rfl⟩ (by omega) (by
      rintro m ρ ⟨V, U, p, a, e1, e2, e3, rfl⟩
      by_cases hv : V = []
      · refine .inl ?_
        subst hv
        have := way_idx e2
        rw [show parD x [] = PyData.none from rfl] at this
        simp only [v_seq, w_nx, w_ret, w_exc, w_brk, w_cnt, v_next, v_ret, v_retN, w_rok, w_rexc, v_brk, v_cnt, v_raise, v_if, w_ift, w_iff, w_ifx, v_asg, w_aok, w_aexc, w_gok, v_par, w_par, v_for, w_for, v_run, w_end1, w_end2, w_end3, v_e1, v_e2, w_two, v_eF, v_nil, v_cons, w_cons, v_tup, v_lst, v_var, w_var, v_c, v_and, w_andt, w_andf, v_or, w_ort, w_orf, v_not, w_not, v_ifE, w_ifEt, w_ifEf, v_tB, w_tB, v_tTru, v_tAnd, w_tAndt, w_tAndf, v_tOr, w_tOrt, w_tOrf, v_tNot, w_tNot, v_tYes, v_gName, v_gTup, v_gLst, v_gCons, v_gNil, v_oNone, v_oSome, w_oSome, v_slice, w_slice, v_chain, w_chain, w_chaint, w_chainf, v_iSeq, w_items1, w_items2, w_trub, w_truN, w_truL, w_truT, R.bind_ok, R.bind_exc, R.bind_bad, List.length_cons, List.length_nil, List.map_cons, List.map_nil, List.replicate, List.cons_append, List.nil_append, List.getElem?_cons_zero, List.getElem?_cons_succ, List.set_cons_zero, List.set_cons_succ, List.set_nil, Nat.reduceAdd, Nat.reduceSub, if_true, if_false, eq_self, reduceIte, Bool.not_true, Bool.not_false, v_encN, v_rng1, v_rng2, Bool.false_eq_true, v_told, w_told1, w_told2, w_wipe0, w_wipe1, v_app, v_ext, v_put, v_drop, w_drop1, w_drop2, this, isn_none]
      · have hv' := List.dropLast_concat_getLast hv
        generalize V.dropLast = V' at hv'
        generalize V.getLast hv = c at hv'
        subst hv'
        obtain ⟨q, hq, hc, rfl⟩ := wayP_pre k hx e2
        have := way_idx e2
        rw [parD_snoc, lpath_go (wayP_lpath k hx hq)] at this
        have l1 : PyData.list [encC c] = encL encC [c] := rfl
        have ad : dAdd (encL encC [c]) (encL encC U) = .ok (encL encC (c :: U)) := ext_L (xs := [c]) (by
          rw [e3] at wl
          simp at wl
          show 1 + _ ≤ 16000000; omega)
        refine .inr ⟨by simp only [v_seq, w_nx, w_ret, w_exc, w_brk, w_cnt, v_next, v_ret, v_retN, w_rok, w_rexc, v_brk, v_cnt, v_raise, v_if, w_ift, w_iff, w_ifx, v_asg, w_aok, w_aexc, w_gok, v_par, w_par, v_for, w_for, v_run, w_end1, w_end2, w_end3, v_e1, v_e2, w_two, v_eF, v_nil, v_cons, w_cons, v_tup, v_lst, v_var, w_var, v_c, v_and, w_andt, w_andf, v_or, w_ort, w_orf, v_not, w_not, v_ifE, w_ifEt, w_ifEf, v_tB, w_tB, v_tTru, v_tAnd, w_tAndt, w_tAndf, v_tOr, w_tOrt, w_tOrf, v_tNot, w_tNot, v_tYes, v_gName, v_gTup, v_gLst, v_gCons, v_gNil, v_oNone, v_oSome, w_oSome, v_slice, w_slice, v_chain, w_chain, w_chaint, w_chainf, v_iSeq, w_items1, w_items2, w_trub, w_truN, w_truL, w_truT, R.bind_ok, R.bind_exc, R.bind_bad, List.length_cons, List.length_nil, List.map_cons, List.map_nil, List.replicate, List.cons_append, List.nil_append, List.getElem?_cons_zero, List.getElem?_cons_succ, List.set_cons_zero, List.set_cons_succ, List.set_nil, Nat.reduceAdd, Nat.reduceSub, if_true, if_false, eq_self, reduceIte, Bool.not_true, Bool.not_false, v_encN, v_rng1, v_rng2, Bool.false_eq_true, v_told, w_told1, w_told2, w_wipe0, w_wipe1, v_app, v_ext, v_put, v_drop, w_drop1, w_drop2, this, isn_tup], V'.length, by rw [← e1]; simp, ?_⟩
        simp only [v_seq, w_nx, w_ret, w_exc, w_brk, w_cnt, v_next, v_ret, v_retN, w_rok, w_rexc, v_brk, v_cnt, v_raise, v_if, w_ift, w_iff, w_ifx, v_asg, w_aok, w_aexc, w_gok, v_par, w_par, v_for, w_for, v_run, w_end1, w_end2, w_end3, v_e1, v_e2, w_two, v_eF, v_nil, v_cons, w_cons, v_tup, v_lst, v_var, w_var, v_c, v_and, w_andt, w_andf, v_or, w_ort, w_orf, v_not, w_not, v_ifE, w_ifEt, w_ifEf, v_tB, w_tB, v_tTru, v_tAnd, w_tAndt, w_tAndf, v_tOr, w_tOrt, w_tOrf, v_tNot, w_tNot, v_tYes, v_gName, v_gTup, v_gLst, v_gCons, v_gNil, v_oNone, v_oSome, w_oSome, v_slice, w_slice, v_chain, w_chain, w_chaint, w_chainf, v_iSeq, w_items1, w_items2, w_trub, w_truN, w_truL, w_truT, R.bind_ok, R.bind_exc, R.bind_bad, List.length_cons, List.length_nil, List.map_cons, List.map_nil, List.replicate, List.cons_append, List.nil_append, List.getElem?_cons_zero, List.getElem?_cons_succ, List.set_cons_zero, List.set_cons_succ, List.set_nil, Nat.reduceAdd, Nat.reduceSub, if_true, if_false, eq_self, reduceIte, Bool.not_true, Bool.not_false, v_encN, v_rng1, v_rng2, Bool.false_eq_true, v_told, w_told1, w_told2, w_wipe0, w_wipe1, v_app, v_ext, v_put, v_drop, w_drop1, w_drop2, this, l1, ad]
        exact ⟨_, .inl rfl, V', c :: U, q, _, rfl, hq, by rw [e3]; simp, rfl⟩)
    by_cases hv : V = []
    · subst hv
      rw [e3]
      simp only [v_seq, w_nx, w_ret, w_exc, w_brk, w_cnt, v_next, v_ret, v_retN, w_rok, w_rexc, v_brk, v_cnt, v_raise, v_if, w_ift, w_iff, w_ifx, v_asg, w_aok, w_aexc, w_gok, v_par, w_par, v_for, w_for, v_run, w_end1, w_end2, w_end3, v_e1, v_e2, w_two, v_eF, v_nil, v_cons, w_cons, v_tup, v_lst, v_var, w_var, v_c, v_and, w_andt, w_andf, v_or, w_ort, w_orf, v_not, w_not, v_ifE, w_ifEt, w_ifEf, v_tB, w_tB, v_tTru, v_tAnd, w_tAndt, w_tAndf, v_tOr, w_tOrt, w_tOrf, v_tNot, w_tNot, v_tYes, v_gName, v_gTup, v_gLst, v_gCons, v_gNil, v_oNone, v_oSome, w_oSome, v_slice, w_slice, v_chain, w_chain, w_chaint, w_chainf, v_iSeq, w_items1, w_items2, w_trub, w_truN, w_truL, w_truT, R.bind_ok, R.bind_exc, R.bind_bad, List.length_cons, List.length_nil, List.map_cons, List.map_nil, List.replicate, List.cons_append, List.nil_append, List.getElem?_cons_zero, List.getElem?_cons_succ, List.set_cons_zero, List.set_cons_succ, List.set_nil, Nat.reduceAdd, Nat.reduceSub, if_true, if_false, eq_self, reduceIte, Bool.not_true, Bool.not_false, v_encN, v_rng1, v_rng2, Bool.false_eq_true, v_told, w_told1, w_told2, w_wipe0, w_wipe1, v_app, v_ext, v_put, v_drop, w_drop1, w_drop2, wayD]
    · exfalso
      have hv' := List.dropLast_concat_getLast hv
      generalize V.dropLast = V' at hv'
      generalize V.getLast hv = c at hv'
      subst hv'
      obtain ⟨q, hq, hc, rfl⟩ := wayP_pre k hx e2
      have := way_idx e2
      rw [parD_snoc] at this
      simp only [v_seq, w_nx, w_ret, w_exc, w_brk, w_cnt, v_next, v_ret, v_retN, w_rok, w_rexc, v_brk, v_cnt, v_raise, v_if, w_ift, w_iff, w_ifx, v_asg, w_aok, w_aexc, w_gok, v_par, w_par, v_for, w_for, v_run, w_end1, w_end2, w_end3, v_e1, v_e2, w_two, v_eF, v_nil, v_cons, w_cons, v_tup, v_lst, v_var, w_var, v_c, v_and, w_andt, w_andf, v_or, w_ort, w_orf, v_not, w_not, v_ifE, w_ifEt, w_ifEf, v_tB, w_tB, v_tTru, v_tAnd, w_tAndt, w_tAndf, v_tOr, w_tOrt, w_tOrf, v_tNot, w_tNot, v_tYes, v_gName, v_gTup, v_gLst, v_gCons, v_gNil, v_oNone, v_oSome, w_oSome, v_slice, w_slice, v_chain, w_chain, w_chaint, w_chainf, v_iSeq, w_items1, w_items2, w_trub, w_truN, w_truL, w_truT, R.bind_ok, R.bind_exc, R.bind_bad, List.length_cons, List.length_nil, List.map_cons, List.map_nil, List.replicate, List.cons_append, List.nil_append, List.getElem?_cons_zero, List.getElem?_cons_succ, List.set_cons_zero, List.set_cons_succ, List.set_nil, Nat.reduceAdd, Nat.reduceSub, if_true, if_false, eq_self, reduceIte, Bool.not_true, Bool.not_false, v_encN, v_rng1, v_rng2, Bool.false_eq_true, v_told, w_told1, w_told2, w_wipe0, w_wipe1, v_app, v_ext, v_put, v_drop, w_drop1, w_drop2, this, isn_tup] at ht
      cases ht
end PG
/-! PM17 -/
set_option Elab.async false
set_option linter.all false
set_option maxRecDepth 100000
set_option maxHeartbeats 2000000
/-! PM17: is_way, the law's own going. -/
namespace PG
open DL
open PySem (PyData Str)
def goW (h : House) : Plan → List D → Option Plan
  | p, [] => some p
  | p, x :: xs => (step h p x).bind fun q => goW h q xs
theorem walk_go {h : House} : ∀ {xs : List D} {p : Plan}, (walkL h p xs = none ∧ goW h p xs = none) ∨ ∃ init q, walkL h p xs = some (init ++ [q]) ∧ goW h p xs = some q
  | [], p => .inr ⟨[], p, rfl, rfl⟩
  | x :: xs, p => by
    rw [walkL, goW]
    cases step h p x with
    | none => exact .inl ⟨rfl, rfl⟩
    | some q =>
      simp only [Option.bind_some]
      rcases walk_go (h := h) (xs := xs) (p := q) with ⟨a, b⟩ | ⟨init, r, a, b⟩
      · exact .inl ⟨by rw [a]; rfl, b⟩
      · exact .inr ⟨p :: init, r, by rw [a]; rfl, b⟩
def isWay (h : House) (x y : Plan) (xs : List D) : Bool := decide (goW h x xs = some y)
theorem isX_change : isX .change .change = true := rfl
theorem is_way_eq {h : House} {x y : Plan} {xs : List D} (k : h.ok) (hx : x ∈ plansL h) (hy : y ∈ plansL h) (hp : ∀ x ∈ xs, ∃ n L, pl n L x = true) (hl : xs.length < 1000000) : f_is_way [encH h, encP x, encP y, .list xs] = .ok (.bool (isWay h x y xs)) := by
  have wk := walked_eq k hx hp hl
  have ng : dNeg (.int 1) = .ok (.int (-1)) := rfl
  rcases walk_go (h := h) (xs := xs) (p := x) with ⟨a, b⟩ | ⟨init, r, a, b⟩
  · rw [a] at wk
    simp only [f_is_way, v_seq, w_nx, w_ret, w_exc, w_brk, w_cnt, v_next, v_ret, v_retN, w_rok, w_rexc, v_brk, v_cnt, v_raise, v_if, w_ift, w_iff, w_ifx, v_asg, w_aok, w_aexc, w_gok, v_par, w_par, v_for, w_for, v_run, w_end1, w_end2, w_end3, v_e1, v_e2, w_two, v_eF, v_nil, v_cons, w_cons, v_tup, v_lst, v_var, w_var, v_c, v_and, w_andt, w_andf, v_or, w_ort, w_orf, v_not, w_not, v_ifE, w_ifEt, w_ifEf, v_tB, w_tB, v_tTru, v_tAnd, w_tAndt, w_tAndf, v_tOr, w_tOrt, w_tOrf, v_tNot, w_tNot, v_tYes, v_gName, v_gTup, v_gLst, v_gCons, v_gNil, v_oNone, v_oSome, w_oSome, v_slice, w_slice, v_chain, w_chain, w_chaint, w_chainf, v_iSeq, w_items1, w_items2, w_trub, w_truN, w_truL, w_truT, R.bind_ok, R.bind_exc, R.bind_bad, List.length_cons, List.length_nil, List.map_cons, List.map_nil, List.replicate, List.cons_append, List.nil_append, List.getElem?_cons_zero, List.getElem?_cons_succ, List.set_cons_zero, List.set_cons_succ, List.set_nil, Nat.reduceAdd, Nat.reduceSub, if_true, if_false, eq_self, reduceIte, Bool.not_true, Bool.not_false, v_encN, v_rng1, v_rng2, Bool.false_eq_true, v_told, w_told1, w_told2, w_wipe0, w_wipe1, v_app, v_ext, v_put, v_drop, w_drop1, w_drop2, need_ok k, need_let_ok k hx, need_let_ok k hy, wk, rWalk, v_try, w_try2 isX_change, isWay, b]
    rfl
  · rw [a] at wk
    simp only [f_is_way, v_seq, w_nx, w_ret, w_exc, w_brk, w_cnt, v_next, v_ret, v_retN, w_rok, w_rexc, v_brk, v_cnt, v_raise, v_if, w_ift, w_iff, w_ifx, v_asg, w_aok, w_aexc, w_gok, v_par, w_par, v_for, w_for, v_run, w_end1, w_end2, w_end3, v_e1, v_e2, w_two, v_eF, v_nil, v_cons, w_cons, v_tup, v_lst, v_var, w_var, v_c, v_and, w_andt, w_andf, v_or, w_ort, w_orf, v_not, w_not, v_ifE, w_ifEt, w_ifEf, v_tB, w_tB, v_tTru, v_tAnd, w_tAndt, w_tAndf, v_tOr, w_tOrt, w_tOrf, v_tNot, w_tNot, v_tYes, v_gName, v_gTup, v_gLst, v_gCons, v_gNil, v_oNone, v_oSome, w_oSome, v_slice, w_slice, v_chain, w_chain, w_chaint, w_chainf, v_iSeq, w_items1, w_items2, w_trub, w_truN, w_truL, w_truT, R.bind_ok, R.bind_exc, R.bind_bad, List.length_cons, List.length_nil, List.map_cons, List.map_nil, List.replicate, List.cons_append, List.nil_append, List.getElem?_cons_zero, List.getElem?_cons_succ, List.set_cons_zero, List.set_cons_succ, List.set_nil, Nat.reduceAdd, Nat.reduceSub, if_true, if_false, eq_self, reduceIte, Bool.not_true, Bool.not_false, v_encN, v_rng1, v_rng2, Bool.false_eq_true, v_told, w_told1, w_told2, w_wipe0, w_wipe1, v_app, v_ext, v_put, v_drop, w_drop1, w_drop2, need_ok k, need_let_ok k hx, need_let_ok k hy, wk, rWalk, v_try, w_try1, ng, idx_last, eqP, isWay, b, Option.some.injEq]
theorem is_way_no {h : House} {x y : Plan} {d : D} (k : h.ok) (hx : x ∈ plansL h) (hy : y ∈ plansL h) (hb : isL d = false) (hd : nod d = true) : f_is_way [encH h, encP x, encP y, d] = .ok (.bool false) := by
  simp only [f_is_way, v_seq, w_nx, w_ret, w_exc, w_brk, w_cnt, v_next, v_ret, v_retN, w_rok, w_rexc, v_brk, v_cnt, v_raise, v_if, w_ift, w_iff, w_ifx, v_asg, w_aok, w_aexc, w_gok, v_par, w_par, v_for, w_for, v_run, w_end1, w_end2, w_end3, v_e1, v_e2, w_two, v_eF, v_nil, v_cons, w_cons, v_tup, v_lst, v_var, w_var, v_c, v_and, w_andt, w_andf, v_or, w_ort, w_orf, v_not, w_not, v_ifE, w_ifEt, w_ifEf, v_tB, w_tB, v_tTru, v_tAnd, w_tAndt, w_tAndf, v_tOr, w_tOrt, w_tOrf, v_tNot, w_tNot, v_tYes, v_gName, v_gTup, v_gLst, v_gCons, v_gNil, v_oNone, v_oSome, w_oSome, v_slice, w_slice, v_chain, w_chain, w_chaint, w_chainf, v_iSeq, w_items1, w_items2, w_trub, w_truN, w_truL, w_truT, R.bind_ok, R.bind_exc, R.bind_bad, List.length_cons, List.length_nil, List.map_cons, List.map_nil, List.replicate, List.cons_append, List.nil_append, List.getElem?_cons_zero, List.getElem?_cons_succ, List.set_cons_zero, List.set_cons_succ, List.set_nil, Nat.reduceAdd, Nat.reduceSub, if_true, if_false, eq_self, reduceIte, Bool.not_true, Bool.not_false, v_encN, v_rng1, v_rng2, Bool.false_eq_true, v_told, w_told1, w_told2, w_wipe0, w_wipe1, v_app, v_ext, v_put, v_drop, w_drop1, w_drop2, need_ok k, need_let_ok k hx, need_let_ok k hy, walked_nolist k hx hb hd, v_try, w_try2 isX_change]
/-! ### the law's own going -/
/-- what a part of a change is -/
def partB (d : D) : Bool := match d with
  | .int i => decide (0 ≤ i)
  | _ => false
theorem leads_parts {a : Option D} {b : Option D} {c d e : Option D} (xs : List D) (hx : ∀ x ∈ xs, nod x = true) (r : SR)
    (hr : forL (DL.gName 5) (sSeq (DL.sIf (DL.tOr (DL.tNot (DL.tTru (e1 (dIsi isI) (eVar 5)))) (DL.tOr (DL.tTru (e1 (dIsi isB) (eVar 5))) (DL.tB (e2 dLt (eVar 5) (eC (.int 0)))))) (sRet (eC (.bool false))) (sNext)) (sNext)) xs [a, b, c, d, e, none] = r ∨ ∃ u, forL (DL.gName 5) (sSeq (DL.sIf (DL.tOr (DL.tNot (DL.tTru (e1 (dIsi isI) (eVar 5)))) (DL.tOr (DL.tTru (e1 (dIsi isB) (eVar 5))) (DL.tB (e2 dLt (eVar 5) (eC (.int 0)))))) (sRet (eC (.bool false))) (sNext)) (sNext)) xs [a, b, c, d, e, u] = r) :
    (xs.all partB = false ∧ r = .ret (.bool false)) ∨ (xs.all partB = true ∧ ∃ u, r = .nx [a, b, c, d, e, u]) := by
  have key : ∀ (xs : List D) (u : Option D) (r : SR), (∀ x ∈ xs, nod x = true) → forL (DL.gName 5) (sSeq (DL.sIf (DL.tOr (DL.tNot (DL.tTru (e1 (dIsi isI) (eVar 5)))) (DL.tOr (DL.tTru (e1 (dIsi isB) (eVar 5))) (DL.tB (e2 dLt (eVar 5) (eC (.int 0)))))) (sRet (eC (.bool false))) (sNext)) (sNext)) xs [a, b, c, d, e, u] = r → (xs.all partB = false ∧ r = .ret (.bool false)) ∨ (xs.all partB = true ∧ ∃ u, r = .nx [a, b, c, d, e, u]) := by
    intro xs
    induction xs with
    | nil => intro u r _ hr; exact .inr ⟨rfl, u, hr.symm⟩
    | cons x xs ih =>
      intro u r hn hr
      have nx := hn x List.mem_cons_self
      have hn' : ∀ y ∈ xs, nod y = true := fun y hy => hn y (List.mem_cons_of_mem _ hy)
      rw [forL] at hr
      rw [List.all_cons]
      by_cases hb : partB x = true
      · obtain ⟨i, rfl, hi⟩ : ∃ i, x = .int i ∧ 0 ≤ i := by
          unfold partB at hb
          split at hb
          · exact ⟨_, rfl, of_decide_eq_true hb⟩
          · cases hb
        have i1 : dIsi isI (.int i) = .ok (.bool true) := rfl
        have i2 : dIsi isB (.int i) = .ok (.bool false) := rfl
        have i3 : dLt (.int i) (.int 0) = .ok (.bool false) := by
          show R.ok (PyData.bool (decide (i < 0))) = _
          rw [decide_eq_false (by omega)]
        simp only [v_seq, w_nx, w_ret, w_exc, w_brk, w_cnt, v_next, v_ret, v_retN, w_rok, w_rexc, v_brk, v_cnt, v_raise, v_if, w_ift, w_iff, w_ifx, v_asg, w_aok, w_aexc, w_gok, v_par, w_par, v_for, w_for, v_run, w_end1, w_end2, w_end3, v_e1, v_e2, w_two, v_eF, v_nil, v_cons, w_cons, v_tup, v_lst, v_var, w_var, v_c, v_and, w_andt, w_andf, v_or, w_ort, w_orf, v_not, w_not, v_ifE, w_ifEt, w_ifEf, v_tB, w_tB, v_tTru, v_tAnd, w_tAndt, w_tAndf, v_tOr, w_tOrt, w_tOrf, v_tNot, w_tNot, v_tYes, v_gName, v_gTup, v_gLst, v_gCons, v_gNil, v_oNone, v_oSome, w_oSome, v_slice, w_slice, v_chain, w_chain, w_chaint, w_chainf, v_iSeq, w_items1, w_items2, w_trub, w_truN, w_truL, w_truT, R.bind_ok, R.bind_exc, R.bind_bad, List.length_cons, List.length_nil, List.map_cons, List.map_nil, List.replicate, List.cons_append, List.nil_append, List.getElem?_cons_zero, List.getElem?_cons_succ, List.set_cons_zero, List.set_cons_succ, List.set_nil, Nat.reduceAdd, Nat.reduceSub, if_true, if_false, eq_self, reduceIte, Bool.not_true, Bool.not_false, v_encN, v_rng1, v_rng2, Bool.false_eq_true, v_told, w_told1, w_told2, w_wipe0, w_wipe1, v_app, v_ext, v_put, v_drop, w_drop1, w_drop2, i1, i2, i3] at hr
        rw [hb, Bool.true_and]
        exact ih _ _ hn' hr
      · rw [Bool.not_eq_true] at hb
        refine .inl ⟨by rw [hb, Bool.false_and], ?_⟩
        cases x with
        | int i =>
          have i1 : dIsi isI (.int i) = .ok (.bool true) := rfl
          have i2 : dIsi isB (.int i) = .ok (.bool false) := rfl
          have i3 : dLt (.int i) (.int 0) = .ok (.bool true) := by
            show R.ok (PyData.bool (decide (i < 0))) = _
            have : ¬ 0 ≤ i := of_decide_eq_false hb
            rw [decide_eq_true (by omega)]
          simp only [v_seq, w_nx, w_ret, w_exc, w_brk, w_cnt, v_next, v_ret, v_retN, w_rok, w_rexc, v_brk, v_cnt, v_raise, v_if, w_ift, w_iff, w_ifx, v_asg, w_aok, w_aexc, w_gok, v_par, w_par, v_for, w_for, v_run, w_end1, w_end2, w_end3, v_e1, v_e2, w_two, v_eF, v_nil, v_cons, w_cons, v_tup, v_lst, v_var, w_var, v_c, v_and, w_andt, w_andf, v_or, w_ort, w_orf, v_not, w_not, v_ifE, w_ifEt, w_ifEf, v_tB, w_tB, v_tTru, v_tAnd, w_tAndt, w_tAndf, v_tOr, w_tOrt, w_tOrf, v_tNot, w_tNot, v_tYes, v_gName, v_gTup, v_gLst, v_gCons, v_gNil, v_oNone, v_oSome, w_oSome, v_slice, w_slice, v_chain, w_chain, w_chaint, w_chainf, v_iSeq, w_items1, w_items2, w_trub, w_truN, w_truL, w_truT, R.bind_ok, R.bind_exc, R.bind_bad, List.length_cons, List.length_nil, List.map_cons, List.map_nil, List.replicate, List.cons_append, List.nil_append, List.getElem?_cons_zero, List.getElem?_cons_succ, List.set_cons_zero, List.set_cons_succ, List.set_nil, Nat.reduceAdd, Nat.reduceSub, if_true, if_false, eq_self, reduceIte, Bool.not_true, Bool.not_false, v_encN, v_rng1, v_rng2, Bool.false_eq_true, v_told, w_told1, w_told2, w_wipe0, w_wipe1, v_app, v_ext, v_put, v_drop, w_drop1, w_drop2, i1, i2, i3] at hr
          exact hr.symm
        | bool t =>
          have i1 : dIsi isI (.bool t) = .ok (.bool true) := rfl
          have i2 : dIsi isB (.bool t) = .ok (.bool true) := rfl
          simp only [v_seq, w_nx, w_ret, w_exc, w_brk, w_cnt, v_next, v_ret, v_retN, w_rok, w_rexc, v_brk, v_cnt, v_raise, v_if, w_ift, w_iff, w_ifx, v_asg, w_aok, w_aexc, w_gok, v_par, w_par, v_for, w_for, v_run, w_end1, w_end2, w_end3, v_e1, v_e2, w_two, v_eF, v_nil, v_cons, w_cons, v_tup, v_lst, v_var, w_var, v_c, v_and, w_andt, w_andf, v_or, w_ort, w_orf, v_not, w_not, v_ifE, w_ifEt, w_ifEf, v_tB, w_tB, v_tTru, v_tAnd, w_tAndt, w_tAndf, v_tOr, w_tOrt, w_tOrf, v_tNot, w_tNot, v_tYes, v_gName, v_gTup, v_gLst, v_gCons, v_gNil, v_oNone, v_oSome, w_oSome, v_slice, w_slice, v_chain, w_chain, w_chaint, w_chainf, v_iSeq, w_items1, w_items2, w_trub, w_truN, w_truL, w_truT, R.bind_ok, R.bind_exc, R.bind_bad, List.length_cons, List.length_nil, List.map_cons, List.map_nil, List.replicate, List.cons_append, List.nil_append, List.getElem?_cons_zero, List.getElem?_cons_succ, List.set_cons_zero, List.set_cons_succ, List.set_nil, Nat.reduceAdd, Nat.reduceSub, if_true, if_false, eq_self, reduceIte, Bool.not_true, Bool.not_false, v_encN, v_rng1, v_rng2, Bool.false_eq_true, v_told, w_told1, w_told2, w_wipe0, w_wipe1, v_app, v_ext, v_put, v_drop, w_drop1, w_drop2, i1, i2] at hr
          exact hr.symm
        | dict _ => cases nx
        | none => simp only [v_seq, w_nx, w_ret, w_exc, w_brk, w_cnt, v_next, v_ret, v_retN, w_rok, w_rexc, v_brk, v_cnt, v_raise, v_if, w_ift, w_iff, w_ifx, v_asg, w_aok, w_aexc, w_gok, v_par, w_par, v_for, w_for, v_run, w_end1, w_end2, w_end3, v_e1, v_e2, w_two, v_eF, v_nil, v_cons, w_cons, v_tup, v_lst, v_var, w_var, v_c, v_and, w_andt, w_andf, v_or, w_ort, w_orf, v_not, w_not, v_ifE, w_ifEt, w_ifEf, v_tB, w_tB, v_tTru, v_tAnd, w_tAndt, w_tAndf, v_tOr, w_tOrt, w_tOrf, v_tNot, w_tNot, v_tYes, v_gName, v_gTup, v_gLst, v_gCons, v_gNil, v_oNone, v_oSome, w_oSome, v_slice, w_slice, v_chain, w_chain, w_chaint, w_chainf, v_iSeq, w_items1, w_items2, w_trub, w_truN, w_truL, w_truT, R.bind_ok, R.bind_exc, R.bind_bad, List.length_cons, List.length_nil, List.map_cons, List.map_nil, List.replicate, List.cons_append, List.nil_append, List.getElem?_cons_zero, List.getElem?_cons_succ, List.set_cons_zero, List.set_cons_succ, List.set_nil, Nat.reduceAdd, Nat.reduceSub, if_true, if_false, eq_self, reduceIte, Bool.not_true, Bool.not_false, v_encN, v_rng1, v_rng2, Bool.false_eq_true, v_told, w_told1, w_told2, w_wipe0, w_wipe1, v_app, v_ext, v_put, v_drop, w_drop1, w_drop2, dIsi, isI] at hr; exact hr.symm
        | str s => simp only [v_seq, w_nx, w_ret, w_exc, w_brk, w_cnt, v_next, v_ret, v_retN, w_rok, w_rexc, v_brk, v_cnt, v_raise, v_if, w_ift, w_iff, w_ifx, v_asg, w_aok, w_aexc, w_gok, v_par, w_par, v_for, w_for, v_run, w_end1, w_end2, w_end3, v_e1, v_e2, w_two, v_eF, v_nil, v_cons, w_cons, v_tup, v_lst, v_var, w_var, v_c, v_and, w_andt, w_andf, v_or, w_ort, w_orf, v_not, w_not, v_ifE, w_ifEt, w_ifEf, v_tB, w_tB, v_tTru, v_tAnd, w_tAndt, w_tAndf, v_tOr, w_tOrt, w_tOrf, v_tNot, w_tNot, v_tYes, v_gName, v_gTup, v_gLst, v_gCons, v_gNil, v_oNone, v_oSome, w_oSome, v_slice, w_slice, v_chain, w_chain, w_chaint, w_chainf, v_iSeq, w_items1, w_items2, w_trub, w_truN, w_truL, w_truT, R.bind_ok, R.bind_exc, R.bind_bad, List.length_cons, List.length_nil, List.map_cons, List.map_nil, List.replicate, List.cons_append, List.nil_append, List.getElem?_cons_zero, List.getElem?_cons_succ, List.set_cons_zero, List.set_cons_succ, List.set_nil, Nat.reduceAdd, Nat.reduceSub, if_true, if_false, eq_self, reduceIte, Bool.not_true, Bool.not_false, v_encN, v_rng1, v_rng2, Bool.false_eq_true, v_told, w_told1, w_told2, w_wipe0, w_wipe1, v_app, v_ext, v_put, v_drop, w_drop1, w_drop2, dIsi, isI] at hr; exact hr.symm
        | list l => simp only [v_seq, w_nx, w_ret, w_exc, w_brk, w_cnt, v_next, v_ret, v_retN, w_rok, w_rexc, v_brk, v_cnt, v_raise, v_if, w_ift, w_iff, w_ifx, v_asg, w_aok, w_aexc, w_gok, v_par, w_par, v_for, w_for, v_run, w_end1, w_end2, w_end3, v_e1, v_e2, w_two, v_eF, v_nil, v_cons, w_cons, v_tup, v_lst, v_var, w_var, v_c, v_and, w_andt, w_andf, v_or, w_ort, w_orf, v_not, w_not, v_ifE, w_ifEt, w_ifEf, v_tB, w_tB, v_tTru, v_tAnd, w_tAndt, w_tAndf, v_tOr, w_tOrt, w_tOrf, v_tNot, w_tNot, v_tYes, v_gName, v_gTup, v_gLst, v_gCons, v_gNil, v_oNone, v_oSome, w_oSome, v_slice, w_slice, v_chain, w_chain, w_chaint, w_chainf, v_iSeq, w_items1, w_items2, w_trub, w_truN, w_truL, w_truT, R.bind_ok, R.bind_exc, R.bind_bad, List.length_cons, List.length_nil, List.map_cons, List.map_nil, List.replicate, List.cons_append, List.nil_append, List.getElem?_cons_zero, List.getElem?_cons_succ, List.set_cons_zero, List.set_cons_succ, List.set_nil, Nat.reduceAdd, Nat.reduceSub, if_true, if_false, eq_self, reduceIte, Bool.not_true, Bool.not_false, v_encN, v_rng1, v_rng2, Bool.false_eq_true, v_told, w_told1, w_told2, w_wipe0, w_wipe1, v_app, v_ext, v_put, v_drop, w_drop1, w_drop2, dIsi, isI] at hr; exact hr.symm
        | tuple l => simp only [v_seq, w_nx, w_ret, w_exc, w_brk, w_cnt, v_next, v_ret, v_retN, w_rok, w_rexc, v_brk, v_cnt, v_raise, v_if, w_ift, w_iff, w_ifx, v_asg, w_aok, w_aexc, w_gok, v_par, w_par, v_for, w_for, v_run, w_end1, w_end2, w_end3, v_e1, v_e2, w_two, v_eF, v_nil, v_cons, w_cons, v_tup, v_lst, v_var, w_var, v_c, v_and, w_andt, w_andf, v_or, w_ort, w_orf, v_not, w_not, v_ifE, w_ifEt, w_ifEf, v_tB, w_tB, v_tTru, v_tAnd, w_tAndt, w_tAndf, v_tOr, w_tOrt, w_tOrf, v_tNot, w_tNot, v_tYes, v_gName, v_gTup, v_gLst, v_gCons, v_gNil, v_oNone, v_oSome, w_oSome, v_slice, w_slice, v_chain, w_chain, w_chaint, w_chainf, v_iSeq, w_items1, w_items2, w_trub, w_truN, w_truL, w_truT, R.bind_ok, R.bind_exc, R.bind_bad, List.length_cons, List.length_nil, List.map_cons, List.map_nil, List.replicate, List.cons_append, List.nil_append, List.getElem?_cons_zero, List.getElem?_cons_succ, List.set_cons_zero, List.set_cons_succ, List.set_nil, Nat.reduceAdd, Nat.reduceSub, if_true, if_false, eq_self, reduceIte, Bool.not_true, Bool.not_false, v_encN, v_rng1, v_rng2, Bool.false_eq_true, v_told, w_told1, w_told2, w_wipe0, w_wipe1, v_app, v_ext, v_put, v_drop, w_drop1, w_drop2, dIsi, isI] at hr; exact hr.symm
  rcases hr with hr | ⟨u, hr⟩
  · exact key xs none r hx hr
  · exact key xs u r hx hr
theorem step_law {h : House} {p : Plan} (hp : p ∈ plansL h) (c : Chg) : step h p (encC c) = if c.1 < p.length ∧ gd p c.1 ≠ c.2 ∧ after p c ∈ plansL h then some (after p c) else none := by
  have ip := plan_of hp
  unfold step
  rw [decC_enc]
  simp only
  by_cases hc : c ∈ lchanges h p
  · obtain ⟨h1, h2, h3, h4⟩ := (mem_lch ip).mp hc
    rw [if_pos hc, if_pos ⟨by rw [ip.1]; exact h1, fun z => h3 z.symm, h4⟩]
  · rw [if_neg hc, if_neg]
    rintro ⟨h1, h2, h4⟩
    refine hc ((mem_lch ip).mpr ⟨by rw [← ip.1]; exact h1, ?_, fun z => h2 z.symm, h4⟩)
    have ia := plan_of h4
    have := gd_lt ia (i := c.1) (by rw [← ip.1]; exact h1)
    rwa [after, gd_set_eq h1] at this
theorem after_parts {p : Plan} {c : Chg} (hc : c.1 < p.length) (hl : p.length ≤ 1000) : dSlice (encP p) none (some (c.1 : Int)) = .ok (encP (p.take c.1)) ∧ dSlice (encP p) (some ((c.1 : Int) + 1)) none = .ok (encP (p.drop (c.1 + 1))) ∧ dAdd (encP (p.take c.1)) (.tuple [.int c.2]) = .ok (encP (p.take c.1 ++ [c.2])) ∧ dAdd (encP (p.take c.1 ++ [c.2])) (encP (p.drop (c.1 + 1))) = .ok (encP (after p c)) := by
  have t1 : (p.take c.1).length ≤ p.length := by rw [List.length_take]; omega
  have t2 : (p.drop (c.1 + 1)).length ≤ p.length := by rw [List.length_drop]; omega
  refine ⟨?_, ?_, add_T (f := encN) (ys := [c.2]) (by simp [lim]; omega), ?_⟩
  · show R.ok (PyData.tuple (cut (p.map encN) none (some (c.1 : Int)))) = _
    rw [cut_take, ← List.map_take]
    rfl
  · show R.ok (PyData.tuple (cut (p.map encN) (some ((c.1 + 1 : Nat) : Int)) none)) = _
    rw [cut_drop, ← List.map_drop]
    rfl
  · have e : p.take c.1 ++ [c.2] ++ p.drop (c.1 + 1) = after p c := by
      rw [after, List.set_eq_take_append_cons_drop, if_pos hc]
      simp
    rw [← e]
    exact add_T (f := encN) (by simp [lim]; omega)
theorem leads_loop {h : House} (k : h.ok) (O0 R0 : D) : ∀ (xs : List D) (p : Plan) (e u : Option D), p ∈ plansL h → (∀ x ∈ xs, ∃ n L, pl n L x = true) →
    (∃ q e' u', goW h p xs = some q ∧ rEnd ((forL (DL.gName 4) (sSeq (DL.sIf (DL.tOr (DL.tNot (DL.tTru (e1 (dIsi isT) (eVar 4)))) (DL.tB (e2 dNe (e1 dLen (eVar 4)) (eC (.int 2))))) (sRet (eC (.bool false))) (sNext)) (sSeq (DL.sFor (DL.iSeq (eVar 4)) (DL.gName 5) (sSeq (DL.sIf (DL.tOr (DL.tNot (DL.tTru (e1 (dIsi isI) (eVar 5)))) (DL.tOr (DL.tTru (e1 (dIsi isB) (eVar 5))) (DL.tB (e2 dLt (eVar 5) (eC (.int 0)))))) (sRet (eC (.bool false))) (sNext)) (sNext))) (sSeq (DL.sIf (DL.tOr (DL.tB (e2 dGe (e2 dIdx (eVar 4) (eC (.int 0))) (e1 dLen (eVar 1)))) (DL.tB (e2 dEq (e2 dIdx (eVar 1) (e2 dIdx (eVar 4) (eC (.int 0)))) (e2 dIdx (eVar 4) (eC (.int 1)))))) (sRet (eC (.bool false))) (sNext)) (sSeq (sAsg (e2 dAdd (e2 dAdd (eSlice (eVar 1) oNone (oSome (e2 dIdx (eVar 4) (eC (.int 0))))) (eF fTup (aCons (e2 dIdx (eVar 4) (eC (.int 1))) aNil))) (eSlice (eVar 1) (oSome (e2 dAdd (e2 dIdx (eVar 4) (eC (.int 0))) (eC (.int 1)))) oNone)) (DL.gName 1)) (sSeq (DL.sIf (DL.tB (e2 dNotIn (eVar 1) (eVar 0))) (sRet (eC (.bool false))) (sNext)) (sNext)))))) xs [some (encL encP (plansL h)), some (encP p), some O0, some R0, e, u]).thn (sRet (e2 dEq (eVar 1) (eVar 2)))) = rEnd (sRet (e2 dEq (eVar 1) (eVar 2)) [some (encL encP (plansL h)), some (encP q), some O0, some R0, e', u']))
    ∨ (goW h p xs = none ∧ rEnd ((forL (DL.gName 4) (sSeq (DL.sIf (DL.tOr (DL.tNot (DL.tTru (e1 (dIsi isT) (eVar 4)))) (DL.tB (e2 dNe (e1 dLen (eVar 4)) (eC (.int 2))))) (sRet (eC (.bool false))) (sNext)) (sSeq (DL.sFor (DL.iSeq (eVar 4)) (DL.gName 5) (sSeq (DL.sIf (DL.tOr (DL.tNot (DL.tTru (e1 (dIsi isI) (eVar 5)))) (DL.tOr (DL.tTru (e1 (dIsi isB) (eVar 5))) (DL.tB (e2 dLt (eVar 5) (eC (.int 0)))))) (sRet (eC (.bool false))) (sNext)) (sNext))) (sSeq (DL.sIf (DL.tOr (DL.tB (e2 dGe (e2 dIdx (eVar 4) (eC (.int 0))) (e1 dLen (eVar 1)))) (DL.tB (e2 dEq (e2 dIdx (eVar 1) (e2 dIdx (eVar 4) (eC (.int 0)))) (e2 dIdx (eVar 4) (eC (.int 1)))))) (sRet (eC (.bool false))) (sNext)) (sSeq (sAsg (e2 dAdd (e2 dAdd (eSlice (eVar 1) oNone (oSome (e2 dIdx (eVar 4) (eC (.int 0))))) (eF fTup (aCons (e2 dIdx (eVar 4) (eC (.int 1))) aNil))) (eSlice (eVar 1) (oSome (e2 dAdd (e2 dIdx (eVar 4) (eC (.int 0))) (eC (.int 1)))) oNone)) (DL.gName 1)) (sSeq (DL.sIf (DL.tB (e2 dNotIn (eVar 1) (eVar 0))) (sRet (eC (.bool false))) (sNext)) (sNext)))))) xs [some (encL encP (plansL h)), some (encP p), some O0, some R0, e, u]).thn (sRet (e2 dEq (eVar 1) (eVar 2)))) = .ok (.bool false))
  | [], p, e, u, _, _ => .inl ⟨p, e, u, rfl, rfl⟩
  | x :: xs, p, e, u, hp, hx => by
    obtain ⟨n, L, hpl⟩ := hx x List.mem_cons_self
    have hx' : ∀ x ∈ xs, ∃ n L, pl n L x = true := fun y hy => hx y (List.mem_cons_of_mem _ hy)
    have ip := plan_of hp
    have p5 := k.p5
    rw [goW, forL]
    cases x with
    | tuple ys =>
      have it : dIsi isT (.tuple ys) = .ok (.bool true) := rfl
      have e2 : dNe (.int (ys.length : Int)) (.int 2) = .ok (.bool (!decide (ys.length = 2))) := neN _ 2
      by_cases hl : ys.length = 2
      · rw [decide_eq_true hl] at e2
        match ys, hl, hpl, e2, it with
        | [a, b], _, hpl, e2, it =>
          have ha : nod a = true := by obtain ⟨m, _, q⟩ := pl_one hpl (d := a) (by simp); exact pl_nod q
          have hb : nod b = true := by obtain ⟨m, _, q⟩ := pl_one hpl (d := b) (by simp); exact pl_nod q
          have e2' : dNe (.int 2) (.int 2) = .ok (.bool false) := e2
          have ln : dLen (.tuple [a, b]) = .ok (.int 2) := rfl
          simp only [v_seq, w_nx, w_ret, w_exc, w_brk, w_cnt, v_next, v_ret, v_retN, w_rok, w_rexc, v_brk, v_cnt, v_raise, v_if, w_ift, w_iff, w_ifx, v_asg, w_aok, w_aexc, w_gok, v_par, w_par, v_for, w_for, v_run, w_end1, w_end2, w_end3, v_e1, v_e2, w_two, v_eF, v_nil, v_cons, w_cons, v_tup, v_lst, v_var, w_var, v_c, v_and, w_andt, w_andf, v_or, w_ort, w_orf, v_not, w_not, v_ifE, w_ifEt, w_ifEf, v_tB, w_tB, v_tTru, v_tAnd, w_tAndt, w_tAndf, v_tOr, w_tOrt, w_tOrf, v_tNot, w_tNot, v_tYes, v_gName, v_gTup, v_gLst, v_gCons, v_gNil, v_oNone, v_oSome, w_oSome, v_slice, w_slice, v_chain, w_chain, w_chaint, w_chainf, v_iSeq, w_items1, w_items2, w_trub, w_truN, w_truL, w_truT, R.bind_ok, R.bind_exc, R.bind_bad, List.length_cons, List.length_nil, List.map_cons, List.map_nil, List.replicate, List.cons_append, List.nil_append, List.getElem?_cons_zero, List.getElem?_cons_succ, List.set_cons_zero, List.set_cons_succ, List.set_nil, Nat.reduceAdd, Nat.reduceSub, if_true, if_false, eq_self, reduceIte, Bool.not_true, Bool.not_false, v_encN, v_rng1, v_rng2, Bool.false_eq_true, v_told, w_told1, w_told2, w_wipe0, w_wipe1, v_app, v_ext, v_put, v_drop, w_drop1, w_drop2, it, ln, e2']
          generalize hr : forL (DL.gName 5) _ _ _ = r
          rcases leads_parts [a, b] (by simp [ha, hb]) r (.inr ⟨_, hr⟩) with ⟨h1, rfl⟩ | ⟨h1, u', rfl⟩
          · refine .inr ⟨?_, by simp only [v_seq, w_nx, w_ret, w_exc, w_brk, w_cnt, v_next, v_ret, v_retN, w_rok, w_rexc, v_brk, v_cnt, v_raise, v_if, w_ift, w_iff, w_ifx, v_asg, w_aok, w_aexc, w_gok, v_par, w_par, v_for, w_for, v_run, w_end1, w_end2, w_end3, v_e1, v_e2, w_two, v_eF, v_nil, v_cons, w_cons, v_tup, v_lst, v_var, w_var, v_c, v_and, w_andt, w_andf, v_or, w_ort, w_orf, v_not, w_not, v_ifE, w_ifEt, w_ifEf, v_tB, w_tB, v_tTru, v_tAnd, w_tAndt, w_tAndf, v_tOr, w_tOrt, w_tOrf, v_tNot, w_tNot, v_tYes, v_gName, v_gTup, v_gLst, v_gCons, v_gNil, v_oNone, v_oSome, w_oSome, v_slice, w_slice, v_chain, w_chain, w_chaint, w_chainf, v_iSeq, w_items1, w_items2, w_trub, w_truN, w_truL, w_truT, R.bind_ok, R.bind_exc, R.bind_bad, List.length_cons, List.length_nil, List.map_cons, List.map_nil, List.replicate, List.cons_append, List.nil_append, List.getElem?_cons_zero, List.getElem?_cons_succ, List.set_cons_zero, List.set_cons_succ, List.set_nil, Nat.reduceAdd, Nat.reduceSub, if_true, if_false, eq_self, reduceIte, Bool.not_true, Bool.not_false, v_encN, v_rng1, v_rng2, Bool.false_eq_true, v_told, w_told1, w_told2, w_wipe0, w_wipe1, v_app, v_ext, v_put, v_drop, w_drop1, w_drop2]⟩
            have : step h p (.tuple [a, b]) = none := by
              unfold step
              split
              · rename_i c hc
                have := decC_some hc
                rw [encC_eq] at this
                cases this
                simp [partB] at h1
              · rfl
            rw [this]; rfl
          · obtain ⟨c, hc⟩ : ∃ c, PyData.tuple [a, b] = encC c := by
              simp only [List.all_cons, List.all_nil, Bool.and_true, Bool.and_eq_true] at h1
              have dec : ∀ d : D, partB d = true → ∃ n : Nat, d = .int n := fun d hd => by
                unfold partB at hd
                split at hd
                · rename_i i
                  have := of_decide_eq_true hd
                  exact ⟨i.toNat, by rw [Int.toNat_of_nonneg this]⟩
                · cases hd
              obtain ⟨i, rfl⟩ := dec a h1.1
              obtain ⟨j, rfl⟩ := dec b h1.2
              exact ⟨(i, j), by rw [encC_eq]⟩
            have hs := step_law hp c
            rw [hc] at *
            have i0 : dIdx (encC c) (.int 0) = .ok (.int c.1) := by rw [encC_eq]; exact idx0
            have i1 : dIdx (encC c) (.int 1) = .ok (.int c.2) := by rw [encC_eq]; exact idx1
            have lp : dLen (encP p) = .ok (.int p.length) := by rw [encP_T]; exact len_T
            have ge := geN c.1 p.length
            by_cases c1 : c.1 < p.length
            · rw [decide_eq_false (by omega)] at ge
              have gi := gd_idx c1
              have eq := eqN (a := gd p c.1) (b := c.2)
              by_cases c2 : gd p c.1 = c.2
              · rw [decide_eq_true c2] at eq
                refine .inr ⟨by rw [hs, if_neg (fun z => z.2.1 c2)]; rfl, ?_⟩
                simp only [v_seq, w_nx, w_ret, w_exc, w_brk, w_cnt, v_next, v_ret, v_retN, w_rok, w_rexc, v_brk, v_cnt, v_raise, v_if, w_ift, w_iff, w_ifx, v_asg, w_aok, w_aexc, w_gok, v_par, w_par, v_for, w_for, v_run, w_end1, w_end2, w_end3, v_e1, v_e2, w_two, v_eF, v_nil, v_cons, w_cons, v_tup, v_lst, v_var, w_var, v_c, v_and, w_andt, w_andf, v_or, w_ort, w_orf, v_not, w_not, v_ifE, w_ifEt, w_ifEf, v_tB, w_tB, v_tTru, v_tAnd, w_tAndt, w_tAndf, v_tOr, w_tOrt, w_tOrf, v_tNot, w_tNot, v_tYes, v_gName, v_gTup, v_gLst, v_gCons, v_gNil, v_oNone, v_oSome, w_oSome, v_slice, w_slice, v_chain, w_chain, w_chaint, w_chainf, v_iSeq, w_items1, w_items2, w_trub, w_truN, w_truL, w_truT, R.bind_ok, R.bind_exc, R.bind_bad, List.length_cons, List.length_nil, List.map_cons, List.map_nil, List.replicate, List.cons_append, List.nil_append, List.getElem?_cons_zero, List.getElem?_cons_succ, List.set_cons_zero, List.set_cons_succ, List.set_nil, Nat.reduceAdd, Nat.reduceSub, if_true, if_false, eq_self, reduceIte, Bool.not_true, Bool.not_false, v_encN, v_rng1, v_rng2, Bool.false_eq_true, v_told, w_told1, w_told2, w_wipe0, w_wipe1, v_app, v_ext, v_put, v_drop, w_drop1, w_drop2, i0, i1, lp, ge, gi, eq]
              · rw [decide_eq_false c2] at eq
                obtain ⟨s1, s2, s3, s4⟩ := after_parts (p := p) (c := c) c1 (by rw [ip.1]; omega)
                have a1 : dAdd (.int c.1) (.int 1) = .ok (.int ((c.1 : Int) + 1)) := rfl
                have nin := ninP (after p c) (plansL h)
                by_cases c3 : after p c ∈ plansL h
                · rw [decide_eq_true c3] at nin
                  rw [hs, if_pos ⟨c1, c2, c3⟩, Option.bind_some]
                  simp only [v_seq, w_nx, w_ret, w_exc, w_brk, w_cnt, v_next, v_ret, v_retN, w_rok, w_rexc, v_brk, v_cnt, v_raise, v_if, w_ift, w_iff, w_ifx, v_asg, w_aok, w_aexc, w_gok, v_par, w_par, v_for, w_for, v_run, w_end1, w_end2, w_end3, v_e1, v_e2, w_two, v_eF, v_nil, v_cons, w_cons, v_tup, v_lst, v_var, w_var, v_c, v_and, w_andt, w_andf, v_or, w_ort, w_orf, v_not, w_not, v_ifE, w_ifEt, w_ifEf, v_tB, w_tB, v_tTru, v_tAnd, w_tAndt, w_tAndf, v_tOr, w_tOrt, w_tOrf, v_tNot, w_tNot, v_tYes, v_gName, v_gTup, v_gLst, v_gCons, v_gNil, v_oNone, v_oSome, w_oSome, v_slice, w_slice, v_chain, w_chain, w_chaint, w_chainf, v_iSeq, w_items1, w_items2, w_trub, w_truN, w_truL, w_truT, R.bind_ok, R.bind_exc, R.bind_bad, List.length_cons, List.length_nil, List.map_cons, List.map_nil, List.replicate, List.cons_append, List.nil_append, List.getElem?_cons_zero, List.getElem?_cons_succ, List.set_cons_zero, List.set_cons_succ, List.set_nil, Nat.reduceAdd, Nat.reduceSub, if_true, if_false, eq_self, reduceIte, Bool.not_true, Bool.not_false, v_encN, v_rng1, v_rng2, Bool.false_eq_true, v_told, w_told1, w_told2, w_wipe0, w_wipe1, v_app, v_ext, v_put, v_drop, w_drop1, w_drop2, i0, i1, lp, ge, gi, eq, a1, s1, s2, s3, s4, nin]
                  exact leads_loop k O0 R0 xs (after p c) _ _ c3 hx'
                · rw [decide_eq_false c3] at nin
                  refine .inr ⟨by rw [hs, if_neg (fun z => c3 z.2.2)]; rfl, ?_⟩
                  simp only [v_seq, w_nx, w_ret, w_exc, w_brk, w_cnt, v_next, v_ret, v_retN, w_rok, w_rexc, v_brk, v_cnt, v_raise, v_if, w_ift, w_iff, w_ifx, v_asg, w_aok, w_aexc, w_gok, v_par, w_par, v_for, w_for, v_run, w_end1, w_end2, w_end3, v_e1, v_e2, w_two, v_eF, v_nil, v_cons, w_cons, v_tup, v_lst, v_var, w_var, v_c, v_and, w_andt, w_andf, v_or, w_ort, w_orf, v_not, w_not, v_ifE, w_ifEt, w_ifEf, v_tB, w_tB, v_tTru, v_tAnd, w_tAndt, w_tAndf, v_tOr, w_tOrt, w_tOrf, v_tNot, w_tNot, v_tYes, v_gName, v_gTup, v_gLst, v_gCons, v_gNil, v_oNone, v_oSome, w_oSome, v_slice, w_slice, v_chain, w_chain, w_chaint, w_chainf, v_iSeq, w_items1, w_items2, w_trub, w_truN, w_truL, w_truT, R.bind_ok, R.bind_exc, R.bind_bad, List.length_cons, List.length_nil, List.map_cons, List.map_nil, List.replicate, List.cons_append, List.nil_append, List.getElem?_cons_zero, List.getElem?_cons_succ, List.set_cons_zero, List.set_cons_succ, List.set_nil, Nat.reduceAdd, Nat.reduceSub, if_true, if_false, eq_self, reduceIte, Bool.not_true, Bool.not_false, v_encN, v_rng1, v_rng2, Bool.false_eq_true, v_told, w_told1, w_told2, w_wipe0, w_wipe1, v_app, v_ext, v_put, v_drop, w_drop1, w_drop2, i0, i1, lp, ge, gi, eq, a1, s1, s2, s3, s4, nin]
            · rw [decide_eq_true (by omega)] at ge
              refine .inr ⟨by rw [hs, if_neg (fun z => c1 z.1)]; rfl, ?_⟩
              simp only [v_seq, w_nx, w_ret, w_exc, w_brk, w_cnt, v_next, v_ret, v_retN, w_rok, w_rexc, v_brk, v_cnt, v_raise, v_if, w_ift, w_iff, w_ifx, v_asg, w_aok, w_aexc, w_gok, v_par, w_par, v_for, w_for, v_run, w_end1, w_end2, w_end3, v_e1, v_e2, w_two, v_eF, v_nil, v_cons, w_cons, v_tup, v_lst, v_var, w_var, v_c, v_and, w_andt, w_andf, v_or, w_ort, w_orf, v_not, w_not, v_ifE, w_ifEt, w_ifEf, v_tB, w_tB, v_tTru, v_tAnd, w_tAndt, w_tAndf, v_tOr, w_tOrt, w_tOrf, v_tNot, w_tNot, v_tYes, v_gName, v_gTup, v_gLst, v_gCons, v_gNil, v_oNone, v_oSome, w_oSome, v_slice, w_slice, v_chain, w_chain, w_chaint, w_chainf, v_iSeq, w_items1, w_items2, w_trub, w_truN, w_truL, w_truT, R.bind_ok, R.bind_exc, R.bind_bad, List.length_cons, List.length_nil, List.map_cons, List.map_nil, List.replicate, List.cons_append, List.nil_append, List.getElem?_cons_zero, List.getElem?_cons_succ, List.set_cons_zero, List.set_cons_succ, List.set_nil, Nat.reduceAdd, Nat.reduceSub, if_true, if_false, eq_self, reduceIte, Bool.not_true, Bool.not_false, v_encN, v_rng1, v_rng2, Bool.false_eq_true, v_told, w_told1, w_told2, w_wipe0, w_wipe1, v_app, v_ext, v_put, v_drop, w_drop1, w_drop2, i0, i1, lp, ge]
      · rw [decide_eq_false hl] at e2
        refine .inr ⟨?_, by simp only [v_seq, w_nx, w_ret, w_exc, w_brk, w_cnt, v_next, v_ret, v_retN, w_rok, w_rexc, v_brk, v_cnt, v_raise, v_if, w_ift, w_iff, w_ifx, v_asg, w_aok, w_aexc, w_gok, v_par, w_par, v_for, w_for, v_run, w_end1, w_end2, w_end3, v_e1, v_e2, w_two, v_eF, v_nil, v_cons, w_cons, v_tup, v_lst, v_var, w_var, v_c, v_and, w_andt, w_andf, v_or, w_ort, w_orf, v_not, w_not, v_ifE, w_ifEt, w_ifEf, v_tB, w_tB, v_tTru, v_tAnd, w_tAndt, w_tAndf, v_tOr, w_tOrt, w_tOrf, v_tNot, w_tNot, v_tYes, v_gName, v_gTup, v_gLst, v_gCons, v_gNil, v_oNone, v_oSome, w_oSome, v_slice, w_slice, v_chain, w_chain, w_chaint, w_chainf, v_iSeq, w_items1, w_items2, w_trub, w_truN, w_truL, w_truT, R.bind_ok, R.bind_exc, R.bind_bad, List.length_cons, List.length_nil, List.map_cons, List.map_nil, List.replicate, List.cons_append, List.nil_append, List.getElem?_cons_zero, List.getElem?_cons_succ, List.set_cons_zero, List.set_cons_succ, List.set_nil, Nat.reduceAdd, Nat.reduceSub, if_true, if_false, eq_self, reduceIte, Bool.not_true, Bool.not_false, v_encN, v_rng1, v_rng2, Bool.false_eq_true, v_told, w_told1, w_told2, w_wipe0, w_wipe1, v_app, v_ext, v_put, v_drop, w_drop1, w_drop2, it, len_tup, e2]⟩
        have : step h p (.tuple ys) = none := by
          unfold step
          split
          · rename_i c hc
            have := decC_some hc
            rw [encC_eq] at this
            cases this
            exact absurd rfl hl
          · rfl
        rw [this]; rfl
    | dict _ => exact absurd hpl (by cases n <;> simp [pl])
    | _ => exact .inr ⟨rfl, by simp only [v_seq, w_nx, w_ret, w_exc, w_brk, w_cnt, v_next, v_ret, v_retN, w_rok, w_rexc, v_brk, v_cnt, v_raise, v_if, w_ift, w_iff, w_ifx, v_asg, w_aok, w_aexc, w_gok, v_par, w_par, v_for, w_for, v_run, w_end1, w_end2, w_end3, v_e1, v_e2, w_two, v_eF, v_nil, v_cons, w_cons, v_tup, v_lst, v_var, w_var, v_c, v_and, w_andt, w_andf, v_or, w_ort, w_orf, v_not, w_not, v_ifE, w_ifEt, w_ifEf, v_tB, w_tB, v_tTru, v_tAnd, w_tAndt, w_tAndf, v_tOr, w_tOrt, w_tOrf, v_tNot, w_tNot, v_tYes, v_gName, v_gTup, v_gLst, v_gCons, v_gNil, v_oNone, v_oSome, w_oSome, v_slice, w_slice, v_chain, w_chain, w_chaint, w_chainf, v_iSeq, w_items1, w_items2, w_trub, w_truN, w_truL, w_truT, R.bind_ok, R.bind_exc, R.bind_bad, List.length_cons, List.length_nil, List.map_cons, List.map_nil, List.replicate, List.cons_append, List.nil_append, List.getElem?_cons_zero, List.getElem?_cons_succ, List.set_cons_zero, List.set_cons_succ, List.set_nil, Nat.reduceAdd, Nat.reduceSub, if_true, if_false, eq_self, reduceIte, Bool.not_true, Bool.not_false, v_encN, v_rng1, v_rng2, Bool.false_eq_true, v_told, w_told1, w_told2, w_wipe0, w_wipe1, v_app, v_ext, v_put, v_drop, w_drop1, w_drop2, dIsi, isT]⟩
theorem law_leads_eq {h : House} {x y : Plan} {xs : List D} (k : h.ok) (hx : x ∈ plansL h) (hp : ∀ x ∈ xs, ∃ n L, pl n L x = true) : f__law_leads [encL encP (plansL h), encP x, encP y, .list xs] = .ok (.bool (isWay h x y xs)) := by
  simp only [f__law_leads, v_seq, w_nx, w_ret, w_exc, w_brk, w_cnt, v_next, v_ret, v_retN, w_rok, w_rexc, v_brk, v_cnt, v_raise, v_if, w_ift, w_iff, w_ifx, v_asg, w_aok, w_aexc, w_gok, v_par, w_par, v_for, w_for, v_run, w_end1, w_end2, w_end3, v_e1, v_e2, w_two, v_eF, v_nil, v_cons, w_cons, v_tup, v_lst, v_var, w_var, v_c, v_and, w_andt, w_andf, v_or, w_ort, w_orf, v_not, w_not, v_ifE, w_ifEt, w_ifEf, v_tB, w_tB, v_tTru, v_tAnd, w_tAndt, w_tAndf, v_tOr, w_tOrt, w_tOrf, v_tNot, w_tNot, v_tYes, v_gName, v_gTup, v_gLst, v_gCons, v_gNil, v_oNone, v_oSome, w_oSome, v_slice, w_slice, v_chain, w_chain, w_chaint, w_chainf, v_iSeq, w_items1, w_items2, w_trub, w_truN, w_truL, w_truT, R.bind_ok, R.bind_exc, R.bind_bad, List.length_cons, List.length_nil, List.map_cons, List.map_nil, List.replicate, List.cons_append, List.nil_append, List.getElem?_cons_zero, List.getElem?_cons_succ, List.set_cons_zero, List.set_cons_succ, List.set_nil, Nat.reduceAdd, Nat.reduceSub, if_true, if_false, eq_self, reduceIte, Bool.not_true, Bool.not_false, v_encN, v_rng1, v_rng2, Bool.false_eq_true, v_told, w_told1, w_told2, w_wipe0, w_wipe1, v_app, v_ext, v_put, v_drop, w_drop1, w_drop2]
  rcases leads_loop k (encP y) (.list xs) xs x none none hx hp with ⟨q, e', u', h1, h2⟩ | ⟨h1, h2⟩
  · rw [h2]
    simp only [v_seq, w_nx, w_ret, w_exc, w_brk, w_cnt, v_next, v_ret, v_retN, w_rok, w_rexc, v_brk, v_cnt, v_raise, v_if, w_ift, w_iff, w_ifx, v_asg, w_aok, w_aexc, w_gok, v_par, w_par, v_for, w_for, v_run, w_end1, w_end2, w_end3, v_e1, v_e2, w_two, v_eF, v_nil, v_cons, w_cons, v_tup, v_lst, v_var, w_var, v_c, v_and, w_andt, w_andf, v_or, w_ort, w_orf, v_not, w_not, v_ifE, w_ifEt, w_ifEf, v_tB, w_tB, v_tTru, v_tAnd, w_tAndt, w_tAndf, v_tOr, w_tOrt, w_tOrf, v_tNot, w_tNot, v_tYes, v_gName, v_gTup, v_gLst, v_gCons, v_gNil, v_oNone, v_oSome, w_oSome, v_slice, w_slice, v_chain, w_chain, w_chaint, w_chainf, v_iSeq, w_items1, w_items2, w_trub, w_truN, w_truL, w_truT, R.bind_ok, R.bind_exc, R.bind_bad, List.length_cons, List.length_nil, List.map_cons, List.map_nil, List.replicate, List.cons_append, List.nil_append, List.getElem?_cons_zero, List.getElem?_cons_succ, List.set_cons_zero, List.set_cons_succ, List.set_nil, Nat.reduceAdd, Nat.reduceSub, if_true, if_false, eq_self, reduceIte, Bool.not_true, Bool.not_false, v_encN, v_rng1, v_rng2, Bool.false_eq_true, v_told, w_told1, w_told2, w_wipe0, w_wipe1, v_app, v_ext, v_put, v_drop, w_drop1, w_drop2, eqP, isWay, h1, Option.some.injEq]
  · rw [h2, isWay, h1]
    rfl
end PG
/-! K22law -/
set_option Elab.async false
set_option linter.all false
set_option maxRecDepth 100000
set_option maxHeartbeats 4000000
namespace K22
open DL PG
open PySem (PyData Str)
theorem chg_pl (W : List Chg) : ∀ x ∈ W.map encC, ∃ n L, pl n L x = true := fun x hx => by
  obtain ⟨c, _, rfl⟩ := List.mem_map.mp hx
  exact ⟨1, 2, rfl⟩
theorem sl_to {V : List Chg} {k : Nat} : dSlice (encL encC V) none (some (k : Int)) = .ok (encL encC (V.take k)) := slice_to
theorem sl_from {V : List Chg} {k : Nat} : dSlice (encL encC V) (some (k : Int)) none = .ok (encL encC (V.drop k)) := slice_from
theorem isn_L {α : Type} {f : α → D} {V : List α} : dIsNot (encL f V) .none = .ok (.bool true) := rfl
theorem law_holds (ns : List Int) (hl : ns.length ≤ 63) (hb : ∀ z ∈ ns, PySem.Builtin.Int.intBits z ≤ 1048576) : f_law [scriptD ns] = .ok (.bool true) := by
  have m3 : dMin2 (.int 3) (.int (ns.length : Int)) = .ok (.int (min 3 ns.length : Nat)) := cells_min 3 _
  have n12 : rRng1 (.ok (.int 12)) = .ok ((List.range 12).map encN) := w_rng1 (n := 12) (by simp [lim])
  have p20 : dPow (.int 2) (.int 20) = .ok (.int 1048576) := by simp [dPow]
  have p30 : dPow (.int 2) (.int 30) = .ok (.int 1073741824) := by simp [dPow]
  have p40 : dPow (.int 2) (.int 40) = .ok (.int 1099511627776) := by simp [dPow]
  simp only [f_law, v_seq, w_nx, w_ret, w_exc, w_brk, w_cnt, v_next, v_ret, v_retN, w_rok, w_rexc, v_brk, v_cnt, v_raise, v_if, w_ift, w_iff, w_ifx, v_asg, w_aok, w_aexc, w_gok, v_par, w_par, v_for, w_for, v_run, w_end1, w_end2, w_end3, v_e1, v_e2, w_two, v_eF, v_nil, v_cons, w_cons, v_tup, v_lst, v_var, w_var, v_c, v_and, w_andt, w_andf, v_or, w_ort, w_orf, v_not, w_not, v_ifE, w_ifEt, w_ifEf, v_tB, w_tB, v_tTru, v_tAnd, w_tAndt, w_tAndf, v_tOr, w_tOrt, w_tOrf, v_tNot, w_tNot, v_tYes, v_gName, v_gTup, v_gLst, v_gCons, v_gNil, v_oNone, v_oSome, w_oSome, v_slice, w_slice, v_chain, w_chain, w_chaint, w_chainf, v_iSeq, w_items1, w_items2, w_trub, w_truN, w_truL, w_truT, R.bind_ok, R.bind_exc, R.bind_bad, List.length_cons, List.length_nil, List.map_cons, List.map_nil, List.replicate, List.cons_append, List.nil_append, List.getElem?_cons_zero, List.getElem?_cons_succ, List.set_cons_zero, List.set_cons_succ, List.set_nil, Nat.reduceAdd, Nat.reduceSub, if_true, if_false, eq_self, reduceIte, Bool.not_true, Bool.not_false, v_encN, v_rng1, v_rng2, Bool.false_eq_true, v_told, w_told1, w_told2, w_wipe0, w_wipe1, v_app, v_ext, v_put, v_drop, w_drop1, w_drop2, script_len, m3, cells_max, cells_rng (show 3 ≤ 1000 by omega)]
  generalize hr : forL _ _ _ _ = r
  obtain ⟨ρ', rfl, _⟩ := for_inv hr encN (fun _ ρ => ∃ a b c d e f g h i j k l m n, ρ = [some (scriptD ns), a, b, c, d, e, f, g, h, i, j, k, l, m, n]) _ rfl ⟨_, _, _, _, _, _, _, _, _, _, _, _, _, _, rfl⟩ (by
    rintro pre kk post ρ _ ⟨a, b, c, d, e, f, g, h, i, j, k, l, m, n, rfl⟩
    refine ⟨_, rfl, ?_⟩
    obtain ⟨z, hz⟩ := cell_eq ns hl kk (by omega)
    obtain ⟨h, hh, ok, _⟩ := law_house_ok (m := drawn z kk) (mo := 4) (by omega) (by omega)
    have hh4 : f__law_house [.int (drawn z kk), .int 4] = .ok (encH h) := hh
    have m4 : dMin2 (.int 4) (.int ((plansL h).length : Int)) = .ok (.int (min 4 (plansL h).length : Nat)) := cells_min 4 _
    simp only [v_seq, w_nx, w_ret, w_exc, w_brk, w_cnt, v_next, v_ret, v_retN, w_rok, w_rexc, v_brk, v_cnt, v_raise, v_if, w_ift, w_iff, w_ifx, v_asg, w_aok, w_aexc, w_gok, v_par, w_par, v_for, w_for, v_run, w_end1, w_end2, w_end3, v_e1, v_e2, w_two, v_eF, v_nil, v_cons, w_cons, v_tup, v_lst, v_var, w_var, v_c, v_and, w_andt, w_andf, v_or, w_ort, w_orf, v_not, w_not, v_ifE, w_ifEt, w_ifEf, v_tB, w_tB, v_tTru, v_tAnd, w_tAndt, w_tAndf, v_tOr, w_tOrt, w_tOrf, v_tNot, w_tNot, v_tYes, v_gName, v_gTup, v_gLst, v_gCons, v_gNil, v_oNone, v_oSome, w_oSome, v_slice, w_slice, v_chain, w_chain, w_chaint, w_chainf, v_iSeq, w_items1, w_items2, w_trub, w_truN, w_truL, w_truT, R.bind_ok, R.bind_exc, R.bind_bad, List.length_cons, List.length_nil, List.map_cons, List.map_nil, List.replicate, List.cons_append, List.nil_append, List.getElem?_cons_zero, List.getElem?_cons_succ, List.set_cons_zero, List.set_cons_succ, List.set_nil, Nat.reduceAdd, Nat.reduceSub, if_true, if_false, eq_self, reduceIte, Bool.not_true, Bool.not_false, v_encN, v_rng1, v_rng2, Bool.false_eq_true, v_told, w_told1, w_told2, w_wipe0, w_wipe1, v_app, v_ext, v_put, v_drop, w_drop1, w_drop2, hz, drawn_eq, hh4, law_plans_eq ok, len_L, m4, w_rng1 (show min 4 (plansL h).length ≤ lim by simp [lim]; omega)]
    generalize hr2 : forL _ _ _ _ = r2
    obtain ⟨ρ2, rfl, x1, x2, x3, x4, x5, x6, x7, x8, x9, x10, rfl⟩ := for_inv hr2 encN (fun _ ρ => ∃ x1 x2 x3 x4 x5 x6 x7 x8 x9 x10, ρ = [some (scriptD ns), some (.int kk), some (.int (drawn z kk)), some (encH h), some (encL encP (plansL h)), x1, x2, x3, x4, x5, x6, x7, x8, x9, x10]) _ rfl ⟨_, _, _, _, _, _, _, _, _, _, rfl⟩ (by
      rintro pre jj post ρ hpre ⟨x1, x2, x3, x4, x5, x6, x7, x8, x9, x10, rfl⟩
      refine ⟨_, rfl, ?_⟩
      have hne : plansL h ≠ [] := fun e => by
        have := congrArg List.length hpre
        rw [e] at this
        simp at this
      have a10 : dAdd (.int 10) (.int jj) = .ok (.int (10 + jj)) := rfl
      have a20 : dAdd (.int 20) (.int jj) = .ok (.int (20 + jj)) := rfl
      obtain ⟨x, hx, q, q1, q2⟩ := at_drawn (f := encP) hne (drawn (drawn z kk) (10 + jj))
      obtain ⟨y, hy, u, u1, u2⟩ := at_drawn (f := encP) hne (drawn (drawn z kk) (20 + jj))
      obtain ⟨W, hW, wl, wd⟩ : ∃ W : List Chg, W.length < 1024 ∧ (wayD (wayP h x y) = .none ∧ W = [] ∨ wayD (wayP h x y) = encL encC W) ∧ True := by
        cases hw : wayP h x y with
        | none => exact ⟨[], by simp, .inl ⟨rfl, rfl⟩, trivial⟩
        | some W => exact ⟨W, wayP_len ok hx hw, .inr rfl, trivial⟩
      have lw := way_eq ok hx hy
      have iw : ∀ (A B C0 D0 E0 F0 G0 H0 : Option D) (I0 : List (Option D)), rIfE (rB (dIsNot (wayD (wayP h x y)) .none)) (eVar 8) (eF fLst aNil) (A :: B :: C0 :: D0 :: E0 :: F0 :: G0 :: H0 :: some (wayD (wayP h x y)) :: I0) = .ok (encL encC W) := by
        intro A B C0 D0 E0 F0 G0 H0 I0
        have i1 : dIsNot .none .none = .ok (.bool false) := rfl
        have l0 : PyData.list [] = encL encC [] := rfl
        rcases wl with ⟨w1, rfl⟩ | w1
        · rw [w1]
          simp only [v_seq, w_nx, w_ret, w_exc, w_brk, w_cnt, v_next, v_ret, v_retN, w_rok, w_rexc, v_brk, v_cnt, v_raise, v_if, w_ift, w_iff, w_ifx, v_asg, w_aok, w_aexc, w_gok, v_par, w_par, v_for, w_for, v_run, w_end1, w_end2, w_end3, v_e1, v_e2, w_two, v_eF, v_nil, v_cons, w_cons, v_tup, v_lst, v_var, w_var, v_c, v_and, w_andt, w_andf, v_or, w_ort, w_orf, v_not, w_not, v_ifE, w_ifEt, w_ifEf, v_tB, w_tB, v_tTru, v_tAnd, w_tAndt, w_tAndf, v_tOr, w_tOrt, w_tOrf, v_tNot, w_tNot, v_tYes, v_gName, v_gTup, v_gLst, v_gCons, v_gNil, v_oNone, v_oSome, w_oSome, v_slice, w_slice, v_chain, w_chain, w_chaint, w_chainf, v_iSeq, w_items1, w_items2, w_trub, w_truN, w_truL, w_truT, R.bind_ok, R.bind_exc, R.bind_bad, List.length_cons, List.length_nil, List.map_cons, List.map_nil, List.replicate, List.cons_append, List.nil_append, List.getElem?_cons_zero, List.getElem?_cons_succ, List.set_cons_zero, List.set_cons_succ, List.set_nil, Nat.reduceAdd, Nat.reduceSub, if_true, if_false, eq_self, reduceIte, Bool.not_true, Bool.not_false, v_encN, v_rng1, v_rng2, Bool.false_eq_true, v_told, w_told1, w_told2, w_wipe0, w_wipe1, v_app, v_ext, v_put, v_drop, w_drop1, w_drop2, i1, l0]
        · rw [w1]
          simp only [v_seq, w_nx, w_ret, w_exc, w_brk, w_cnt, v_next, v_ret, v_retN, w_rok, w_rexc, v_brk, v_cnt, v_raise, v_if, w_ift, w_iff, w_ifx, v_asg, w_aok, w_aexc, w_gok, v_par, w_par, v_for, w_for, v_run, w_end1, w_end2, w_end3, v_e1, v_e2, w_two, v_eF, v_nil, v_cons, w_cons, v_tup, v_lst, v_var, w_var, v_c, v_and, w_andt, w_andf, v_or, w_ort, w_orf, v_not, w_not, v_ifE, w_ifEt, w_ifEf, v_tB, w_tB, v_tTru, v_tAnd, w_tAndt, w_tAndf, v_tOr, w_tOrt, w_tOrf, v_tNot, w_tNot, v_tYes, v_gName, v_gTup, v_gLst, v_gCons, v_gNil, v_oNone, v_oSome, w_oSome, v_slice, w_slice, v_chain, w_chain, w_chaint, w_chainf, v_iSeq, w_items1, w_items2, w_trub, w_truN, w_truL, w_truT, R.bind_ok, R.bind_exc, R.bind_bad, List.length_cons, List.length_nil, List.map_cons, List.map_nil, List.replicate, List.cons_append, List.nil_append, List.getElem?_cons_zero, List.getElem?_cons_succ, List.set_cons_zero, List.set_cons_succ, List.set_nil, Nat.reduceAdd, Nat.reduceSub, if_true, if_false, eq_self, reduceIte, Bool.not_true, Bool.not_false, v_encN, v_rng1, v_rng2, Bool.false_eq_true, v_told, w_told1, w_told2, w_wipe0, w_wipe1, v_app, v_ext, v_put, v_drop, w_drop1, w_drop2, isn_L]
      simp only [v_seq, w_nx, w_ret, w_exc, w_brk, w_cnt, v_next, v_ret, v_retN, w_rok, w_rexc, v_brk, v_cnt, v_raise, v_if, w_ift, w_iff, w_ifx, v_asg, w_aok, w_aexc, w_gok, v_par, w_par, v_for, w_for, v_run, w_end1, w_end2, w_end3, v_e1, v_e2, w_two, v_eF, v_nil, v_cons, w_cons, v_tup, v_lst, v_var, w_var, v_c, v_and, w_andt, w_andf, v_or, w_ort, w_orf, v_not, w_not, v_ifE, w_ifEt, w_ifEf, v_tB, w_tB, v_tTru, v_tAnd, w_tAndt, w_tAndf, v_tOr, w_tOrt, w_tOrf, v_tNot, w_tNot, v_tYes, v_gName, v_gTup, v_gLst, v_gCons, v_gNil, v_oNone, v_oSome, w_oSome, v_slice, w_slice, v_chain, w_chain, w_chaint, w_chainf, v_iSeq, w_items1, w_items2, w_trub, w_truN, w_truL, w_truT, R.bind_ok, R.bind_exc, R.bind_bad, List.length_cons, List.length_nil, List.map_cons, List.map_nil, List.replicate, List.cons_append, List.nil_append, List.getElem?_cons_zero, List.getElem?_cons_succ, List.set_cons_zero, List.set_cons_succ, List.set_nil, Nat.reduceAdd, Nat.reduceSub, if_true, if_false, eq_self, reduceIte, Bool.not_true, Bool.not_false, v_encN, v_rng1, v_rng2, Bool.false_eq_true, v_told, w_told1, w_told2, w_wipe0, w_wipe1, v_app, v_ext, v_put, v_drop, w_drop1, w_drop2, a10, a20, drawn_eq, q1, q2, u1, u2, len_L, lw, iw, n12]
      clear lw iw wl
      generalize hr3 : forL _ _ _ _ = r3
      obtain ⟨ρ3, rfl, y1, y2, y3, y4, y5, rfl⟩ := for_inv hr3 encN (fun _ ρ => ∃ y1 y2 y3 y4 y5, ρ = [some (scriptD ns), some (.int kk), some (.int (drawn z kk)), some (encH h), some (encL encP (plansL h)), some (.int jj), some (encP x), some (encP y), some (encL encC W), y1, y2, y3, y4, y5, x10]) _ rfl ⟨_, _, _, _, _, rfl⟩ (by
        rintro pre t post ρ hpre ⟨y1, y2, y3, y4, y5, rfl⟩
        refine ⟨_, rfl, ?_⟩
        have b1 : dMulI (.int 20) (.int jj) = .ok (.int (20 * jj)) := rfl
        have b2 : dAdd (.int 30) (.int (20 * jj)) = .ok (.int (30 + 20 * jj)) := rfl
        have b3 : dAdd (.int (30 + 20 * jj)) (.int t) = .ok (.int (30 + 20 * jj + t)) := rfl
        obtain ⟨n, hn⟩ : ∃ n : Nat, drawn (drawn z kk) (30 + 20 * jj + t) = n := ⟨_, (Int.toNat_of_nonneg (drawn_nn _ _)).symm⟩
        have c1 : dAdd (.int (W.length : Int)) (.int 1) = .ok (.int (W.length + 1 : Nat)) := rfl
        have c2 : dMod (.int n) (.int (W.length + 1 : Nat)) = .ok (.int (n % (W.length + 1) : Nat)) := modN' (by omega)
        have d1 : dDiv (.int n) (.int 64) = .ok (.int (n / 64 : Nat)) := divN (b := 64) (by omega) (by omega)
        have d2 : dDiv (.int n) (.int 512) = .ok (.int (n / 512 : Nat)) := divN (b := 512) (by omega) (by omega)
        have d3 : dDiv (.int n) (.int 1048576) = .ok (.int (n / 1048576 : Nat)) := divN (b := 1048576) (by omega) (by omega)
        have d4 : dDiv (.int n) (.int 1073741824) = .ok (.int (n / 1073741824 : Nat)) := divN (b := 1073741824) (by omega) (by omega)
        have d5 : dDiv (.int n) (.int 1099511627776) = .ok (.int (n / 1099511627776 : Nat)) := divN (b := 1099511627776) (by omega) (by omega)
        have e1 : dMod (.int (n / 64 : Nat)) (.int 5) = .ok (.int (n / 64 % 5 : Nat)) := modN' (b := 5) (by omega)
        have e2 : dMod (.int (n / 512 : Nat)) (.int 4) = .ok (.int (n / 512 % 4 : Nat)) := modN' (b := 4) (by omega)
        have e3 : dMod (.int (n / 1048576 : Nat)) (.int 6) = .ok (.int (n / 1048576 % 6 : Nat)) := modN' (b := 6) (by omega)
        have e4 : dMod (.int (n / 1073741824 : Nat)) (.int 7) = .ok (.int (n / 1073741824 % 7 : Nat)) := modN' (b := 7) (by omega)
        have e5 : dMod (.int (n / 1099511627776 : Nat)) (.int 6) = .ok (.int (n / 1099511627776 % 6 : Nat)) := modN' (b := 6) (by omega)
        have a6 : n / 1048576 % 6 < 6 := Nat.mod_lt _ (by omega)
        have a5 : n / 1099511627776 % 6 < 6 := Nat.mod_lt _ (by omega)
        obtain ⟨a, ha⟩ : ∃ a, a = n % (W.length + 1) := ⟨_, rfl⟩
        rw [← ha] at c2
        obtain ⟨c, hc⟩ : ∃ c : Chg, encC c = .tuple [.int (n / 64 % 5 : Nat), .int (n / 512 % 4 : Nat)] := ⟨(n / 64 % 5, n / 512 % 4), rfl⟩
        have lc : PyData.list [encC c] = encL encC [c] := rfl
        have lcc : PyData.list [encC c, encC c] = encL encC [c, c] := rfl
        have ap : dAdd (.int a) (.int 1) = .ok (.int (a + 1 : Nat)) := rfl
        have t1 : (W.take a).length ≤ W.length := by rw [List.length_take]; omega
        have t2 : (W.drop a).length ≤ W.length := by rw [List.length_drop]; omega
        have t3 : (W.drop (a + 1)).length ≤ W.length := by rw [List.length_drop]; omega
        have f1 : dAdd (encL encC (W.take a)) (encL encC [c]) = .ok (encL encC (W.take a ++ [c])) := ext_L (by simp [lim]; omega)
        have f2 : dAdd (encL encC (W.take a ++ [c])) (encL encC (W.drop a)) = .ok (encL encC (W.take a ++ [c] ++ W.drop a)) := ext_L (by simp [lim]; omega)
        have f3 : dAdd (encL encC (W.take a)) (encL encC (W.drop (a + 1))) = .ok (encL encC (W.take a ++ W.drop (a + 1))) := ext_L (by simp [lim]; omega)
        have f4 : dAdd (encL encC W) (encL encC [c, c]) = .ok (encL encC (W ++ [c, c])) := ext_L (by simp [lim]; omega)
        have f5 : dAdd (encL encC (W.take a ++ [c])) (encL encC (W.drop (a + 1))) = .ok (encL encC (W.take a ++ [c] ++ W.drop (a + 1))) := ext_L (by simp [lim]; omega)
        have cat : ∀ X Y : List D, X.length + Y.length ≤ 1000 → dAdd (.list X) (.list Y) = .ok (.list (X ++ Y)) := fun X Y hX => by
          have : X.length + Y.length ≤ lim := by simp [lim]; omega
          simp [dAdd, this]
        obtain ⟨R0, r1, V, rfl, vl⟩ := pick (xs := [encL encC (W.take a ++ [c] ++ W.drop a), encL encC (W.take a ++ W.drop (a + 1)), encL encC W, encL encC (W ++ [c, c]), encL encC (W.take a ++ [c] ++ W.drop (a + 1)), encL encC W.reverse]) (k := n / 1048576 % 6) a6 (fun d => ∃ V : List Chg, d = encL encC V ∧ V.length ≤ 3000) (by
          simp only [List.mem_cons, List.not_mem_nil, or_false]
          rintro d (rfl | rfl | rfl | rfl | rfl | rfl)
          · exact ⟨_, rfl, by simp only [List.length_append, List.length_cons, List.length_nil]; omega⟩
          · exact ⟨_, rfl, by simp only [List.length_append, List.length_cons, List.length_nil]; omega⟩
          · exact ⟨_, rfl, by omega⟩
          · exact ⟨_, rfl, by simp only [List.length_append, List.length_cons, List.length_nil]; omega⟩
          · exact ⟨_, rfl, by simp only [List.length_append, List.length_cons, List.length_nil]; omega⟩
          · exact ⟨_, rfl, by rw [List.length_reverse]; omega⟩)
        obtain ⟨B, b0, bp⟩ := pick (xs := [.none, .tuple [.int 0], .list [.int 0, .int 0], .tuple [.int 0, .int 0, .int 0], .tuple [.bool true, .int 0], .tuple [.str "0", .int 0]]) (k := n / 1099511627776 % 6) a5 (fun d => ∃ n L, pl n L d = true) (by
          simp only [List.mem_cons, List.not_mem_nil, or_false]
          rintro d (rfl | rfl | rfl | rfl | rfl | rfl)
          · exact ⟨0, 0, rfl⟩
          · exact ⟨1, 3, rfl⟩
          · exact ⟨1, 3, rfl⟩
          · exact ⟨1, 3, rfl⟩
          · exact ⟨1, 3, rfl⟩
          · exact ⟨1, 3, by simp only [pl, List.all_cons, List.all_nil]; rw [strOk_of rfl]; rfl⟩)
        have q7 : dEq (.int (n / 1073741824 % 7 : Nat)) (.int 0) = .ok (.bool (decide (n / 1073741824 % 7 = 0))) := eqN0
        have fin : ∀ xs : List D, (∀ x ∈ xs, ∃ n L, pl n L x = true) → xs.length < 1000000 → dNe (.bool (isWay h x y xs)) (.bool (isWay h x y xs)) = .ok (.bool false) := fun xs _ _ => ne_refl good_B (by omega) _
        have vb : dAdd (encL encC V) (.list [B]) = .ok (.list (V.map encC ++ [B])) := by
          have : (V.map encC).length + [B].length ≤ lim := by rw [List.length_map]; simp [lim]; omega
          show dAdd (.list (V.map encC)) (.list [B]) = _
          simp only [dAdd, this, if_true]
        have cl4 := cat [encL encC (W.take a ++ [c] ++ W.drop a), encL encC (W.take a ++ W.drop (a + 1)), encL encC W, encL encC (W ++ [c, c])] [encL encC (W.take a ++ [c] ++ W.drop (a + 1)), encL encC W.reverse] (by simp)
        by_cases h7 : n / 1073741824 % 7 = 0
        · rw [decide_eq_true h7] at q7
          have P1 : ∀ d ∈ V.map encC ++ [B], ∃ n L, pl n L d = true := fun d hd => by
            rcases List.mem_append.mp hd with hd | hd
            · exact chg_pl V d hd
            · rw [List.mem_singleton.mp hd]; exact bp
          have P2 : (V.map encC ++ [B]).length < 1000000 := by simp; omega
          have w1 := is_way_eq ok hx hy P1 P2
          have w2 := law_leads_eq (y := y) ok hx P1
          simp only [v_seq, w_nx, w_ret, w_exc, w_brk, w_cnt, v_next, v_ret, v_retN, w_rok, w_rexc, v_brk, v_cnt, v_raise, v_if, w_ift, w_iff, w_ifx, v_asg, w_aok, w_aexc, w_gok, v_par, w_par, v_for, w_for, v_run, w_end1, w_end2, w_end3, v_e1, v_e2, w_two, v_eF, v_nil, v_cons, w_cons, v_tup, v_lst, v_var, w_var, v_c, v_and, w_andt, w_andf, v_or, w_ort, w_orf, v_not, w_not, v_ifE, w_ifEt, w_ifEf, v_tB, w_tB, v_tTru, v_tAnd, w_tAndt, w_tAndf, v_tOr, w_tOrt, w_tOrf, v_tNot, w_tNot, v_tYes, v_gName, v_gTup, v_gLst, v_gCons, v_gNil, v_oNone, v_oSome, w_oSome, v_slice, w_slice, v_chain, w_chain, w_chaint, w_chainf, v_iSeq, w_items1, w_items2, w_trub, w_truN, w_truL, w_truT, R.bind_ok, R.bind_exc, R.bind_bad, List.length_cons, List.length_nil, List.map_cons, List.map_nil, List.replicate, List.cons_append, List.nil_append, List.getElem?_cons_zero, List.getElem?_cons_succ, List.set_cons_zero, List.set_cons_succ, List.set_nil, Nat.reduceAdd, Nat.reduceSub, if_true, if_false, eq_self, reduceIte, Bool.not_true, Bool.not_false, v_encN, v_rng1, v_rng2, Bool.false_eq_true, v_told, w_told1, w_told2, w_wipe0, w_wipe1, v_app, v_ext, v_put, v_drop, w_drop1, w_drop2, b1, b2, b3, drawn_eq, hn, len_L, c1, c2, d1, d2, e1, e2, ← hc, lc, lcc, sl_to, sl_from, f1, f2, ap, f3, f4, f5, p20, d3, e3, rev_L, cl4, List.append_eq, r1, p30, d4, e4, q7, p40, d5, e5, b0, vb, w1, w2, fin _ P1 P2]
          exact ⟨_, .inl rfl, _, _, _, _, _, rfl⟩
        · rw [decide_eq_false h7] at q7
          have P2 : (V.map encC).length < 1000000 := by simp; omega
          have w1 := is_way_eq ok hx hy (chg_pl V) P2
          have w2 := law_leads_eq (y := y) ok hx (chg_pl V)
          simp only [v_seq, w_nx, w_ret, w_exc, w_brk, w_cnt, v_next, v_ret, v_retN, w_rok, w_rexc, v_brk, v_cnt, v_raise, v_if, w_ift, w_iff, w_ifx, v_asg, w_aok, w_aexc, w_gok, v_par, w_par, v_for, w_for, v_run, w_end1, w_end2, w_end3, v_e1, v_e2, w_two, v_eF, v_nil, v_cons, w_cons, v_tup, v_lst, v_var, w_var, v_c, v_and, w_andt, w_andf, v_or, w_ort, w_orf, v_not, w_not, v_ifE, w_ifEt, w_ifEf, v_tB, w_tB, v_tTru, v_tAnd, w_tAndt, w_tAndf, v_tOr, w_tOrt, w_tOrf, v_tNot, w_tNot, v_tYes, v_gName, v_gTup, v_gLst, v_gCons, v_gNil, v_oNone, v_oSome, w_oSome, v_slice, w_slice, v_chain, w_chain, w_chaint, w_chainf, v_iSeq, w_items1, w_items2, w_trub, w_truN, w_truL, w_truT, R.bind_ok, R.bind_exc, R.bind_bad, List.length_cons, List.length_nil, List.map_cons, List.map_nil, List.replicate, List.cons_append, List.nil_append, List.getElem?_cons_zero, List.getElem?_cons_succ, List.set_cons_zero, List.set_cons_succ, List.set_nil, Nat.reduceAdd, Nat.reduceSub, if_true, if_false, eq_self, reduceIte, Bool.not_true, Bool.not_false, v_encN, v_rng1, v_rng2, Bool.false_eq_true, v_told, w_told1, w_told2, w_wipe0, w_wipe1, v_app, v_ext, v_put, v_drop, w_drop1, w_drop2, b1, b2, b3, drawn_eq, hn, len_L, c1, c2, d1, d2, e1, e2, ← hc, lc, lcc, sl_to, sl_from, f1, f2, ap, f3, f4, f5, p20, d3, e3, rev_L, cl4, List.append_eq, r1, p30, d4, e4, q7, p40, d5, e5, b0, vb]
          rw [encL, w1, w2]
          simp only [v_seq, w_nx, w_ret, w_exc, w_brk, w_cnt, v_next, v_ret, v_retN, w_rok, w_rexc, v_brk, v_cnt, v_raise, v_if, w_ift, w_iff, w_ifx, v_asg, w_aok, w_aexc, w_gok, v_par, w_par, v_for, w_for, v_run, w_end1, w_end2, w_end3, v_e1, v_e2, w_two, v_eF, v_nil, v_cons, w_cons, v_tup, v_lst, v_var, w_var, v_c, v_and, w_andt, w_andf, v_or, w_ort, w_orf, v_not, w_not, v_ifE, w_ifEt, w_ifEf, v_tB, w_tB, v_tTru, v_tAnd, w_tAndt, w_tAndf, v_tOr, w_tOrt, w_tOrf, v_tNot, w_tNot, v_tYes, v_gName, v_gTup, v_gLst, v_gCons, v_gNil, v_oNone, v_oSome, w_oSome, v_slice, w_slice, v_chain, w_chain, w_chaint, w_chainf, v_iSeq, w_items1, w_items2, w_trub, w_truN, w_truL, w_truT, R.bind_ok, R.bind_exc, R.bind_bad, List.length_cons, List.length_nil, List.map_cons, List.map_nil, List.replicate, List.cons_append, List.nil_append, List.getElem?_cons_zero, List.getElem?_cons_succ, List.set_cons_zero, List.set_cons_succ, List.set_nil, Nat.reduceAdd, Nat.reduceSub, if_true, if_false, eq_self, reduceIte, Bool.not_true, Bool.not_false, v_encN, v_rng1, v_rng2, Bool.false_eq_true, v_told, w_told1, w_told2, w_wipe0, w_wipe1, v_app, v_ext, v_put, v_drop, w_drop1, w_drop2, fin _ (chg_pl V) P2]
          exact ⟨_, .inl rfl, _, _, _, _, _, rfl⟩)
      simp only [v_seq, w_nx, w_ret, w_exc, w_brk, w_cnt, v_next, v_ret, v_retN, w_rok, w_rexc, v_brk, v_cnt, v_raise, v_if, w_ift, w_iff, w_ifx, v_asg, w_aok, w_aexc, w_gok, v_par, w_par, v_for, w_for, v_run, w_end1, w_end2, w_end3, v_e1, v_e2, w_two, v_eF, v_nil, v_cons, w_cons, v_tup, v_lst, v_var, w_var, v_c, v_and, w_andt, w_andf, v_or, w_ort, w_orf, v_not, w_not, v_ifE, w_ifEt, w_ifEf, v_tB, w_tB, v_tTru, v_tAnd, w_tAndt, w_tAndf, v_tOr, w_tOrt, w_tOrf, v_tNot, w_tNot, v_tYes, v_gName, v_gTup, v_gLst, v_gCons, v_gNil, v_oNone, v_oSome, w_oSome, v_slice, w_slice, v_chain, w_chain, w_chaint, w_chainf, v_iSeq, w_items1, w_items2, w_trub, w_truN, w_truL, w_truT, R.bind_ok, R.bind_exc, R.bind_bad, List.length_cons, List.length_nil, List.map_cons, List.map_nil, List.replicate, List.cons_append, List.nil_append, List.getElem?_cons_zero, List.getElem?_cons_succ, List.set_cons_zero, List.set_cons_succ, List.set_nil, Nat.reduceAdd, Nat.reduceSub, if_true, if_false, eq_self, reduceIte, Bool.not_true, Bool.not_false, v_encN, v_rng1, v_rng2, Bool.false_eq_true, v_told, w_told1, w_told2, w_wipe0, w_wipe1, v_app, v_ext, v_put, v_drop, w_drop1, w_drop2, tuple_L]
      generalize hr4 : forL _ _ _ _ = r4
      obtain ⟨ρ4, rfl, y6, rfl⟩ := for_inv hr4 (fun d => d) (fun _ ρ => ∃ y6, ρ = [some (scriptD ns), some (.int kk), some (.int (drawn z kk)), some (encH h), some (encL encP (plansL h)), some (.int jj), some (encP x), some (encP y), some (encL encC W), y1, y2, y3, y4, y5, y6]) [.none, .tuple [], .str "way", encT encC W, .int 5] rfl ⟨_, rfl⟩ (by
        rintro pre d post ρ hpre ⟨y6, rfl⟩
        refine ⟨_, rfl, ?_⟩
        have hd : d ∈ [.none, .tuple [], .str "way", encT encC W, .int 5] := by rw [hpre]; simp
        have bad : isL d = false ∧ nod d = true := by
          simp only [List.mem_cons, List.not_mem_nil, or_false] at hd
          rcases hd with rfl | rfl | rfl | rfl | rfl <;> exact ⟨rfl, rfl⟩
        have i2 : dIsNot (.bool false) (.bool false) = .ok (.bool false) := rfl
        simp only [v_seq, w_nx, w_ret, w_exc, w_brk, w_cnt, v_next, v_ret, v_retN, w_rok, w_rexc, v_brk, v_cnt, v_raise, v_if, w_ift, w_iff, w_ifx, v_asg, w_aok, w_aexc, w_gok, v_par, w_par, v_for, w_for, v_run, w_end1, w_end2, w_end3, v_e1, v_e2, w_two, v_eF, v_nil, v_cons, w_cons, v_tup, v_lst, v_var, w_var, v_c, v_and, w_andt, w_andf, v_or, w_ort, w_orf, v_not, w_not, v_ifE, w_ifEt, w_ifEf, v_tB, w_tB, v_tTru, v_tAnd, w_tAndt, w_tAndf, v_tOr, w_tOrt, w_tOrf, v_tNot, w_tNot, v_tYes, v_gName, v_gTup, v_gLst, v_gCons, v_gNil, v_oNone, v_oSome, w_oSome, v_slice, w_slice, v_chain, w_chain, w_chaint, w_chainf, v_iSeq, w_items1, w_items2, w_trub, w_truN, w_truL, w_truT, R.bind_ok, R.bind_exc, R.bind_bad, List.length_cons, List.length_nil, List.map_cons, List.map_nil, List.replicate, List.cons_append, List.nil_append, List.getElem?_cons_zero, List.getElem?_cons_succ, List.set_cons_zero, List.set_cons_succ, List.set_nil, Nat.reduceAdd, Nat.reduceSub, if_true, if_false, eq_self, reduceIte, Bool.not_true, Bool.not_false, v_encN, v_rng1, v_rng2, Bool.false_eq_true, v_told, w_told1, w_told2, w_wipe0, w_wipe1, v_app, v_ext, v_put, v_drop, w_drop1, w_drop2, is_way_no ok hx hy bad.1 bad.2, i2]
        exact ⟨_, .inl rfl, _, rfl⟩)
      simp only [v_seq, w_nx, w_ret, w_exc, w_brk, w_cnt, v_next, v_ret, v_retN, w_rok, w_rexc, v_brk, v_cnt, v_raise, v_if, w_ift, w_iff, w_ifx, v_asg, w_aok, w_aexc, w_gok, v_par, w_par, v_for, w_for, v_run, w_end1, w_end2, w_end3, v_e1, v_e2, w_two, v_eF, v_nil, v_cons, w_cons, v_tup, v_lst, v_var, w_var, v_c, v_and, w_andt, w_andf, v_or, w_ort, w_orf, v_not, w_not, v_ifE, w_ifEt, w_ifEf, v_tB, w_tB, v_tTru, v_tAnd, w_tAndt, w_tAndf, v_tOr, w_tOrt, w_tOrf, v_tNot, w_tNot, v_tYes, v_gName, v_gTup, v_gLst, v_gCons, v_gNil, v_oNone, v_oSome, w_oSome, v_slice, w_slice, v_chain, w_chain, w_chaint, w_chainf, v_iSeq, w_items1, w_items2, w_trub, w_truN, w_truL, w_truT, R.bind_ok, R.bind_exc, R.bind_bad, List.length_cons, List.length_nil, List.map_cons, List.map_nil, List.replicate, List.cons_append, List.nil_append, List.getElem?_cons_zero, List.getElem?_cons_succ, List.set_cons_zero, List.set_cons_succ, List.set_nil, Nat.reduceAdd, Nat.reduceSub, if_true, if_false, eq_self, reduceIte, Bool.not_true, Bool.not_false, v_encN, v_rng1, v_rng2, Bool.false_eq_true, v_told, w_told1, w_told2, w_wipe0, w_wipe1, v_app, v_ext, v_put, v_drop, w_drop1, w_drop2]
      exact ⟨_, .inl rfl, _, _, _, _, _, _, _, _, _, _, rfl⟩)
    simp only [v_seq, w_nx, w_ret, w_exc, w_brk, w_cnt, v_next, v_ret, v_retN, w_rok, w_rexc, v_brk, v_cnt, v_raise, v_if, w_ift, w_iff, w_ifx, v_asg, w_aok, w_aexc, w_gok, v_par, w_par, v_for, w_for, v_run, w_end1, w_end2, w_end3, v_e1, v_e2, w_two, v_eF, v_nil, v_cons, w_cons, v_tup, v_lst, v_var, w_var, v_c, v_and, w_andt, w_andf, v_or, w_ort, w_orf, v_not, w_not, v_ifE, w_ifEt, w_ifEf, v_tB, w_tB, v_tTru, v_tAnd, w_tAndt, w_tAndf, v_tOr, w_tOrt, w_tOrf, v_tNot, w_tNot, v_tYes, v_gName, v_gTup, v_gLst, v_gCons, v_gNil, v_oNone, v_oSome, w_oSome, v_slice, w_slice, v_chain, w_chain, w_chaint, w_chainf, v_iSeq, w_items1, w_items2, w_trub, w_truN, w_truL, w_truT, R.bind_ok, R.bind_exc, R.bind_bad, List.length_cons, List.length_nil, List.map_cons, List.map_nil, List.replicate, List.cons_append, List.nil_append, List.getElem?_cons_zero, List.getElem?_cons_succ, List.set_cons_zero, List.set_cons_succ, List.set_nil, Nat.reduceAdd, Nat.reduceSub, if_true, if_false, eq_self, reduceIte, Bool.not_true, Bool.not_false, v_encN, v_rng1, v_rng2, Bool.false_eq_true, v_told, w_told1, w_told2, w_wipe0, w_wipe1, v_app, v_ext, v_put, v_drop, w_drop1, w_drop2]
    exact ⟨_, .inl rfl, _, _, _, _, _, _, _, _, _, _, _, _, _, _, rfl⟩)
  simp only [v_seq, w_nx, w_ret, w_exc, w_brk, w_cnt, v_next, v_ret, v_retN, w_rok, w_rexc, v_brk, v_cnt, v_raise, v_if, w_ift, w_iff, w_ifx, v_asg, w_aok, w_aexc, w_gok, v_par, w_par, v_for, w_for, v_run, w_end1, w_end2, w_end3, v_e1, v_e2, w_two, v_eF, v_nil, v_cons, w_cons, v_tup, v_lst, v_var, w_var, v_c, v_and, w_andt, w_andf, v_or, w_ort, w_orf, v_not, w_not, v_ifE, w_ifEt, w_ifEf, v_tB, w_tB, v_tTru, v_tAnd, w_tAndt, w_tAndf, v_tOr, w_tOrt, w_tOrf, v_tNot, w_tNot, v_tYes, v_gName, v_gTup, v_gLst, v_gCons, v_gNil, v_oNone, v_oSome, w_oSome, v_slice, w_slice, v_chain, w_chain, w_chaint, w_chainf, v_iSeq, w_items1, w_items2, w_trub, w_truN, w_truL, w_truT, R.bind_ok, R.bind_exc, R.bind_bad, List.length_cons, List.length_nil, List.map_cons, List.map_nil, List.replicate, List.cons_append, List.nil_append, List.getElem?_cons_zero, List.getElem?_cons_succ, List.set_cons_zero, List.set_cons_succ, List.set_nil, Nat.reduceAdd, Nat.reduceSub, if_true, if_false, eq_self, reduceIte, Bool.not_true, Bool.not_false, v_encN, v_rng1, v_rng2, Bool.false_eq_true, v_told, w_told1, w_told2, w_wipe0, w_wipe1, v_app, v_ext, v_put, v_drop, w_drop1, w_drop2]
end K22
/-! K22end -/
set_option Elab.async false
set_option linter.all false
set_option maxRecDepth 100000
set_option maxHeartbeats 4000000

namespace K22
open DL PG
open PySem PySem.Spec PyProof.Rows L2
abbrev lname (x : Str) (i : Nat) : Str := (envOfC x (defScope (top i)) 0 0 .none).qual ++ "<lambda>"
theorem mk {l : PySem.W.OpenLaw} {q : Program} {w : World} {K : Frag} {h : Heap} {mg : Str → Option Value} {fa : Addr} (X : K.In h) (G : h.Ns mainGlobals mg) (hfa : mg "law" = some (.ref fa)) (own : OwnTabs q K mg h)
  {F_is_count : Addr} {oc_is_count kV_is_count dc_is_count pm_is_count ct_is_count : Value} {od_is_count an_is_count : Option Addr} {sl_is_count : Array (Option Value)} {cd_is_count : Value}
  {F_is_rule : Addr} {oc_is_rule kV_is_rule dc_is_rule pm_is_rule ct_is_rule : Value} {od_is_rule an_is_rule : Option Addr} {sl_is_rule : Array (Option Value)} {cd_is_rule : Value}
  {F_is_house : Addr} {oc_is_house kV_is_house dc_is_house pm_is_house ct_is_house : Value} {od_is_house an_is_house : Option Addr} {sl_is_house : Array (Option Value)} {cd_is_house : Value}
  {F_need_house : Addr} {oc_need_house kV_need_house dc_need_house pm_need_house ct_need_house : Value} {od_need_house an_need_house : Option Addr} {sl_need_house : Array (Option Value)} {cd_need_house : Value}
  {F_is_plan : Addr} {oc_is_plan kV_is_plan dc_is_plan pm_is_plan ct_is_plan : Value} {od_is_plan an_is_plan : Option Addr} {sl_is_plan : Array (Option Value)} {cd_is_plan : Value}
  {F_is_kept : Addr} {oc_is_kept kV_is_kept dc_is_kept pm_is_kept ct_is_kept : Value} {od_is_kept an_is_kept : Option Addr} {sl_is_kept : Array (Option Value)} {cd_is_kept : Value}
  {F_is_let : Addr} {oc_is_let kV_is_let dc_is_let pm_is_let ct_is_let : Value} {od_is_let an_is_let : Option Addr} {sl_is_let : Array (Option Value)} {cd_is_let : Value}
  {F_need_plan : Addr} {oc_need_plan kV_need_plan dc_need_plan pm_need_plan ct_need_plan : Value} {od_need_plan an_need_plan : Option Addr} {sl_need_plan : Array (Option Value)} {cd_need_plan : Value}
  {F_need_let : Addr} {oc_need_let kV_need_let dc_need_let pm_need_let ct_need_let : Value} {od_need_let an_need_let : Option Addr} {sl_need_let : Array (Option Value)} {cd_need_let : Value}
  {F_after : Addr} {oc_after kV_after dc_after pm_after ct_after : Value} {od_after an_after : Option Addr} {sl_after : Array (Option Value)} {cd_after : Value}
  {F_let_changes : Addr} {oc_let_changes kV_let_changes dc_let_changes pm_let_changes ct_let_changes : Value} {od_let_changes an_let_changes : Option Addr} {sl_let_changes : Array (Option Value)} {cd_let_changes : Value}
  {F_is_change : Addr} {oc_is_change kV_is_change dc_is_change pm_is_change ct_is_change : Value} {od_is_change an_is_change : Option Addr} {sl_is_change : Array (Option Value)} {cd_is_change : Value}
  {F_changed : Addr} {oc_changed kV_changed dc_changed pm_changed ct_changed : Value} {od_changed an_changed : Option Addr} {sl_changed : Array (Option Value)} {cd_changed : Value}
  {F_reached : Addr} {oc_reached kV_reached dc_reached pm_reached ct_reached : Value} {od_reached an_reached : Option Addr} {sl_reached : Array (Option Value)} {cd_reached : Value}
  {F_way : Addr} {oc_way kV_way dc_way pm_way ct_way : Value} {od_way an_way : Option Addr} {sl_way : Array (Option Value)} {cd_way : Value}
  {F_walked : Addr} {oc_walked kV_walked dc_walked pm_walked ct_walked : Value} {od_walked an_walked : Option Addr} {sl_walked : Array (Option Value)} {cd_walked : Value}
  {F_is_way : Addr} {oc_is_way kV_is_way dc_is_way pm_is_way ct_is_way : Value} {od_is_way an_is_way : Option Addr} {sl_is_way : Array (Option Value)} {cd_is_way : Value}
  {F__law_cell : Addr} {oc__law_cell kV__law_cell dc__law_cell pm__law_cell ct__law_cell : Value} {od__law_cell an__law_cell : Option Addr} {sl__law_cell : Array (Option Value)} {cd__law_cell : Value}
  {F__law_drawn : Addr} {oc__law_drawn kV__law_drawn dc__law_drawn pm__law_drawn ct__law_drawn : Value} {od__law_drawn an__law_drawn : Option Addr} {sl__law_drawn : Array (Option Value)} {cd__law_drawn : Value}
  {F__law_word : Addr} {oc__law_word kV__law_word dc__law_word pm__law_word ct__law_word : Value} {od__law_word an__law_word : Option Addr} {sl__law_word : Array (Option Value)} {cd__law_word : Value}
  {F__law_rule : Addr} {oc__law_rule kV__law_rule dc__law_rule pm__law_rule ct__law_rule : Value} {od__law_rule an__law_rule : Option Addr} {sl__law_rule : Array (Option Value)} {cd__law_rule : Value}
  {F__law_house : Addr} {oc__law_house kV__law_house dc__law_house pm__law_house ct__law_house : Value} {od__law_house an__law_house : Option Addr} {sl__law_house : Array (Option Value)} {cd__law_house : Value}
  {F__law_keeps : Addr} {oc__law_keeps kV__law_keeps dc__law_keeps pm__law_keeps ct__law_keeps : Value} {od__law_keeps an__law_keeps : Option Addr} {sl__law_keeps : Array (Option Value)} {cd__law_keeps : Value}
  {F__law_many : Addr} {oc__law_many kV__law_many dc__law_many pm__law_many ct__law_many : Value} {od__law_many an__law_many : Option Addr} {sl__law_many : Array (Option Value)} {cd__law_many : Value}
  {F__law_plans : Addr} {oc__law_plans kV__law_plans dc__law_plans pm__law_plans ct__law_plans : Value} {od__law_plans an__law_plans : Option Addr} {sl__law_plans : Array (Option Value)} {cd__law_plans : Value}
  {F__law_leads : Addr} {oc__law_leads kV__law_leads dc__law_leads pm__law_leads ct__law_leads : Value} {od__law_leads an__law_leads : Option Addr} {sl__law_leads : Array (Option Value)} {cd__law_leads : Value}
  {F_law : Addr} {oc_law kV_law dc_law pm_law ct_law : Value} {od_law an_law : Option Addr} {sl_law : Array (Option Value)} {cd_law : Addr}
  {P_law : Addr} {ve_law : Value} {vd_law : Option Addr} {vs_law : Array Value} {vl_law : Array (Option Value)}
  {F__law_told : Addr} {oc__law_told kV__law_told dc__law_told pm__law_told ct__law_told : Value} {od__law_told an__law_told : Option Addr} {sl__law_told : Array (Option Value)} {cd__law_told : Value}
  {tk_MOST_COLOURS : Tok}
  {tk_MOST_PLACES : Tok}
  {tk_MOST_RULES : Tok}
  {d_LENGTHS n_LENGTHS : Nat} {es_LENGTHS : Array DictEntry}
  {C_WayError : Addr}
  {C_BadHouse : Addr}
  {C_BadPlan : Addr}
  {C_BadChange : Addr}
  {C_BadNumber : Addr}
  {C_NotLoose : Addr}
  {C_BadText : Addr}
  (a_is_count : PySem.W.nsIn K mainGlobals "is_count" = some (some (.ref F_is_count)))
  (l_is_count : K.lookup F_is_count = some ⟨oc_is_count, od_is_count, .func (PySem.W.fnOf "is_count" "is_count" (defArgs (top 13)) (defBody (top 13)) (defScope (top 13)) .none kV_is_count dc_is_count pm_is_count an_is_count cd_is_count ct_is_count), sl_is_count⟩)
  (c_is_count : PySem.W.codeIn K cd_is_count "is_count" = true)
  (kp_is_count : PySem.W.keepIn K (.ref F_is_count) = true)
  (a_is_rule : PySem.W.nsIn K mainGlobals "is_rule" = some (some (.ref F_is_rule)))
  (l_is_rule : K.lookup F_is_rule = some ⟨oc_is_rule, od_is_rule, .func (PySem.W.fnOf "is_rule" "is_rule" (defArgs (top 14)) (defBody (top 14)) (defScope (top 14)) .none kV_is_rule dc_is_rule pm_is_rule an_is_rule cd_is_rule ct_is_rule), sl_is_rule⟩)
  (c_is_rule : PySem.W.codeIn K cd_is_rule "is_rule" = true)
  (kp_is_rule : PySem.W.keepIn K (.ref F_is_rule) = true)
  (a_is_house : PySem.W.nsIn K mainGlobals "is_house" = some (some (.ref F_is_house)))
  (l_is_house : K.lookup F_is_house = some ⟨oc_is_house, od_is_house, .func (PySem.W.fnOf "is_house" "is_house" (defArgs (top 15)) (defBody (top 15)) (defScope (top 15)) .none kV_is_house dc_is_house pm_is_house an_is_house cd_is_house ct_is_house), sl_is_house⟩)
  (c_is_house : PySem.W.codeIn K cd_is_house "is_house" = true)
  (kp_is_house : PySem.W.keepIn K (.ref F_is_house) = true)
  (a_need_house : PySem.W.nsIn K mainGlobals "need_house" = some (some (.ref F_need_house)))
  (l_need_house : K.lookup F_need_house = some ⟨oc_need_house, od_need_house, .func (PySem.W.fnOf "need_house" "need_house" (defArgs (top 16)) (defBody (top 16)) (defScope (top 16)) .none kV_need_house dc_need_house pm_need_house an_need_house cd_need_house ct_need_house), sl_need_house⟩)
  (c_need_house : PySem.W.codeIn K cd_need_house "need_house" = true)
  (kp_need_house : PySem.W.keepIn K (.ref F_need_house) = true)
  (a_is_plan : PySem.W.nsIn K mainGlobals "is_plan" = some (some (.ref F_is_plan)))
  (l_is_plan : K.lookup F_is_plan = some ⟨oc_is_plan, od_is_plan, .func (PySem.W.fnOf "is_plan" "is_plan" (defArgs (top 17)) (defBody (top 17)) (defScope (top 17)) .none kV_is_plan dc_is_plan pm_is_plan an_is_plan cd_is_plan ct_is_plan), sl_is_plan⟩)
  (c_is_plan : PySem.W.codeIn K cd_is_plan "is_plan" = true)
  (kp_is_plan : PySem.W.keepIn K (.ref F_is_plan) = true)
  (a_is_kept : PySem.W.nsIn K mainGlobals "is_kept" = some (some (.ref F_is_kept)))
  (l_is_kept : K.lookup F_is_kept = some ⟨oc_is_kept, od_is_kept, .func (PySem.W.fnOf "is_kept" "is_kept" (defArgs (top 18)) (defBody (top 18)) (defScope (top 18)) .none kV_is_kept dc_is_kept pm_is_kept an_is_kept cd_is_kept ct_is_kept), sl_is_kept⟩)
  (c_is_kept : PySem.W.codeIn K cd_is_kept "is_kept" = true)
  (kp_is_kept : PySem.W.keepIn K (.ref F_is_kept) = true)
  (a_is_let : PySem.W.nsIn K mainGlobals "is_let" = some (some (.ref F_is_let)))
  (l_is_let : K.lookup F_is_let = some ⟨oc_is_let, od_is_let, .func (PySem.W.fnOf "is_let" "is_let" (defArgs (top 19)) (defBody (top 19)) (defScope (top 19)) .none kV_is_let dc_is_let pm_is_let an_is_let cd_is_let ct_is_let), sl_is_let⟩)
  (c_is_let : PySem.W.codeIn K cd_is_let "is_let" = true)
  (kp_is_let : PySem.W.keepIn K (.ref F_is_let) = true)
  (a_need_plan : PySem.W.nsIn K mainGlobals "need_plan" = some (some (.ref F_need_plan)))
  (l_need_plan : K.lookup F_need_plan = some ⟨oc_need_plan, od_need_plan, .func (PySem.W.fnOf "need_plan" "need_plan" (defArgs (top 20)) (defBody (top 20)) (defScope (top 20)) .none kV_need_plan dc_need_plan pm_need_plan an_need_plan cd_need_plan ct_need_plan), sl_need_plan⟩)
  (c_need_plan : PySem.W.codeIn K cd_need_plan "need_plan" = true)
  (kp_need_plan : PySem.W.keepIn K (.ref F_need_plan) = true)
  (a_need_let : PySem.W.nsIn K mainGlobals "need_let" = some (some (.ref F_need_let)))
  (l_need_let : K.lookup F_need_let = some ⟨oc_need_let, od_need_let, .func (PySem.W.fnOf "need_let" "need_let" (defArgs (top 21)) (defBody (top 21)) (defScope (top 21)) .none kV_need_let dc_need_let pm_need_let an_need_let cd_need_let ct_need_let), sl_need_let⟩)
  (c_need_let : PySem.W.codeIn K cd_need_let "need_let" = true)
  (kp_need_let : PySem.W.keepIn K (.ref F_need_let) = true)
  (a_after : PySem.W.nsIn K mainGlobals "after" = some (some (.ref F_after)))
  (l_after : K.lookup F_after = some ⟨oc_after, od_after, .func (PySem.W.fnOf "after" "after" (defArgs (top 23)) (defBody (top 23)) (defScope (top 23)) .none kV_after dc_after pm_after an_after cd_after ct_after), sl_after⟩)
  (c_after : PySem.W.codeIn K cd_after "after" = true)
  (kp_after : PySem.W.keepIn K (.ref F_after) = true)
  (a_let_changes : PySem.W.nsIn K mainGlobals "let_changes" = some (some (.ref F_let_changes)))
  (l_let_changes : K.lookup F_let_changes = some ⟨oc_let_changes, od_let_changes, .func (PySem.W.fnOf "let_changes" "let_changes" (defArgs (top 24)) (defBody (top 24)) (defScope (top 24)) .none kV_let_changes dc_let_changes pm_let_changes an_let_changes cd_let_changes ct_let_changes), sl_let_changes⟩)
  (c_let_changes : PySem.W.codeIn K cd_let_changes "let_changes" = true)
  (kp_let_changes : PySem.W.keepIn K (.ref F_let_changes) = true)
  (a_is_change : PySem.W.nsIn K mainGlobals "is_change" = some (some (.ref F_is_change)))
  (l_is_change : K.lookup F_is_change = some ⟨oc_is_change, od_is_change, .func (PySem.W.fnOf "is_change" "is_change" (defArgs (top 25)) (defBody (top 25)) (defScope (top 25)) .none kV_is_change dc_is_change pm_is_change an_is_change cd_is_change ct_is_change), sl_is_change⟩)
  (c_is_change : PySem.W.codeIn K cd_is_change "is_change" = true)
  (kp_is_change : PySem.W.keepIn K (.ref F_is_change) = true)
  (a_changed : PySem.W.nsIn K mainGlobals "changed" = some (some (.ref F_changed)))
  (l_changed : K.lookup F_changed = some ⟨oc_changed, od_changed, .func (PySem.W.fnOf "changed" "changed" (defArgs (top 26)) (defBody (top 26)) (defScope (top 26)) .none kV_changed dc_changed pm_changed an_changed cd_changed ct_changed), sl_changed⟩)
  (c_changed : PySem.W.codeIn K cd_changed "changed" = true)
  (kp_changed : PySem.W.keepIn K (.ref F_changed) = true)
  (a_reached : PySem.W.nsIn K mainGlobals "reached" = some (some (.ref F_reached)))
  (l_reached : K.lookup F_reached = some ⟨oc_reached, od_reached, .func (PySem.W.fnOf "reached" "reached" (defArgs (top 27)) (defBody (top 27)) (defScope (top 27)) .none kV_reached dc_reached pm_reached an_reached cd_reached ct_reached), sl_reached⟩)
  (c_reached : PySem.W.codeIn K cd_reached "reached" = true)
  (kp_reached : PySem.W.keepIn K (.ref F_reached) = true)
  (a_way : PySem.W.nsIn K mainGlobals "way" = some (some (.ref F_way)))
  (l_way : K.lookup F_way = some ⟨oc_way, od_way, .func (PySem.W.fnOf "way" "way" (defArgs (top 28)) (defBody (top 28)) (defScope (top 28)) .none kV_way dc_way pm_way an_way cd_way ct_way), sl_way⟩)
  (c_way : PySem.W.codeIn K cd_way "way" = true)
  (kp_way : PySem.W.keepIn K (.ref F_way) = true)
  (a_walked : PySem.W.nsIn K mainGlobals "walked" = some (some (.ref F_walked)))
  (l_walked : K.lookup F_walked = some ⟨oc_walked, od_walked, .func (PySem.W.fnOf "walked" "walked" (defArgs (top 29)) (defBody (top 29)) (defScope (top 29)) .none kV_walked dc_walked pm_walked an_walked cd_walked ct_walked), sl_walked⟩)
  (c_walked : PySem.W.codeIn K cd_walked "walked" = true)
  (kp_walked : PySem.W.keepIn K (.ref F_walked) = true)
  (a_is_way : PySem.W.nsIn K mainGlobals "is_way" = some (some (.ref F_is_way)))
  (l_is_way : K.lookup F_is_way = some ⟨oc_is_way, od_is_way, .func (PySem.W.fnOf "is_way" "is_way" (defArgs (top 30)) (defBody (top 30)) (defScope (top 30)) .none kV_is_way dc_is_way pm_is_way an_is_way cd_is_way ct_is_way), sl_is_way⟩)
  (c_is_way : PySem.W.codeIn K cd_is_way "is_way" = true)
  (kp_is_way : PySem.W.keepIn K (.ref F_is_way) = true)
  (a__law_cell : PySem.W.nsIn K mainGlobals "_law_cell" = some (some (.ref F__law_cell)))
  (l__law_cell : K.lookup F__law_cell = some ⟨oc__law_cell, od__law_cell, .func (PySem.W.fnOf "_law_cell" "_law_cell" (defArgs (top 32)) (defBody (top 32)) (defScope (top 32)) .none kV__law_cell dc__law_cell pm__law_cell an__law_cell cd__law_cell ct__law_cell), sl__law_cell⟩)
  (c__law_cell : PySem.W.codeIn K cd__law_cell "_law_cell" = true)
  (kp__law_cell : PySem.W.keepIn K (.ref F__law_cell) = true)
  (a__law_drawn : PySem.W.nsIn K mainGlobals "_law_drawn" = some (some (.ref F__law_drawn)))
  (l__law_drawn : K.lookup F__law_drawn = some ⟨oc__law_drawn, od__law_drawn, .func (PySem.W.fnOf "_law_drawn" "_law_drawn" (defArgs (top 33)) (defBody (top 33)) (defScope (top 33)) .none kV__law_drawn dc__law_drawn pm__law_drawn an__law_drawn cd__law_drawn ct__law_drawn), sl__law_drawn⟩)
  (c__law_drawn : PySem.W.codeIn K cd__law_drawn "_law_drawn" = true)
  (kp__law_drawn : PySem.W.keepIn K (.ref F__law_drawn) = true)
  (a__law_word : PySem.W.nsIn K mainGlobals "_law_word" = some (some (.ref F__law_word)))
  (l__law_word : K.lookup F__law_word = some ⟨oc__law_word, od__law_word, .func (PySem.W.fnOf "_law_word" "_law_word" (defArgs (top 34)) (defBody (top 34)) (defScope (top 34)) .none kV__law_word dc__law_word pm__law_word an__law_word cd__law_word ct__law_word), sl__law_word⟩)
  (c__law_word : PySem.W.codeIn K cd__law_word "_law_word" = true)
  (kp__law_word : PySem.W.keepIn K (.ref F__law_word) = true)
  (a__law_rule : PySem.W.nsIn K mainGlobals "_law_rule" = some (some (.ref F__law_rule)))
  (l__law_rule : K.lookup F__law_rule = some ⟨oc__law_rule, od__law_rule, .func (PySem.W.fnOf "_law_rule" "_law_rule" (defArgs (top 36)) (defBody (top 36)) (defScope (top 36)) .none kV__law_rule dc__law_rule pm__law_rule an__law_rule cd__law_rule ct__law_rule), sl__law_rule⟩)
  (c__law_rule : PySem.W.codeIn K cd__law_rule "_law_rule" = true)
  (kp__law_rule : PySem.W.keepIn K (.ref F__law_rule) = true)
  (a__law_house : PySem.W.nsIn K mainGlobals "_law_house" = some (some (.ref F__law_house)))
  (l__law_house : K.lookup F__law_house = some ⟨oc__law_house, od__law_house, .func (PySem.W.fnOf "_law_house" "_law_house" (defArgs (top 37)) (defBody (top 37)) (defScope (top 37)) .none kV__law_house dc__law_house pm__law_house an__law_house cd__law_house ct__law_house), sl__law_house⟩)
  (c__law_house : PySem.W.codeIn K cd__law_house "_law_house" = true)
  (kp__law_house : PySem.W.keepIn K (.ref F__law_house) = true)
  (a__law_keeps : PySem.W.nsIn K mainGlobals "_law_keeps" = some (some (.ref F__law_keeps)))
  (l__law_keeps : K.lookup F__law_keeps = some ⟨oc__law_keeps, od__law_keeps, .func (PySem.W.fnOf "_law_keeps" "_law_keeps" (defArgs (top 38)) (defBody (top 38)) (defScope (top 38)) .none kV__law_keeps dc__law_keeps pm__law_keeps an__law_keeps cd__law_keeps ct__law_keeps), sl__law_keeps⟩)
  (c__law_keeps : PySem.W.codeIn K cd__law_keeps "_law_keeps" = true)
  (kp__law_keeps : PySem.W.keepIn K (.ref F__law_keeps) = true)
  (a__law_many : PySem.W.nsIn K mainGlobals "_law_many" = some (some (.ref F__law_many)))
  (l__law_many : K.lookup F__law_many = some ⟨oc__law_many, od__law_many, .func (PySem.W.fnOf "_law_many" "_law_many" (defArgs (top 40)) (defBody (top 40)) (defScope (top 40)) .none kV__law_many dc__law_many pm__law_many an__law_many cd__law_many ct__law_many), sl__law_many⟩)
  (c__law_many : PySem.W.codeIn K cd__law_many "_law_many" = true)
  (kp__law_many : PySem.W.keepIn K (.ref F__law_many) = true)
  (a__law_plans : PySem.W.nsIn K mainGlobals "_law_plans" = some (some (.ref F__law_plans)))
  (l__law_plans : K.lookup F__law_plans = some ⟨oc__law_plans, od__law_plans, .func (PySem.W.fnOf "_law_plans" "_law_plans" (defArgs (top 39)) (defBody (top 39)) (defScope (top 39)) .none kV__law_plans dc__law_plans pm__law_plans an__law_plans cd__law_plans ct__law_plans), sl__law_plans⟩)
  (c__law_plans : PySem.W.codeIn K cd__law_plans "_law_plans" = true)
  (kp__law_plans : PySem.W.keepIn K (.ref F__law_plans) = true)
  (a__law_leads : PySem.W.nsIn K mainGlobals "_law_leads" = some (some (.ref F__law_leads)))
  (l__law_leads : K.lookup F__law_leads = some ⟨oc__law_leads, od__law_leads, .func (PySem.W.fnOf "_law_leads" "_law_leads" (defArgs (top 41)) (defBody (top 41)) (defScope (top 41)) .none kV__law_leads dc__law_leads pm__law_leads an__law_leads cd__law_leads ct__law_leads), sl__law_leads⟩)
  (c__law_leads : PySem.W.codeIn K cd__law_leads "_law_leads" = true)
  (kp__law_leads : PySem.W.keepIn K (.ref F__law_leads) = true)
  (a_law : PySem.W.nsIn K mainGlobals "law" = some (some (.ref F_law)))
  (l_law : K.lookup F_law = some ⟨oc_law, od_law, .func (PySem.W.fnOf "law" "law" (defArgs (top 42)) (defBody (top 42)) (defScope (top 42)) .none kV_law dc_law pm_law an_law (.ref cd_law) ct_law), sl_law⟩)
  (c_law : PySem.W.codeIn K (.ref cd_law) "law" = true)
  (kp_law : PySem.W.keepIn K (.ref F_law) = true)
  (v_law : K.lookup cd_law = some ⟨ve_law, vd_law, .fields vs_law, vl_law⟩)
  (w_law : (vs_law[11]? : Option Value) = some (.ref P_law))
  (y_law : PySem.W.codeHdIn K cd_law P_law = true)
  (z_law : K.lookup P_law = none)
  (r_law : ((recsOf q).any fun e => e.name == "law") = true)
  (a__law_told : PySem.W.nsIn K mainGlobals "_law_told" = some (some (.ref F__law_told)))
  (l__law_told : K.lookup F__law_told = some ⟨oc__law_told, od__law_told, .func (PySem.W.fnOf "_law_told" "_law_told" (defArgs (top 35)) (defBody (top 35)) (defScope (top 35)) .none kV__law_told dc__law_told pm__law_told an__law_told cd__law_told ct__law_told), sl__law_told⟩)
  (c__law_told : PySem.W.codeIn K cd__law_told "_law_told" = true)
  (kp__law_told : PySem.W.keepIn K (.ref F__law_told) = true)
  (b_ValueError : PySem.W.nsIn K mainGlobals "ValueError" = some none)
  (b_all : PySem.W.nsIn K mainGlobals "all" = some none)
  (b_bool : PySem.W.nsIn K mainGlobals "bool" = some none)
  (b_enumerate : PySem.W.nsIn K mainGlobals "enumerate" = some none)
  (b_int : PySem.W.nsIn K mainGlobals "int" = some none)
  (b_isinstance : PySem.W.nsIn K mainGlobals "isinstance" = some none)
  (b_len : PySem.W.nsIn K mainGlobals "len" = some none)
  (b_list : PySem.W.nsIn K mainGlobals "list" = some none)
  (b_max : PySem.W.nsIn K mainGlobals "max" = some none)
  (b_min : PySem.W.nsIn K mainGlobals "min" = some none)
  (b_range : PySem.W.nsIn K mainGlobals "range" = some none)
  (b_sorted : PySem.W.nsIn K mainGlobals "sorted" = some none)
  (b_str : PySem.W.nsIn K mainGlobals "str" = some none)
  (b_sum : PySem.W.nsIn K mainGlobals "sum" = some none)
  (b_tuple : PySem.W.nsIn K mainGlobals "tuple" = some none)
  (n_MOST_COLOURS : PySem.W.nsIn K mainGlobals "MOST_COLOURS" = some (some (.int 4 tk_MOST_COLOURS)))
  (n_MOST_PLACES : PySem.W.nsIn K mainGlobals "MOST_PLACES" = some (some (.int 5 tk_MOST_PLACES)))
  (n_MOST_RULES : PySem.W.nsIn K mainGlobals "MOST_RULES" = some (some (.int 8 tk_MOST_RULES)))
  (g_LENGTHS : PySem.W.nsIn K mainGlobals "LENGTHS" = some (some (.ref d_LENGTHS)))
  (l_LENGTHS : K.lookup d_LENGTHS = some ⟨.type "dict", none, .dict es_LENGTHS n_LENGTHS, #[]⟩)
  (m_LENGTHS : PySem.W.KeysLit w.params es_LENGTHS.toList)
  (o_LENGTHS : ((d_LENGTHS : Addr) == sysModules) = false)
  (p_LENGTHS : Paired (fun (kv : Str × Int) (e : DictEntry) => (∃ t, e.key = .str kv.1 t) ∧ ∃ u, e.val = .int kv.2 u) t_LENGTHS es_LENGTHS.toList)
  (x_WayError : PySem.W.nsIn K mainGlobals "WayError" = some (some (.ref C_WayError)))
  (h_WayError : PySem.W.keepIn K (.ref C_WayError) = true)
  (s_WayError : PySem.W.subIn K (.ref C_WayError) (.type "BaseException") = some true)
  (t_WayError : PySem.W.typeIn K (.ref C_WayError) = some (.type "type"))
  (e1_WayError : PySem.W.findIn K (.ref C_WayError) "__getattribute__" = some (some (.builtin "BaseException.__getattribute__")))
  (e2_WayError : PySem.W.findIn K (.ref C_WayError) "__getattr__" = some none)
  (e4_WayError : PySem.W.hasDictIn K C_WayError = true)
  (e5_WayError : PySem.W.findIn K (.ref C_WayError) "__class__" = some (some (.builtin "object.__class__")))
  (e8_WayError : PySem.W.mroIn K C_WayError (.type "object") = some true)
  (i_WayError : PySem.W.isClsIn K C_WayError = true)
  (ve_WayError : PySem.W.subIn K (.ref C_WayError) (.type "ValueError") = some true)
  (x_BadHouse : PySem.W.nsIn K mainGlobals "BadHouse" = some (some (.ref C_BadHouse)))
  (q_BadHouse : PySem.W.excIn K C_BadHouse [.type "ValueError", .type "Exception", .type "BaseException", .type "object"] "ValueError.__new__" = true)
  (h_BadHouse : PySem.W.keepIn K (.ref C_BadHouse) = true)
  (s_BadHouse : PySem.W.subIn K (.ref C_BadHouse) (.type "BaseException") = some true)
  (t_BadHouse : PySem.W.typeIn K (.ref C_BadHouse) = some (.type "type"))
  (e1_BadHouse : PySem.W.findIn K (.ref C_BadHouse) "__getattribute__" = some (some (.builtin "BaseException.__getattribute__")))
  (e2_BadHouse : PySem.W.findIn K (.ref C_BadHouse) "__getattr__" = some none)
  (e4_BadHouse : PySem.W.hasDictIn K C_BadHouse = true)
  (e5_BadHouse : PySem.W.findIn K (.ref C_BadHouse) "__class__" = some (some (.builtin "object.__class__")))
  (e8_BadHouse : PySem.W.mroIn K C_BadHouse (.type "object") = some true)
  (i_BadHouse : PySem.W.isClsIn K C_BadHouse = true)
  (ve_BadHouse : PySem.W.subIn K (.ref C_BadHouse) (.type "ValueError") = some true)
  (x_BadPlan : PySem.W.nsIn K mainGlobals "BadPlan" = some (some (.ref C_BadPlan)))
  (q_BadPlan : PySem.W.excIn K C_BadPlan [.type "ValueError", .type "Exception", .type "BaseException", .type "object"] "ValueError.__new__" = true)
  (h_BadPlan : PySem.W.keepIn K (.ref C_BadPlan) = true)
  (s_BadPlan : PySem.W.subIn K (.ref C_BadPlan) (.type "BaseException") = some true)
  (t_BadPlan : PySem.W.typeIn K (.ref C_BadPlan) = some (.type "type"))
  (e1_BadPlan : PySem.W.findIn K (.ref C_BadPlan) "__getattribute__" = some (some (.builtin "BaseException.__getattribute__")))
  (e2_BadPlan : PySem.W.findIn K (.ref C_BadPlan) "__getattr__" = some none)
  (e4_BadPlan : PySem.W.hasDictIn K C_BadPlan = true)
  (e5_BadPlan : PySem.W.findIn K (.ref C_BadPlan) "__class__" = some (some (.builtin "object.__class__")))
  (e8_BadPlan : PySem.W.mroIn K C_BadPlan (.type "object") = some true)
  (i_BadPlan : PySem.W.isClsIn K C_BadPlan = true)
  (ve_BadPlan : PySem.W.subIn K (.ref C_BadPlan) (.type "ValueError") = some true)
  (x_BadChange : PySem.W.nsIn K mainGlobals "BadChange" = some (some (.ref C_BadChange)))
  (q_BadChange : PySem.W.excIn K C_BadChange [.type "ValueError", .type "Exception", .type "BaseException", .type "object"] "ValueError.__new__" = true)
  (h_BadChange : PySem.W.keepIn K (.ref C_BadChange) = true)
  (s_BadChange : PySem.W.subIn K (.ref C_BadChange) (.type "BaseException") = some true)
  (t_BadChange : PySem.W.typeIn K (.ref C_BadChange) = some (.type "type"))
  (e1_BadChange : PySem.W.findIn K (.ref C_BadChange) "__getattribute__" = some (some (.builtin "BaseException.__getattribute__")))
  (e2_BadChange : PySem.W.findIn K (.ref C_BadChange) "__getattr__" = some none)
  (e4_BadChange : PySem.W.hasDictIn K C_BadChange = true)
  (e5_BadChange : PySem.W.findIn K (.ref C_BadChange) "__class__" = some (some (.builtin "object.__class__")))
  (e8_BadChange : PySem.W.mroIn K C_BadChange (.type "object") = some true)
  (i_BadChange : PySem.W.isClsIn K C_BadChange = true)
  (ve_BadChange : PySem.W.subIn K (.ref C_BadChange) (.type "ValueError") = some true)
  (x_BadNumber : PySem.W.nsIn K mainGlobals "BadNumber" = some (some (.ref C_BadNumber)))
  (h_BadNumber : PySem.W.keepIn K (.ref C_BadNumber) = true)
  (s_BadNumber : PySem.W.subIn K (.ref C_BadNumber) (.type "BaseException") = some true)
  (t_BadNumber : PySem.W.typeIn K (.ref C_BadNumber) = some (.type "type"))
  (e1_BadNumber : PySem.W.findIn K (.ref C_BadNumber) "__getattribute__" = some (some (.builtin "BaseException.__getattribute__")))
  (e2_BadNumber : PySem.W.findIn K (.ref C_BadNumber) "__getattr__" = some none)
  (e4_BadNumber : PySem.W.hasDictIn K C_BadNumber = true)
  (e5_BadNumber : PySem.W.findIn K (.ref C_BadNumber) "__class__" = some (some (.builtin "object.__class__")))
  (e8_BadNumber : PySem.W.mroIn K C_BadNumber (.type "object") = some true)
  (i_BadNumber : PySem.W.isClsIn K C_BadNumber = true)
  (ve_BadNumber : PySem.W.subIn K (.ref C_BadNumber) (.type "ValueError") = some true)
  (x_NotLoose : PySem.W.nsIn K mainGlobals "NotLoose" = some (some (.ref C_NotLoose)))
  (h_NotLoose : PySem.W.keepIn K (.ref C_NotLoose) = true)
  (s_NotLoose : PySem.W.subIn K (.ref C_NotLoose) (.type "BaseException") = some true)
  (t_NotLoose : PySem.W.typeIn K (.ref C_NotLoose) = some (.type "type"))
  (e1_NotLoose : PySem.W.findIn K (.ref C_NotLoose) "__getattribute__" = some (some (.builtin "BaseException.__getattribute__")))
  (e2_NotLoose : PySem.W.findIn K (.ref C_NotLoose) "__getattr__" = some none)
  (e4_NotLoose : PySem.W.hasDictIn K C_NotLoose = true)
  (e5_NotLoose : PySem.W.findIn K (.ref C_NotLoose) "__class__" = some (some (.builtin "object.__class__")))
  (e8_NotLoose : PySem.W.mroIn K C_NotLoose (.type "object") = some true)
  (i_NotLoose : PySem.W.isClsIn K C_NotLoose = true)
  (ve_NotLoose : PySem.W.subIn K (.ref C_NotLoose) (.type "ValueError") = some true)
  (x_BadText : PySem.W.nsIn K mainGlobals "BadText" = some (some (.ref C_BadText)))
  (h_BadText : PySem.W.keepIn K (.ref C_BadText) = true)
  (s_BadText : PySem.W.subIn K (.ref C_BadText) (.type "BaseException") = some true)
  (t_BadText : PySem.W.typeIn K (.ref C_BadText) = some (.type "type"))
  (e1_BadText : PySem.W.findIn K (.ref C_BadText) "__getattribute__" = some (some (.builtin "BaseException.__getattribute__")))
  (e2_BadText : PySem.W.findIn K (.ref C_BadText) "__getattr__" = some none)
  (e4_BadText : PySem.W.hasDictIn K C_BadText = true)
  (e5_BadText : PySem.W.findIn K (.ref C_BadText) "__class__" = some (some (.builtin "object.__class__")))
  (e8_BadText : PySem.W.mroIn K C_BadText (.type "object") = some true)
  (i_BadText : PySem.W.isClsIn K C_BadText = true)
  (ve_BadText : PySem.W.subIn K (.ref C_BadText) (.type "ValueError") = some true)
  (e6 : PySem.W.specialIn K (.builtin "object.__class__") "__get__" = some (some (.builtin "getset_descriptor.__get__")))
  (e7 : PySem.W.takesIn K (.builtin "object.__class__") = some true)
  (ks_WayError_BadChange : PySem.W.subIn K (.ref C_WayError) (.ref C_BadChange) = some false)
  (ks_WayError_BadHouse : PySem.W.subIn K (.ref C_WayError) (.ref C_BadHouse) = some false)
  (ks_WayError_BadNumber : PySem.W.subIn K (.ref C_WayError) (.ref C_BadNumber) = some false)
  (ks_WayError_BadPlan : PySem.W.subIn K (.ref C_WayError) (.ref C_BadPlan) = some false)
  (ks_WayError_BadText : PySem.W.subIn K (.ref C_WayError) (.ref C_BadText) = some false)
  (ks_WayError_NotLoose : PySem.W.subIn K (.ref C_WayError) (.ref C_NotLoose) = some false)
  (kw_WayError : PySem.W.subIn K (.ref C_WayError) (.ref C_WayError) = some true)
  (ks_BadHouse_BadChange : PySem.W.subIn K (.ref C_BadHouse) (.ref C_BadChange) = some false)
  (ks_BadHouse_BadHouse : PySem.W.subIn K (.ref C_BadHouse) (.ref C_BadHouse) = some true)
  (ks_BadHouse_BadNumber : PySem.W.subIn K (.ref C_BadHouse) (.ref C_BadNumber) = some false)
  (ks_BadHouse_BadPlan : PySem.W.subIn K (.ref C_BadHouse) (.ref C_BadPlan) = some false)
  (ks_BadHouse_BadText : PySem.W.subIn K (.ref C_BadHouse) (.ref C_BadText) = some false)
  (ks_BadHouse_NotLoose : PySem.W.subIn K (.ref C_BadHouse) (.ref C_NotLoose) = some false)
  (kw_BadHouse : PySem.W.subIn K (.ref C_BadHouse) (.ref C_WayError) = some true)
  (ks_BadPlan_BadChange : PySem.W.subIn K (.ref C_BadPlan) (.ref C_BadChange) = some false)
  (ks_BadPlan_BadHouse : PySem.W.subIn K (.ref C_BadPlan) (.ref C_BadHouse) = some false)
  (ks_BadPlan_BadNumber : PySem.W.subIn K (.ref C_BadPlan) (.ref C_BadNumber) = some false)
  (ks_BadPlan_BadPlan : PySem.W.subIn K (.ref C_BadPlan) (.ref C_BadPlan) = some true)
  (ks_BadPlan_BadText : PySem.W.subIn K (.ref C_BadPlan) (.ref C_BadText) = some false)
  (ks_BadPlan_NotLoose : PySem.W.subIn K (.ref C_BadPlan) (.ref C_NotLoose) = some false)
  (kw_BadPlan : PySem.W.subIn K (.ref C_BadPlan) (.ref C_WayError) = some true)
  (ks_BadChange_BadChange : PySem.W.subIn K (.ref C_BadChange) (.ref C_BadChange) = some true)
  (ks_BadChange_BadHouse : PySem.W.subIn K (.ref C_BadChange) (.ref C_BadHouse) = some false)
  (ks_BadChange_BadNumber : PySem.W.subIn K (.ref C_BadChange) (.ref C_BadNumber) = some false)
  (ks_BadChange_BadPlan : PySem.W.subIn K (.ref C_BadChange) (.ref C_BadPlan) = some false)
  (ks_BadChange_BadText : PySem.W.subIn K (.ref C_BadChange) (.ref C_BadText) = some false)
  (ks_BadChange_NotLoose : PySem.W.subIn K (.ref C_BadChange) (.ref C_NotLoose) = some false)
  (kw_BadChange : PySem.W.subIn K (.ref C_BadChange) (.ref C_WayError) = some true)
  (ks_BadNumber_BadChange : PySem.W.subIn K (.ref C_BadNumber) (.ref C_BadChange) = some false)
  (ks_BadNumber_BadHouse : PySem.W.subIn K (.ref C_BadNumber) (.ref C_BadHouse) = some false)
  (ks_BadNumber_BadNumber : PySem.W.subIn K (.ref C_BadNumber) (.ref C_BadNumber) = some true)
  (ks_BadNumber_BadPlan : PySem.W.subIn K (.ref C_BadNumber) (.ref C_BadPlan) = some false)
  (ks_BadNumber_BadText : PySem.W.subIn K (.ref C_BadNumber) (.ref C_BadText) = some false)
  (ks_BadNumber_NotLoose : PySem.W.subIn K (.ref C_BadNumber) (.ref C_NotLoose) = some false)
  (kw_BadNumber : PySem.W.subIn K (.ref C_BadNumber) (.ref C_WayError) = some true)
  (ks_NotLoose_BadChange : PySem.W.subIn K (.ref C_NotLoose) (.ref C_BadChange) = some false)
  (ks_NotLoose_BadHouse : PySem.W.subIn K (.ref C_NotLoose) (.ref C_BadHouse) = some false)
  (ks_NotLoose_BadNumber : PySem.W.subIn K (.ref C_NotLoose) (.ref C_BadNumber) = some false)
  (ks_NotLoose_BadPlan : PySem.W.subIn K (.ref C_NotLoose) (.ref C_BadPlan) = some false)
  (ks_NotLoose_BadText : PySem.W.subIn K (.ref C_NotLoose) (.ref C_BadText) = some false)
  (ks_NotLoose_NotLoose : PySem.W.subIn K (.ref C_NotLoose) (.ref C_NotLoose) = some true)
  (kw_NotLoose : PySem.W.subIn K (.ref C_NotLoose) (.ref C_WayError) = some true)
  (ks_BadText_BadChange : PySem.W.subIn K (.ref C_BadText) (.ref C_BadChange) = some false)
  (ks_BadText_BadHouse : PySem.W.subIn K (.ref C_BadText) (.ref C_BadHouse) = some false)
  (ks_BadText_BadNumber : PySem.W.subIn K (.ref C_BadText) (.ref C_BadNumber) = some false)
  (ks_BadText_BadPlan : PySem.W.subIn K (.ref C_BadText) (.ref C_BadPlan) = some false)
  (ks_BadText_BadText : PySem.W.subIn K (.ref C_BadText) (.ref C_BadText) = some true)
  (ks_BadText_NotLoose : PySem.W.subIn K (.ref C_BadText) (.ref C_NotLoose) = some false)
  (kw_BadText : PySem.W.subIn K (.ref C_BadText) (.ref C_WayError) = some true)
  : LamX.LawAtS l w K (L2N.CX l.prog w) 10 63 "_law_script" mg fa h := by
  have mk1 : ∀ {x : Str} {v : Value}, PySem.W.nsIn K mainGlobals x = some (some v) → mg x = some v := fun e => PySem.W.mg_of X G e
  have mk0 : ∀ {x : Str}, PySem.W.nsIn K mainGlobals x = some none → mg x = none := fun e => PySem.W.mg_none_of X G e
  have ef := hfa.symm.trans (mk1 a_law)
  cases ef
  letI tb : Tb := ⟨[(P_law, lname "law" 42)], fun e => match e with | .way => C_WayError | .house => C_BadHouse | .plan => C_BadPlan | .change => C_BadChange | .number => C_BadNumber | .loose => C_NotLoose | .text => C_BadText | .nothing => C_WayError⟩
  have T : Txt w K mg d_LENGTHS := ⟨mk0 b_ValueError, mk0 b_all, mk0 b_bool, mk0 b_enumerate, mk0 b_int, mk0 b_isinstance, mk0 b_len, mk0 b_list, mk0 b_max, mk0 b_min, mk0 b_range, mk0 b_sorted, mk0 b_str, mk0 b_sum, mk0 b_tuple, ⟨_, mk1 n_MOST_COLOURS⟩, ⟨_, mk1 n_MOST_PLACES⟩, ⟨_, mk1 n_MOST_RULES⟩, mk1 g_LENGTHS, ⟨_, _, ⟨l_LENGTHS, m_LENGTHS, o_LENGTHS⟩, p_LENGTHS⟩, (fun e => by cases e <;> first | exact ⟨e1_WayError, e2_WayError, s_WayError, e4_WayError, e5_WayError, e6, e7, e8_WayError⟩ | exact ⟨e1_BadHouse, e2_BadHouse, s_BadHouse, e4_BadHouse, e5_BadHouse, e6, e7, e8_BadHouse⟩ | exact ⟨e1_BadPlan, e2_BadPlan, s_BadPlan, e4_BadPlan, e5_BadPlan, e6, e7, e8_BadPlan⟩ | exact ⟨e1_BadChange, e2_BadChange, s_BadChange, e4_BadChange, e5_BadChange, e6, e7, e8_BadChange⟩ | exact ⟨e1_BadNumber, e2_BadNumber, s_BadNumber, e4_BadNumber, e5_BadNumber, e6, e7, e8_BadNumber⟩ | exact ⟨e1_NotLoose, e2_NotLoose, s_NotLoose, e4_NotLoose, e5_NotLoose, e6, e7, e8_NotLoose⟩ | exact ⟨e1_BadText, e2_BadText, s_BadText, e4_BadText, e5_BadText, e6, e7, e8_BadText⟩), (fun e => by cases e <;> first | exact exm_by s_WayError i_WayError t_WayError kw_WayError | exact exm_by s_WayError i_WayError t_WayError kw_BadHouse | exact exm_by s_WayError i_WayError t_WayError kw_BadPlan | exact exm_by s_WayError i_WayError t_WayError kw_BadChange | exact exm_by s_WayError i_WayError t_WayError kw_BadNumber | exact exm_by s_WayError i_WayError t_WayError kw_NotLoose | exact exm_by s_WayError i_WayError t_WayError kw_BadText), mk1 x_WayError, (fun e => by cases e <;> first | exact kit_val ve_WayError | exact kit_val ve_BadHouse | exact kit_val ve_BadPlan | exact kit_val ve_BadChange | exact kit_val ve_BadNumber | exact kit_val ve_NotLoose | exact kit_val ve_BadText), mk1 x_BadChange, ⟨PySem.F.excBase_ValueError, q_BadChange, mk1 x_BadChange, h_BadChange, s_BadChange, t_BadChange⟩, (fun e => by cases e <;> first | exact exm_by s_BadChange i_BadChange t_BadChange ks_WayError_BadChange | exact exm_by s_BadChange i_BadChange t_BadChange ks_BadHouse_BadChange | exact exm_by s_BadChange i_BadChange t_BadChange ks_BadPlan_BadChange | exact exm_by s_BadChange i_BadChange t_BadChange ks_BadChange_BadChange | exact exm_by s_BadChange i_BadChange t_BadChange ks_BadNumber_BadChange | exact exm_by s_BadChange i_BadChange t_BadChange ks_NotLoose_BadChange | exact exm_by s_BadChange i_BadChange t_BadChange ks_BadText_BadChange), (fun e => by cases e <;> first | exact kit_by i_BadChange t_BadChange ks_BadChange_BadChange ks_WayError_BadChange | exact kit_by i_BadChange t_BadChange ks_BadChange_BadChange ks_BadHouse_BadChange | exact kit_by i_BadChange t_BadChange ks_BadChange_BadChange ks_BadPlan_BadChange | exact kit_by i_BadChange t_BadChange ks_BadChange_BadChange ks_BadChange_BadChange | exact kit_by i_BadChange t_BadChange ks_BadChange_BadChange ks_BadNumber_BadChange | exact kit_by i_BadChange t_BadChange ks_BadChange_BadChange ks_NotLoose_BadChange | exact kit_by i_BadChange t_BadChange ks_BadChange_BadChange ks_BadText_BadChange), mk1 x_BadHouse, ⟨PySem.F.excBase_ValueError, q_BadHouse, mk1 x_BadHouse, h_BadHouse, s_BadHouse, t_BadHouse⟩, (fun e => by cases e <;> first | exact kit_by i_BadHouse t_BadHouse ks_BadHouse_BadHouse ks_WayError_BadHouse | exact kit_by i_BadHouse t_BadHouse ks_BadHouse_BadHouse ks_BadHouse_BadHouse | exact kit_by i_BadHouse t_BadHouse ks_BadHouse_BadHouse ks_BadPlan_BadHouse | exact kit_by i_BadHouse t_BadHouse ks_BadHouse_BadHouse ks_BadChange_BadHouse | exact kit_by i_BadHouse t_BadHouse ks_BadHouse_BadHouse ks_BadNumber_BadHouse | exact kit_by i_BadHouse t_BadHouse ks_BadHouse_BadHouse ks_NotLoose_BadHouse | exact kit_by i_BadHouse t_BadHouse ks_BadHouse_BadHouse ks_BadText_BadHouse), mk1 x_BadNumber, (fun e => by cases e <;> first | exact kit_by i_BadNumber t_BadNumber ks_BadNumber_BadNumber ks_WayError_BadNumber | exact kit_by i_BadNumber t_BadNumber ks_BadNumber_BadNumber ks_BadHouse_BadNumber | exact kit_by i_BadNumber t_BadNumber ks_BadNumber_BadNumber ks_BadPlan_BadNumber | exact kit_by i_BadNumber t_BadNumber ks_BadNumber_BadNumber ks_BadChange_BadNumber | exact kit_by i_BadNumber t_BadNumber ks_BadNumber_BadNumber ks_BadNumber_BadNumber | exact kit_by i_BadNumber t_BadNumber ks_BadNumber_BadNumber ks_NotLoose_BadNumber | exact kit_by i_BadNumber t_BadNumber ks_BadNumber_BadNumber ks_BadText_BadNumber), mk1 x_BadPlan, ⟨PySem.F.excBase_ValueError, q_BadPlan, mk1 x_BadPlan, h_BadPlan, s_BadPlan, t_BadPlan⟩, (fun e => by cases e <;> first | exact kit_by i_BadPlan t_BadPlan ks_BadPlan_BadPlan ks_WayError_BadPlan | exact kit_by i_BadPlan t_BadPlan ks_BadPlan_BadPlan ks_BadHouse_BadPlan | exact kit_by i_BadPlan t_BadPlan ks_BadPlan_BadPlan ks_BadPlan_BadPlan | exact kit_by i_BadPlan t_BadPlan ks_BadPlan_BadPlan ks_BadChange_BadPlan | exact kit_by i_BadPlan t_BadPlan ks_BadPlan_BadPlan ks_BadNumber_BadPlan | exact kit_by i_BadPlan t_BadPlan ks_BadPlan_BadPlan ks_NotLoose_BadPlan | exact kit_by i_BadPlan t_BadPlan ks_BadPlan_BadPlan ks_BadText_BadPlan), mk1 x_BadText, (fun e => by cases e <;> first | exact kit_by i_BadText t_BadText ks_BadText_BadText ks_WayError_BadText | exact kit_by i_BadText t_BadText ks_BadText_BadText ks_BadHouse_BadText | exact kit_by i_BadText t_BadText ks_BadText_BadText ks_BadPlan_BadText | exact kit_by i_BadText t_BadText ks_BadText_BadText ks_BadChange_BadText | exact kit_by i_BadText t_BadText ks_BadText_BadText ks_BadNumber_BadText | exact kit_by i_BadText t_BadText ks_BadText_BadText ks_NotLoose_BadText | exact kit_by i_BadText t_BadText ks_BadText_BadText ks_BadText_BadText), mk1 x_NotLoose, (fun e => by cases e <;> first | exact kit_by i_NotLoose t_NotLoose ks_NotLoose_NotLoose ks_WayError_NotLoose | exact kit_by i_NotLoose t_NotLoose ks_NotLoose_NotLoose ks_BadHouse_NotLoose | exact kit_by i_NotLoose t_NotLoose ks_NotLoose_NotLoose ks_BadPlan_NotLoose | exact kit_by i_NotLoose t_NotLoose ks_NotLoose_NotLoose ks_BadChange_NotLoose | exact kit_by i_NotLoose t_NotLoose ks_NotLoose_NotLoose ks_BadNumber_NotLoose | exact kit_by i_NotLoose t_NotLoose ks_NotLoose_NotLoose ks_NotLoose_NotLoose | exact kit_by i_NotLoose t_NotLoose ks_NotLoose_NotLoose ks_BadText_NotLoose)⟩
  have Fis_count := fun_mk (st := top 13) l_is_count c_is_count kp_is_count
  have Fis_rule := fun_mk (st := top 14) l_is_rule c_is_rule kp_is_rule
  have Fis_house := fun_mk (st := top 15) l_is_house c_is_house kp_is_house
  have Fneed_house := fun_mk (st := top 16) l_need_house c_need_house kp_need_house
  have Fis_plan := fun_mk (st := top 17) l_is_plan c_is_plan kp_is_plan
  have Fis_kept := fun_mk (st := top 18) l_is_kept c_is_kept kp_is_kept
  have Fis_let := fun_mk (st := top 19) l_is_let c_is_let kp_is_let
  have Fneed_plan := fun_mk (st := top 20) l_need_plan c_need_plan kp_need_plan
  have Fneed_let := fun_mk (st := top 21) l_need_let c_need_let kp_need_let
  have Fafter := fun_mk (st := top 23) l_after c_after kp_after
  have Flet_changes := fun_mk (st := top 24) l_let_changes c_let_changes kp_let_changes
  have Fis_change := fun_mk (st := top 25) l_is_change c_is_change kp_is_change
  have Fchanged := fun_mk (st := top 26) l_changed c_changed kp_changed
  have Freached := fun_mk (st := top 27) l_reached c_reached kp_reached
  have Fway := fun_mk (st := top 28) l_way c_way kp_way
  have Fwalked := fun_mk (st := top 29) l_walked c_walked kp_walked
  have Fis_way := fun_mk (st := top 30) l_is_way c_is_way kp_is_way
  have F_law_cell := fun_mk (st := top 32) l__law_cell c__law_cell kp__law_cell
  have F_law_drawn := fun_mk (st := top 33) l__law_drawn c__law_drawn kp__law_drawn
  have F_law_word := fun_mk (st := top 34) l__law_word c__law_word kp__law_word
  have F_law_rule := fun_mk (st := top 36) l__law_rule c__law_rule kp__law_rule
  have F_law_house := fun_mk (st := top 37) l__law_house c__law_house kp__law_house
  have F_law_keeps := fun_mk (st := top 38) l__law_keeps c__law_keeps kp__law_keeps
  have F_law_many := fun_mk (st := top 40) l__law_many c__law_many kp__law_many
  have F_law_plans := fun_mk (st := top 39) l__law_plans c__law_plans kp__law_plans
  have F_law_leads := fun_mk (st := top 41) l__law_leads c__law_leads kp__law_leads
  have Flaw := fun_mk (st := top 42) l_law c_law kp_law
  have F_law_told := fun_mk (st := top 35) l__law_told c__law_told kp__law_told
  have hT : ∀ p ∈ tb.T, ∃ c, (c, p.1) ∈ [(cd_law, P_law)] := fun p hp => by
    have hp : p ∈ ([(P_law, lname "law" 42)] : List (Addr × Str)) := hp
    rcases List.mem_cons.mp hp with hp | hp
    · subst hp; exact ⟨_, List.mem_cons_self⟩
    exact nomatch hp
  refine ⟨PySem.W.fnOf "law" "law" (defArgs (top 42)) (defBody (top 42)) (defScope (top 42)) .none kV_law dc_law pm_law an_law (.ref cd_law) ct_law, [(cd_law, P_law)], spD (kw l.prog w K) f_law, (List.forall_mem_cons.mpr ⟨own "law" _ r_law (mk1 a_law) _ _ _ _ _ _ _ _ l_law rfl rfl v_law w_law, (fun p hp => nomatch hp)⟩), (List.forall_mem_cons.mpr ⟨z_law, (fun p hp => nomatch hp)⟩), (List.forall_mem_cons.mpr ⟨PySem.W.codeHd_of_K X y_law, (fun p hp => nomatch hp)⟩), fun s u => .of_eq rfl, law_sp hT law_holds, fun base hK hb htb => ?_⟩
  have his_count := k_is_count (P := l.prog) (base := base) T  Fis_count (mk1 a_is_count)
  have his_rule := k_is_rule (P := l.prog) (base := base) T his_count Fis_rule (mk1 a_is_rule)
  have his_house := k_is_house (P := l.prog) (base := base) T his_count his_rule Fis_house (mk1 a_is_house)
  have hneed_house := k_need_house (P := l.prog) (base := base) T his_house Fneed_house (mk1 a_need_house)
  have his_plan := k_is_plan (P := l.prog) (base := base) T his_count Fis_plan (mk1 a_is_plan)
  have his_kept := k_is_kept (P := l.prog) (base := base) T  Fis_kept (mk1 a_is_kept)
  have his_let := k_is_let (P := l.prog) (base := base) T his_kept Fis_let (mk1 a_is_let)
  have hneed_plan := k_need_plan (P := l.prog) (base := base) T his_plan Fneed_plan (mk1 a_need_plan)
  have hneed_let := k_need_let (P := l.prog) (base := base) T hneed_plan his_let Fneed_let (mk1 a_need_let)
  have hafter := k_after (P := l.prog) (base := base) T  Fafter (mk1 a_after)
  have hlet_changes := k_let_changes (P := l.prog) (base := base) T his_let hafter Flet_changes (mk1 a_let_changes)
  have his_change := k_is_change (P := l.prog) (base := base) T his_count Fis_change (mk1 a_is_change)
  have hchanged := k_changed (P := l.prog) (base := base) T hneed_house hneed_let his_change hlet_changes hafter Fchanged (mk1 a_changed)
  have hreached := k_reached (P := l.prog) (base := base) T hlet_changes hafter Freached (mk1 a_reached)
  have hway := k_way (P := l.prog) (base := base) T hneed_house hneed_let hreached Fway (mk1 a_way)
  have hwalked := k_walked (P := l.prog) (base := base) T hneed_house hneed_let hchanged Fwalked (mk1 a_walked)
  have his_way := k_is_way (P := l.prog) (base := base) T hneed_house hneed_let hwalked Fis_way (mk1 a_is_way)
  have h_law_cell := k__law_cell (P := l.prog) (base := base) T  F_law_cell (mk1 a__law_cell)
  have h_law_drawn := k__law_drawn (P := l.prog) (base := base) T  F_law_drawn (mk1 a__law_drawn)
  have h_law_rule := k__law_rule (P := l.prog) (base := base) T  F_law_rule (mk1 a__law_rule)
  have h_law_house := k__law_house (P := l.prog) (base := base) T h_law_rule h_law_drawn F_law_house (mk1 a__law_house)
  have h_law_keeps := k__law_keeps (P := l.prog) (base := base) T  F_law_keeps (mk1 a__law_keeps)
  have h_law_many := k__law_many (P := l.prog) (base := base) T  F_law_many (mk1 a__law_many)
  have h_law_plans := k__law_plans (P := l.prog) (base := base) T h_law_many h_law_keeps F_law_plans (mk1 a__law_plans)
  have h_law_leads := k__law_leads (P := l.prog) (base := base) T  F_law_leads (mk1 a__law_leads)
  have h_told := k__law_told (P := l.prog) (base := base) T F_law_told (mk1 a__law_told) F_law_word (mk1 a__law_word)
  refine k_law (P := l.prog) (base := base) T h_law_drawn h_law_cell h_law_house h_law_plans hway h_told his_way h_law_leads l_law c_law (htb _ List.mem_cons_self) List.mem_cons_self (fun p hp e => ?_)
  have hp : p ∈ ([(P_law, lname "law" 42)] : List (Addr × Str)) := hp
  rcases List.mem_cons.mp hp with hp | hp
  · subst hp; exact rfl
  exact nomatch hp
end K22
open PySem PySem.W PyProof.Rows
set_option maxRecDepth 100000 in
set_option maxHeartbeats 0 in
theorem PySem.Challenge.cw_changeway_k22_whole_ways_judged_holds : PySem.Challenge.rw_changeway_k22_whole_ways_judged.Holds := by
  w_on; o_law; k_head; (case hw => w_witness2)
  k_fill
  refine DL.walk_ofTabs (l := PySem.Challenge.rw_changeway_k22_whole_ways_judged) (n := 63) (k := 10) (x := "_law_script") (CX := fun w => L2N.CX PySem.Challenge.rw_changeway_k22_whole_ways_judged.prog w) rfl (by decide) rfl ⟨rfl, by decide, by decide⟩ (fun w h Y => by first | exact PySem.W.km_in_of Y | exact PySem.W.kIn_of Y) ?F (fun _ _ _ _ _ z => DL.cx_end z)
  case F =>
    intro w mg fa h Y KX G hmg own
    refine' K22.mk KX G hmg own ?a_is_count ?l_is_count ?c_is_count ?kp_is_count ?a_is_rule ?l_is_rule ?c_is_rule ?kp_is_rule ?a_is_house ?l_is_house ?c_is_house ?kp_is_house ?a_need_house ?l_need_house ?c_need_house ?kp_need_house ?a_is_plan ?l_is_plan ?c_is_plan ?kp_is_plan ?a_is_kept ?l_is_kept ?c_is_kept ?kp_is_kept ?a_is_let ?l_is_let ?c_is_let ?kp_is_let ?a_need_plan ?l_need_plan ?c_need_plan ?kp_need_plan ?a_need_let ?l_need_let ?c_need_let ?kp_need_let ?a_after ?l_after ?c_after ?kp_after ?a_let_changes ?l_let_changes ?c_let_changes ?kp_let_changes ?a_is_change ?l_is_change ?c_is_change ?kp_is_change ?a_changed ?l_changed ?c_changed ?kp_changed ?a_reached ?l_reached ?c_reached ?kp_reached ?a_way ?l_way ?c_way ?kp_way ?a_walked ?l_walked ?c_walked ?kp_walked ?a_is_way ?l_is_way ?c_is_way ?kp_is_way ?a__law_cell ?l__law_cell ?c__law_cell ?kp__law_cell ?a__law_drawn ?l__law_drawn ?c__law_drawn ?kp__law_drawn ?a__law_word ?l__law_word ?c__law_word ?kp__law_word ?a__law_rule ?l__law_rule ?c__law_rule ?kp__law_rule ?a__law_house ?l__law_house ?c__law_house ?kp__law_house ?a__law_keeps ?l__law_keeps ?c__law_keeps ?kp__law_keeps ?a__law_many ?l__law_many ?c__law_many ?kp__law_many ?a__law_plans ?l__law_plans ?c__law_plans ?kp__law_plans ?a__law_leads ?l__law_leads ?c__law_leads ?kp__law_leads ?a_law ?l_law ?c_law ?kp_law ?v_law ?w_law ?y_law ?z_law ?r_law ?a__law_told ?l__law_told ?c__law_told ?kp__law_told ?b_ValueError ?b_all ?b_bool ?b_enumerate ?b_int ?b_isinstance ?b_len ?b_list ?b_max ?b_min ?b_range ?b_sorted ?b_str ?b_sum ?b_tuple ?n_MOST_COLOURS ?n_MOST_PLACES ?n_MOST_RULES ?g_LENGTHS ?l_LENGTHS ?m_LENGTHS ?o_LENGTHS ?p_LENGTHS ?x_WayError ?h_WayError ?s_WayError ?t_WayError ?e1_WayError ?e2_WayError ?e4_WayError ?e5_WayError ?e8_WayError ?i_WayError ?ve_WayError ?x_BadHouse ?q_BadHouse ?h_BadHouse ?s_BadHouse ?t_BadHouse ?e1_BadHouse ?e2_BadHouse ?e4_BadHouse ?e5_BadHouse ?e8_BadHouse ?i_BadHouse ?ve_BadHouse ?x_BadPlan ?q_BadPlan ?h_BadPlan ?s_BadPlan ?t_BadPlan ?e1_BadPlan ?e2_BadPlan ?e4_BadPlan ?e5_BadPlan ?e8_BadPlan ?i_BadPlan ?ve_BadPlan ?x_BadChange ?q_BadChange ?h_BadChange ?s_BadChange ?t_BadChange ?e1_BadChange ?e2_BadChange ?e4_BadChange ?e5_BadChange ?e8_BadChange ?i_BadChange ?ve_BadChange ?x_BadNumber ?h_BadNumber ?s_BadNumber ?t_BadNumber ?e1_BadNumber ?e2_BadNumber ?e4_BadNumber ?e5_BadNumber ?e8_BadNumber ?i_BadNumber ?ve_BadNumber ?x_NotLoose ?h_NotLoose ?s_NotLoose ?t_NotLoose ?e1_NotLoose ?e2_NotLoose ?e4_NotLoose ?e5_NotLoose ?e8_NotLoose ?i_NotLoose ?ve_NotLoose ?x_BadText ?h_BadText ?s_BadText ?t_BadText ?e1_BadText ?e2_BadText ?e4_BadText ?e5_BadText ?e8_BadText ?i_BadText ?ve_BadText ?e6 ?e7 ?ks_WayError_BadChange ?ks_WayError_BadHouse ?ks_WayError_BadNumber ?ks_WayError_BadPlan ?ks_WayError_BadText ?ks_WayError_NotLoose ?kw_WayError ?ks_BadHouse_BadChange ?ks_BadHouse_BadHouse ?ks_BadHouse_BadNumber ?ks_BadHouse_BadPlan ?ks_BadHouse_BadText ?ks_BadHouse_NotLoose ?kw_BadHouse ?ks_BadPlan_BadChange ?ks_BadPlan_BadHouse ?ks_BadPlan_BadNumber ?ks_BadPlan_BadPlan ?ks_BadPlan_BadText ?ks_BadPlan_NotLoose ?kw_BadPlan ?ks_BadChange_BadChange ?ks_BadChange_BadHouse ?ks_BadChange_BadNumber ?ks_BadChange_BadPlan ?ks_BadChange_BadText ?ks_BadChange_NotLoose ?kw_BadChange ?ks_BadNumber_BadChange ?ks_BadNumber_BadHouse ?ks_BadNumber_BadNumber ?ks_BadNumber_BadPlan ?ks_BadNumber_BadText ?ks_BadNumber_NotLoose ?kw_BadNumber ?ks_NotLoose_BadChange ?ks_NotLoose_BadHouse ?ks_NotLoose_BadNumber ?ks_NotLoose_BadPlan ?ks_NotLoose_BadText ?ks_NotLoose_NotLoose ?kw_NotLoose ?ks_BadText_BadChange ?ks_BadText_BadHouse ?ks_BadText_BadNumber ?ks_BadText_BadPlan ?ks_BadText_BadText ?ks_BadText_NotLoose ?kw_BadText
    (case a_is_count => k_is)
    (case l_is_count => k_is)
    (case c_is_count => k_is)
    (case kp_is_count => k_is)
    (case a_is_rule => k_is)
    (case l_is_rule => k_is)
    (case c_is_rule => k_is)
    (case kp_is_rule => k_is)
    (case a_is_house => k_is)
    (case l_is_house => k_is)
    (case c_is_house => k_is)
    (case kp_is_house => k_is)
    (case a_need_house => k_is)
    (case l_need_house => k_is)
    (case c_need_house => k_is)
    (case kp_need_house => k_is)
    (case a_is_plan => k_is)
    (case l_is_plan => k_is)
    (case c_is_plan => k_is)
    (case kp_is_plan => k_is)
    (case a_is_kept => k_is)
    (case l_is_kept => k_is)
    (case c_is_kept => k_is)
    (case kp_is_kept => k_is)
    (case a_is_let => k_is)
    (case l_is_let => k_is)
    (case c_is_let => k_is)
    (case kp_is_let => k_is)
    (case a_need_plan => k_is)
    (case l_need_plan => k_is)
    (case c_need_plan => k_is)
    (case kp_need_plan => k_is)
    (case a_need_let => k_is)
    (case l_need_let => k_is)
    (case c_need_let => k_is)
    (case kp_need_let => k_is)
    (case a_after => k_is)
    (case l_after => k_is)
    (case c_after => k_is)
    (case kp_after => k_is)
    (case a_let_changes => k_is)
    (case l_let_changes => k_is)
    (case c_let_changes => k_is)
    (case kp_let_changes => k_is)
    (case a_is_change => k_is)
    (case l_is_change => k_is)
    (case c_is_change => k_is)
    (case kp_is_change => k_is)
    (case a_changed => k_is)
    (case l_changed => k_is)
    (case c_changed => k_is)
    (case kp_changed => k_is)
    (case a_reached => k_is)
    (case l_reached => k_is)
    (case c_reached => k_is)
    (case kp_reached => k_is)
    (case a_way => k_is)
    (case l_way => k_is)
    (case c_way => k_is)
    (case kp_way => k_is)
    (case a_walked => k_is)
    (case l_walked => k_is)
    (case c_walked => k_is)
    (case kp_walked => k_is)
    (case a_is_way => k_is)
    (case l_is_way => k_is)
    (case c_is_way => k_is)
    (case kp_is_way => k_is)
    (case a__law_cell => k_is)
    (case l__law_cell => k_is)
    (case c__law_cell => k_is)
    (case kp__law_cell => k_is)
    (case a__law_drawn => k_is)
    (case l__law_drawn => k_is)
    (case c__law_drawn => k_is)
    (case kp__law_drawn => k_is)
    (case a__law_word => k_is)
    (case l__law_word => k_is)
    (case c__law_word => k_is)
    (case kp__law_word => k_is)
    (case a__law_rule => k_is)
    (case l__law_rule => k_is)
    (case c__law_rule => k_is)
    (case kp__law_rule => k_is)
    (case a__law_house => k_is)
    (case l__law_house => k_is)
    (case c__law_house => k_is)
    (case kp__law_house => k_is)
    (case a__law_keeps => k_is)
    (case l__law_keeps => k_is)
    (case c__law_keeps => k_is)
    (case kp__law_keeps => k_is)
    (case a__law_many => k_is)
    (case l__law_many => k_is)
    (case c__law_many => k_is)
    (case kp__law_many => k_is)
    (case a__law_plans => k_is)
    (case l__law_plans => k_is)
    (case c__law_plans => k_is)
    (case kp__law_plans => k_is)
    (case a__law_leads => k_is)
    (case l__law_leads => k_is)
    (case c__law_leads => k_is)
    (case kp__law_leads => k_is)
    (case a_law => k_is)
    (case l_law => k_is)
    (case c_law => k_is)
    (case kp_law => k_is)
    (case v_law => k_is)
    (case w_law => rfl)
    (case y_law => kernel_rfl)
    (case z_law => kernel_rfl)
    (case r_law => decide +kernel)
    (case a__law_told => k_is)
    (case l__law_told => k_is)
    (case c__law_told => k_is)
    (case kp__law_told => k_is)
    (case b_ValueError => k_is)
    (case b_all => k_is)
    (case b_bool => k_is)
    (case b_enumerate => k_is)
    (case b_int => k_is)
    (case b_isinstance => k_is)
    (case b_len => k_is)
    (case b_list => k_is)
    (case b_max => k_is)
    (case b_min => k_is)
    (case b_range => k_is)
    (case b_sorted => k_is)
    (case b_str => k_is)
    (case b_sum => k_is)
    (case b_tuple => k_is)
    (case n_MOST_COLOURS => k_is)
    (case n_MOST_PLACES => k_is)
    (case n_MOST_RULES => k_is)
    (case g_LENGTHS => k_is)
    (case l_LENGTHS => k_is)
    (case m_LENGTHS => repeat (first | exact True.intro | refine ⟨⟨_, _, rfl, rfl⟩, ?_⟩))
    (case o_LENGTHS => decide)
    (case p_LENGTHS => exact .cons ⟨⟨_, rfl⟩, ⟨_, rfl⟩⟩ (.cons ⟨⟨_, rfl⟩, ⟨_, rfl⟩⟩ (.cons ⟨⟨_, rfl⟩, ⟨_, rfl⟩⟩ (.cons ⟨⟨_, rfl⟩, ⟨_, rfl⟩⟩ (.cons ⟨⟨_, rfl⟩, ⟨_, rfl⟩⟩ (.cons ⟨⟨_, rfl⟩, ⟨_, rfl⟩⟩ (.nil)))))))
    (case x_WayError => k_is)
    (case h_WayError => k_is)
    (case s_WayError => k_is)
    (case t_WayError => k_is)
    (case e1_WayError => k_is)
    (case e2_WayError => k_is)
    (case e4_WayError => k_is)
    (case e5_WayError => k_is)
    (case e8_WayError => k_is)
    (case i_WayError => k_is)
    (case ve_WayError => k_is)
    (case x_BadHouse => k_is)
    (case q_BadHouse => k_exc)
    (case h_BadHouse => k_is)
    (case s_BadHouse => k_is)
    (case t_BadHouse => k_is)
    (case e1_BadHouse => k_is)
    (case e2_BadHouse => k_is)
    (case e4_BadHouse => k_is)
    (case e5_BadHouse => k_is)
    (case e8_BadHouse => k_is)
    (case i_BadHouse => k_is)
    (case ve_BadHouse => k_is)
    (case x_BadPlan => k_is)
    (case q_BadPlan => k_exc)
    (case h_BadPlan => k_is)
    (case s_BadPlan => k_is)
    (case t_BadPlan => k_is)
    (case e1_BadPlan => k_is)
    (case e2_BadPlan => k_is)
    (case e4_BadPlan => k_is)
    (case e5_BadPlan => k_is)
    (case e8_BadPlan => k_is)
    (case i_BadPlan => k_is)
    (case ve_BadPlan => k_is)
    (case x_BadChange => k_is)
    (case q_BadChange => k_exc)
    (case h_BadChange => k_is)
    (case s_BadChange => k_is)
    (case t_BadChange => k_is)
    (case e1_BadChange => k_is)
    (case e2_BadChange => k_is)
    (case e4_BadChange => k_is)
    (case e5_BadChange => k_is)
    (case e8_BadChange => k_is)
    (case i_BadChange => k_is)
    (case ve_BadChange => k_is)
    (case x_BadNumber => k_is)
    (case h_BadNumber => k_is)
    (case s_BadNumber => k_is)
    (case t_BadNumber => k_is)
    (case e1_BadNumber => k_is)
    (case e2_BadNumber => k_is)
    (case e4_BadNumber => k_is)
    (case e5_BadNumber => k_is)
    (case e8_BadNumber => k_is)
    (case i_BadNumber => k_is)
    (case ve_BadNumber => k_is)
    (case x_NotLoose => k_is)
    (case h_NotLoose => k_is)
    (case s_NotLoose => k_is)
    (case t_NotLoose => k_is)
    (case e1_NotLoose => k_is)
    (case e2_NotLoose => k_is)
    (case e4_NotLoose => k_is)
    (case e5_NotLoose => k_is)
    (case e8_NotLoose => k_is)
    (case i_NotLoose => k_is)
    (case ve_NotLoose => k_is)
    (case x_BadText => k_is)
    (case h_BadText => k_is)
    (case s_BadText => k_is)
    (case t_BadText => k_is)
    (case e1_BadText => k_is)
    (case e2_BadText => k_is)
    (case e4_BadText => k_is)
    (case e5_BadText => k_is)
    (case e8_BadText => k_is)
    (case i_BadText => k_is)
    (case ve_BadText => k_is)
    (case e6 => k_is)
    (case e7 => k_is)
    (case ks_WayError_BadChange => k_is)
    (case ks_WayError_BadHouse => k_is)
    (case ks_WayError_BadNumber => k_is)
    (case ks_WayError_BadPlan => k_is)
    (case ks_WayError_BadText => k_is)
    (case ks_WayError_NotLoose => k_is)
    (case kw_WayError => k_is)
    (case ks_BadHouse_BadChange => k_is)
    (case ks_BadHouse_BadHouse => k_is)
    (case ks_BadHouse_BadNumber => k_is)
    (case ks_BadHouse_BadPlan => k_is)
    (case ks_BadHouse_BadText => k_is)
    (case ks_BadHouse_NotLoose => k_is)
    (case kw_BadHouse => k_is)
    (case ks_BadPlan_BadChange => k_is)
    (case ks_BadPlan_BadHouse => k_is)
    (case ks_BadPlan_BadNumber => k_is)
    (case ks_BadPlan_BadPlan => k_is)
    (case ks_BadPlan_BadText => k_is)
    (case ks_BadPlan_NotLoose => k_is)
    (case kw_BadPlan => k_is)
    (case ks_BadChange_BadChange => k_is)
    (case ks_BadChange_BadHouse => k_is)
    (case ks_BadChange_BadNumber => k_is)
    (case ks_BadChange_BadPlan => k_is)
    (case ks_BadChange_BadText => k_is)
    (case ks_BadChange_NotLoose => k_is)
    (case kw_BadChange => k_is)
    (case ks_BadNumber_BadChange => k_is)
    (case ks_BadNumber_BadHouse => k_is)
    (case ks_BadNumber_BadNumber => k_is)
    (case ks_BadNumber_BadPlan => k_is)
    (case ks_BadNumber_BadText => k_is)
    (case ks_BadNumber_NotLoose => k_is)
    (case kw_BadNumber => k_is)
    (case ks_NotLoose_BadChange => k_is)
    (case ks_NotLoose_BadHouse => k_is)
    (case ks_NotLoose_BadNumber => k_is)
    (case ks_NotLoose_BadPlan => k_is)
    (case ks_NotLoose_BadText => k_is)
    (case ks_NotLoose_NotLoose => k_is)
    (case kw_NotLoose => k_is)
    (case ks_BadText_BadChange => k_is)
    (case ks_BadText_BadHouse => k_is)
    (case ks_BadText_BadNumber => k_is)
    (case ks_BadText_BadPlan => k_is)
    (case ks_BadText_BadText => k_is)
    (case ks_BadText_NotLoose => k_is)
    (case kw_BadText => k_is)
