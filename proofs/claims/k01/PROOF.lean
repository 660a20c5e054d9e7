import PyProof.Rows.All
import Wide.All
import OpenK.AllK
import Wide.FinOn
import HandS.ForMost
import HandS.Wide
import HandS.TupAny
import HandS.TupMul
import HandS.Deep
import HandS.Style
import HandS.IsInst
import HandS.SetFor
import HandS.Strs
import HandS.Zip
import PySem.Challenge.RW_carrydithers_k01_dithers_recognized
set_option Elab.async false
set_option linter.all false
set_option maxRecDepth 100000
/-! A small language of data, and what its texts give (no heap). -/
namespace CD
open PySem

inductive Slot where
  | no | val (d : PyData) | own (d : PyData) | bor (d : PyData) | scr (ns : List Int)
abbrev Rho := List Slot

inductive Ty where | int | bool | tuple | str | list
  deriving DecidableEq
inductive BI where | len | abs | min | max | sum | all | any | tuple | list | sorted
  deriving DecidableEq
inductive Prim where
  | add | sub | mul | fdiv | mod | pow | neg
  | cmp (op : CmpOp) | isN (n : Bool) | isB (b n : Bool)
  | item | slice (lo hi : Bool) | rev
  | bi (b : BI) | isi (t : Ty) | sset
  deriving DecidableEq
inductive Tg where | nm (i : Nat) | tp (is : List Nat)
  deriving DecidableEq
mutual
inductive IE where
  | var (i : Nat) | cst (d : PyData)
  | ifx (c a b : IE) | no (a : IE) | an (a b : IE) | orr (a b : IE)
  | tup (es : IEs) | lst (es : IEs)
  | pr (s : Bool) (o : Prim) (es : IEs)
  | chain (o1 o2 : CmpOp) (a b c : IE)
  | call (f : Str) (as : IAs)
  | comp (it : II) (tg : Tg) (cd : IEs) (elt : IE) (own : List Nat)
inductive IEs where | n | c (e : IE) (r : IEs)
inductive IAs where | n | v (e : IE) (r : IAs) | b (i : Nat) (r : IAs)
inductive II where
  | vals (e : IE) | rng (es : IEs) | enum (e : IE) | zip (a b : IE)
end
inductive IP where | n | v (i : Nat) (e : IE) (r : IP) | o (i : Nat) (e : IE) (r : IP)
mutual
inductive IS where
  | asg (tg : Tg) (e : IE) | asgO (i : Nat) (e : IE) | par (p : IP)
  | store (i : Nat) (k e : IE) | app (i : Nat) (e : IE) | expr (e : IE)
  | ife (c : IE) (a b : ISs) | forr (it : II) (tg : Tg) (b : ISs) | whil (c : IE) (b : ISs)
  | ret (e : IE) | retO (e : IE) | brk | pass | bad
inductive ISs where | n | c (s : IS) (r : ISs)
end
structure IFun where
  np : Nat
  ns : Nat
  body : ISs

/-! ### data -/

def lay : Nat → PyData → Bool
  | _, .none | _, .bool _ | _, .int _ => true
  | _, .str x => PyData.strOk x
  | 0, .list _ | 0, .tuple _ => false
  | n + 1, .list xs | n + 1, .tuple xs => xs.all (lay n)
  | _, .dict _ => false

def cutD (xs : List PyData) (lo hi : Option Int) : List PyData := (xs.drop (HT.sIx xs.length 0 lo)).take (HT.sIx xs.length xs.length hi - HT.sIx xs.length 0 lo)
def flat : PyData → Bool
  | .none | .bool _ | .int _ => true
  | .str x => PyData.strOk x
  | _ => false

def intsOf : List PyData → Option (List Int)
  | [] => some []
  | .int i :: r => (intsOf r).map (i :: ·)
  | _ => none
def boolsOf : List PyData → Option (List Bool)
  | [] => some []
  | .bool i :: r => (boolsOf r).map (i :: ·)
  | _ => none
def leastI : List Int → Option Int
  | [] => none
  | x :: r => some (r.foldl (fun a b => if b < a then b else a) x)
def mostI : List Int → Option Int
  | [] => none
  | x :: r => some (r.foldl (fun a b => if a < b then b else a) x)

def seqOf : PyData → Option (List PyData)
  | .list xs | .tuple xs => some xs
  | _ => none
def lstOf : PyData → Option (List PyData)
  | .list xs => some xs
  | _ => none
def biD : BI → List PyData → Option PyData
  | .len, [d] => (seqOf d).map fun xs => .int xs.length
  | .abs, [.int i] => some (.int (if i < 0 then -i else i))
  | .min, [.int i, .int j] => some (.int (if j < i then j else i))
  | .max, [.int i, .int j] => some (.int (if j > i then j else i))
  | .min, [d] => ((lstOf d).bind intsOf).bind fun xs => (leastI xs).map .int
  | .max, [d] => ((lstOf d).bind intsOf).bind fun xs => (mostI xs).map .int
  | .sum, [d] => ((seqOf d).bind intsOf).map fun xs => .int xs.sum
  | .all, [d] => ((lstOf d).bind boolsOf).map fun xs => .bool (xs.all id)
  | .any, [d] => ((lstOf d).bind boolsOf).map fun xs => .bool (xs.any id)
  | .tuple, [d] => (seqOf d).map .tuple
  | .list, [d] => (seqOf d).map .list
  | _, _ => none
def isND : PyData → Bool
  | .none => true
  | _ => false
def isiD : Ty → PyData → Bool
  | .int, .int _ | .int, .bool _ | .bool, .bool _ | .tuple, .tuple _ | .str, .str _ | .list, .list _ => true
  | _, _ => false
def cmpD : CmpOp → PyData → PyData → Option Bool
  | .Eq, a, b => if lay 9 a && lay 9 b then some (PyData.eqv a b) else none
  | .NotEq, a, b => if lay 9 a && lay 9 b then some (!PyData.eqv a b) else none
  | .Lt, .int a, .int b => some (decide (a < b))
  | .LtE, .int a, .int b => some (decide (a ≤ b))
  | .Gt, .int a, .int b => some (decide (b < a))
  | .GtE, .int a, .int b => some (decide (b ≤ a))
  | .In, a, .list xs => if lay 9 a && xs.all (lay 9) then some (xs.any fun x => PyData.eqv x a) else none
  | .NotIn, a, .list xs => if lay 9 a && xs.all (lay 9) then some (!xs.any fun x => PyData.eqv x a) else none
  | .In, a, .tuple xs => if flat a && xs.all flat then some (xs.any fun x => PyData.eqv x a) else none
  | .NotIn, a, .tuple xs => if flat a && xs.all flat then some (!xs.any fun x => PyData.eqv x a) else none
  | _, _, _ => none
def insI (x : Int) : List Int → List Int
  | [] => [x]
  | y :: r => if x < y then x :: y :: r else if x = y then y :: r else y :: insI x r
def ssetI (l : List Int) : List Int := l.foldr insI []
def prD : Prim → List PyData → Option PyData
  | .add, [.int i, .int j] => some (.int (i + j))
  | .add, [.tuple xs, .tuple ys] => if xs.length + ys.length ≤ 16777216 then some (.tuple (xs ++ ys)) else none
  | .add, [.list xs, .list ys] => if xs.length + ys.length ≤ 16777216 then some (.list (xs ++ ys)) else none
  | .sub, [.int i, .int j] => some (.int (i - j))
  | .mul, [.int i, .int j] => if i.natAbs.log2 + j.natAbs.log2 < 1000000 then some (.int (i * j)) else none
  | .fdiv, [.int i, .int j] => if 0 < j ∧ j.natAbs.log2 < 9000 then some (.int (i / j)) else none
  | .mod, [.int i, .int j] => if 0 < j then some (.int (i % j)) else none
  | .pow, [.int i, .int j] => if 0 ≤ j ∧ j ≤ 1000 ∧ i.natAbs < 2 ^ 64 then some (.int (i ^ j.toNat)) else none
  | .neg, [.int i] => some (.int (-i))
  | .cmp o, [a, b] => (cmpD o a b).map .bool
  | .isN n, [a] => some (.bool (n != isND a))
  | .isB b n, [.bool c] => some (.bool (n != (c == b)))
  | .item, [.list xs, .int i] | .item, [.tuple xs, .int i] => L2.atI xs i
  | .slice true true, [.list xs, .int i, .int j] => some (.list (cutD xs (some i) (some j)))
  | .slice true false, [.list xs, .int i] => some (.list (cutD xs (some i) none))
  | .slice false true, [.list xs, .int j] => some (.list (cutD xs none (some j)))
  | .slice true true, [.tuple xs, .int i, .int j] => some (.tuple (cutD xs (some i) (some j)))
  | .slice true false, [.tuple xs, .int i] => some (.tuple (cutD xs (some i) none))
  | .slice false true, [.tuple xs, .int j] => some (.tuple (cutD xs none (some j)))
  | .bi b, ds => biD b ds
  | .isi t, [d] => some (.bool (isiD t d))
  | .sset, [.tuple xs] => (intsOf xs).bind fun ns => if ns.length < 64 then some (.list ((ssetI ns).map .int)) else none
  | _, _ => none

/-! ### slots -/
def setV (i : Nat) (d : PyData) (ρ : Rho) : Option Rho := match ρ[i]? with
  | some .no | some (.val _) | some (.own _) => some (ρ.set i (.val d))
  | _ => none
def setO (i : Nat) (d : PyData) (ρ : Rho) : Option Rho := match ρ[i]? with
  | some .no | some (.val _) | some (.own _) => some (ρ.set i (.own d))
  | _ => none
def setAll : List Nat → List PyData → Rho → Option Rho
  | [], [], ρ => some ρ
  | i :: is, d :: ds, ρ => (setV i d ρ).bind (setAll is ds)
  | _, _, _ => none
def bindT : Tg → PyData → Rho → Option Rho
  | .nm i, d, ρ => setV i d ρ
  | .tp is, .tuple ds, ρ => setAll is ds ρ
  | _, _, _ => none
/-- the slots put back as they were ahead of a comprehension -/
def wipeR : List Nat → Rho → Option Rho
  | [], ρ => some ρ
  | i :: is, ρ => match ρ[i]? with
    | some .no | some (.val _) => (wipeR is ρ).map fun r => r.set i .no
    | _ => none
def backR : List Nat → Rho → Rho → Rho
  | [], _, ρ => ρ
  | i :: is, ρ0, ρ => (backR is ρ0 ρ).set i (ρ0[i]?.getD .no)

def viewR (i : Nat) (ρ : Rho) : Option PyData := match ρ[i]? with
  | some (.val d) | some (.own d) | some (.bor d) => some d
  | some (.scr ns) => some (.list (ns.map .int))
  | _ => none
def isOB (i : Nat) (ρ : Rho) : Bool := match ρ[i]? with
  | some (.own _) | some (.bor _) => true
  | _ => false
/-- the arguments of a call, once its values are there -/
def borR (i : Nat) (ρ : Rho) : Option Slot := match ρ[i]? with
  | some (.own d) | some (.bor d) => some (.bor d)
  | some (.scr ns) => some (.scr ns)
  | _ => none
def putB (i : Nat) (s : Slot) (ρ : Rho) : Option Rho := match ρ[i]?, s with
  | some (.own _), .bor d => some (ρ.set i (.own d))
  | some (.bor _), .bor d => some (ρ.set i (.bor d))
  | some (.scr _), .scr _ => some ρ
  | _, _ => none

def putAll : List (Option Nat) → List Slot → Rho → Option Rho
  | [], [], ρ => some ρ
  | none :: is, _ :: ss, ρ => putAll is ss ρ
  | some i :: is, s :: ss, ρ => (putB i s ρ).bind (putAll is ss)
  | _, _, _ => none

def rangeD (lo hi : Int) : List PyData := (List.range (hi - lo).toNat).map fun k => PyData.int (lo + (k : Nat))
def enumD (xs : List PyData) : List PyData := (xs.zip (List.range xs.length)).map fun p => PyData.tuple [.int (p.2 : Nat), p.1]
def zipD (xs ys : List PyData) : List PyData := (xs.zip ys).map fun p => PyData.tuple [p.1, p.2]
def rngD : List PyData → Option (List PyData)
  | [.int j] => if -16777216 ≤ j ∧ j ≤ 16777216 then some (rangeD 0 j) else none
  | [.int i, .int j] => if -16777216 ≤ i ∧ i ≤ 16777216 ∧ j ≤ 16777216 ∧ -16777216 ≤ j then some (rangeD i j) else none
  | _ => none

def loopM (f : PyData → Rho → Option (Option PyData × Rho)) : List PyData → Rho → Option (List PyData × Rho)
  | [], ρ => some ([], ρ)
  | d :: ds, ρ => match f d ρ with
    | none => none
    | some (o, ρ1) => match loopM f ds ρ1 with
      | none => none
      | some (rs, ρ2) => some (o.toList ++ rs, ρ2)

structure Res where
  d : PyData
  fresh : Bool
  outs : List Slot
abbrev PhiT := Str → List Slot → Option Res

def asB : Option (PyData × Rho) → Option (Bool × Rho)
  | some (.bool b, ρ) => some (b, ρ)
  | _ => none
def varOf : IE → Option Nat
  | .var i => some i
  | _ => none
section
variable (Φ : PhiT)
mutual
def ev : IE → Bool → Rho → Option (PyData × Rho)
  | .var i, s, ρ => match ρ[i]? with
    | some (.val d) => some (d, ρ)
    | some (.own d) => if s then none else some (d, ρ.set i (.val d))
    | _ => none
  | .cst d, _, ρ => some (d, ρ)
  | .ifx c a b, s, ρ => match asB (ev c s ρ) with
    | some (true, ρ1) => ev a s ρ1
    | some (false, ρ1) => ev b s ρ1
    | none => none
  | .no a, s, ρ => match ev a s ρ with
    | some (.bool b, ρ1) => some (.bool (!b), ρ1)
    | _ => none
  | .an a b, s, ρ => match ev a s ρ with
    | some (.bool true, ρ1) => ev b s ρ1
    | some (.bool false, ρ1) => some (.bool false, ρ1)
    | _ => none
  | .orr a b, s, ρ => match ev a s ρ with
    | some (.bool false, ρ1) => ev b s ρ1
    | some (.bool true, ρ1) => some (.bool true, ρ1)
    | _ => none
  | .tup es, s, ρ => match evs es s ρ with
    | some (ds, ρ1) => if ds.length ≤ 16777216 then some (.tuple ds, ρ1) else none
    | none => none
  | .lst es, s, ρ => match evs es s ρ with
    | some (ds, ρ1) => if ds.length ≤ 16777216 then some (.list ds, ρ1) else none
    | none => none
  | .pr true o es, _, ρ => match evw es ρ with
    | some ds => (prD o ds).map fun d => (d, ρ)
    | none => none
  | .pr false o es, s, ρ => match evs es s ρ with
    | some (ds, ρ1) => (prD o ds).map fun d => (d, ρ1)
    | none => none
  | .chain o1 o2 a b c, s, ρ => match ev a s ρ with
    | some (x, ρ1) => match ev b s ρ1 with
      | some (y, ρ2) => match cmpD o1 x y with
        | some true => match ev c s ρ2 with
          | some (z, ρ3) => (cmpD o2 y z).map fun k => (.bool k, ρ3)
          | none => none
        | some false => some (.bool false, ρ2)
        | none => none
      | none => none
    | none => none
  | .call f as, s, ρ => match eva as s ρ with
    | some (p, ρ1) => match Φ f (p.map (·.1)) with
      | some r => match putAll (p.map (·.2)) r.outs ρ1 with
        | some ρ2 => some (r.d, ρ2)
        | none => none
      | none => none
    | none => none
  | .comp it tg cd elt own, s, ρ => if s then none else match evI it false ρ with
    | some (ds, ρ1) => match (if ds.length ≤ 16777216 then wipeR own ρ1 else none) with
      | some ρ2 => match loopM (fun d r => match bindT tg d r with
          | some r1 => match evc cd false r1 with
            | some (true, r2) => match ev elt false r2 with
              | some (x, r3) => (wipeR own r3).map fun r4 => (some x, r4)
              | none => none
            | some (false, r2) => (wipeR own r2).map fun r4 => (none, r4)
            | none => none
          | none => none) ds ρ2 with
        | some (rs, ρ3) => some (.list rs, backR own ρ1 ρ3)
        | none => none
      | none => none
    | none => none
def evs : IEs → Bool → Rho → Option (List PyData × Rho)
  | .n, _, ρ => some ([], ρ)
  | .c e r, s, ρ => match ev e s ρ with
    | some (d, ρ1) => match evs r s ρ1 with
      | some (ds, ρ2) => some (d :: ds, ρ2)
      | none => none
    | none => none
/-- operands, looked at: nothing changes -/
def evw : IEs → Rho → Option (List PyData)
  | .n, _ => some []
  | .c e r, ρ => match (match varOf e with | some i => viewR i ρ | none => (ev e true ρ).map (·.1)) with
    | some d => (evw r ρ).map (d :: ·)
    | none => none
/-- tests, all of them -/
def evc : IEs → Bool → Rho → Option (Bool × Rho)
  | .n, _, ρ => some (true, ρ)
  | .c e r, s, ρ => match asB (ev e s ρ) with
    | some (true, ρ1) => evc r s ρ1
    | some (false, ρ1) => some (false, ρ1)
    | none => none
/-- arguments: (what is handed over, where a list is lent from) -/
def eva : IAs → Bool → Rho → Option (List (Slot × Option Nat) × Rho)
  | .n, _, ρ => some ([], ρ)
  | .v e r, s, ρ => match ev e s ρ with
    | some (d, ρ1) => match eva r s ρ1 with
      | some (ds, ρ2) => some ((.val d, none) :: ds, ρ2)
      | none => none
    | none => none
  | .b i r, s, ρ => if s then none else match borR i ρ with
    | none => none
    | some _ => match eva r s ρ with
      | some (ds, ρ2) => (borR i ρ2).map fun d => ((d, some i) :: ds, ρ2)
      | none => none
def evI : II → Bool → Rho → Option (List PyData × Rho)
  | .vals e, s, ρ => match ev e s ρ with
    | some (.list xs, ρ1) | some (.tuple xs, ρ1) => some (xs, ρ1)
    | _ => none
  | .rng es, s, ρ => match evs es s ρ with
    | some (ds, ρ1) => (rngD ds).map fun xs => (xs, ρ1)
    | none => none
  | .enum e, s, ρ => match ev e s ρ with
    | some (.list xs, ρ1) => some (enumD xs, ρ1)
    | _ => none
  | .zip a b, s, ρ => match ev a s ρ with
    | some (x, ρ1) => match ev b s ρ1 with
      | some (y, ρ2) => match x, y with
        | .list xs, .list ys | .tuple xs, .tuple ys => some (zipD xs ys, ρ2)
        | _, _ => none
      | none => none
    | none => none
end
/-- a list that nobody else holds -/
def evO : IE → Rho → Option (PyData × Rho)
  | .lst es, ρ => ev Φ (.lst es) false ρ
  | .call f as, ρ => match eva Φ as false ρ with
    | some (p, ρ1) => match Φ f (p.map (·.1)) with
      | some r => if r.fresh then match putAll (p.map (·.2)) r.outs ρ1 with
        | some ρ2 => some (r.d, ρ2)
        | none => none else none
      | none => none
    | none => none
  | _, _ => none

inductive Out where | nx (ρ : Rho) | rt (d : PyData) (f : Bool) (ρ : Rho) | bk (ρ : Rho)
def forL (f : PyData → Rho → Option Out) : List PyData → Rho → Option Out
  | [], ρ => some (.nx ρ)
  | d :: ds, ρ => match f d ρ with
    | some (.nx ρ1) => forL f ds ρ1
    | some (.bk ρ1) => some (.nx ρ1)
    | some (.rt d f ρ1) => some (.rt d f ρ1)
    | none => none
def whileL (c : Rho → Option (Bool × Rho)) (b : Rho → Option Out) : Nat → Rho → Option Out
  | 0, _ => none
  | n + 1, ρ => match c ρ with
    | some (false, ρ1) => some (.nx ρ1)
    | some (true, ρ1) => match b ρ1 with
      | some (.nx ρ2) => whileL c b n ρ2
      | some (.bk ρ2) => some (.nx ρ2)
      | some (.rt d f ρ2) => some (.rt d f ρ2)
      | none => none
    | none => none
/-- several values, some of them lists that nobody else holds -/
def evP : IP → Rho → Option (List (Nat × Bool × PyData) × Rho)
  | .n, ρ => some ([], ρ)
  | .v i e r, ρ => match ev Φ e false ρ with
    | some (d, ρ1) => match evP r ρ1 with
      | some (ds, ρ2) => some ((i, false, d) :: ds, ρ2)
      | none => none
    | none => none
  | .o i e r, ρ => match evO Φ e ρ with
    | some (d, ρ1) => match evP r ρ1 with
      | some (ds, ρ2) => some ((i, true, d) :: ds, ρ2)
      | none => none
    | none => none
def setP : List (Nat × Bool × PyData) → Rho → Option Rho
  | [], ρ => some ρ
  | (i, o, d) :: r, ρ => (if o then setO i d ρ else setV i d ρ).bind (setP r)
/-- x[k] = e -/
def storeD (d k e : PyData) : Option PyData := match d, k with
  | .list xs, .int i => (L2.ixN xs.length i).map fun j => .list (xs.set j e)
  | _, _ => none
variable (W : Nat)
mutual
def exec : IS → Rho → Option Out
  | .asg tg e, ρ => match ev Φ e false ρ with
    | some (d, ρ1) => (bindT tg d ρ1).map .nx
    | none => none
  | .asgO i e, ρ => match evO Φ e ρ with
    | some (d, ρ1) => (setO i d ρ1).map .nx
    | none => none
  | .par p, ρ => match evP Φ p ρ with
    | some (ds, ρ1) => (setP ds ρ1).map .nx
    | none => none
  | .store i k e, ρ => match ev Φ e false ρ with
    | some (d, ρ1) => match ev Φ k true ρ1 with
      | some (kd, ρ2) => match ρ2[i]? with
        | some (.own x) => (storeD x kd d).map fun y => .nx (ρ2.set i (.own y))
        | some (.bor x) => (storeD x kd d).map fun y => .nx (ρ2.set i (.bor y))
        | _ => none
      | none => none
    | none => none
  | .app i e, ρ => match (if isOB i ρ then ev Φ e false ρ else none) with
    | some (d, ρ1) => match ρ1[i]? with
      | some (.own (.list xs)) => if xs.length < 16777216 then some (.nx (ρ1.set i (.own (.list (xs ++ [d]))))) else none
      | some (.bor (.list xs)) => if xs.length < 16777216 then some (.nx (ρ1.set i (.bor (.list (xs ++ [d]))))) else none
      | _ => none
    | none => none
  | .expr e, ρ => match ev Φ e false ρ with
    | some (_, ρ1) => some (.nx ρ1)
    | none => none
  | .ife c a b, ρ => match asB (ev Φ c false ρ) with
    | some (true, ρ1) => execs a ρ1
    | some (false, ρ1) => execs b ρ1
    | none => none
  | .forr it tg b, ρ => match evI Φ it false ρ with
    | some (ds, ρ1) => forL (fun d r => match bindT tg d r with
      | some r1 => execs b r1
      | none => none) ds ρ1
    | none => none
  | .whil c b, ρ => whileL (fun r => asB (ev Φ c false r)) (fun r => execs b r) W ρ
  | .ret e, ρ => match ev Φ e false ρ with
    | some (d, ρ1) => some (.rt d false ρ1)
    | none => none
  | .retO e, ρ => match evO Φ e ρ with
    | some (d, ρ1) => some (.rt d true ρ1)
    | none => none
  | .brk, ρ => some (.bk ρ)
  | .pass, ρ => some (.nx ρ)
  | .bad, _ => none
def execs : ISs → Rho → Option Out
  | .n, ρ => some (.nx ρ)
  | .c s r, ρ => match exec s ρ with
    | some (.nx ρ1) => execs r ρ1
    | o => o
end
def runF (F : IFun) (args : List Slot) : Option Res :=
  if args.length = F.np then match execs Φ W F.body (args ++ List.replicate (F.ns - F.np) .no) with
    | some (.nx ρ) => some ⟨.none, false, ρ.take F.np⟩
    | some (.rt d f ρ) => some ⟨d, f, ρ.take F.np⟩
    | _ => none
  else none
end
def phi (T : List (Str × IFun)) (W : Nat) : Nat → PhiT
  | 0, _, _ => none
  | n + 1, f, as => match T.lookup f with
    | some F => runF (phi T W n) W F as
    | none => none
end CD

set_option Elab.async false
set_option linter.all false
set_option maxRecDepth 100000
set_option autoImplicit false
/-! What stands in the heap for a piece of data; what a state of the small language says of a state of the machine. -/
namespace CD
open PySem PySem.Spec L2
open PyProof.Rows hiding St

mutual
def Rep (K : PySem.W.Frag) (H : Hp) : PyData → V → Prop
  | .none, v => v = .non
  | .bool b, v => v = .bl b
  | .int i, v => v = .int i
  | .str x, v => v = .str x
  | .tuple ds, v => ∃ a vs, v = .ref a ∧ SqT K H a vs ∧ Reps K H ds vs
  | .list ds, v => ∃ a vs, v = .ref a ∧ H a = some (.lst vs) ∧ Reps K H ds vs
  | .dict _, _ => False
def Reps (K : PySem.W.Frag) (H : Hp) : List PyData → List V → Prop
  | [], vs => vs = []
  | d :: ds, vs => ∃ v r, vs = v :: r ∧ Rep K H d v ∧ Reps K H ds r
end
section
variable {K : PySem.W.Frag} {H H' Hf Hf' R R' : Hp}
theorem sqT_mono (e : Same H H') {a : Addr} {xs : List V} (h : SqT K H a xs) : SqT K H' a xs := by
  rcases h with (h | ⟨o, h⟩) | h
  · exact .inl (.inl (e _ _ h))
  · exact .inl (.inr ⟨o, e _ _ h⟩)
  · exact .inr h
mutual
theorem Rep.mono (e : Same H H') : ∀ (d : PyData) (v : V), Rep K H d v → Rep K H' d v
  | .none, _, h => h
  | .bool _, _, h => h
  | .int _, _, h => h
  | .str _, _, h => h
  | .tuple ds, _, h => by
    obtain ⟨a, vs, rfl, h1, h2⟩ := h
    exact ⟨a, vs, rfl, sqT_mono e h1, Reps.mono e ds vs h2⟩
  | .list ds, _, h => by
    obtain ⟨a, vs, rfl, h1, h2⟩ := h
    exact ⟨a, vs, rfl, e _ _ h1, Reps.mono e ds vs h2⟩
  | .dict _, _, h => h.elim
theorem Reps.mono (e : Same H H') : ∀ (ds : List PyData) (vs : List V), Reps K H ds vs → Reps K H' ds vs
  | [], _, h => h
  | d :: ds, _, h => by
    obtain ⟨v, r, rfl, h1, h2⟩ := h
    exact ⟨v, r, rfl, Rep.mono e d v h1, Reps.mono e ds r h2⟩
end
theorem Reps.nil : Reps K H [] [] := rfl
theorem Reps.cons {d : PyData} {ds : List PyData} {v : V} {vs : List V} (h : Rep K H d v) (t : Reps K H ds vs) : Reps K H (d :: ds) (v :: vs) := ⟨v, vs, rfl, h, t⟩
theorem Reps.length : ∀ {ds : List PyData} {vs : List V}, Reps K H ds vs → ds.length = vs.length
  | [], _, h => by rw [show _ = [] from h]; rfl
  | d :: ds, _, h => by
    obtain ⟨v, r, rfl, h1, h2⟩ := h
    rw [List.length_cons, List.length_cons, Reps.length h2]
theorem Reps.append : ∀ {ds es : List PyData} {vs us : List V}, Reps K H ds vs → Reps K H es us → Reps K H (ds ++ es) (vs ++ us)
  | [], _, _, _, h, g => by rw [show _ = [] from h]; exact g
  | d :: ds, _, _, _, h, g => by
    obtain ⟨v, r, rfl, h1, h2⟩ := h
    exact ⟨v, r ++ _, rfl, h1, Reps.append h2 g⟩
theorem Reps.get : ∀ {ds : List PyData} {vs : List V} {i : Nat} {d : PyData}, Reps K H ds vs → ds[i]? = some d → ∃ v, vs[i]? = some v ∧ Rep K H d v
  | [], _, _, _, _, e => by simp at e
  | d :: ds, _, 0, d', h, e => by
    obtain ⟨v, r, rfl, h1, h2⟩ := h
    have e' : d = d' := Option.some.inj e
    subst e'
    exact ⟨v, rfl, h1⟩
  | d :: ds, _, i + 1, d', h, e => by
    obtain ⟨v, r, rfl, h1, h2⟩ := h
    exact Reps.get (i := i) h2 (by simpa using e)
theorem Reps.getV {ds : List PyData} {vs : List V} {i : Nat} {v : V} (h : Reps K H ds vs) (e : vs[i]? = some v) : ∃ d, ds[i]? = some d ∧ Rep K H d v := by
  have hl := h.length
  have hi : i < vs.length := (List.getElem?_eq_some_iff.mp e).1
  have hd : ds[i]? = some ds[i] := List.getElem?_eq_getElem (by omega)
  obtain ⟨v', e', r⟩ := h.get hd
  rw [e] at e'
  cases e'
  exact ⟨_, hd, r⟩
theorem Reps.drop : ∀ {ds : List PyData} {vs : List V} (n : Nat), Reps K H ds vs → Reps K H (ds.drop n) (vs.drop n)
  | _, _, 0, h => h
  | [], _, n + 1, h => by rw [show _ = [] from h]; exact Reps.nil
  | d :: ds, _, n + 1, h => by
    obtain ⟨v, r, rfl, h1, h2⟩ := h
    exact Reps.drop n h2
theorem Reps.take : ∀ {ds : List PyData} {vs : List V} (n : Nat), Reps K H ds vs → Reps K H (ds.take n) (vs.take n)
  | _, _, 0, h => Reps.nil
  | [], _, n + 1, h => by rw [show _ = [] from h]; exact Reps.nil
  | d :: ds, _, n + 1, h => by
    obtain ⟨v, r, rfl, h1, h2⟩ := h
    exact ⟨v, r.take n, rfl, h1, Reps.take n h2⟩
theorem Reps.set {d : PyData} {v : V} (hd : Rep K H d v) : ∀ {ds : List PyData} {vs : List V} (n : Nat), Reps K H ds vs → Reps K H (ds.set n d) (vs.set n v)
  | [], _, _, h => by rw [show _ = [] from h]; exact Reps.nil
  | e :: ds, _, 0, h => by
    obtain ⟨u, r, rfl, h1, h2⟩ := h
    exact ⟨v, r, rfl, hd, h2⟩
  | e :: ds, _, n + 1, h => by
    obtain ⟨u, r, rfl, h1, h2⟩ := h
    exact ⟨u, r.set n v, rfl, h1, Reps.set hd n h2⟩
theorem Reps.ints : ∀ (ns : List Int), Reps K H (ns.map .int) (ns.map V.int)
  | [] => rfl
  | n :: ns => ⟨_, _, rfl, rfl, Reps.ints ns⟩
theorem Reps.intsV : ∀ {ns : List Int} {vs : List V}, Reps K H (ns.map .int) vs → vs = ns.map V.int
  | [], _, h => h
  | n :: ns, _, h => by
    obtain ⟨v, r, rfl, h1, h2⟩ := h
    rw [show v = V.int n from h1, Reps.intsV h2]
    rfl

/-- what may be looked at: the thing itself may still grow, its items not -/
def View (K : PySem.W.Frag) (H Hf : Hp) : PyData → V → Prop
  | .list ds, v => ∃ a vs, v = .ref a ∧ SqL K H a vs ∧ Reps K Hf ds vs
  | d, v => Rep K Hf d v
def Views (K : PySem.W.Frag) (H Hf : Hp) : List PyData → List V → Prop
  | [], vs => vs = []
  | d :: ds, vs => ∃ v r, vs = v :: r ∧ View K H Hf d v ∧ Views K H Hf ds r
theorem Rep.view (e : Same Hf H) {d : PyData} {v : V} (h : Rep K Hf d v) : View K H Hf d v := by
  cases d with
  | list ds =>
    obtain ⟨a, vs, rfl, h1, h2⟩ := h
    exact ⟨a, vs, rfl, .inl (.inl (e _ _ h1)), h2⟩
  | _ => exact h
theorem Reps.views (e : Same Hf H) : ∀ {ds : List PyData} {vs : List V}, Reps K Hf ds vs → Views K H Hf ds vs
  | [], _, h => h
  | d :: ds, _, h => by
    obtain ⟨v, r, rfl, h1, h2⟩ := h
    exact ⟨v, r, rfl, h1.view e, Reps.views e h2⟩

/-- the script: locked, or a list of the module's own -/
def ScrAt (K : PySem.W.Frag) (R : Hp) (a : Addr) (xs : List V) : Prop := (∃ o, R a = some (.frz o (.lst xs))) ∨ SqL K (fun _ => none) a xs
theorem ScrAt.sq {a : Addr} {xs : List V} (h : ScrAt K R a xs) : SqL K R a xs := by
  rcases h with ⟨o, h⟩ | h
  · exact .inl (.inr ⟨o, h⟩)
  · exact Same.seq (fun _ _ z => by cases z) h
theorem ScrAt.mono (e : Same R R') {a : Addr} {xs : List V} (h : ScrAt K R a xs) : ScrAt K R' a xs := by
  rcases h with ⟨o, h⟩ | h
  · exact .inl ⟨o, e _ _ h⟩
  · exact .inr h
/-- the heap grows by new things -/
structure Grow (H Hf H' Hf' : Hp) : Prop where
  hh : Same H H'
  ff : Same Hf Hf'
  fh : Same Hf' H'
  new : ∀ b o, Hf' b = some o → Hf b = some o ∨ H b = none
theorem Grow.refl (e : Same Hf H) : Grow H Hf H Hf := ⟨Same.refl _, Same.refl _, e, fun _ _ h => .inl h⟩
theorem same_upd {p : Addr} {o : HO} (h : H p = none) : Same H (upd H p o) := fun b x e => by
  rw [upd_ne (ne_of_none e h)]
  exact e
theorem same_upd2 {p : Addr} {o : HO} (e : Same Hf H) : Same (upd Hf p o) (upd H p o) := fun b x h => by
  by_cases hb : b = p
  · subst hb; rw [upd_same] at h ⊢; exact h
  · rw [upd_ne hb] at h ⊢; exact e _ _ h
theorem Grow.upd {p : Addr} {o : HO} (e : Same Hf H) (h : H p = none) : Grow H Hf (upd H p o) (upd Hf p o) :=
  ⟨same_upd h, same_upd (Same.free e h), same_upd2 e, fun b x hb => by
    by_cases q : b = p
    · subst q; exact .inr h
    · rw [upd_ne q] at hb; exact .inl hb⟩

/-- the state of the small language -/
structure StOk (K : PySem.W.Frag) (R : Hp) (B : List (Nat × Addr)) (ρ : Rho) (σ : St) (H Hf : Hp) : Prop where
  fh : Same Hf H
  rh : Same R H
  rf : ∀ (b : Addr) (o : HO), R b = some o → Hf b = none
  len : σ.length = ρ.length
  val : ∀ (i : Nat) (d : PyData), ρ[i]? = some (.val d) → ∃ v, σ[i]? = some (some v) ∧ Rep K Hf d v
  own : ∀ (i : Nat) (d : PyData), (ρ[i]? = some (.own d) ∨ ρ[i]? = some (.bor d)) → ∃ a vs ds, d = .list ds ∧ σ[i]? = some (some (.ref a)) ∧ H a = some (.lst vs) ∧ Hf a = none ∧ R a = none ∧ Reps K Hf ds vs
  scr : ∀ (i : Nat) (ns : List Int), ρ[i]? = some (.scr ns) → ∃ a, σ[i]? = some (some (.ref a)) ∧ ScrAt K R a (ns.map V.int)
  inj : ∀ (i j : Nat) (d e : PyData) (a : Addr), (ρ[i]? = some (.own d) ∨ ρ[i]? = some (.bor d)) → (ρ[j]? = some (.own e) ∨ ρ[j]? = some (.bor e)) → σ[i]? = some (some (.ref a)) → σ[j]? = some (some (.ref a)) → i = j
  bor : ∀ p ∈ B, (∃ d, ρ[p.1]? = some (.bor d)) ∧ σ[p.1]? = some (some (.ref p.2))
variable {B : List (Nat × Addr)} {ρ ρ' : Rho} {σ σ' : St}
theorem StOk.grow (S : StOk K R B ρ σ H Hf) (g : Grow H Hf H' Hf') : StOk K R B ρ σ H' Hf' where
  fh := g.fh
  rh := S.rh.trans g.hh
  rf := fun b o h => by
    cases e : Hf' b with
    | none => rfl
    | some u =>
      rcases g.new b u e with q | q
      · rw [S.rf b o h] at q; cases q
      · rw [S.rh b o h] at q; cases q
  len := S.len
  val := fun i d h => let ⟨v, h1, h2⟩ := S.val i d h; ⟨v, h1, h2.mono g.ff d v⟩
  own := fun i d h => by
    obtain ⟨a, vs, ds, h0, h1, h2, h3, h4, h5⟩ := S.own i d h
    refine ⟨a, vs, ds, h0, h1, g.hh _ _ h2, ?_, h4, h5.mono g.ff ds vs⟩
    cases e : Hf' a with
    | none => rfl
    | some u =>
      rcases g.new a u e with q | q
      · rw [h3] at q; cases q
      · rw [h2] at q; cases q
  scr := S.scr
  inj := S.inj
  bor := S.bor
theorem sqL_same (e : Same R H) {a : Addr} {xs : List V} (h : SqL K R a xs) : SqL K H a xs := e.seq h
/-- a slot looked at -/
theorem StOk.view (S : StOk K R B ρ σ H Hf) {i : Nat} {d : PyData} (h : viewR i ρ = some d) : ∃ v, σ[i]? = some (some v) ∧ View K H Hf d v := by
  unfold viewR at h
  split at h
  · rename_i x q
    have e := Option.some.inj h
    subst e
    obtain ⟨v, h1, h2⟩ := S.val i _ q
    exact ⟨v, h1, h2.view S.fh⟩
  · rename_i x q
    have e := Option.some.inj h
    subst e
    obtain ⟨a, vs, ds, rfl, h1, h2, h3, h4, h5⟩ := S.own i _ (.inl q)
    exact ⟨_, h1, a, vs, rfl, .inl (.inl h2), h5⟩
  · rename_i x q
    have e := Option.some.inj h
    subst e
    obtain ⟨a, vs, ds, rfl, h1, h2, h3, h4, h5⟩ := S.own i _ (.inr q)
    exact ⟨_, h1, a, vs, rfl, .inl (.inl h2), h5⟩
  · rename_i ns q
    have e := Option.some.inj h
    subst e
    obtain ⟨a, h1, h2⟩ := S.scr i _ q
    exact ⟨_, h1, a, _, rfl, sqL_same S.rh h2.sq, Reps.ints ns⟩
  · cases h
theorem lt_of_get {α : Type} {l : List α} {i : Nat} {x : α} (h : l[i]? = some x) : i < l.length := (List.getElem?_eq_some_iff.mp h).1
/-- a value put into a slot -/
theorem StOk.setV (S : StOk K R B ρ σ H Hf) {i : Nat} {d : PyData} {v : V} (h : setV i d ρ = some ρ') (r : Rep K Hf d v) : StOk K R B ρ' (σ.set i (some v)) H Hf := by
  have hk : (ρ[i]? = some .no ∨ (∃ e, ρ[i]? = some (.val e)) ∨ ∃ e, ρ[i]? = some (.own e)) ∧ ρ' = ρ.set i (.val d) := by
    unfold CD.setV at h
    split at h
    · rename_i q; exact ⟨.inl q, (Option.some.inj h).symm⟩
    · rename_i e q; exact ⟨.inr (.inl ⟨e, q⟩), (Option.some.inj h).symm⟩
    · rename_i e q; exact ⟨.inr (.inr ⟨e, q⟩), (Option.some.inj h).symm⟩
    · cases h
  obtain ⟨hk, rfl⟩ := hk
  have hi : i < ρ.length := by rcases hk with q | ⟨e, q⟩ | ⟨e, q⟩ <;> exact lt_of_get q
  have hi' : i < σ.length := by rw [S.len]; exact hi
  have ne : ∀ {j : Nat} {s : Slot}, (ρ.set i (.val d))[j]? = some s → s ≠ .val d → j ≠ i := fun {j s} q n e => by
    subst e
    rw [List.getElem?_set_self hi] at q
    exact n (Option.some.inj q).symm
  have get : ∀ {j : Nat}, j ≠ i → (ρ.set i (.val d))[j]? = ρ[j]? ∧ (σ.set i (some v))[j]? = σ[j]? := fun {j} n => ⟨List.getElem?_set_ne (Ne.symm n), List.getElem?_set_ne (Ne.symm n)⟩
  have ob : ∀ {j : Nat} {e : PyData}, ((ρ.set i (.val d))[j]? = some (.own e) ∨ (ρ.set i (.val d))[j]? = some (.bor e)) → j ≠ i ∧ (ρ[j]? = some (.own e) ∨ ρ[j]? = some (.bor e)) := fun {j e} q => by
    rcases q with q | q
    · have n := ne q (by simp); rw [(get n).1] at q; exact ⟨n, .inl q⟩
    · have n := ne q (by simp); rw [(get n).1] at q; exact ⟨n, .inr q⟩
  refine ⟨S.fh, S.rh, S.rf, by simpa using S.len, fun j e q => ?_, fun j e q => ?_, fun j ns q => ?_, fun j k e f a q1 q2 s1 s2 => ?_, fun p hp => ?_⟩
  · by_cases n : j = i
    · subst n
      rw [List.getElem?_set_self hi] at q
      cases q
      exact ⟨v, by rw [List.getElem?_set_self hi'], r⟩
    · rw [(get n).1] at q
      obtain ⟨u, h1, h2⟩ := S.val j e q
      exact ⟨u, by rw [(get n).2]; exact h1, h2⟩
  · obtain ⟨n, q⟩ := ob q
    obtain ⟨a, vs, ds, h0, h1, h2⟩ := S.own j e q
    exact ⟨a, vs, ds, h0, by rw [(get n).2]; exact h1, h2⟩
  · have n := ne q (by simp)
    rw [(get n).1] at q
    rw [(get n).2]
    exact S.scr j ns q
  · obtain ⟨n1, q1⟩ := ob q1
    obtain ⟨n2, q2⟩ := ob q2
    rw [(get n1).2] at s1
    rw [(get n2).2] at s2
    exact S.inj j k e f a q1 q2 s1 s2
  · obtain ⟨⟨e, q⟩, s1⟩ := S.bor p hp
    have n : p.1 ≠ i := fun z => by
      rw [z] at q
      rcases hk with q2 | ⟨e2, q2⟩ | ⟨e2, q2⟩ <;> (rw [q] at q2; cases q2)
    exact ⟨⟨e, by rw [(get n).1]; exact q⟩, by rw [(get n).2]; exact s1⟩
/-- what a list that nobody else holds is -/
def Alone (K : PySem.W.Frag) (R : Hp) (ρ : Rho) (σ : St) (H Hf : Hp) (d : PyData) (v : V) : Prop :=
  ∃ a vs ds, d = .list ds ∧ v = .ref a ∧ H a = some (.lst vs) ∧ Hf a = none ∧ R a = none ∧ Reps K Hf ds vs ∧ ∀ (i : Nat) (e : PyData), (ρ[i]? = some (.own e) ∨ ρ[i]? = some (.bor e)) → σ[i]? ≠ some (some (.ref a))
theorem StOk.setO (S : StOk K R B ρ σ H Hf) {i : Nat} {d : PyData} {v : V} (h : setO i d ρ = some ρ') (r : Alone K R ρ σ H Hf d v) : StOk K R B ρ' (σ.set i (some v)) H Hf := by
  have hk : (ρ[i]? = some .no ∨ (∃ e, ρ[i]? = some (.val e)) ∨ ∃ e, ρ[i]? = some (.own e)) ∧ ρ' = ρ.set i (.own d) := by
    unfold CD.setO at h
    split at h
    · rename_i q; exact ⟨.inl q, (Option.some.inj h).symm⟩
    · rename_i e q; exact ⟨.inr (.inl ⟨e, q⟩), (Option.some.inj h).symm⟩
    · rename_i e q; exact ⟨.inr (.inr ⟨e, q⟩), (Option.some.inj h).symm⟩
    · cases h
  obtain ⟨hk, rfl⟩ := hk
  have hi : i < ρ.length := by rcases hk with q | ⟨e, q⟩ | ⟨e, q⟩ <;> exact lt_of_get q
  have hi' : i < σ.length := by rw [S.len]; exact hi
  have get : ∀ {j : Nat}, j ≠ i → (ρ.set i (.own d))[j]? = ρ[j]? ∧ (σ.set i (some v))[j]? = σ[j]? := fun {j} n => ⟨List.getElem?_set_ne (Ne.symm n), List.getElem?_set_ne (Ne.symm n)⟩
  obtain ⟨a, vs, ds, rfl, rfl, r1, r2, r3, r4, r5⟩ := r
  have none_i : ∀ e, ¬ ρ[i]? = some (.bor e) := fun e q => by
    rcases hk with q2 | ⟨e2, q2⟩ | ⟨e2, q2⟩ <;> (rw [q2] at q; cases q)
  have at_i : (ρ.set i (.own (.list ds)))[i]? = some (.own (.list ds)) ∧ (σ.set i (some (.ref a)))[i]? = some (some (.ref a)) := ⟨List.getElem?_set_self hi, List.getElem?_set_self hi'⟩
  refine ⟨S.fh, S.rh, S.rf, by simpa using S.len, fun j e q => ?_, fun j e q => ?_, fun j ns q => ?_, fun j k e f b q1 q2 s1 s2 => ?_, fun p hp => ?_⟩
  · by_cases n : j = i
    · subst n; rw [at_i.1] at q; cases q
    · rw [(get n).1] at q
      obtain ⟨u, h1, h2⟩ := S.val j e q
      exact ⟨u, by rw [(get n).2]; exact h1, h2⟩
  · by_cases n : j = i
    · subst n
      rw [at_i.1] at q
      rcases q with q | q
      · cases q; exact ⟨a, vs, ds, rfl, at_i.2, r1, r2, r3, r4⟩
      · cases q
    · rw [(get n).1] at q
      obtain ⟨b, us, es, h0, h1, h2⟩ := S.own j e q
      exact ⟨b, us, es, h0, by rw [(get n).2]; exact h1, h2⟩
  · by_cases n : j = i
    · subst n; rw [at_i.1] at q; cases q
    · rw [(get n).1] at q
      rw [(get n).2]
      exact S.scr j ns q
  · by_cases n1 : j = i
    · by_cases n2 : k = i
      · rw [n1, n2]
      · subst n1
        rw [at_i.2] at s1
        cases s1
        rw [(get n2).1] at q2
        rw [(get n2).2] at s2
        exact absurd s2 (r5 k f q2)
    · by_cases n2 : k = i
      · subst n2
        rw [at_i.2] at s2
        cases s2
        rw [(get n1).1] at q1
        rw [(get n1).2] at s1
        exact absurd s1 (r5 j e q1)
      · rw [(get n1).1] at q1
        rw [(get n2).1] at q2
        rw [(get n1).2] at s1
        rw [(get n2).2] at s2
        exact S.inj j k e f b q1 q2 s1 s2
  · obtain ⟨⟨e, q⟩, s1⟩ := S.bor p hp
    have n : p.1 ≠ i := fun z => by
      rw [z] at q
      exact none_i e q
    exact ⟨⟨e, by rw [(get n).1]; exact q⟩, by rw [(get n).2]; exact s1⟩
/-- a list is frozen: from now on it is a value -/
theorem StOk.freeze (S : StOk K R B ρ σ H Hf) {d : PyData} {v : V} (r : Alone K R ρ σ H Hf d v) : ∃ Hf', StOk K R B ρ σ H Hf' ∧ Same Hf Hf' ∧ Rep K Hf' d v := by
  obtain ⟨a, vs, ds, rfl, rfl, r1, r2, r3, r4, r5⟩ := r
  have ff : Same Hf (upd Hf a (.lst vs)) := same_upd r2
  refine ⟨upd Hf a (.lst vs), ⟨fun b o h => ?_, S.rh, fun b o h => ?_, S.len, fun i e h => ?_, fun i e h => ?_, S.scr, S.inj, S.bor⟩, ff, a, vs, rfl, upd_same, r4.mono ff _ _⟩
  · by_cases hb : b = a
    · subst hb; rw [upd_same] at h; cases h; exact r1
    · rw [upd_ne hb] at h; exact S.fh _ _ h
  · have hb : b ≠ a := fun z => by subst z; rw [r3] at h; cases h
    rw [upd_ne hb]
    exact S.rf b o h
  · obtain ⟨u, h1, h2⟩ := S.val i e h
    exact ⟨u, h1, h2.mono ff _ _⟩
  · obtain ⟨b, us, es, h0, h1, h2, h3, h4, h5⟩ := S.own i e h
    have hb : b ≠ a := fun z => by subst z; exact r5 i e h h1
    exact ⟨b, us, es, h0, h1, h2, by rw [upd_ne hb]; exact h3, h4, h5.mono ff _ _⟩
/-- a list of one's own is frozen where its name is read as a value -/
theorem StOk.thaw (S : StOk K R B ρ σ H Hf) {i : Nat} {d : PyData} (h : ρ[i]? = some (.own d)) : ∃ v Hf', σ[i]? = some (some v) ∧ StOk K R B (ρ.set i (.val d)) σ H Hf' ∧ Same Hf Hf' ∧ Rep K Hf' d v := by
  obtain ⟨a, vs, ds, rfl, r0, r1, r2, r3, r4⟩ := S.own i d (.inl h)
  have hi : i < ρ.length := lt_of_get h
  have ff : Same Hf (upd Hf a (.lst vs)) := same_upd r2
  have get : ∀ {j : Nat}, j ≠ i → (ρ.set i (.val (.list ds)))[j]? = ρ[j]? := fun {j} n => List.getElem?_set_ne (Ne.symm n)
  have at_i : (ρ.set i (.val (.list ds)))[i]? = some (.val (.list ds)) := List.getElem?_set_self hi
  have rr : Rep K (upd Hf a (.lst vs)) (.list ds) (.ref a) := ⟨a, vs, rfl, upd_same, r4.mono ff _ _⟩
  have ob : ∀ {j : Nat} {e : PyData}, ((ρ.set i (.val (.list ds)))[j]? = some (.own e) ∨ (ρ.set i (.val (.list ds)))[j]? = some (.bor e)) → j ≠ i ∧ (ρ[j]? = some (.own e) ∨ ρ[j]? = some (.bor e)) := fun {j e} q => by
    have n : j ≠ i := fun z => by
      subst z
      rw [at_i] at q
      rcases q with q | q <;> cases q
    rw [get n] at q
    exact ⟨n, q⟩
  refine ⟨.ref a, upd Hf a (.lst vs), r0, ⟨fun b o q => ?_, S.rh, fun b o q => ?_, by simpa using S.len, fun j e q => ?_, fun j e q => ?_, fun j ns q => ?_, fun j k e f b q1 q2 s1 s2 => ?_, fun p hp => ?_⟩, ff, rr⟩
  · by_cases hb : b = a
    · subst hb; rw [upd_same] at q; cases q; exact r1
    · rw [upd_ne hb] at q; exact S.fh _ _ q
  · have hb : b ≠ a := fun z => by subst z; rw [r3] at q; cases q
    rw [upd_ne hb]
    exact S.rf b o q
  · by_cases n : j = i
    · subst n
      rw [at_i] at q
      cases q
      exact ⟨_, r0, rr⟩
    · rw [get n] at q
      obtain ⟨u, h1, h2⟩ := S.val j e q
      exact ⟨u, h1, h2.mono ff _ _⟩
  · obtain ⟨n, q⟩ := ob q
    obtain ⟨b, us, es, h0, h1, h2, h3, h4, h5⟩ := S.own j e q
    have hb : b ≠ a := fun z => by
      subst z
      exact n (S.inj j i e (.list ds) b q (.inl h) h1 r0)
    exact ⟨b, us, es, h0, h1, h2, by rw [upd_ne hb]; exact h3, h4, h5.mono ff _ _⟩
  · have n : j ≠ i := fun z => by subst z; rw [at_i] at q; cases q
    rw [get n] at q
    exact S.scr j ns q
  · obtain ⟨n1, q1⟩ := ob q1
    obtain ⟨n2, q2⟩ := ob q2
    exact S.inj j k e f b q1 q2 s1 s2
  · obtain ⟨⟨e, q⟩, s1⟩ := S.bor p hp
    have n : p.1 ≠ i := fun z => by rw [z, h] at q; cases q
    exact ⟨⟨e, by rw [get n]; exact q⟩, s1⟩
/-- a list of one's own is changed -/
theorem StOk.put (S : StOk K R B ρ σ H Hf) {i : Nat} {d : PyData} {es : List PyData} {us : List V} {a : Addr} {s : Slot} (h : (ρ[i]? = some (.own d) ∧ s = .own (.list es)) ∨ (ρ[i]? = some (.bor d) ∧ s = .bor (.list es))) (ha : σ[i]? = some (some (.ref a))) (r : Reps K Hf es us) :
    StOk K R B (ρ.set i s) σ (upd H a (.lst us)) Hf := by
  have h' : ρ[i]? = some (.own d) ∨ ρ[i]? = some (.bor d) := h.elim (fun q => .inl q.1) fun q => .inr q.1
  obtain ⟨a', vs, ds, rfl, r0, r1, r2, r3, r4⟩ := S.own i d h'
  rw [ha] at r0
  cases r0
  have hi : i < ρ.length := by rcases h' with q | q <;> exact lt_of_get q
  have get : ∀ {j : Nat}, j ≠ i → (ρ.set i s)[j]? = ρ[j]? := fun {j} n => List.getElem?_set_ne (Ne.symm n)
  have at_i : (ρ.set i s)[i]? = some s := List.getElem?_set_self hi
  have hs : s = .own (.list es) ∨ s = .bor (.list es) := h.elim (fun q => .inl q.2) fun q => .inr q.2
  have old : ∀ {j : Nat} {e : PyData}, ((ρ.set i s)[j]? = some (.own e) ∨ (ρ.set i s)[j]? = some (.bor e)) → ∃ e', ρ[j]? = some (.own e') ∨ ρ[j]? = some (.bor e') := fun {j e} q => by
    by_cases n : j = i
    · subst n; exact ⟨_, h'⟩
    · rw [get n] at q; exact ⟨e, q⟩
  refine ⟨fun b o q => ?_, fun b o q => ?_, S.rf, by simpa using S.len, fun j e q => ?_, fun j e q => ?_, fun j ns q => ?_, fun j k e f b q1 q2 s1 s2 => ?_, fun p hp => ?_⟩
  · have hb : b ≠ a := fun z => by subst z; rw [r2] at q; cases q
    rw [upd_ne hb]; exact S.fh _ _ q
  · have hb : b ≠ a := fun z => by subst z; rw [r3] at q; cases q
    rw [upd_ne hb]; exact S.rh _ _ q
  · have n : j ≠ i := fun z => by
      subst z
      rw [at_i] at q
      rcases hs with hs | hs <;> (rw [hs] at q; cases q)
    rw [get n] at q
    exact S.val j e q
  · by_cases n : j = i
    · subst n
      rw [at_i] at q
      refine ⟨a, us, es, ?_, ha, upd_same, r2, r3, r⟩
      rcases hs with hs | hs <;> (subst hs; rcases q with q | q <;> cases q <;> rfl)
    · rw [get n] at q
      obtain ⟨b, ws, fs, h0, h1, h2, h3⟩ := S.own j e q
      have hb : b ≠ a := fun z => by
        subst z
        exact n (S.inj j i e _ b q h' h1 ha)
      exact ⟨b, ws, fs, h0, h1, by rw [upd_ne hb]; exact h2, h3⟩
  · have n : j ≠ i := fun z => by
      subst z
      rw [at_i] at q
      rcases hs with hs | hs <;> (rw [hs] at q; cases q)
    rw [get n] at q
    exact S.scr j ns q
  · obtain ⟨e', q1⟩ := old q1
    obtain ⟨f', q2⟩ := old q2
    exact S.inj j k e' f' b q1 q2 s1 s2
  · obtain ⟨⟨e, q⟩, s1⟩ := S.bor p hp
    by_cases n : p.1 = i
    · refine ⟨⟨.list es, ?_⟩, s1⟩
      rw [n, at_i]
      rw [n] at q
      rcases h with ⟨z, _⟩ | ⟨_, z⟩
      · rw [z] at q; cases q
      · rw [z]
    · exact ⟨⟨e, by rw [get n]; exact q⟩, s1⟩
end
end CD

set_option Elab.async false
set_option linter.all false
set_option maxRecDepth 100000
set_option autoImplicit false
/-! The machine's operations on data. -/
namespace CD
open PySem PySem.Spec L2
open PyProof.Rows hiding St

section
variable {K : PySem.W.Frag} {H H' Hf Hf' R : Hp}
theorem Views.one {d : PyData} {vs : List V} (h : Views K H Hf [d] vs) : ∃ v, vs = [v] ∧ View K H Hf d v := by
  obtain ⟨v, r, rfl, h1, h2⟩ := h
  exact ⟨v, by rw [show r = [] from h2], h1⟩
theorem views_v1 {ds : List PyData} {v : V} (h : Views K H Hf ds [v]) : ∃ d, ds = [d] ∧ View K H Hf d v := by
  cases ds with
  | nil => exact absurd (show ([v] : List V) = [] from h) (by simp)
  | cons d r =>
    obtain ⟨v', r', e, h1, h2⟩ := h
    injection e with e1 e2
    subst e1 e2
    cases r with
    | nil => exact ⟨d, rfl, h1⟩
    | cons d' r'' =>
      obtain ⟨_, _, e, _⟩ := h2
      cases e
theorem views_v2 {ds : List PyData} {v u : V} (h : Views K H Hf ds [v, u]) : ∃ d e, ds = [d, e] ∧ View K H Hf d v ∧ View K H Hf e u := by
  cases ds with
  | nil => exact absurd (show ([v, u] : List V) = [] from h) (by simp)
  | cons d r =>
    obtain ⟨v', r', e, h1, h2⟩ := h
    injection e with e1 e2
    subst e1 e2
    obtain ⟨e, rfl, h3⟩ := views_v1 h2
    exact ⟨d, e, rfl, h1, h3⟩
theorem views_two {d e : PyData} {vs : List V} (h : Views K H Hf [d, e] vs) : ∃ v u, vs = [v, u] ∧ View K H Hf d v ∧ View K H Hf e u := by
  obtain ⟨v, r, rfl, h1, u, r', rfl, h2, h3⟩ := h
  exact ⟨v, u, by rw [show r' = [] from h3], h1, h2⟩

/-- an operation on data, by values -/
def rD (K : PySem.W.Frag) (o : Prim) : List V → Hp → VK → Prop := fun vs H Q => ∃ Hf ds d, Same Hf H ∧ Views K H Hf ds vs ∧ prD o ds = some d ∧ ∀ v H' Hf', Grow H Hf H' Hf' → Rep K Hf' d v → Q v H'

/-! lay, depth -/
mutual
theorem lay_can : ∀ (n : Nat) (d : PyData), lay n d = true → d.canLay0 = true ∧ d.depth ≤ n
  | _, .none, _ => ⟨by simp [PyData.canLay0], by simp [PyData.depth]⟩
  | _, .bool _, _ => ⟨by simp [PyData.canLay0], by simp [PyData.depth]⟩
  | _, .int _, _ => ⟨by simp [PyData.canLay0], by simp [PyData.depth]⟩
  | _, .str x, h => ⟨by simpa [PyData.canLay0, lay] using h, by simp [PyData.depth]⟩
  | 0, .list _, h => by simp [lay] at h
  | 0, .tuple _, h => by simp [lay] at h
  | n + 1, .list xs, h => by
    have q := lay_all n xs (by simpa [lay] using h)
    exact ⟨by simpa [PyData.canLay0] using q.1, by simp only [PyData.depth]; omega⟩
  | n + 1, .tuple xs, h => by
    have q := lay_all n xs (by simpa [lay] using h)
    exact ⟨by simpa [PyData.canLay0] using q.1, by simp only [PyData.depth]; omega⟩
  | _, .dict _, h => by simp [lay] at h
theorem lay_all : ∀ (n : Nat) (ds : List PyData), (∀ d ∈ ds, lay n d = true) → PyData.canLayAll0 ds = true ∧ PyData.depthAll ds ≤ n
  | _, [], _ => ⟨by simp [PyData.canLayAll0], by simp [PyData.depthAll]⟩
  | n, d :: ds, h => by
    have q1 := lay_can n d (h d (by simp))
    have q2 := lay_all n ds (fun x hx => h x (by simp [hx]))
    exact ⟨by simp [PyData.canLayAll0, q1.1, q2.1], by simp only [PyData.depthAll]; omega⟩
end
theorem lay_shaped {n : Nat} {d : PyData} (h : lay n d = true) (hn : n ≤ 64) : SeqAt.shaped d = true := by
  have q := lay_can n d h
  unfold SeqAt.shaped
  rw [q.1, decide_eq_true (by omega)]
  rfl
mutual
theorem Rep.dp (e : Same Hf H) : ∀ (d : PyData) (v : V), d.canLay0 = true → Rep K Hf d v → Dp K H v d
  | .none, _, _, h => by rw [show _ = _ from h]; exact .non
  | .bool _, _, _, h => by rw [show _ = _ from h]; exact .bl _
  | .int _, _, _, h => by rw [show _ = _ from h]; exact .int _
  | .str _, _, _, h => by rw [show _ = _ from h]; exact .str _
  | .tuple ds, _, c, h => by
    obtain ⟨a, vs, rfl, h1, h2⟩ := h
    exact .tup (sqT_mono e h1) (Reps.dp e ds vs (by simpa [PyData.canLay0] using c) h2)
  | .list ds, _, c, h => by
    obtain ⟨a, vs, rfl, h1, h2⟩ := h
    exact .lst (.inl (.inl (e _ _ h1))) (Reps.dp e ds vs (by simpa [PyData.canLay0] using c) h2)
  | .dict _, _, c, _ => by simp [PyData.canLay0] at c
theorem Reps.dp (e : Same Hf H) : ∀ (ds : List PyData) (vs : List V), PyData.canLayAll0 ds = true → Reps K Hf ds vs → DpAll K H vs ds
  | [], _, _, h => by rw [show _ = [] from h]; exact .nil
  | d :: ds, _, c, h => by
    obtain ⟨v, r, rfl, h1, h2⟩ := h
    have c' : d.canLay0 = true ∧ PyData.canLayAll0 ds = true := by simpa [PyData.canLayAll0] using c
    exact .cons (Rep.dp e d v c'.1 h1) (Reps.dp e ds r c'.2 h2)
end
theorem View.dp (e : Same Hf H) {d : PyData} {v : V} (c : d.canLay0 = true) (h : View K H Hf d v) : Dp K H v d := by
  cases d with
  | list ds =>
    obtain ⟨a, vs, rfl, h1, h2⟩ := h
    exact .lst h1 (Reps.dp e ds vs (by simpa [PyData.canLay0] using c) h2)
  | none => exact Rep.dp e _ v c h
  | bool _ => exact Rep.dp e _ v c h
  | int _ => exact Rep.dp e _ v c h
  | str _ => exact Rep.dp e _ v c h
  | tuple _ => exact Rep.dp e _ v c h
  | dict _ => exact Rep.dp e _ v c h
theorem flat_scal {d : PyData} {v : V} (h : flat d = true) (r : Rep K Hf d v) : flatV v = true := by
  cases d with
  | none => rw [show v = _ from r]; rfl
  | bool _ => rw [show v = _ from r]; rfl
  | int _ => rw [show v = _ from r]; rfl
  | str _ => rw [show v = _ from r]; rfl
  | list _ => simp [flat] at h
  | tuple _ => simp [flat] at h
  | dict _ => simp [flat] at h
theorem flat_eq {d e : PyData} {v u : V} (hd : flat d = true) (he : flat e = true) (r : Rep K Hf d v) (q : Rep K Hf e u) : eqV v u = PyData.eqv d e := by
  cases d <;> first | (simp [flat] at hd; done) | skip
  all_goals cases e <;> first | (simp [flat] at he; done) | skip
  all_goals (rw [show v = _ from r, show u = _ from q]; simp [eqV, PyData.eqv])
theorem flats_all : ∀ {ds : List PyData} {vs : List V}, ds.all flat = true → Reps K Hf ds vs → vs.all flatV = true
  | [], _, _, h => by rw [show _ = [] from h]; rfl
  | d :: ds, _, c, h => by
    obtain ⟨v, r, rfl, h1, h2⟩ := h
    rw [List.all_cons, Bool.and_eq_true] at c
    rw [List.all_cons, flat_scal c.1 h1, flats_all c.2 h2]
    rfl
theorem flats_in {a : PyData} {x : V} (ha : flat a = true) (ra : Rep K Hf a x) : ∀ {ds : List PyData} {vs : List V}, ds.all flat = true → Reps K Hf ds vs → inV x vs = ds.any fun y => PyData.eqv y a
  | [], _, _, h => by rw [show _ = [] from h]; rfl
  | d :: ds, _, c, h => by
    obtain ⟨v, r, rfl, h1, h2⟩ := h
    rw [List.all_cons, Bool.and_eq_true] at c
    have ih := flats_in ha ra c.2 h2
    unfold inV at ih ⊢
    rw [List.any_cons, List.any_cons, ih, flat_eq c.1 ha h1 ra]
end

section
variable {X : Cx}
theorem seqLine : sizeLine = 16777216 := sizeLine_eq

theorem d_add : OpR X (binaryOp .Add) (fun x y => rD X.K .add [x, y]) := by
  intro pins s σ H x y v u Q I rx ry h
  obtain ⟨Hf, ds, d, e, hv, hp, k⟩ := h
  obtain ⟨d1, d2, rfl, w1, w2⟩ := views_v2 hv
  cases d1 <;> cases d2 <;> first | (exfalso; simp [prD] at hp; done) | skip
  · rename_i i j
    cases hp
    exact op_add pins s σ H x y v u Q I rx ry ⟨i, j, w1, w2, k _ _ _ (Grow.refl e) rfl⟩
  · rename_i xs ys
    obtain ⟨a, vs, rfl, h1, h2⟩ := w1
    obtain ⟨b, us, rfl, h3, h4⟩ := w2
    obtain ⟨itv, rv, plv, zv⟩ := I.list h1
    obtain ⟨itu, ru, plu, zu⟩ := I.list h3
    simp only [prD] at hp
    split at hp
    · rename_i hz
      cases hp
      cases rx
      cases ry
      have l1 := h2.length
      have l2 := h4.length
      have l3 := rv.length
      have l4 := ru.length
      obtain ⟨⟨cls, dd, data, sl⟩, ho, hc, n, hd⟩ := plv.isList
      obtain ⟨⟨cls2, dd2, data2, sl2⟩, ho2, hc2, n2, hd2⟩ := plu.isList
      simp only at hc hd hc2 hd2
      subst hc hd hc2 hd2
      refine concat_meets ⟨_, ho, rfl⟩ ⟨_, ho2, rfl⟩ noFill_list_add seq_list_add PySem.F.slot_list_add PySem.F.entry_list_add (PySem.F.args_list_add_2 _ _) (list_addW a b itv.toArray itu.toArray n n2 dd dd2 sl sl2 (by rw [seqLine]; simp; omega)) ⟨ho, ho2, ?_⟩
      have ea : itv.toArray ++ itu.toArray = (itv ++ itu).toArray := by simp
      rw [ea]
      have hn : H s.heap.objs.size = none := I.hok.fresh (Nat.le_refl _)
      refine ⟨.ref _, _, I.lnew (t' := s.toks) (rv.append ru) (by rw [List.length_append, seqLine]; omega), rfl, k _ _ _ (Grow.upd e hn) ⟨_, vs ++ us, rfl, upd_same, ?_⟩⟩
      exact Reps.mono (same_upd (Same.free e hn)) _ _ (h2.append h4)
    · cases hp
  · rename_i xs ys
    obtain ⟨a, vs, rfl, h1, h2⟩ := w1
    obtain ⟨b, us, rfl, h3, h4⟩ := w2
    simp only [prD] at hp
    split at hp
    · rename_i hz
      cases hp
      have l1 := h2.length
      have l2 := h4.length
      refine op_catA pins s σ H _ _ v u Q I rx ry ⟨a, b, vs, us, rfl, rfl, sqT_mono e h1, sqT_mono e h3, by rw [seqLine]; omega, fun z => ?_, fun _ z => ?_, fun _ _ p hn => ?_⟩
      · have xz : xs = [] := by
          rw [z] at l1
          exact List.eq_nil_of_length_eq_zero l1
        subst xz
        exact k _ _ _ (Grow.refl e) ⟨b, us, rfl, h3, h4⟩
      · have yz : ys = [] := by
          rw [z] at l2
          exact List.eq_nil_of_length_eq_zero l2
        subst yz
        exact k _ _ _ (Grow.refl e) ⟨a, vs, rfl, h1, by rw [List.append_nil]; exact h2⟩
      · exact k _ _ _ (Grow.upd e hn) ⟨p, vs ++ us, rfl, .inl (.inl upd_same), Reps.mono (same_upd (Same.free e hn)) _ _ (h2.append h4)⟩
    · cases hp
theorem d_sub : OpR X (binaryOp .Sub) (fun x y => rD X.K .sub [x, y]) := by
  intro pins s σ H x y v u Q I rx ry h
  obtain ⟨Hf, ds, d, e, hv, hp, k⟩ := h
  obtain ⟨d1, d2, rfl, w1, w2⟩ := views_v2 hv
  cases d1 <;> cases d2 <;> first | (exfalso; simp [prD] at hp; done) | skip
  rename_i i j
  cases hp
  exact op_sub pins s σ H x y v u Q I rx ry ⟨i, j, w1, w2, k _ _ _ (Grow.refl e) rfl⟩
theorem d_mul : OpR X (binaryOp .Mult) (fun x y => rD X.K .mul [x, y]) := by
  intro pins s σ H x y v u Q I rx ry h
  obtain ⟨Hf, ds, d, e, hv, hp, k⟩ := h
  obtain ⟨d1, d2, rfl, w1, w2⟩ := views_v2 hv
  cases d1 <;> cases d2 <;> first | (exfalso; simp [prD] at hp; done) | skip
  rename_i i j
  simp only [prD] at hp
  split at hp
  · rename_i hz
    cases hp
    exact op_mulW pins s σ H x y v u Q I rx ry ⟨i, j, w1, w2, hz, k _ _ _ (Grow.refl e) rfl⟩
  · cases hp
theorem d_fdiv : OpR X (binaryOp .FloorDiv) (fun x y => rD X.K .fdiv [x, y]) := by
  intro pins s σ H x y v u Q I rx ry h
  obtain ⟨Hf, ds, d, e, hv, hp, k⟩ := h
  obtain ⟨d1, d2, rfl, w1, w2⟩ := views_v2 hv
  cases d1 <;> cases d2 <;> first | (exfalso; simp [prD] at hp; done) | skip
  rename_i i j
  simp only [prD] at hp
  split at hp
  · rename_i hz
    cases hp
    exact op_fdivW pins s σ H x y v u Q I rx ry ⟨i, j, w1, w2, hz, k _ _ _ (Grow.refl e) rfl⟩
  · cases hp
theorem d_mod : OpR X (binaryOp .Mod) (fun x y => rD X.K .mod [x, y]) := by
  intro pins s σ H x y v u Q I rx ry h
  obtain ⟨Hf, ds, d, e, hv, hp, k⟩ := h
  obtain ⟨d1, d2, rfl, w1, w2⟩ := views_v2 hv
  cases d1 <;> cases d2 <;> first | (exfalso; simp [prD] at hp; done) | skip
  rename_i i j
  simp only [prD] at hp
  split at hp
  · rename_i hz
    cases hp
    exact op_mod pins s σ H x y v u Q I rx ry ⟨i, j, w1, w2, hz, k _ _ _ (Grow.refl e) rfl⟩
  · cases hp
theorem d_pow : OpR X (binaryOp .Pow) (fun x y => rD X.K .pow [x, y]) := by
  intro pins s σ H x y v u Q I rx ry h
  obtain ⟨Hf, ds, d, e, hv, hp, k⟩ := h
  obtain ⟨d1, d2, rfl, w1, w2⟩ := views_v2 hv
  cases d1 <;> cases d2 <;> first | (exfalso; simp [prD] at hp; done) | skip
  rename_i i j
  simp only [prD] at hp
  split at hp
  · rename_i hz
    cases hp
    exact op_pow pins s σ H x y v u Q I rx ry ⟨i, j, w1, w2, ⟨hz.1, by omega, hz.2.2⟩, k _ _ _ (Grow.refl e) rfl⟩
  · cases hp
theorem d_neg : UnR X (unaryOp .USub) (fun x => rD X.K .neg [x]) := by
  intro pins s σ H x v Q I rx h
  obtain ⟨Hf, ds, d, e, hv, hp, k⟩ := h
  obtain ⟨d1, rfl, w1⟩ := views_v1 hv
  cases d1 <;> first | (exfalso; simp [prD] at hp; done) | skip
  rename_i i
  cases hp
  exact un_neg pins s σ H x v Q I rx ⟨i, w1, k _ _ _ (Grow.refl e) rfl⟩

theorem d_cmp (o : CmpOp) (hu : X.A.units + 65 < cLine) : OpR X (compareOp o) (fun x y => rD X.K (.cmp o) [x, y]) := by
  intro pins s σ H x y v u Q I rx ry h
  obtain ⟨Hf, ds, d, e, hv, hp, k⟩ := h
  obtain ⟨d1, d2, rfl, w1, w2⟩ := views_v2 hv
  simp only [prD, Option.map_eq_some_iff] at hp
  obtain ⟨b, hb, rfl⟩ := hp
  have kk : Q (.bl b) H := k _ _ _ (Grow.refl e) rfl
  have hu' : X.A.units + 64 < cLine := by omega
  cases o with
  | Eq =>
    simp only [cmpD] at hb
    split at hb
    · rename_i hl
      rw [Bool.and_eq_true] at hl
      cases hb
      exact op_eqD hu' pins s σ H x y v u Q I rx ry ⟨d1, d2, w1.dp e (lay_can 9 d1 hl.1).1, w2.dp e (lay_can 9 d2 hl.2).1, lay_shaped hl.1 (by decide), lay_shaped hl.2 (by decide), kk⟩
    · cases hb
  | NotEq =>
    simp only [cmpD] at hb
    split at hb
    · rename_i hl
      rw [Bool.and_eq_true] at hl
      cases hb
      exact op_neD hu' pins s σ H x y v u Q I rx ry ⟨d1, d2, w1.dp e (lay_can 9 d1 hl.1).1, w2.dp e (lay_can 9 d2 hl.2).1, lay_shaped hl.1 (by decide), lay_shaped hl.2 (by decide), kk⟩
    · cases hb
  | Lt =>
    cases d1 <;> cases d2 <;> first | (exfalso; simp [cmpD] at hb; done) | skip
    cases hb
    exact op_lt pins s σ H x y v u Q I rx ry ⟨_, _, w1, w2, kk⟩
  | LtE =>
    cases d1 <;> cases d2 <;> first | (exfalso; simp [cmpD] at hb; done) | skip
    cases hb
    exact op_le pins s σ H x y v u Q I rx ry ⟨_, _, w1, w2, kk⟩
  | Gt =>
    cases d1 <;> cases d2 <;> first | (exfalso; simp [cmpD] at hb; done) | skip
    cases hb
    exact op_gt pins s σ H x y v u Q I rx ry ⟨_, _, w1, w2, kk⟩
  | GtE =>
    cases d1 <;> cases d2 <;> first | (exfalso; simp [cmpD] at hb; done) | skip
    cases hb
    exact op_ge pins s σ H x y v u Q I rx ry ⟨_, _, w1, w2, kk⟩
  | Is => exfalso; simp [cmpD] at hb
  | IsNot => exfalso; simp [cmpD] at hb
  | In =>
    cases d2 <;> first | (exfalso; simp [cmpD] at hb; done) | skip
    · rename_i xs
      simp only [cmpD] at hb
      split at hb
      · rename_i hl
        rw [Bool.and_eq_true] at hl
        cases hb
        have hl2 : lay 10 (.list xs) = true := by simpa [lay] using hl.2
        exact op_inD hu pins s σ H x y v u Q I rx ry ⟨d1, xs, w1.dp e (lay_can 9 d1 hl.1).1, w2.dp e (lay_can 10 _ hl2).1, lay_shaped hl.1 (by decide), lay_shaped hl2 (by decide), kk⟩
      · cases hb
    · rename_i xs
      simp only [cmpD] at hb
      split at hb
      · rename_i hl
        rw [Bool.and_eq_true] at hl
        cases hb
        obtain ⟨a, vs, rfl, h1, h2⟩ := w2
        have r1 : Rep X.K Hf d1 x := by
          cases d1 with
          | list _ => simp [flat] at hl
          | _ => exact w1
        refine op_in_seq pins s σ H x _ v u Q I rx ry ⟨a, vs, rfl, .inr (sqT_mono e h1), flat_scal hl.1 r1, flats_all hl.2 h2, ?_⟩
        simp only [Bool.false_eq_true, if_false]
        rw [flats_in hl.1 r1 hl.2 h2]
        exact kk
      · cases hb
  | NotIn =>
    cases d2 <;> first | (exfalso; simp [cmpD] at hb; done) | skip
    · rename_i xs
      simp only [cmpD] at hb
      split at hb
      · rename_i hl
        rw [Bool.and_eq_true] at hl
        cases hb
        have hl2 : lay 10 (.list xs) = true := by simpa [lay] using hl.2
        exact op_notInD hu pins s σ H x y v u Q I rx ry ⟨d1, xs, w1.dp e (lay_can 9 d1 hl.1).1, w2.dp e (lay_can 10 _ hl2).1, lay_shaped hl.1 (by decide), lay_shaped hl2 (by decide), kk⟩
      · cases hb
    · rename_i xs
      simp only [cmpD] at hb
      split at hb
      · rename_i hl
        rw [Bool.and_eq_true] at hl
        cases hb
        obtain ⟨a, vs, rfl, h1, h2⟩ := w2
        have r1 : Rep X.K Hf d1 x := by
          cases d1 with
          | list _ => simp [flat] at hl
          | _ => exact w1
        refine op_notIn_seq pins s σ H x _ v u Q I rx ry ⟨a, vs, rfl, .inr (sqT_mono e h1), flat_scal hl.1 r1, flats_all hl.2 h2, ?_⟩
        simp only [if_true]
        rw [flats_in hl.1 r1 hl.2 h2]
        exact kk
      · cases hb
end
end CD

set_option Elab.async false
set_option linter.all false
set_option maxRecDepth 100000
set_option autoImplicit false
/-! The machine's operations on data: items, slices, the calls of built-ins. -/
namespace CD
open PySem PySem.Spec L2
open PyProof.Rows hiding St
section
variable {K : PySem.W.Frag} {H H' Hf Hf' R : Hp}
theorem atI_some {α β : Type} {xs : List α} {ys : List β} (hl : xs.length = ys.length) {i : Int} {x : α} (h : atI xs i = some x) : ∃ j : Nat, xs[j]? = some x ∧ ∀ y, ys[j]? = some y → atI ys i = some y := by
  unfold atI at h ⊢
  rw [← hl]
  cases e : ixN xs.length i with
  | none => rw [e] at h; cases h
  | some j =>
    rw [e] at h
    exact ⟨j, h, fun y q => q⟩
theorem cut_reps {ds : List PyData} {vs : List V} (lo hi : Option Int) (h : Reps K H ds vs) : Reps K H (cutD ds lo hi) (cutV vs lo hi) := by
  unfold cutD cutV
  rw [h.length]
  exact (h.drop _).take _
theorem intsOf_reps : ∀ {ds : List PyData} {ns : List Int} {vs : List V}, intsOf ds = some ns → Reps K H ds vs → vs = ns.map V.int
  | [], ns, vs, h, r => by
    cases h
    exact r
  | .int i :: ds, ns, vs, h, r => by
    simp only [intsOf, Option.map_eq_some_iff] at h
    obtain ⟨ms, h, rfl⟩ := h
    obtain ⟨v, t, rfl, h1, h2⟩ := r
    rw [show v = V.int i from h1, intsOf_reps h h2]
    rfl
  | .none :: _, _, _, h, _ => by simp [intsOf] at h
  | .bool _ :: _, _, _, h, _ => by simp [intsOf] at h
  | .str _ :: _, _, _, h, _ => by simp [intsOf] at h
  | .list _ :: _, _, _, h, _ => by simp [intsOf] at h
  | .tuple _ :: _, _, _, h, _ => by simp [intsOf] at h
  | .dict _ :: _, _, _, h, _ => by simp [intsOf] at h
theorem boolsOf_reps : ∀ {ds : List PyData} {ns : List Bool} {vs : List V}, boolsOf ds = some ns → Reps K H ds vs → vs = ns.map V.bl
  | [], ns, vs, h, r => by
    cases h
    exact r
  | .bool i :: ds, ns, vs, h, r => by
    simp only [boolsOf, Option.map_eq_some_iff] at h
    obtain ⟨ms, h, rfl⟩ := h
    obtain ⟨v, t, rfl, h1, h2⟩ := r
    rw [show v = V.bl i from h1, boolsOf_reps h h2]
    rfl
  | .none :: _, _, _, h, _ => by simp [boolsOf] at h
  | .int _ :: _, _, _, h, _ => by simp [boolsOf] at h
  | .str _ :: _, _, _, h, _ => by simp [boolsOf] at h
  | .list _ :: _, _, _, h, _ => by simp [boolsOf] at h
  | .tuple _ :: _, _, _, h, _ => by simp [boolsOf] at h
  | .dict _ :: _, _, _, h, _ => by simp [boolsOf] at h
theorem fold_least : ∀ (r : List Int) (x : Int), r.foldl (fun a b => if b < a then b else a) x ∈ x :: r ∧ ∀ y ∈ x :: r, r.foldl (fun a b => if b < a then b else a) x ≤ y
  | [], x => ⟨by simp, by simp⟩
  | z :: r, x => by
    have ih := fold_least r (if z < x then z else x)
    rw [List.foldl_cons]
    have hz : (if z < x then z else x) ≤ x ∧ (if z < x then z else x) ≤ z ∧ ((if z < x then z else x) = z ∨ (if z < x then z else x) = x) := by split <;> omega
    generalize (if z < x then z else x) = w at ih hz
    refine ⟨?_, fun y hy => ?_⟩
    · rcases List.mem_cons.mp ih.1 with e | e
      · rw [e]; rcases hz.2.2 with q | q <;> simp [q]
      · simp [e]
    · have h0 := ih.2 w (by simp)
      rcases List.mem_cons.mp hy with e | e
      · rw [e]; omega
      · rcases List.mem_cons.mp e with e | e
        · rw [e]; omega
        · exact ih.2 y (by simp [e])
theorem fold_most : ∀ (r : List Int) (x : Int), r.foldl (fun a b => if a < b then b else a) x ∈ x :: r ∧ ∀ y ∈ x :: r, y ≤ r.foldl (fun a b => if a < b then b else a) x
  | [], x => ⟨by simp, by simp⟩
  | z :: r, x => by
    have ih := fold_most r (if x < z then z else x)
    rw [List.foldl_cons]
    have hz : (if x < z then z else x) ≥ x ∧ (if x < z then z else x) ≥ z ∧ ((if x < z then z else x) = z ∨ (if x < z then z else x) = x) := by split <;> omega
    generalize (if x < z then z else x) = w at ih hz
    refine ⟨?_, fun y hy => ?_⟩
    · rcases List.mem_cons.mp ih.1 with e | e
      · rw [e]; rcases hz.2.2 with q | q <;> simp [q]
      · simp [e]
    · have h0 := ih.2 w (by simp)
      rcases List.mem_cons.mp hy with e | e
      · rw [e]; omega
      · rcases List.mem_cons.mp e with e | e
        · rw [e]; omega
        · exact ih.2 y (by simp [e])
theorem least_of {ns : List Int} {m x : Int} (h : leastI ns = some m) (h1 : x ∈ ns) (h2 : ∀ y ∈ ns, x ≤ y) : x = m := by
  cases ns with
  | nil => simp at h1
  | cons a r =>
    have e := Option.some.inj h
    have q := fold_least r a
    have p1 := h2 _ q.1
    have p2 := q.2 x h1
    omega
theorem most_of {ns : List Int} {m x : Int} (h : mostI ns = some m) (h1 : x ∈ ns) (h2 : ∀ y ∈ ns, y ≤ x) : x = m := by
  cases ns with
  | nil => simp at h1
  | cons a r =>
    have e := Option.some.inj h
    have q := fold_most r a
    have p1 := h2 _ q.1
    have p2 := q.2 x h1
    omega
/-- a list or a tuple that is looked at -/
theorem view_seq {d : PyData} {v : V} {xs : List PyData} (e : Same Hf H) (h : seqOf d = some xs) (w : View K H Hf d v) : ∃ a vs, v = .ref a ∧ ((d = .list xs ∧ SqL K H a vs) ∨ (d = .tuple xs ∧ SqT K H a vs ∧ SqT K Hf a vs)) ∧ Reps K Hf xs vs := by
  cases d with
  | list ds =>
    cases h
    obtain ⟨a, vs, rfl, h1, h2⟩ := w
    exact ⟨a, vs, rfl, .inl ⟨rfl, h1⟩, h2⟩
  | tuple ds =>
    cases h
    obtain ⟨a, vs, rfl, h1, h2⟩ := w
    exact ⟨a, vs, rfl, .inr ⟨rfl, sqT_mono e h1, h1⟩, h2⟩
  | none => cases h
  | bool _ => cases h
  | int _ => cases h
  | str _ => cases h
  | dict _ => cases h
end
section
variable {X : Cx}
theorem d_item : IxR X (fun x y => rD X.K .item [x, y]) := by
  intro value slice pins s σ H x y v u Q I rx ry h hs
  obtain ⟨Hf, ds, d, e, hv, hp, k⟩ := h
  obtain ⟨d1, d2, rfl, w1, w2⟩ := views_v2 hv
  cases d1 <;> cases d2 <;> first | (exfalso; simp [prD] at hp; done) | skip
  · rename_i xs i
    obtain ⟨a, vs, rfl, h1, h2⟩ := w1
    obtain ⟨j, q1, q2⟩ := atI_some h2.length (show atI xs i = some d from hp)
    obtain ⟨z, q3, q4⟩ := h2.get q1
    exact ix_list value slice pins s σ H _ y v u Q I rx ry ⟨a, vs, i, z, rfl, w2, h1, q2 z q3, k _ _ _ (Grow.refl e) q4⟩ hs
  · rename_i xs i
    obtain ⟨a, vs, rfl, h1, h2⟩ := w1
    obtain ⟨j, q1, q2⟩ := atI_some h2.length (show atI xs i = some d from hp)
    obtain ⟨z, q3, q4⟩ := h2.get q1
    exact ix_tup value slice pins s σ H _ y v u Q I rx ry ⟨a, vs, i, z, rfl, w2, sqT_mono e h1, q2 z q3, k _ _ _ (Grow.refl e) q4⟩ hs

def cutOf : PyData → Option Int → Option Int → Option PyData
  | .list xs, lo, hi => some (.list (cutD xs lo hi))
  | .tuple xs, lo, hi => some (.tuple (cutD xs lo hi))
  | _, _, _ => none
def rSl (K : PySem.W.Frag) : V → Option Int → Option Int → Hp → VK → Prop := fun x lo hi H Q => ∃ Hf d r, Same Hf H ∧ View K H Hf d x ∧ cutOf d lo hi = some r ∧ ∀ v H' Hf', Grow H Hf H' Hf' → Rep K Hf' r v → Q v H'
theorem d_slice : SlR X (rSl X.K) := by
  intro pins s σ H x v vl vu lo hi sl Q I rx hs pl pu h
  obtain ⟨Hf, d, r, e, w, hp, k⟩ := h
  cases d with
  | list xs =>
    cases hp
    obtain ⟨a, vs, rfl, h1, h2⟩ := w
    exact sl_list pins s σ H _ v vl vu lo hi sl Q I rx hs pl pu ⟨a, vs, rfl, h1, fun p hn => k _ _ _ (Grow.upd e hn) ⟨p, _, rfl, upd_same, Reps.mono (same_upd (Same.free e hn)) _ _ (cut_reps lo hi h2)⟩⟩
  | tuple xs =>
    cases hp
    obtain ⟨a, vs, rfl, h1, h2⟩ := w
    refine sl_tupA pins s σ H _ v vl vu lo hi sl Q I rx hs pl pu ⟨a, vs, rfl, sqT_mono e h1, fun z => ?_, fun _ p hn => k _ _ _ (Grow.upd e hn) ⟨p, _, rfl, .inl (.inl upd_same), Reps.mono (same_upd (Same.free e hn)) _ _ (cut_reps lo hi h2)⟩⟩
    refine k _ _ _ (Grow.refl e) ⟨a, vs, rfl, h1, ?_⟩
    have ec : cutD xs lo hi = xs := by
      unfold cutD
      rw [h2.length, z.1, z.2, ← h2.length]
      simp
    rw [ec]
    exact h2
  | none => cases hp
  | bool _ => cases hp
  | int _ => cases hp
  | str _ => cases hp
  | dict _ => cases hp

/-! the calls -/
theorem d_len : CallR X (.builtin "len") (rD X.K (.bi .len)) := by
  intro pins s σ H vs us Q I r h
  obtain ⟨Hf, ds, d, e, hv, hp, k⟩ := h
  match ds, hv, hp with
  | [x], hv, hp =>
    obtain ⟨v, rfl, w⟩ := hv.one
    simp only [prD, biD, Option.map_eq_some_iff] at hp
    obtain ⟨xs, hx, rfl⟩ := hp
    obtain ⟨a, ys, rfl, hq, h2⟩ := view_seq e hx w
    refine call_len_seq pins s σ H _ us Q I r ⟨a, ys, rfl, ?_, ?_⟩
    · rcases hq with ⟨_, q⟩ | ⟨_, q, _⟩
      · exact .inl q
      · exact .inr q
    · rw [← h2.length]
      exact k _ _ _ (Grow.refl e) rfl
theorem d_abs : CallR X (.builtin "abs") (rD X.K (.bi .abs)) := by
  intro pins s σ H vs us Q I r h
  obtain ⟨Hf, ds, d, e, hv, hp, k⟩ := h
  have hd : ∃ i, ds = [.int i] := by
    rcases ds with _ | ⟨x, _ | ⟨y, r⟩⟩
    · simp [prD, biD] at hp
    · cases x <;> first | (exfalso; simp [prD, biD] at hp; done) | exact ⟨_, rfl⟩
    · cases x <;> simp [prD, biD] at hp
  obtain ⟨i, rfl⟩ := hd
  obtain ⟨v, rfl, w⟩ := hv.one
  have hp' : PyData.int (if i < 0 then -i else i) = d := Option.some.inj hp
  generalize hm : (if i < 0 then -i else i) = m at hp'
  have kk : Q (.int m) H := k _ _ _ (Grow.refl e) (by rw [← hp']; simp only [Rep])
  exact call_abs pins s σ H _ us Q I r ⟨i, by rw [show v = .int i from w], by rw [hm]; exact kk⟩
theorem seq_ints {Hf H : Hp} {d : PyData} {v : V} {ns : List Int} (e : Same Hf H) (h : ((seqOf d).bind intsOf) = some ns) (w : View X.K H Hf d v) : ∃ a, v = .ref a ∧ (SqL X.K H a (ns.map V.int) ∨ SqT X.K H a (ns.map V.int)) := by
  rw [Option.bind_eq_some_iff] at h
  obtain ⟨xs, h1, h2⟩ := h
  obtain ⟨a, vs, rfl, hq, hr⟩ := view_seq e h1 w
  have ev := intsOf_reps h2 hr
  subst ev
  rcases hq with ⟨_, q⟩ | ⟨_, q, _⟩
  · exact ⟨a, rfl, .inl q⟩
  · exact ⟨a, rfl, .inr q⟩
theorem iter_intTup {prog : Program} {w : World} {A : Around} {E : Value → Shared → Prop} {s : Shared} {l : Addr} {xs : Array (Int × Tok)} {Q : Value → Shared → Prop} (hl : s.heap.IsTuple l (intItems xs))
    (h : ∀ s₂ : Shared, s₂ = { s with heap := s.heap.push { cls := .type "tuple_iterator", data := .fields #[.ref l, .int 0 0] } } →
      (s₂.heap.IsTupleIter s.heap.objs.size l 0 ∧ s₂.heap.IsTuple l (intItems xs)) → (∀ b ∈ [s.heap.objs.size, l], b < s₂.heap.objs.size) → l ≠ s.heap.objs.size → Q (.ref s.heap.objs.size) s₂) :
    wpAny (model prog w) A (pyIter (.ref l)) Q E s := by
  have hlt : l < s.heap.objs.size := by obtain ⟨_, e, _⟩ := hl; exact Heap.lt_size e
  refine wpAny_pyIter_tuple hl (h _ rfl ⟨⟨_, Heap.get?_push_size _ rfl, rfl, rfl⟩, hl.push _⟩ (fun b hb => ?_) (Nat.ne_of_lt hlt))
  show b < (s.heap.push _).objs.size
  rw [Heap.size_push]
  rcases List.mem_cons.mp hb with rfl | hb
  · exact Nat.lt_succ_self _
  · rcases List.mem_cons.mp hb with rfl | hb
    · exact Nat.lt_succ_of_lt hlt
    · cases hb
theorem sum_tup {prog : Program} {w : World} {A : Around} {E : Value → Shared → Prop} {s : Shared} {l : Addr} {its : List Value} {ns : List Int} {Q : Value → Shared → Prop} (hh : A.handled = none) (hl : s.heap.IsTuple l its.toArray) (hi : IntsAre its ns)
    (h : ∀ h' tk t', (∀ b o, s.heap.get? b = some o → h'.get? b = some o) → Q (.int ns.sum t') { s with heap := h', toks := tk }) : wpAny (model prog w) A (call (.builtin "sum") [.ref l]) Q E s := by
  obtain ⟨xs, e⟩ := hi.allInts.items
  have hn : numsOf (intItems xs).toList = ns := by rw [← e]; exact hi.numsOf
  rw [nums_intItems] at hn
  rw [e] at hl
  refine call_sum_walkG (iter_intTup hl fun s₂ e st hfp hlI => ?_)
  subst e
  refine ⟨_, _, _, _, _, _, numAt xs, rfl, Walks.tuple (A := A.in1) hh _ l hlI (intItems xs), st, hfp, (fun _ _ => intItems_at), fun h' tk t' hk => ?_⟩
  have q := h h' tk t' (fun b o eo => hk b o (fun hm => by
    rcases List.mem_cons.mp hm with e1 | hm
    · exact absurd (e1 ▸ Heap.lt_size eo) (Nat.lt_irrefl _)
    · cases hm) (Heap.get?_push_of_some _ eo))
  have hs : (intItems xs).size = xs.size := by simp [intItems]
  rw [hs, preSum_eq, List.take_of_length_le (by simp), hn]
  exact q
theorem d_sum (hc : X.calm = true) : CallR X (.builtin "sum") (rD X.K (.bi .sum)) := by
  intro pins s σ H vs us Q I r h
  obtain ⟨Hf, ds, d, e, hv, hp, k⟩ := h
  match ds, hv, hp with
  | [x], hv, hp =>
    obtain ⟨v, rfl, w⟩ := hv.one
    simp only [prD, biD, Option.map_eq_some_iff] at hp
    obtain ⟨ns, hx, rfl⟩ := hp
    obtain ⟨a, rfl, hq⟩ := seq_ints e hx w
    have kk := k _ _ _ (Grow.refl e) (show Rep X.K Hf (.int ns.sum) (.int ns.sum) from rfl)
    rcases hq with hq | hq
    · exact cr_sum hc pins s σ H _ us Q I r ⟨a, ns, rfl, hq, kk⟩
    · obtain ⟨its, rv, ht, _⟩ := I.tuple hq
      rw [Vals.ref1 r]
      exact sum_tup (I.ok.hd hc) (show s.heap.IsTuple a its.toArray from ht) rv.ints fun h' tk t' hk => ⟨.int _, H, I.kept hk, ⟨_, rfl⟩, kk⟩
theorem d_min (hc : X.calm = true) : CallR X (.builtin "min") (rD X.K (.bi .min)) := by
  intro pins s σ H vs us Q I r h
  obtain ⟨Hf, ds, d, e, hv, hp, k⟩ := h
  match ds, hv, hp with
  | [x], hv, hp =>
    obtain ⟨v, rfl, w⟩ := hv.one
    cases x with
    | list ys =>
      simp only [prD, biD, Option.bind_eq_some_iff, Option.map_eq_some_iff] at hp
      obtain ⟨ns, hx, m, hm, rfl⟩ := hp
      obtain ⟨xs, hy, hx⟩ := hx
      cases hy
      obtain ⟨a, us', rfl, h1, h2⟩ := w
      have ev := intsOf_reps hx h2
      subst ev
      have hne : 0 < ns.length := by
        cases ns with
        | nil => cases hm
        | cons _ _ => simp
      refine cr_min hc pins s σ H _ us Q I r ⟨a, ns, rfl, h1, hne, fun z h1 h2 => ?_⟩
      rw [least_of hm h1 h2]
      exact k _ _ _ (Grow.refl e) rfl
    | _ => exfalso; revert hp; simp [prD, biD, lstOf]
  | [x, y], hv, hp =>
    obtain ⟨v, u, rfl, w1, w2⟩ := views_two hv
    cases x <;> cases y <;> first | (exfalso; simp [prD, biD] at hp; done) | skip
    rename_i i j
    cases hp
    exact call_min2 hc pins s σ H _ us Q I r ⟨i, j, by rw [show v = _ from w1, show u = _ from w2], k _ _ _ (Grow.refl e) rfl⟩
  | [], hv, hp => exfalso; simp [prD, biD] at hp
  | _ :: _ :: _ :: _, hv, hp => exfalso; simp [prD, biD] at hp
theorem d_max (hc : X.calm = true) : CallR X (.builtin "max") (rD X.K (.bi .max)) := by
  intro pins s σ H vs us Q I r h
  obtain ⟨Hf, ds, d, e, hv, hp, k⟩ := h
  match ds, hv, hp with
  | [x], hv, hp =>
    obtain ⟨v, rfl, w⟩ := hv.one
    cases x with
    | list ys =>
      simp only [prD, biD, Option.bind_eq_some_iff, Option.map_eq_some_iff] at hp
      obtain ⟨ns, hx, m, hm, rfl⟩ := hp
      obtain ⟨xs, hy, hx⟩ := hx
      cases hy
      obtain ⟨a, us', rfl, h1, h2⟩ := w
      have ev := intsOf_reps hx h2
      subst ev
      have hne : 0 < ns.length := by
        cases ns with
        | nil => cases hm
        | cons _ _ => simp
      refine cr_max hc pins s σ H _ us Q I r ⟨a, ns, rfl, h1, hne, fun z h1 h2 => ?_⟩
      rw [most_of hm h1 h2]
      exact k _ _ _ (Grow.refl e) rfl
    | _ => exfalso; revert hp; simp [prD, biD, lstOf]
  | [x, y], hv, hp =>
    obtain ⟨v, u, rfl, w1, w2⟩ := views_two hv
    cases x <;> cases y <;> first | (exfalso; simp [prD, biD] at hp; done) | skip
    rename_i i j
    cases hp
    exact call_max2 hc pins s σ H _ us Q I r ⟨i, j, by rw [show v = _ from w1, show u = _ from w2], k _ _ _ (Grow.refl e) rfl⟩
  | [], hv, hp => exfalso; simp [prD, biD] at hp
  | _ :: _ :: _ :: _, hv, hp => exfalso; simp [prD, biD] at hp
theorem d_all (hc : X.calm = true) : CallR X (.builtin "all") (rD X.K (.bi .all)) := by
  intro pins s σ H vs us Q I r h
  obtain ⟨Hf, ds, d, e, hv, hp, k⟩ := h
  match ds, hv, hp with
  | [x], hv, hp =>
    obtain ⟨v, rfl, w⟩ := hv.one
    cases x with
    | list ys =>
      simp only [prD, biD, Option.bind_eq_some_iff, Option.map_eq_some_iff] at hp
      obtain ⟨bs, ⟨xs, hy, hx⟩, rfl⟩ := hp
      cases hy
      obtain ⟨a, us', rfl, h1, h2⟩ := w
      have ev := boolsOf_reps hx h2
      subst ev
      exact cr_all hc pins s σ H _ us Q I r ⟨a, bs, rfl, h1, k _ _ _ (Grow.refl e) rfl⟩
    | _ => exfalso; revert hp; simp [prD, biD, lstOf]
theorem d_any (hc : X.calm = true) : CallR X (.builtin "any") (rD X.K (.bi .any)) := by
  intro pins s σ H vs us Q I r h
  obtain ⟨Hf, ds, d, e, hv, hp, k⟩ := h
  match ds, hv, hp with
  | [x], hv, hp =>
    obtain ⟨v, rfl, w⟩ := hv.one
    cases x with
    | list ys =>
      simp only [prD, biD, Option.bind_eq_some_iff, Option.map_eq_some_iff] at hp
      obtain ⟨bs, ⟨xs, hy, hx⟩, rfl⟩ := hp
      cases hy
      obtain ⟨a, us', rfl, h1, h2⟩ := w
      have ev := boolsOf_reps hx h2
      subst ev
      exact cr_any hc pins s σ H _ us Q I r ⟨a, bs, rfl, h1, k _ _ _ (Grow.refl e) rfl⟩
    | _ => exfalso; revert hp; simp [prD, biD, lstOf]
theorem d_tuple : CallR X (.type "tuple") (rD X.K (.bi .tuple)) := by
  intro pins s σ H vs us Q I r h
  obtain ⟨Hf, ds, d, e, hv, hp, k⟩ := h
  match ds, hv, hp with
  | [x], hv, hp =>
    obtain ⟨v, rfl, w⟩ := hv.one
    simp only [prD, biD, Option.map_eq_some_iff] at hp
    obtain ⟨xs, hx, rfl⟩ := hp
    obtain ⟨a, ys, rfl, hq, h2⟩ := view_seq e hx w
    refine call_tuple_of pins s σ H _ us Q I r ⟨a, ys, rfl, ?_⟩
    rcases hq with ⟨_, q⟩ | ⟨_, q, q2⟩
    · exact .inl ⟨q, fun l hn => k _ _ _ (Grow.upd e hn) ⟨l, ys, rfl, .inl (.inl upd_same), Reps.mono (same_upd (Same.free e hn)) _ _ h2⟩⟩
    · exact .inr ⟨q, k _ _ _ (Grow.refl e) ⟨a, ys, rfl, q2, h2⟩⟩
theorem d_list : CallR X (.type "list") (rD X.K (.bi .list)) := by
  intro pins s σ H vs us Q I r h
  obtain ⟨Hf, ds, d, e, hv, hp, k⟩ := h
  match ds, hv, hp with
  | [x], hv, hp =>
    obtain ⟨v, rfl, w⟩ := hv.one
    simp only [prD, biD, Option.map_eq_some_iff] at hp
    obtain ⟨xs, hx, rfl⟩ := hp
    obtain ⟨a, ys, rfl, hq, h2⟩ := view_seq e hx w
    refine call_list_of pins s σ H _ us Q I r ⟨a, ys, rfl, ?_, fun l hn => k _ _ _ (Grow.upd e hn) ⟨l, ys, rfl, upd_same, Reps.mono (same_upd (Same.free e hn)) _ _ h2⟩⟩
    rcases hq with ⟨_, q⟩ | ⟨_, q, _⟩
    · exact .inl q
    · exact .inr q
def tyName : Ty → String
  | .int => "int" | .bool => "bool" | .tuple => "tuple" | .str => "str" | .list => "list"
theorem ty_of {Hf H : Hp} {d : PyData} {v : V} (e : Same Hf H) (w : View X.K H Hf d v) : ∃ n, TyX X.K H v (.type n) ∧ ∀ t, kitB n (tyName t) = some (isiD t d) := by
  cases d with
  | none => exact ⟨"NoneType", by rw [show v = _ from w]; exact .base .non, fun t => by cases t <;> decide +kernel⟩
  | bool b => exact ⟨"bool", by rw [show v = _ from w]; exact .base (.bl b), fun t => by cases t <;> (simp only [isiD]; decide +kernel)⟩
  | int i => exact ⟨"int", by rw [show v = _ from w]; exact .base (.int i), fun t => by cases t <;> (simp only [isiD]; decide +kernel)⟩
  | str x => exact ⟨"str", by rw [show v = _ from w]; exact .base (.str x), fun t => by cases t <;> (simp only [isiD]; decide +kernel)⟩
  | list ds =>
    obtain ⟨a, vs, rfl, h1, h2⟩ := w
    refine ⟨"list", ?_, fun t => by cases t <;> (simp only [isiD]; decide +kernel)⟩
    rcases h1 with (h1 | ⟨o, h1⟩) | ⟨o, its, n, h1, h2, _⟩
    · exact .base (.lst h1)
    · exact .base (.frz h1)
    · exact .kList h1 h2
  | tuple ds =>
    obtain ⟨a, vs, rfl, h1, h2⟩ := w
    refine ⟨"tuple", ?_, fun t => by cases t <;> (simp only [isiD]; decide +kernel)⟩
    rcases sqT_mono e h1 with (h1 | ⟨o, h1⟩) | ⟨o, its, n, h1, h2, _⟩
    · exact .base (.tup h1)
    · exact .fTuple h1
    · exact .kTuple h1 h2
  | dict _ => exact False.elim w
/-- isinstance(x, T), T by its name -/
def rIsiD (K : PySem.W.Frag) (t : Ty) : List V → Hp → VK → Prop := fun vs H Q => ∃ x, vs = [x, .ty (tyName t)] ∧ rD K (.isi t) [x] H Q
theorem d_isi (t : Ty) : CallR X (.builtin "isinstance") (rIsiD X.K t) := by
  intro pins s σ H vs us Q I r h
  obtain ⟨x, rfl, Hf, ds, d, e, hv, hp, k⟩ := h
  obtain ⟨d1, rfl, w⟩ := views_v1 hv
  cases hp
  obtain ⟨n, ty, hk⟩ := ty_of e w
  exact call_isi pins s σ H _ us Q I r ⟨x, .ty (tyName t), .type n, .type (tyName t), isiD t d1, rfl, .ty _, ty, kit_ty (hk t), k _ _ _ (Grow.refl e) rfl⟩
def rIsND (K : PySem.W.Frag) (n : Bool) : R2 := fun x y H Q => y = .non ∧ rD K (.isN n) [x] H Q
theorem isN_data {Hf H : Hp} {d : PyData} {v : V} (w : View X.K H Hf d v) : decide (v = .non) = isND d := by
  cases d with
  | none => rw [show v = _ from w]; rfl
  | bool _ => rw [show v = _ from w]; rfl
  | int _ => rw [show v = _ from w]; rfl
  | str _ => rw [show v = _ from w]; rfl
  | list _ => obtain ⟨a, vs, rfl, _⟩ := w; rfl
  | tuple _ => obtain ⟨a, vs, rfl, _⟩ := w; rfl
  | dict _ => exact False.elim w
theorem d_isN : OpR X (compareOp .Is) (rIsND X.K false) := by
  intro pins s σ H x y v u Q I rx ry h
  obtain ⟨rfl, Hf, ds, d, e, hv, hp, k⟩ := h
  obtain ⟨d1, rfl, w⟩ := views_v1 hv
  cases hp
  refine op_isN pins s σ H x _ v u Q I rx ry ⟨rfl, ?_⟩
  rw [isN_data w]
  exact k _ _ _ (Grow.refl e) (by simp only [Rep, Bool.false_bne, Bool.true_bne])
theorem d_notN : OpR X (compareOp .IsNot) (rIsND X.K true) := by
  intro pins s σ H x y v u Q I rx ry h
  obtain ⟨rfl, Hf, ds, d, e, hv, hp, k⟩ := h
  obtain ⟨d1, rfl, w⟩ := views_v1 hv
  cases hp
  refine op_notN pins s σ H x _ v u Q I rx ry ⟨rfl, ?_⟩
  rw [isN_data w]
  exact k _ _ _ (Grow.refl e) (by simp only [Rep, Bool.false_bne, Bool.true_bne])
def rIsBD (K : PySem.W.Frag) (b n : Bool) : R2 := fun x y H Q => y = .bl b ∧ rD K (.isB b n) [x] H Q
theorem d_isB (b : Bool) : OpR X (compareOp .Is) (rIsBD X.K b false) := by
  intro pins s σ H x y v u Q I rx ry h
  obtain ⟨rfl, Hf, ds, d, e, hv, hp, k⟩ := h
  obtain ⟨d1, rfl, w⟩ := views_v1 hv
  cases d1 <;> first | (exfalso; simp [prD] at hp; done) | skip
  rename_i c
  cases hp
  exact op_isBl pins s σ H x _ v u Q I rx ry ⟨c, b, w, rfl, k _ _ _ (Grow.refl e) (by simp only [Rep, Bool.false_bne]; cases c <;> cases b <;> rfl)⟩
theorem d_notB (b : Bool) : OpR X (compareOp .IsNot) (rIsBD X.K b true) := by
  intro pins s σ H x y v u Q I rx ry h
  obtain ⟨rfl, Hf, ds, d, e, hv, hp, k⟩ := h
  obtain ⟨d1, rfl, w⟩ := views_v1 hv
  cases d1 <;> first | (exfalso; simp [prD] at hp; done) | skip
  rename_i c
  cases hp
  exact op_notBl pins s σ H x _ v u Q I rx ry ⟨c, b, w, rfl, k _ _ _ (Grow.refl e) (by simp only [Rep, Bool.true_bne]; cases c <;> cases b <;> rfl)⟩
end
/-! ### sorted(set(t)) -/
theorem insI_mem (x : Int) : ∀ (l : List Int) (y : Int), y ∈ insI x l ↔ y = x ∨ y ∈ l
  | [], y => by simp [insI]
  | z :: r, y => by
    unfold insI
    split
    · simp
    · split
      · rename_i h; subst h; simp
      · rw [List.mem_cons, insI_mem x r y, List.mem_cons]
        constructor <;> (intro h; rcases h with h | h | h <;> simp [h])
theorem insI_sorted (x : Int) : ∀ {l : List Int}, l.Pairwise (· < ·) → (insI x l).Pairwise (· < ·)
  | [], _ => by simp [insI]
  | z :: r, h => by
    have h1 := List.pairwise_cons.mp h
    unfold insI
    split
    · rename_i q
      refine List.pairwise_cons.mpr ⟨fun y hy => ?_, h⟩
      rcases List.mem_cons.mp hy with rfl | hy
      · exact q
      · exact Int.lt_trans q (h1.1 y hy)
    · split
      · exact h
      · rename_i q1 q2
        refine List.pairwise_cons.mpr ⟨fun y hy => ?_, insI_sorted x h1.2⟩
        rcases (insI_mem x r y).mp hy with rfl | hy
        · omega
        · exact h1.1 y hy
theorem ssetI_sorted (l : List Int) : (ssetI l).Pairwise (· < ·) := by
  induction l with
  | nil => exact List.Pairwise.nil
  | cons a l ih => exact insI_sorted a ih
theorem ssetI_mem (l : List Int) (y : Int) : y ∈ ssetI l ↔ y ∈ l := by
  induction l with
  | nil => exact Iff.rfl
  | cons a l ih =>
    show y ∈ insI a (ssetI l) ↔ _
    rw [insI_mem, ih, List.mem_cons]
theorem sorted_unique : ∀ {l m : List Int}, l.Pairwise (· < ·) → m.Pairwise (· < ·) → (∀ y, y ∈ l ↔ y ∈ m) → l = m
  | [], [], _, _, _ => rfl
  | [], b :: m, _, _, h => by have := (h b).mpr (List.mem_cons_self ..); cases this
  | a :: l, [], _, _, h => by have := (h a).mp (List.mem_cons_self ..); cases this
  | a :: l, b :: m, h1, h2, h => by
    have p1 := List.pairwise_cons.mp h1
    have p2 := List.pairwise_cons.mp h2
    have e : a = b := by
      rcases List.mem_cons.mp ((h a).mp (List.mem_cons_self ..)) with q | q
      · exact q
      · rcases List.mem_cons.mp ((h b).mpr (List.mem_cons_self ..)) with q2 | q2
        · exact q2.symm
        · have := p2.1 a q; have := p1.1 b q2; omega
    subst e
    congr 1
    refine sorted_unique p1.2 p2.2 fun y => ⟨fun hy => ?_, fun hy => ?_⟩
    · rcases List.mem_cons.mp ((h y).mp (List.mem_cons_of_mem _ hy)) with q | q
      · have := p1.1 y hy; omega
      · exact q
    · rcases List.mem_cons.mp ((h y).mpr (List.mem_cons_of_mem _ hy)) with q | q
      · have := p2.1 y hy; omega
      · exact q
theorem ssetI_len (l : List Int) : (ssetI l).length ≤ l.length := by
  induction l with
  | nil => exact Nat.le_refl _
  | cons a l ih =>
    have : ∀ (x : Int) (m : List Int), (insI x m).length ≤ m.length + 1 := fun x m => by
      induction m with
      | nil => exact Nat.le_refl _
      | cons b m ihm =>
        unfold insI
        split
        · simp
        · split
          · simp
          · simp only [List.length_cons]; omega
    have q := this a (ssetI l)
    show (insI a (ssetI l)).length ≤ l.length + 1
    omega
def rSetI (K : PySem.W.Frag) (w : World) : List V → Hp → VK → Prop := fun xs H Q => ∃ (p : Addr) (ns : List Int), xs = [.ref p] ∧ SqT K H p (ns.map V.int) ∧ ns.length ≤ 1000 ∧ ∀ q c, H q = none → c ≤ ns.length → Q (.ref q) (upd H q (SetO w q (fun j => decide (j ∈ ns)) c))
section
variable {X : Cx}
theorem cr_setI (hc : X.calm = true) : CallR X (.type "set") (rSetI X.K X.w) := by
  intro pins s σ H xs us Q I r h
  obtain ⟨p, ns, rfl, hq, hl, q⟩ := h
  rw [Vals.ref1 r]
  obtain ⟨its, rv, pt, hz⟩ := I.tuple hq
  have hi : IntsAre its.toArray.toList ns := Vals.ints rv
  refine call_set_tupI ns (I.ok.hd hc) (show s.heap.IsTuple p its.toArray from pt) hi (by unfold scanBound; omega) fun h' tk c R1 hcn k => ?_
  have hn : H s.heap.objs.size = none := I.hok.fresh (Nat.le_refl _)
  exact ⟨.ref _, upd H s.heap.objs.size (SetO X.w s.heap.objs.size (fun j => decide (j ∈ ns)) c), I.laid (t' := tk) (fun b u e => k b u e) (Nat.le_refl _) (setO_new R1), rfl, q _ _ hn hcn⟩
theorem sset_at {d r : PyData} (h : prD .sset [d] = some r) : ∃ xs ns, d = .tuple xs ∧ intsOf xs = some ns ∧ ns.length < 64 ∧ r = .list ((ssetI ns).map .int) := by
  cases d <;> first | (exact absurd h (by intro z; cases z)) | skip
  rename_i xs
  have h2 : ((intsOf xs).bind fun ns => if ns.length < 64 then some (PyData.list ((ssetI ns).map .int)) else none) = some r := h
  rw [Option.bind_eq_some_iff] at h2
  obtain ⟨ns, h3, h4⟩ := h2
  split at h4
  · rename_i h64
    exact ⟨xs, ns, rfl, h3, h64, (Option.some.inj h4).symm⟩
  · cases h4
theorem sset_of {us : List V} {H : Hp} {Q : VK} (h : rD X.K .sset us H Q) : rSetI X.K X.w us H (fun v H2 => rSortedSet X.w [v] H2 Q) := by
  obtain ⟨Hf, ds, d, e, hv, hp, k⟩ := h
  match ds, hv, hp with
  | [dd], hv, hp =>
      obtain ⟨v, hx, w⟩ := hv.one
      subst hx
      obtain ⟨xs, ns, rfl, hn, h64, rfl⟩ := sset_at hp
      obtain ⟨a, vs, rfl, hq, h2⟩ := w
      have hvs := intsOf_reps hn h2
      subst hvs
      refine ⟨a, ns, rfl, sqT_mono e hq, by omega, fun q c hq0 hc => ?_⟩
      refine ⟨q, _, c, rfl, upd_same, by omega, fun ms p hs hm hl hp => ?_⟩
      have em : ms = ssetI ns := sorted_unique hs (ssetI_sorted ns) fun y => by rw [hm, ssetI_mem]; simp
      subst em
      have hpq : p ≠ q := fun z => by rw [z, upd_same] at hp; cases hp
      have hp0 : H p = none := by rw [upd_ne hpq] at hp; exact hp
      have g1 := Grow.upd (o := .lst ((ssetI ns).map V.int)) e hp0
      refine k _ _ (upd Hf p (.lst ((ssetI ns).map V.int))) ⟨fun b o q1 => ?_, g1.ff, fun b o q1 => ?_, g1.new⟩ ⟨p, _, rfl, upd_same, Reps.ints _⟩
      · have nb : b ≠ p := fun z => by rw [z, hp0] at q1; cases q1
        have nq : b ≠ q := fun z => by rw [z, hq0] at q1; cases q1
        rw [upd_ne nb, upd_ne nq]
        exact q1
      · by_cases nb : b = p
        · subst nb
          rw [upd_same] at q1 ⊢
          exact q1
        · rw [upd_ne nb] at q1 ⊢
          have := e _ _ q1
          have nq : b ≠ q := fun z => by rw [z, hq0] at this; cases this
          rw [upd_ne nq]
          exact this
  | [], hv, hp => exact absurd hp (by intro z; cases z)
  | a :: b :: r, hv, hp => exact absurd hp (by intro z; cases a <;> cases z)
end
end CD

set_option Elab.async false
set_option linter.all false
set_option maxRecDepth 100000
set_option autoImplicit false
/-! Judgements: an expression of the text and its term of the small language. -/
namespace CD
open PySem PySem.Spec L2
open PyProof.Rows hiding St

/-! ### what is only looked at changes nothing -/
theorem putAll_none : ∀ (is : List (Option Nat)) (ss : List Slot) (ρ ρ' : Rho), (∀ i ∈ is, i = none) → putAll is ss ρ = some ρ' → ρ' = ρ
  | [], [], ρ, ρ', _, h => by simpa [putAll] using h.symm
  | [], _ :: _, ρ, ρ', _, h => by simp [putAll] at h
  | none :: is, [], ρ, ρ', _, h => by simp [putAll] at h
  | none :: is, s :: ss, ρ, ρ', hn, h => putAll_none is ss ρ ρ' (fun i hi => hn i (by simp [hi])) (by simpa [putAll] using h)
  | some i :: is, _, ρ, ρ', hn, h => by have := hn (some i) (by simp); cases this
mutual
theorem ev_strict (Φ : PhiT) : ∀ (e : IE) (ρ : Rho) (d : PyData) (ρ' : Rho), ev Φ e true ρ = some (d, ρ') → ρ' = ρ
  | .var i, ρ, d, ρ', h => by
    simp only [ev] at h
    split at h
    · exact (congrArg Prod.snd (Option.some.inj h)).symm
    · simp at h
    · cases h
  | .cst _, ρ, d, ρ', h => by
    simp only [ev] at h
    exact (congrArg Prod.snd (Option.some.inj h)).symm
  | .ifx c a b, ρ, d, ρ', h => by
    simp only [ev] at h
    cases hc : ev Φ c true ρ with
    | none => rw [hc] at h; simp [asB] at h
    | some p =>
      obtain ⟨x, ρ1⟩ := p
      have e1 := ev_strict Φ c ρ x ρ1 hc
      subst e1
      rw [hc] at h
      cases x <;> simp only [asB] at h <;> first | (cases h; done) | skip
      rename_i k
      cases k
      · exact ev_strict Φ b _ d ρ' h
      · exact ev_strict Φ a _ d ρ' h
  | .no a, ρ, d, ρ', h => by
    simp only [ev] at h
    cases hc : ev Φ a true ρ with
    | none => rw [hc] at h; cases h
    | some p =>
      obtain ⟨x, ρ1⟩ := p
      have e1 := ev_strict Φ a ρ x ρ1 hc
      subst e1
      rw [hc] at h
      cases x <;> first | (cases h; done) | skip
      exact (congrArg Prod.snd (Option.some.inj h)).symm
  | .an a b, ρ, d, ρ', h => by
    simp only [ev] at h
    cases hc : ev Φ a true ρ with
    | none => rw [hc] at h; cases h
    | some p =>
      obtain ⟨x, ρ1⟩ := p
      have e1 := ev_strict Φ a ρ x ρ1 hc
      subst e1
      rw [hc] at h
      cases x <;> first | (cases h; done) | skip
      rename_i k
      cases k
      · exact (congrArg Prod.snd (Option.some.inj h)).symm
      · exact ev_strict Φ b _ d ρ' h
  | .orr a b, ρ, d, ρ', h => by
    simp only [ev] at h
    cases hc : ev Φ a true ρ with
    | none => rw [hc] at h; cases h
    | some p =>
      obtain ⟨x, ρ1⟩ := p
      have e1 := ev_strict Φ a ρ x ρ1 hc
      subst e1
      rw [hc] at h
      cases x <;> first | (cases h; done) | skip
      rename_i k
      cases k
      · exact ev_strict Φ b _ d ρ' h
      · exact (congrArg Prod.snd (Option.some.inj h)).symm
  | .tup es, ρ, d, ρ', h => by
    simp only [ev] at h
    cases hc : evs Φ es true ρ with
    | none => rw [hc] at h; cases h
    | some p =>
      obtain ⟨x, ρ1⟩ := p
      have e1 := evs_strict Φ es ρ x ρ1 hc
      subst e1
      rw [hc] at h
      dsimp only at h
      split at h
      · exact (congrArg Prod.snd (Option.some.inj h)).symm
      · cases h
  | .lst es, ρ, d, ρ', h => by
    simp only [ev] at h
    cases hc : evs Φ es true ρ with
    | none => rw [hc] at h; cases h
    | some p =>
      obtain ⟨x, ρ1⟩ := p
      have e1 := evs_strict Φ es ρ x ρ1 hc
      subst e1
      rw [hc] at h
      dsimp only at h
      split at h
      · exact (congrArg Prod.snd (Option.some.inj h)).symm
      · cases h
  | .pr true o es, ρ, d, ρ', h => by
    simp only [ev] at h
    cases hc : evw Φ es ρ with
    | none => rw [hc] at h; cases h
    | some x =>
      rw [hc] at h
      simp only [Option.map_eq_some_iff] at h
      obtain ⟨_, _, h⟩ := h
      exact (congrArg Prod.snd h).symm
  | .pr false o es, ρ, d, ρ', h => by
    simp only [ev] at h
    cases hc : evs Φ es true ρ with
    | none => rw [hc] at h; cases h
    | some p =>
      obtain ⟨x, ρ1⟩ := p
      have e1 := evs_strict Φ es ρ x ρ1 hc
      subst e1
      rw [hc] at h
      simp only [Option.map_eq_some_iff] at h
      obtain ⟨_, _, h⟩ := h
      exact (congrArg Prod.snd h).symm
  | .chain o1 o2 a b c, ρ, d, ρ', h => by
    simp only [ev] at h
    cases ha : ev Φ a true ρ with
    | none => rw [ha] at h; cases h
    | some p =>
      obtain ⟨x, ρ1⟩ := p
      have e1 := ev_strict Φ a ρ x ρ1 ha
      subst e1
      rw [ha] at h
      dsimp only at h
      cases hb : ev Φ b true ρ1 with
      | none => rw [hb] at h; cases h
      | some p =>
        obtain ⟨y, ρ2⟩ := p
        have e1 := ev_strict Φ b ρ1 y ρ2 hb
        subst e1
        rw [hb] at h
        dsimp only at h
        split at h
        · cases hc : ev Φ c true ρ2 with
          | none => rw [hc] at h; cases h
          | some p =>
            obtain ⟨z, ρ3⟩ := p
            have e1 := ev_strict Φ c ρ2 z ρ3 hc
            subst e1
            rw [hc] at h
            simp only [Option.map_eq_some_iff] at h
            obtain ⟨_, _, h⟩ := h
            exact (congrArg Prod.snd h).symm
        · exact (congrArg Prod.snd (Option.some.inj h)).symm
        · cases h
  | .call f as, ρ, d, ρ', h => by
    simp only [ev] at h
    cases hc : eva Φ as true ρ with
    | none => rw [hc] at h; cases h
    | some p =>
      obtain ⟨p, ρ1⟩ := p
      obtain ⟨e1, hn⟩ := eva_strict Φ as ρ p ρ1 hc
      subst e1
      rw [hc] at h
      dsimp only at h
      split at h
      · rename_i r hr
        split at h
        · rename_i ρ2 h2
          have e2 := putAll_none _ _ _ _ (fun i hi => by
            obtain ⟨q, hq, rfl⟩ := List.mem_map.mp hi
            exact hn q hq) h2
          rw [← e2]
          exact (congrArg Prod.snd (Option.some.inj h)).symm
        · cases h
      · cases h
  | .comp .., ρ, d, ρ', h => by
    simp [ev] at h
theorem evs_strict (Φ : PhiT) : ∀ (es : IEs) (ρ : Rho) (ds : List PyData) (ρ' : Rho), evs Φ es true ρ = some (ds, ρ') → ρ' = ρ
  | .n, ρ, ds, ρ', h => by
    simp only [evs] at h
    exact (congrArg Prod.snd (Option.some.inj h)).symm
  | .c e r, ρ, ds, ρ', h => by
    simp only [evs] at h
    cases hc : ev Φ e true ρ with
    | none => rw [hc] at h; cases h
    | some p =>
      obtain ⟨x, ρ1⟩ := p
      have e1 := ev_strict Φ e ρ x ρ1 hc
      subst e1
      rw [hc] at h
      dsimp only at h
      cases hr : evs Φ r true ρ1 with
      | none => rw [hr] at h; cases h
      | some p =>
        obtain ⟨xs, ρ2⟩ := p
        have e1 := evs_strict Φ r ρ1 xs ρ2 hr
        subst e1
        rw [hr] at h
        exact (congrArg Prod.snd (Option.some.inj h)).symm
theorem eva_strict (Φ : PhiT) : ∀ (as : IAs) (ρ : Rho) (p : List (Slot × Option Nat)) (ρ' : Rho), eva Φ as true ρ = some (p, ρ') → ρ' = ρ ∧ ∀ q ∈ p, q.2 = none
  | .n, ρ, ds, ρ', h => by
    simp only [eva] at h
    cases h
    exact ⟨rfl, by simp⟩
  | .v e r, ρ, ds, ρ', h => by
    simp only [eva] at h
    cases hc : ev Φ e true ρ with
    | none => rw [hc] at h; cases h
    | some p =>
      obtain ⟨x, ρ1⟩ := p
      have e1 := ev_strict Φ e ρ x ρ1 hc
      subst e1
      rw [hc] at h
      dsimp only at h
      cases hr : eva Φ r true ρ1 with
      | none => rw [hr] at h; cases h
      | some p =>
        obtain ⟨xs, ρ2⟩ := p
        obtain ⟨e1, hn⟩ := eva_strict Φ r ρ1 xs ρ2 hr
        subst e1
        rw [hr] at h
        cases h
        refine ⟨rfl, fun q hq => ?_⟩
        rcases List.mem_cons.mp hq with rfl | hq
        · rfl
        · exact hn q hq
  | .b i r, ρ, ds, ρ', h => by
    simp [eva] at h
end

/-! ### readings -/
section
variable (K : PySem.W.Frag)
def tEv (f : Rho → Option (PyData × Rho)) : TE := fun σ H Q => ∃ R B ρ Hf d ρ', StOk K R B ρ σ H Hf ∧ f ρ = some (d, ρ') ∧ ∀ v H' Hf', StOk K R B ρ' σ H' Hf' → Same Hf Hf' → Rep K Hf' d v → Q v H'
def tEvT (f : Rho → Option (Bool × Rho)) : TT := fun σ H Q => ∃ R B ρ Hf b ρ', StOk K R B ρ σ H Hf ∧ f ρ = some (b, ρ') ∧ ∀ H' Hf', StOk K R B ρ' σ H' Hf' → Same Hf Hf' → Q b H'
def tEvs (f : Rho → Option (List PyData × Rho)) : TA := fun σ H Q => ∃ R B ρ Hf ds ρ', StOk K R B ρ σ H Hf ∧ f ρ = some (ds, ρ') ∧ ∀ vs H' Hf', StOk K R B ρ' σ H' Hf' → Same Hf Hf' → Reps K Hf' ds vs → Q vs H'
/-- looked at -/
def Seen (R : Hp) (B : List (Nat × Addr)) (ρ : Rho) (σ : L2.St) (Hf : Hp) (d : PyData) (v : V) : Prop := ∀ H' Hf', StOk K R B ρ σ H' Hf' → Same Hf Hf' → View K H' Hf' d v
def Seens (R : Hp) (B : List (Nat × Addr)) (ρ : Rho) (σ : L2.St) (Hf : Hp) (ds : List PyData) (vs : List V) : Prop := ∀ H' Hf', StOk K R B ρ σ H' Hf' → Same Hf Hf' → Views K H' Hf' ds vs
def tOd (g : Rho → Option PyData) : TE := fun σ H Q => ∃ R B ρ Hf d, StOk K R B ρ σ H Hf ∧ g ρ = some d ∧ ∀ v H' Hf', StOk K R B ρ σ H' Hf' → Same Hf Hf' → Seen K R B ρ σ Hf' d v → Q v H'
def tOds (g : Rho → Option (List PyData)) : TA := fun σ H Q => ∃ R B ρ Hf ds, StOk K R B ρ σ H Hf ∧ g ρ = some ds ∧ ∀ vs H' Hf', StOk K R B ρ σ H' Hf' → Same Hf Hf' → Seens K R B ρ σ Hf' ds vs → Q vs H'
end
section
variable {X : Cx}
theorem _root_.L2.PE.weak {e : Expr} {t t' : TE} (h : PE X e t) (w : ∀ σ H Q, t' σ H Q → t σ H Q) : PE X e t' := ⟨fun pins s σ H Q I q => h.run pins s σ H Q I (w _ _ _ q)⟩
theorem _root_.L2.PT.weak {e : Expr} {t t' : TT} (h : PT X e t) (w : ∀ σ H Q, t' σ H Q → t σ H Q) : PT X e t' := ⟨fun pins s σ H Q I q => h.run pins s σ H Q I (w _ _ _ q)⟩
theorem _root_.L2.PA.weak {e : List Expr} {t t' : TA} (h : PA X e t) (w : ∀ σ H Q, t' σ H Q → t σ H Q) : PA X e t' := ⟨fun pos pins s σ H Q I q => h.run pos pins s σ H Q I (w _ _ _ q)⟩

variable {Φ : PhiT}
/-- an expression and its term -/
def JE (X : Cx) (Φ : PhiT) (e : Expr) (ie : IE) : Prop := ∀ s, PE X e (tEv X.K (ev Φ ie s))
def JT (X : Cx) (Φ : PhiT) (e : Expr) (ie : IE) : Prop := ∀ s, PT X e (tEvT X.K (fun ρ => asB (ev Φ ie s ρ)))
def odF (Φ : PhiT) (ie : IE) (ρ : Rho) : Option PyData := match varOf ie with | some i => viewR i ρ | none => (ev Φ ie true ρ).map (·.1)
def JO (X : Cx) (Φ : PhiT) (e : Expr) (ie : IE) : Prop := PE X e (tOd X.K (odF Φ ie))
def JEs (X : Cx) (Φ : PhiT) (es : List Expr) (ies : IEs) : Prop := ∀ s, PA X es (tEvs X.K (evs Φ ies s))
def JOs (X : Cx) (Φ : PhiT) (es : List Expr) (ies : IEs) : Prop := PA X es (tOds X.K (evw Φ ies))

theorem je_var {i : Nat} {x : Str} {pos : Pos} (hN : X.N[i]? = some x) (hv : Vis X.env.scope x) (hd : (x == ("__debug__" : Str)) = false) (hcd : (x == ("__classdict__" : Str)) = false) : JE X Φ (.Name x pos) (.var i) := by
  refine fun s => (pe_var hN hv hd hcd).weak fun σ H Q h => ?_
  obtain ⟨R, B, ρ, Hf, d, ρ', S, hf, k⟩ := h
  simp only [ev] at hf
  split at hf
  · rename_i e q
    cases hf
    obtain ⟨v, h1, h2⟩ := S.val i _ q
    exact ⟨v, h1, k v H Hf S (Same.refl _) h2⟩
  · rename_i e q
    split at hf
    · cases hf
    · cases hf
      obtain ⟨v, Hf', h1, h2, h3, h4⟩ := S.thaw q
      exact ⟨v, h1, k v H Hf' h2 h3 h4⟩
  · cases hf
theorem jo_var {i : Nat} {x : Str} {pos : Pos} (hN : X.N[i]? = some x) (hv : Vis X.env.scope x) (hd : (x == ("__debug__" : Str)) = false) (hcd : (x == ("__classdict__" : Str)) = false) : JO X Φ (.Name x pos) (.var i) := by
  refine (pe_var hN hv hd hcd).weak fun σ H Q h => ?_
  obtain ⟨R, B, ρ, Hf, d, S, hf, k⟩ := h
  have hf' : viewR i ρ = some d := hf
  obtain ⟨v, h1, h2⟩ := S.view hf'
  refine ⟨v, h1, k v H Hf S (Same.refl _) fun H' Hf' S' e => ?_⟩
  obtain ⟨v', q1, q2⟩ := S'.view hf'
  rw [h1] at q1
  cases q1
  exact q2
/-- any other operand -/
theorem jo_of {e : Expr} {ie : IE} (h : JE X Φ e ie) (hv : varOf ie = none) : JO X Φ e ie := by
  refine (h true).weak fun σ H Q q => ?_
  obtain ⟨R, B, ρ, Hf, d, S, hf, k⟩ := q
  unfold odF at hf
  rw [hv] at hf
  simp only [Option.map_eq_some_iff] at hf
  obtain ⟨⟨d', ρ'⟩, hf, rfl⟩ := hf
  have e1 := ev_strict Φ ie ρ d' ρ' hf
  subst e1
  exact ⟨R, B, _, Hf, d', _, S, hf, fun v H' Hf' S' e r => k v H' Hf' S' e fun H2 Hf2 S2 e2 => (r.mono e2 _ _).view S2.fh⟩
theorem je_cst {e : Expr} {d : PyData} {v : V} (h : PE X e (tC v)) (hr : ∀ H, Rep X.K H d v) : JE X Φ e (.cst d) := by
  refine fun s => h.weak fun σ H Q q => ?_
  obtain ⟨R, B, ρ, Hf, d', ρ', S, hf, k⟩ := q
  cases hf
  exact k v H Hf S (Same.refl _) (hr Hf)

/-! lists of expressions -/
theorem star_cons {e : Expr} {es : List Expr} {env : Env} (h : ∀ x p, e ≠ .Starred x p) : starEach (e :: es) env = (false, eval e env) :: starEach es env := by
  cases e <;> first | rfl | exact absurd rfl (h _ _)
theorem jes_nil : JEs X Φ [] .n := fun s => pa_nil.weak fun σ H Q q => by
  obtain ⟨R, B, ρ, Hf, ds, ρ', S, hf, k⟩ := q
  cases hf
  exact k [] H Hf S (Same.refl _) rfl
theorem jes_cons {e : Expr} {es : List Expr} {ie : IE} {ies : IEs} (h : JE X Φ e ie) (t : JEs X Φ es ies) (hs : ∀ x p, e ≠ .Starred x p) : JEs X Φ (e :: es) (.c ie ies) := fun s => (pa_cons (h s) (t s) (star_cons hs)).weak fun σ H Q q => by
  obtain ⟨R, B, ρ, Hf, ds, ρ', S, hf, k⟩ := q
  simp only [evs] at hf
  split at hf
  · rename_i d ρ1 h1
    split at hf
    · rename_i ds2 ρ2 h2
      cases hf
      exact ⟨R, B, ρ, Hf, d, ρ1, S, h1, fun v H1 Hf1 S1 e1 r1 => ⟨R, B, ρ1, Hf1, ds2, ρ', S1, h2, fun vs H2 Hf2 S2 e2 r2 => k _ H2 Hf2 S2 (e1.trans e2) (.cons (r1.mono e2 _ _) r2)⟩⟩
    · cases hf
  · cases hf
theorem jos_nil : JOs X Φ [] .n := pa_nil.weak fun σ H Q q => by
  obtain ⟨R, B, ρ, Hf, ds, S, hf, k⟩ := q
  cases hf
  exact k [] H Hf S (Same.refl _) fun _ _ _ _ => rfl
theorem evw_cons {e : IE} {r : IEs} {ρ : Rho} {ds : List PyData} (h : evw Φ (.c e r) ρ = some ds) : ∃ d ds', odF Φ e ρ = some d ∧ evw Φ r ρ = some ds' ∧ ds = d :: ds' := by
  simp only [evw] at h
  split at h
  · rename_i d hd
    simp only [Option.map_eq_some_iff] at h
    obtain ⟨ds', h1, h2⟩ := h
    exact ⟨d, ds', hd, h1, h2.symm⟩
  · cases h
theorem jos_cons {e : Expr} {es : List Expr} {ie : IE} {ies : IEs} (h : JO X Φ e ie) (t : JOs X Φ es ies) (hs : ∀ x p, e ≠ .Starred x p) : JOs X Φ (e :: es) (.c ie ies) := (pa_cons h t (star_cons hs)).weak fun σ H Q q => by
  obtain ⟨R, B, ρ, Hf, ds, S, hf, k⟩ := q
  obtain ⟨d, ds', h1, h2, rfl⟩ := evw_cons hf
  refine ⟨R, B, ρ, Hf, d, S, h1, fun v H1 Hf1 S1 e1 r1 => ⟨R, B, ρ, Hf1, ds', S1, h2, fun vs H2 Hf2 S2 e2 r2 => k _ H2 Hf2 S2 (e1.trans e2) fun H3 Hf3 S3 e3 => ?_⟩⟩
  exact ⟨v, vs, rfl, r1 H3 Hf3 S3 (e2.trans e3), r2 H3 Hf3 S3 e3⟩

/-! an operation -/
theorem views1 {K : PySem.W.Frag} {H Hf : Hp} {d : PyData} {v : V} (h : View K H Hf d v) : Views K H Hf [d] [v] := ⟨v, [], rfl, h, rfl⟩
theorem views2 {K : PySem.W.Frag} {H Hf : Hp} {d e : PyData} {v u : V} (h : View K H Hf d v) (g : View K H Hf e u) : Views K H Hf [d, e] [v, u] := ⟨v, [u], rfl, h, u, [], rfl, g, rfl⟩

theorem rd_of {K : PySem.W.Frag} {o : Prim} {R : Hp} {B : List (Nat × Addr)} {ρ : Rho} {σ : L2.St} {H Hf : Hp} {ds : List PyData} {vs : List V} {d : PyData} {Q : VK} (S : StOk K R B ρ σ H Hf) (w : Views K H Hf ds vs) (hp : prD o ds = some d)
    (k : ∀ v H' Hf', StOk K R B ρ σ H' Hf' → Same Hf Hf' → Rep K Hf' d v → Q v H') : rD K o vs H Q :=
  ⟨Hf, ds, d, S.fh, w, hp, fun v H' Hf' g r => k v H' Hf' (S.grow g) g.ff r⟩
theorem pr1_f {ia : IE} {o : Prim} {s : Bool} {r : V → Hp → VK → Prop} (hr : ∀ x H Q, rD X.K o [x] H Q → r x H Q) (σ : L2.St) (H : Hp) (Q : VK) (q : tEv X.K (ev Φ (.pr false o (.c ia .n)) s) σ H Q) : tUn r (tEv X.K (ev Φ ia s)) σ H Q := by
  obtain ⟨R, B, ρ, Hf, d, ρ', S, hf, k⟩ := q
  simp only [ev, evs] at hf
  split at hf
  · rename_i ds ρ1 h1
    split at h1
    · rename_i d1 ρ2 h2
      cases h1
      simp only [Option.map_eq_some_iff] at hf
      obtain ⟨d0, hp, hf⟩ := hf
      cases hf
      exact ⟨R, B, ρ, Hf, d1, _, S, h2, fun v H1 Hf1 S1 e1 r1 => hr _ _ _ (rd_of S1 (views1 (r1.view S1.fh)) hp fun v2 H2 Hf2 S2 e2 r2 => k v2 H2 Hf2 S2 (e1.trans e2) r2)⟩
    · cases h1
  · cases hf
theorem pr1_t {ia : IE} {o : Prim} {s : Bool} {r : V → Hp → VK → Prop} (hr : ∀ x H Q, rD X.K o [x] H Q → r x H Q) (σ : L2.St) (H : Hp) (Q : VK) (q : tEv X.K (ev Φ (.pr true o (.c ia .n)) s) σ H Q) : tUn r (tOd X.K (odF Φ ia)) σ H Q := by
  obtain ⟨R, B, ρ, Hf, d, ρ', S, hf, k⟩ := q
  simp only [ev] at hf
  split at hf
  · rename_i ds h1
    obtain ⟨d1, ds', h2, h3, rfl⟩ := evw_cons h1
    cases h3
    simp only [Option.map_eq_some_iff] at hf
    obtain ⟨d0, hp, hf⟩ := hf
    cases hf
    exact ⟨R, B, ρ, Hf, d1, S, h2, fun v H1 Hf1 S1 e1 r1 => hr _ _ _ (rd_of S1 (views1 (r1 H1 Hf1 S1 (Same.refl _))) hp fun v2 H2 Hf2 S2 e2 r2 => k v2 H2 Hf2 S2 (e1.trans e2) r2)⟩
  · cases hf
theorem pr2_f {ia ib : IE} {o : Prim} {s : Bool} {r : R2} (hr : ∀ x y H Q, rD X.K o [x, y] H Q → r x y H Q) (σ : L2.St) (H : Hp) (Q : VK) (q : tEv X.K (ev Φ (.pr false o (.c ia (.c ib .n))) s) σ H Q) : tOp r (tEv X.K (ev Φ ia s)) (tEv X.K (ev Φ ib s)) σ H Q := by
  obtain ⟨R, B, ρ, Hf, d, ρ', S, hf, k⟩ := q
  simp only [ev, evs] at hf
  split at hf
  · rename_i ds ρ1 h1
    split at h1
    · rename_i d1 ρ2 h2
      split at h1
      · rename_i ds3 ρ3 h3
        split at h3
        · rename_i d4 ρ4 h4
          cases h3
          cases h1
          simp only [Option.map_eq_some_iff] at hf
          obtain ⟨d0, hp, hf⟩ := hf
          cases hf
          refine ⟨R, B, ρ, Hf, d1, ρ2, S, h2, fun v H1 Hf1 S1 e1 r1 => ⟨R, B, ρ2, Hf1, d4, _, S1, h4, fun u H2 Hf2 S2 e2 r2 => hr _ _ _ _ (rd_of S2 (views2 ((r1.mono e2 _ _).view S2.fh) (r2.view S2.fh)) hp fun v3 H3 Hf3 S3 e3 r3 => k v3 H3 Hf3 S3 ((e1.trans e2).trans e3) r3)⟩⟩
        · cases h3
      · cases h1
    · cases h1
  · cases hf
theorem pr2_t {ia ib : IE} {o : Prim} {s : Bool} {r : R2} (hr : ∀ x y H Q, rD X.K o [x, y] H Q → r x y H Q) (σ : L2.St) (H : Hp) (Q : VK) (q : tEv X.K (ev Φ (.pr true o (.c ia (.c ib .n))) s) σ H Q) : tOp r (tOd X.K (odF Φ ia)) (tOd X.K (odF Φ ib)) σ H Q := by
  obtain ⟨R, B, ρ, Hf, d, ρ', S, hf, k⟩ := q
  simp only [ev] at hf
  split at hf
  · rename_i ds h1
    obtain ⟨d1, ds', h2, h3, rfl⟩ := evw_cons h1
    obtain ⟨d4, ds4, h4, h5, rfl⟩ := evw_cons h3
    cases h5
    simp only [Option.map_eq_some_iff] at hf
    obtain ⟨d0, hp, hf⟩ := hf
    cases hf
    exact ⟨R, B, ρ, Hf, d1, S, h2, fun v H1 Hf1 S1 e1 r1 => ⟨R, B, ρ, Hf1, d4, S1, h4, fun u H2 Hf2 S2 e2 r2 => hr _ _ _ _ (rd_of S2 (views2 (r1 H2 Hf2 S2 e2) (r2 H2 Hf2 S2 (Same.refl _))) hp fun v3 H3 Hf3 S3 e3 r3 => k v3 H3 Hf3 S3 ((e1.trans e2).trans e3) r3)⟩⟩
  · cases hf
theorem je_pr1 {e a : Expr} {ia : IE} {o : Prim} {s' : Bool} {r : V → Hp → VK → Prop} (mk : ∀ ta, PE X a ta → PE X e (tUn r ta)) (hr : ∀ x H Q, rD X.K o [x] H Q → r x H Q) (ha : JE X Φ a ia) (hoa : JO X Φ a ia) : JE X Φ e (.pr s' o (.c ia .n)) := by
  intro s
  cases s' with
  | false => exact (mk _ (ha s)).weak (pr1_f hr)
  | true => exact (mk _ hoa).weak (pr1_t hr)
theorem jt_via {e : Expr} {ie : IE} (h : ∀ s, PT X e (tB (tEv X.K (ev Φ ie s)))) : JT X Φ e ie := by
  refine fun s => (h s).weak fun σ H Q q => ?_
  obtain ⟨R, B, ρ, Hf, b, ρ', S, hf, k⟩ := q
  have hf' : ev Φ ie s ρ = some (.bool b, ρ') := by
    have hf : asB (ev Φ ie s ρ) = some (b, ρ') := hf
    unfold asB at hf
    split at hf
    · rename_i h; cases hf; exact h
    · cases hf
  exact ⟨R, B, ρ, Hf, _, ρ', S, hf', fun v H' Hf' S' e r => ⟨b, r, k H' Hf' S' e⟩⟩
theorem jt_pr1 {e a : Expr} {ia : IE} {o : Prim} {s' : Bool} {r : V → Hp → VK → Prop} (mk : ∀ ta, PE X a ta → PT X e (tTest (tUn r ta))) (hr : ∀ x H Q, rD X.K o [x] H Q → r x H Q) (ha : JE X Φ a ia) (hoa : JO X Φ a ia) : JT X Φ e (.pr s' o (.c ia .n)) := by
  refine jt_via fun s => ?_
  cases s' with
  | false => exact (mk _ (ha s)).weak fun σ H Q q => pr1_f hr σ H _ q
  | true => exact (mk _ hoa).weak fun σ H Q q => pr1_t hr σ H _ q
theorem je_pr2 {e a b : Expr} {ia ib : IE} {o : Prim} {s' : Bool} {r : R2} (mk : ∀ ta tb, PE X a ta → PE X b tb → PE X e (tOp r ta tb)) (hr : ∀ x y H Q, rD X.K o [x, y] H Q → r x y H Q) (ha : JE X Φ a ia) (hoa : JO X Φ a ia) (hb : JE X Φ b ib) (hob : JO X Φ b ib) : JE X Φ e (.pr s' o (.c ia (.c ib .n))) := by
  intro s
  cases s' with
  | false => exact (mk _ _ (ha s) (hb s)).weak (pr2_f hr)
  | true => exact (mk _ _ hoa hob).weak (pr2_t hr)
theorem jt_pr2 {e a b : Expr} {ia ib : IE} {o : Prim} {s' : Bool} {r : R2} (mk : ∀ ta tb, PE X a ta → PE X b tb → PT X e (tTest (tOp r ta tb))) (hr : ∀ x y H Q, rD X.K o [x, y] H Q → r x y H Q) (ha : JE X Φ a ia) (hoa : JO X Φ a ia) (hb : JE X Φ b ib) (hob : JO X Φ b ib) : JT X Φ e (.pr s' o (.c ia (.c ib .n))) := by
  refine jt_via fun s => ?_
  cases s' with
  | false => exact (mk _ _ (ha s) (hb s)).weak fun σ H Q q => pr2_f hr σ H _ q
  | true => exact (mk _ _ hoa hob).weak fun σ H Q q => pr2_t hr σ H _ q
theorem je_prN {e : Expr} {es : List Expr} {ies : IEs} {o : Prim} {s' : Bool} (mk : ∀ t, PA X es t → PE X e (tCB (rD X.K o) t)) (h : JEs X Φ es ies) (ho : JOs X Φ es ies) : JE X Φ e (.pr s' o ies) := by
  intro s
  cases s' with
  | false =>
    refine (mk _ (h s)).weak fun σ H Q q => ?_
    obtain ⟨R, B, ρ, Hf, d, ρ', S, hf, k⟩ := q
    simp only [ev] at hf
    split at hf
    · rename_i ds ρ1 h1
      simp only [Option.map_eq_some_iff] at hf
      obtain ⟨d0, hp, hf⟩ := hf
      cases hf
      exact ⟨R, B, ρ, Hf, ds, _, S, h1, fun vs H1 Hf1 S1 e1 r1 => rd_of S1 (r1.views S1.fh) hp fun v2 H2 Hf2 S2 e2 r2 => k v2 H2 Hf2 S2 (e1.trans e2) r2⟩
    · cases hf
  | true =>
    refine (mk _ ho).weak fun σ H Q q => ?_
    obtain ⟨R, B, ρ, Hf, d, ρ', S, hf, k⟩ := q
    simp only [ev] at hf
    split at hf
    · rename_i ds h1
      simp only [Option.map_eq_some_iff] at hf
      obtain ⟨d0, hp, hf⟩ := hf
      cases hf
      exact ⟨R, B, ρ, Hf, ds, S, h1, fun vs H1 Hf1 S1 e1 r1 => rd_of S1 (r1 H1 Hf1 S1 (Same.refl _)) hp fun v2 H2 Hf2 S2 e2 r2 => k v2 H2 Hf2 S2 (e1.trans e2) r2⟩
    · cases hf

/-! displays, tests, conditional expressions -/
theorem je_tup {es : List Expr} {ies : IEs} {k : Nat} {pos : Pos} (h : JEs X Φ es ies) : JE X Φ (.Tuple es k pos) (.tup ies) := by
  refine fun s => (pe_tup (h s)).weak fun σ H Q q => ?_
  obtain ⟨R, B, ρ, Hf, d, ρ', S, hf, k⟩ := q
  simp only [ev] at hf
  split at hf
  · rename_i ds ρ1 h1
    split at hf
    · rename_i hz
      cases hf
      refine ⟨R, B, ρ, Hf, ds, _, S, h1, fun vs H1 Hf1 S1 e1 r1 => ⟨by rw [seqLine, ← r1.length]; exact hz, fun p hn => ?_⟩⟩
      have g := Grow.upd (o := .tup vs) S1.fh hn
      exact k _ _ _ (S1.grow g) (e1.trans g.ff) ⟨p, vs, rfl, .inl (.inl upd_same), r1.mono g.ff _ _⟩
    · cases hf
  · cases hf
theorem je_lst {es : List Expr} {ies : IEs} {pos : Pos} (h : JEs X Φ es ies) : JE X Φ (.List es pos) (.lst ies) := by
  refine fun s => (pe_lst (h s)).weak fun σ H Q q => ?_
  obtain ⟨R, B, ρ, Hf, d, ρ', S, hf, k⟩ := q
  simp only [ev] at hf
  split at hf
  · rename_i ds ρ1 h1
    split at hf
    · rename_i hz
      cases hf
      refine ⟨R, B, ρ, Hf, ds, _, S, h1, fun vs H1 Hf1 S1 e1 r1 => ⟨by rw [seqLine, ← r1.length]; exact hz, fun p hn => ?_⟩⟩
      have g := Grow.upd (o := .lst vs) S1.fh hn
      exact k _ _ _ (S1.grow g) (e1.trans g.ff) ⟨p, vs, rfl, upd_same, r1.mono g.ff _ _⟩
    · cases hf
  · cases hf
theorem asB_some {o : Option (PyData × Rho)} {b : Bool} {ρ : Rho} (h : asB o = some (b, ρ)) : o = some (.bool b, ρ) := by
  unfold asB at h
  split at h
  · cases h; rfl
  · cases h
/-- an expression that is no test of its own form -/
theorem jt_val {e : Expr} {ie : IE} (h : JE X Φ e ie) (he : ∀ whole, isTrue e X.env whole = (do let v ← whole; standAt e.pos; holding [v] (truthy v))) : JT X Φ e ie := by
  refine fun s => (pt_val (h s) he).weak fun σ H Q q => ?_
  obtain ⟨R, B, ρ, Hf, b, ρ', S, hf, k⟩ := q
  exact ⟨R, B, ρ, Hf, _, ρ', S, asB_some hf, fun v H' Hf' S' e r => ⟨b, r, k H' Hf' S' e⟩⟩
theorem je_no {a : Expr} {ia : IE} {pos : Pos} (h : JE X Φ a ia) : JE X Φ (.UnaryOp .Not a pos) (.no ia) := by
  refine fun s => (pe_not (h s)).weak fun σ H Q q => ?_
  obtain ⟨R, B, ρ, Hf, d, ρ', S, hf, k⟩ := q
  simp only [ev] at hf
  split at hf
  · rename_i b ρ1 h1
    cases hf
    exact ⟨R, B, ρ, Hf, _, _, S, h1, fun v H1 Hf1 S1 e1 r1 => ⟨b, r1, k _ H1 Hf1 S1 e1 rfl⟩⟩
  · cases hf
theorem jt_no {a : Expr} {ia : IE} {pos : Pos} (h : JT X Φ a ia) : JT X Φ (.UnaryOp .Not a pos) (.no ia) := by
  refine fun s => (pt_not (h s)).weak fun σ H Q q => ?_
  obtain ⟨R, B, ρ, Hf, d, ρ', S, hf, k⟩ := q
  have hf := asB_some hf
  simp only [ev] at hf
  split at hf
  · rename_i b ρ1 h1
    cases hf
    exact ⟨R, B, ρ, Hf, b, _, S, by show asB _ = _; rw [h1]; rfl, fun H1 Hf1 S1 e1 => k H1 Hf1 S1 e1⟩
  · cases hf
theorem je_an {a b : Expr} {r : List Expr} {ia ib : IE} {pos : Pos} (h : JE X Φ a ia) (t : JE X Φ (.BoolOp .And (b :: r) pos) ib) : JE X Φ (.BoolOp .And (a :: b :: r) pos) (.an ia ib) := by
  refine fun s => (pe_and (h s) (t s)).weak fun σ H Q q => ?_
  obtain ⟨R, B, ρ, Hf, d, ρ', S, hf, k⟩ := q
  simp only [ev] at hf
  split at hf
  · rename_i ρ1 h1
    exact ⟨R, B, ρ, Hf, _, _, S, h1, fun v H1 Hf1 S1 e1 r1 => ⟨true, r1, iteT ⟨R, B, ρ1, Hf1, d, ρ', S1, hf, fun v2 H2 Hf2 S2 e2 r2 => k v2 H2 Hf2 S2 (e1.trans e2) r2⟩⟩⟩
  · rename_i ρ1 h1
    cases hf
    exact ⟨R, B, ρ, Hf, _, _, S, h1, fun v H1 Hf1 S1 e1 r1 => ⟨false, r1, by refine iteF ?_; exact k _ H1 Hf1 S1 e1 rfl⟩⟩
  · cases hf
theorem je_orr {a b : Expr} {r : List Expr} {ia ib : IE} {pos : Pos} (h : JE X Φ a ia) (t : JE X Φ (.BoolOp .Or (b :: r) pos) ib) : JE X Φ (.BoolOp .Or (a :: b :: r) pos) (.orr ia ib) := by
  refine fun s => (pe_or (h s) (t s)).weak fun σ H Q q => ?_
  obtain ⟨R, B, ρ, Hf, d, ρ', S, hf, k⟩ := q
  simp only [ev] at hf
  split at hf
  · rename_i ρ1 h1
    exact ⟨R, B, ρ, Hf, _, _, S, h1, fun v H1 Hf1 S1 e1 r1 => ⟨false, r1, by refine iteF ?_; exact ⟨R, B, ρ1, Hf1, d, ρ', S1, hf, fun v2 H2 Hf2 S2 e2 r2 => k v2 H2 Hf2 S2 (e1.trans e2) r2⟩⟩⟩
  · rename_i ρ1 h1
    cases hf
    exact ⟨R, B, ρ, Hf, _, _, S, h1, fun v H1 Hf1 S1 e1 r1 => ⟨true, r1, by refine iteT ?_; exact k _ H1 Hf1 S1 e1 rfl⟩⟩
  · cases hf
theorem je_one {op : BoolOp} {a : Expr} {ia : IE} {pos : Pos} (h : JE X Φ a ia) : JE X Φ (.BoolOp op [a] pos) ia := fun s => pe_one (h s)
/-- a test whatever its whole is -/
def JW (X : Cx) (Φ : PhiT) (e : Expr) (ie : IE) : Prop := ∀ s, PW X e (tEvT X.K (fun ρ => asB (ev Φ ie s ρ)))
theorem _root_.L2.PW.weak {e : Expr} {t t' : TT} (h : PW X e t) (w : ∀ σ H Q, t' σ H Q → t σ H Q) : PW X e t' := ⟨fun wh pins s σ H Q I q => h.run wh pins s σ H Q I (w _ _ _ q)⟩
theorem JW.jt {e : Expr} {ie : IE} (h : JW X Φ e ie) : JT X Φ e ie := fun s => (h s).pt
theorem jw_and1 {a : Expr} {ia : IE} {pos : Pos} (h : JT X Φ a ia) : JW X Φ (.BoolOp .And [a] pos) ia := fun s => pw_and1 (h s)
theorem jw_or1 {a : Expr} {ia : IE} {pos : Pos} (h : JT X Φ a ia) : JW X Φ (.BoolOp .Or [a] pos) ia := fun s => pw_or1 (h s)
theorem jw_an {a b : Expr} {r : List Expr} {ia ib : IE} {pos : Pos} (h : JT X Φ a ia) (t : JW X Φ (.BoolOp .And (b :: r) pos) ib) : JW X Φ (.BoolOp .And (a :: b :: r) pos) (.an ia ib) := by
  refine fun s => (pw_and (h s) (t s)).weak fun σ H Q q => ?_
  obtain ⟨R, B, ρ, Hf, d, ρ', S, hf, k⟩ := q
  have hf := asB_some hf
  simp only [ev] at hf
  split at hf
  · rename_i ρ1 h1
    exact ⟨R, B, ρ, Hf, true, _, S, by show asB _ = _; rw [h1]; rfl, fun H1 Hf1 S1 e1 => by refine iteT ?_; exact ⟨R, B, ρ1, Hf1, d, ρ', S1, by show asB _ = _; rw [hf]; rfl, fun H2 Hf2 S2 e2 => k H2 Hf2 S2 (e1.trans e2)⟩⟩
  · rename_i ρ1 h1
    cases hf
    exact ⟨R, B, ρ, Hf, false, _, S, by show asB _ = _; rw [h1]; rfl, fun H1 Hf1 S1 e1 => by refine iteF ?_; exact k H1 Hf1 S1 e1⟩
  · cases hf
theorem jw_orr {a b : Expr} {r : List Expr} {ia ib : IE} {pos : Pos} (h : JT X Φ a ia) (t : JW X Φ (.BoolOp .Or (b :: r) pos) ib) : JW X Φ (.BoolOp .Or (a :: b :: r) pos) (.orr ia ib) := by
  refine fun s => (pw_or (h s) (t s)).weak fun σ H Q q => ?_
  obtain ⟨R, B, ρ, Hf, d, ρ', S, hf, k⟩ := q
  have hf := asB_some hf
  simp only [ev] at hf
  split at hf
  · rename_i ρ1 h1
    exact ⟨R, B, ρ, Hf, false, _, S, by show asB _ = _; rw [h1]; rfl, fun H1 Hf1 S1 e1 => by refine iteF ?_; exact ⟨R, B, ρ1, Hf1, d, ρ', S1, by show asB _ = _; rw [hf]; rfl, fun H2 Hf2 S2 e2 => k H2 Hf2 S2 (e1.trans e2)⟩⟩
  · rename_i ρ1 h1
    cases hf
    exact ⟨R, B, ρ, Hf, true, _, S, by show asB _ = _; rw [h1]; rfl, fun H1 Hf1 S1 e1 => by refine iteT ?_; exact k H1 Hf1 S1 e1⟩
  · cases hf
theorem je_ifx {c a b : Expr} {ic ia ib : IE} {pos : Pos} (hc : JT X Φ c ic) (ha : JE X Φ a ia) (hb : JE X Φ b ib) : JE X Φ (.IfExp c a b pos) (.ifx ic ia ib) := by
  refine fun s => (pe_ifExp (hc s) (ha s) (hb s)).weak fun σ H Q q => ?_
  obtain ⟨R, B, ρ, Hf, d, ρ', S, hf, k⟩ := q
  simp only [ev] at hf
  split at hf
  · rename_i ρ1 h1
    exact ⟨R, B, ρ, Hf, true, ρ1, S, h1, fun H1 Hf1 S1 e1 => by refine iteT ?_; exact ⟨R, B, ρ1, Hf1, d, ρ', S1, hf, fun v2 H2 Hf2 S2 e2 r2 => k v2 H2 Hf2 S2 (e1.trans e2) r2⟩⟩
  · rename_i ρ1 h1
    exact ⟨R, B, ρ, Hf, false, ρ1, S, h1, fun H1 Hf1 S1 e1 => by refine iteF ?_; exact ⟨R, B, ρ1, Hf1, d, ρ', S1, hf, fun v2 H2 Hf2 S2 e2 r2 => k v2 H2 Hf2 S2 (e1.trans e2) r2⟩⟩
  · cases hf
end
end CD

set_option Elab.async false
set_option linter.all false
set_option maxRecDepth 100000
set_option autoImplicit false
/-! Calls of the text's own defs. -/
namespace CD
open PySem PySem.Spec L2
open PyProof.Rows hiding St

def ArgIs (K : PySem.W.Frag) (H Hf : Hp) (as : List Slot) (vs : List V) : Slot → V → Prop
  | .val d, v => Rep K Hf d v
  | .bor d, v => ∃ a us ds, d = .list ds ∧ v = .ref a ∧ H a = some (.lst us) ∧ Hf a = none ∧ Reps K Hf ds us
  | .scr ns, v => ∃ a P, v = .ref a ∧ Same P H ∧ (∀ (b : Addr) (o : HO), P b = some o → Hf b = none ∧ ∀ (i : Nat) (d : PyData), as[i]? = some (.bor d) → vs[i]? ≠ some (.ref b)) ∧ ScrAt K P a (ns.map V.int)
  | _, _ => False
structure ArgsOk (K : PySem.W.Frag) (H Hf : Hp) (as : List Slot) (vs : List V) : Prop where
  len : as.length = vs.length
  at_ : ∀ (i : Nat) (s : Slot) (v : V), as[i]? = some s → vs[i]? = some v → ArgIs K H Hf as vs s v
  inj : ∀ (i j : Nat) (d e : PyData) (a : Addr), as[i]? = some (.bor d) → as[j]? = some (.bor e) → vs[i]? = some (.ref a) → vs[j]? = some (.ref a) → i = j
/-- a new thing that nobody holds -/
def New (K : PySem.W.Frag) (H H' Hf' : Hp) (d : PyData) (v : V) : Prop := ∃ a us ds, d = .list ds ∧ v = .ref a ∧ H' a = some (.lst us) ∧ Hf' a = none ∧ H a = none ∧ Reps K Hf' ds us
structure CallPost (K : PySem.W.Frag) (H Hf H' Hf' : Hp) (as : List Slot) (vs : List V) (r : Res) (v : V) : Prop where
  ff : Same Hf Hf'
  fh : Same Hf' H'
  keep : ∀ (b : Addr) (o : HO), H b = some o → (∀ (i : Nat) (d : PyData), as[i]? = some (.bor d) → vs[i]? ≠ some (.ref b)) → H' b = some o
  new : ∀ (b : Addr) (o : HO), Hf' b = some o → Hf b = some o ∨ H b = none
  outs : ∀ (i : Nat) (d d' : PyData) (a : Addr), as[i]? = some (.bor d) → vs[i]? = some (.ref a) → r.outs[i]? = some (.bor d') → ∃ us es, d' = .list es ∧ H' a = some (.lst us) ∧ Hf' a = none ∧ Reps K Hf' es us
  res : if r.fresh = true then New K H H' Hf' r.d v else Rep K Hf' r.d v
/-- a def's promise -/
def spF (K : PySem.W.Frag) (φ : List Slot → Option Res) : Sp := fun vs H Q _ => ∃ Hf as r, Same Hf H ∧ ArgsOk K H Hf as vs ∧ φ as = some r ∧ ∀ v H' Hf', CallPost K H Hf H' Hf' as vs r v → Q v H'

/-! ### what is handed over -/
def ArgR (K : PySem.W.Frag) (ρ : Rho) (σ : L2.St) (Hf : Hp) : List (Slot × Option Nat) → List V → Prop
  | [], vs => vs = []
  | (s, none) :: r, vs => ∃ v vr d, vs = v :: vr ∧ s = .val d ∧ Rep K Hf d v ∧ ArgR K ρ σ Hf r vr
  | (s, some k) :: r, vs => ∃ v vr, vs = v :: vr ∧ σ[k]? = some (some v) ∧ borR k ρ = some s ∧ ArgR K ρ σ Hf r vr
theorem ArgR.mono {K : PySem.W.Frag} {ρ : Rho} {σ : L2.St} {Hf Hf' : Hp} (e : Same Hf Hf') : ∀ {p : List (Slot × Option Nat)} {vs : List V}, ArgR K ρ σ Hf p vs → ArgR K ρ σ Hf' p vs
  | [], _, h => h
  | (s, none) :: r, _, h => by
    obtain ⟨v, vr, d, h1, h2, h3, h4⟩ := h
    exact ⟨v, vr, d, h1, h2, h3.mono e _ _, h4.mono e⟩
  | (s, some k) :: r, _, h => by
    obtain ⟨v, vr, h1, h2, h3, h4⟩ := h
    exact ⟨v, vr, h1, h2, h3, h4.mono e⟩
theorem ArgR.len {K : PySem.W.Frag} {ρ : Rho} {σ : L2.St} {Hf : Hp} : ∀ {p : List (Slot × Option Nat)} {vs : List V}, ArgR K ρ σ Hf p vs → p.length = vs.length
  | [], _, h => by rw [show _ = [] from h]; rfl
  | (s, none) :: r, _, h => by
    obtain ⟨v, vr, d, rfl, h2, h3, h4⟩ := h
    rw [List.length_cons, List.length_cons, h4.len]
  | (s, some k) :: r, _, h => by
    obtain ⟨v, vr, rfl, h2, h3, h4⟩ := h
    rw [List.length_cons, List.length_cons, h4.len]
theorem ArgR.get {K : PySem.W.Frag} {ρ : Rho} {σ : L2.St} {Hf : Hp} : ∀ {p : List (Slot × Option Nat)} {vs : List V} {i : Nat} {q : Slot × Option Nat}, ArgR K ρ σ Hf p vs → p[i]? = some q →
    (∃ v d, vs[i]? = some v ∧ q = (.val d, none) ∧ Rep K Hf d v) ∨ ∃ v k s, vs[i]? = some v ∧ q = (s, some k) ∧ σ[k]? = some (some v) ∧ borR k ρ = some s
  | [], _, _, _, _, e => by simp at e
  | (s, none) :: r, _, 0, q, h, e => by
    obtain ⟨v, vr, d, rfl, rfl, h3, h4⟩ := h
    have e' := Option.some.inj e
    exact .inl ⟨v, d, rfl, e'.symm, h3⟩
  | (s, some k) :: r, _, 0, q, h, e => by
    obtain ⟨v, vr, rfl, h2, h3, h4⟩ := h
    have e' := Option.some.inj e
    exact .inr ⟨v, k, s, rfl, e'.symm, h2, h3⟩
  | (s, none) :: r, _, i + 1, q, h, e => by
    obtain ⟨v, vr, d, rfl, h2, h3, h4⟩ := h
    exact ArgR.get (i := i) h4 (by simpa using e)
  | (s, some k) :: r, _, i + 1, q, h, e => by
    obtain ⟨v, vr, rfl, h2, h3, h4⟩ := h
    exact ArgR.get (i := i) h4 (by simpa using e)
/-- the slots that are lent -/
def idxA : IAs → List (Option Nat)
  | .n => []
  | .v _ r => none :: idxA r
  | .b i r => some i :: idxA r
theorem eva_idx {Φ : PhiT} : ∀ (as : IAs) (s : Bool) (ρ : Rho) (p : List (Slot × Option Nat)) (ρ' : Rho), eva Φ as s ρ = some (p, ρ') → p.map (·.2) = idxA as
  | .n, s, ρ, p, ρ', h => by
    simp only [eva] at h
    cases h
    rfl
  | .v e r, s, ρ, p, ρ', h => by
    simp only [eva] at h
    split at h
    · split at h
      · rename_i h2
        cases h
        rw [List.map_cons, eva_idx r s _ _ _ h2]
        rfl
      · cases h
    · cases h
  | .b i r, s, ρ, p, ρ', h => by
    simp only [eva] at h
    split at h
    · cases h
    · split at h
      · cases h
      · split at h
        · rename_i h2
          simp only [Option.map_eq_some_iff] at h
          obtain ⟨_, _, h⟩ := h
          cases h
          rw [List.map_cons, eva_idx r s _ _ _ h2]
          rfl
        · cases h
theorem putB_cases {i : Nat} {s : Slot} {ρ ρ' : Rho} (h : putB i s ρ = some ρ') : ρ'.length = ρ.length ∧ (∀ j, j ≠ i → ρ'[j]? = ρ[j]?) ∧
    ((∃ d d', s = .bor d' ∧ ((ρ[i]? = some (.own d) ∧ ρ'[i]? = some (.own d')) ∨ (ρ[i]? = some (.bor d) ∧ ρ'[i]? = some (.bor d')))) ∨ (∃ ns, ρ[i]? = some (.scr ns) ∧ ρ'[i]? = some (.scr ns))) := by
  unfold putB at h
  split at h
  · rename_i d d' q
    cases h
    exact ⟨by simp, fun j n => List.getElem?_set_ne (Ne.symm n), .inl ⟨d, d', rfl, .inl ⟨q, List.getElem?_set_self (lt_of_get q)⟩⟩⟩
  · rename_i d d' q
    cases h
    exact ⟨by simp, fun j n => List.getElem?_set_ne (Ne.symm n), .inl ⟨d, d', rfl, .inr ⟨q, List.getElem?_set_self (lt_of_get q)⟩⟩⟩
  · rename_i ns _ q
    cases h
    exact ⟨rfl, fun _ _ => rfl, .inr ⟨ns, q, q⟩⟩
  · cases h
theorem putAll_cases : ∀ {is : List (Option Nat)} {ss : List Slot} {ρ ρ' : Rho}, putAll is ss ρ = some ρ' → (is.filterMap id).Nodup → ρ'.length = ρ.length ∧ (∀ j, some j ∉ is → ρ'[j]? = ρ[j]?) ∧
    ∀ (i j : Nat), is[i]? = some (some j) → ∃ s, ss[i]? = some s ∧ ((∃ d d', s = .bor d' ∧ ((ρ[j]? = some (.own d) ∧ ρ'[j]? = some (.own d')) ∨ (ρ[j]? = some (.bor d) ∧ ρ'[j]? = some (.bor d')))) ∨ (∃ ns, ρ[j]? = some (.scr ns) ∧ ρ'[j]? = some (.scr ns)))
  | [], [], ρ, ρ', h, _ => by
    simp only [putAll] at h
    cases h
    exact ⟨rfl, fun _ _ => rfl, fun i j e => by simp at e⟩
  | [], _ :: _, ρ, ρ', h, _ => by simp [putAll] at h
  | none :: is, [], ρ, ρ', h, _ => by simp [putAll] at h
  | some _ :: is, [], ρ, ρ', h, _ => by simp [putAll] at h
  | none :: is, s :: ss, ρ, ρ', h, hn => by
    obtain ⟨h1, h2, h3⟩ := putAll_cases (is := is) (ss := ss) (by simpa [putAll] using h) (by simpa using hn)
    refine ⟨h1, fun j hj => h2 j (fun z => hj (by simp [z])), fun i j e => ?_⟩
    cases i with
    | zero => simp at e
    | succ i => exact h3 i j (by simpa using e)
  | some k :: is, s :: ss, ρ, ρ', h, hn => by
    simp only [putAll, Option.bind_eq_some_iff] at h
    obtain ⟨ρ1, q1, q2⟩ := h
    have hn' : k ∉ is.filterMap id ∧ (is.filterMap id).Nodup := by simpa using hn
    obtain ⟨h1, h2, h3⟩ := putAll_cases q2 hn'.2
    obtain ⟨g1, g2, g3⟩ := putB_cases q1
    have kn : some k ∉ is := fun z => hn'.1 (List.mem_filterMap.mpr ⟨some k, z, rfl⟩)
    refine ⟨h1.trans g1, fun j hj => ?_, fun i j e => ?_⟩
    · rw [h2 j (fun z => hj (by simp [z])), g2 j (fun z => hj (by simp [z]))]
    · cases i with
      | zero =>
        have e' : k = j := by simpa using e
        subst e'
        refine ⟨s, rfl, ?_⟩
        rw [h2 k kn]
        exact g3
      | succ i =>
        have e' : is[i]? = some (some j) := by simpa using e
        obtain ⟨s', q3, q4⟩ := h3 i j e'
        refine ⟨s', by simpa using q3, ?_⟩
        have jk : j ≠ k := fun z => by
          subst z
          exact kn (List.mem_of_getElem? e')
        rw [g2 j jk] at q4
        exact q4

section
variable {K : PySem.W.Frag} {R H Hf H' Hf' : Hp} {B : List (Nat × Addr)} {ρ ρ2 : Rho} {σ : L2.St} {p : List (Slot × Option Nat)} {vs : List V}
theorem borR_cases {i : Nat} {s : Slot} (h : borR i ρ = some s) : (∃ d, s = .bor d ∧ (ρ[i]? = some (.own d) ∨ ρ[i]? = some (.bor d))) ∨ ∃ ns, s = .scr ns ∧ ρ[i]? = some (.scr ns) := by
  unfold borR at h
  split at h
  · rename_i d q; cases h; exact .inl ⟨d, rfl, .inl q⟩
  · rename_i d q; cases h; exact .inl ⟨d, rfl, .inr q⟩
  · rename_i ns q; cases h; exact .inr ⟨ns, rfl, q⟩
  · cases h
theorem bor_of {i : Nat} {d : PyData} (a : ArgR K ρ σ Hf p vs) (h : (p.map (·.1))[i]? = some (.bor d)) : ∃ k v, p[i]? = some (.bor d, some k) ∧ vs[i]? = some v ∧ σ[k]? = some (some v) ∧ (ρ[k]? = some (.own d) ∨ ρ[k]? = some (.bor d)) := by
  rw [List.getElem?_map, Option.map_eq_some_iff] at h
  obtain ⟨q, hq, e⟩ := h
  rcases a.get hq with ⟨v, d', h1, rfl, h3⟩ | ⟨v, k, s, h1, rfl, h3, h4⟩
  · cases e
  · have e : s = .bor d := e
    subst e
    rcases borR_cases h4 with ⟨d', e, h5⟩ | ⟨ns, e, _⟩
    · cases e
      exact ⟨k, v, hq, h1, h3, h5⟩
    · cases e
theorem nodup_idx {is : List (Option Nat)} (h : (is.filterMap id).Nodup) : ∀ {i j k : Nat}, is[i]? = some (some k) → is[j]? = some (some k) → i = j := by
  induction is with
  | nil => intro i j k e; simp at e
  | cons x r ih =>
    intro i j k e1 e2
    cases x with
    | none =>
      have h' : (r.filterMap id).Nodup := by simpa using h
      cases i with
      | zero => simp at e1
      | succ i =>
        cases j with
        | zero => simp at e2
        | succ j => exact congrArg (· + 1) (ih h' (i := i) (j := j) (k := k) (by simpa using e1) (by simpa using e2))
    | some m =>
      have h' : m ∉ r.filterMap id ∧ (r.filterMap id).Nodup := by simpa using h
      have no : ∀ {t : Nat}, r[t]? = some (some m) → False := fun q => h'.1 (List.mem_filterMap.mpr ⟨some m, List.mem_of_getElem? q, rfl⟩)
      cases i with
      | zero =>
        have e1' : m = k := by simpa using e1
        subst e1'
        cases j with
        | zero => rfl
        | succ j => exact (no (by simpa using e2)).elim
      | succ i =>
        cases j with
        | zero =>
          have e2' : m = k := by simpa using e2
          subst e2'
          exact (no (by simpa using e1)).elim
        | succ j => exact congrArg (· + 1) (ih h'.2 (i := i) (j := j) (k := k) (by simpa using e1) (by simpa using e2))
theorem args_ok (S : StOk K R B ρ σ H Hf) (a : ArgR K ρ σ Hf p vs) (nd : ((p.map (·.2)).filterMap id).Nodup) : ArgsOk K H Hf (p.map (·.1)) vs := by
  refine ⟨by rw [List.length_map]; exact a.len, fun i s v h1 h2 => ?_, fun i j d e b h1 h2 h3 h4 => ?_⟩
  · have hq := h1
    rw [List.getElem?_map, Option.map_eq_some_iff] at hq
    obtain ⟨q, hq, e⟩ := hq
    rcases a.get hq with ⟨v', d', q1, rfl, q3⟩ | ⟨v', k, s', q1, rfl, q3, q4⟩
    · cases e
      rw [h2] at q1
      cases q1
      exact q3
    · have e : s' = s := e
      subst e
      rw [h2] at q1
      cases q1
      rcases borR_cases q4 with ⟨d', rfl, h5⟩ | ⟨ns, rfl, h5⟩
      · obtain ⟨b, us, ds, rfl, r0, r1, r2, r3, r4⟩ := S.own k _ h5
        rw [q3] at r0
        cases r0
        exact ⟨b, us, ds, rfl, rfl, r1, r2, r4⟩
      · obtain ⟨b, r0, r1⟩ := S.scr k ns h5
        rw [q3] at r0
        cases r0
        refine ⟨b, R, rfl, S.rh, fun c o hc => ⟨S.rf c o hc, fun j d hj hv => ?_⟩, r1⟩
        obtain ⟨k', v2, _, z2, z3, z4⟩ := bor_of a hj
        rw [hv] at z2
        cases z2
        obtain ⟨b', us, ds, _, y0, _, _, y3, _⟩ := S.own k' _ z4
        rw [z3] at y0
        cases y0
        rw [hc] at y3
        cases y3
  · obtain ⟨k1, v1, z1, z2, z3, z4⟩ := bor_of a h1
    obtain ⟨k2, v2, y1, y2, y3, y4⟩ := bor_of a h2
    rw [h3] at z2
    cases z2
    rw [h4] at y2
    cases y2
    have ek := S.inj k1 k2 d e b z4 y4 z3 y3
    subst ek
    exact nodup_idx nd (by rw [List.getElem?_map, z1]; rfl) (by rw [List.getElem?_map, y1]; rfl)
/-- the state behind a call -/
theorem call_post {r : Res} {v : V} (S : StOk K R B ρ σ H Hf) (a : ArgR K ρ σ Hf p vs) (nd : ((p.map (·.2)).filterMap id).Nodup) (hp : putAll (p.map (·.2)) r.outs ρ = some ρ2) (c : CallPost K H Hf H' Hf' (p.map (·.1)) vs r v) : StOk K R B ρ2 σ H' Hf' := by
  obtain ⟨l1, l2, l3⟩ := putAll_cases hp nd
  -- an address that is lent is one of ours
  have lent : ∀ {i : Nat} {d : PyData} {b : Addr}, (p.map (·.1))[i]? = some (.bor d) → vs[i]? = some (.ref b) → ∃ k e, (ρ[k]? = some (.own e) ∨ ρ[k]? = some (.bor e)) ∧ σ[k]? = some (some (.ref b)) ∧ (p.map (·.2))[i]? = some (some k) := fun {i d b} h1 h2 => by
    obtain ⟨k, v', z1, z2, z3, z4⟩ := bor_of a h1
    rw [h2] at z2
    cases z2
    exact ⟨k, d, z4, z3, by rw [List.getElem?_map, z1]; rfl⟩
  have noF : ∀ {b : Addr}, Hf b = none → H b ≠ none → Hf' b = none := fun {b} h1 h2 => by
    cases e : Hf' b with
    | none => rfl
    | some u =>
      rcases c.new b u e with q | q
      · rw [h1] at q; cases q
      · exact absurd q h2
  -- which slots are lent
  have isL : ∀ {j : Nat}, some j ∈ p.map (·.2) → ∃ i s w, (p.map (·.2))[i]? = some (some j) ∧ p[i]? = some (s, some j) ∧ vs[i]? = some w ∧ σ[j]? = some (some w) ∧ borR j ρ = some s := fun {j} h => by
    obtain ⟨i, hi⟩ := List.getElem?_of_mem h
    have hi' := hi
    rw [List.getElem?_map, Option.map_eq_some_iff] at hi'
    obtain ⟨q, hq, e⟩ := hi'
    rcases a.get hq with ⟨w, d', q1, rfl, q3⟩ | ⟨w, k, s', q1, rfl, q3, q4⟩
    · cases e
    · cases e
      exact ⟨i, s', w, hi, hq, q1, q3, q4⟩
  have old : ∀ {j : Nat} {e : PyData}, (ρ2[j]? = some (.own e) ∨ ρ2[j]? = some (.bor e)) → ∃ e', (ρ[j]? = some (.own e') ∨ ρ[j]? = some (.bor e')) := fun {j e} h => by
    by_cases m : some j ∈ p.map (·.2)
    · obtain ⟨i, hi⟩ := List.getElem?_of_mem m
      obtain ⟨s, _, q⟩ := l3 i j hi
      rcases q with ⟨d, d', _, q | q⟩ | ⟨ns, _, q⟩
      · exact ⟨d, .inl q.1⟩
      · exact ⟨d, .inr q.1⟩
      · rw [q] at h; rcases h with h | h <;> cases h
    · rw [l2 j m] at h; exact ⟨e, h⟩
  refine ⟨c.fh, fun b o h => c.keep b o (S.rh b o h) fun i d h1 h2 => ?_, fun b o h => noF (S.rf b o h) (by rw [S.rh b o h]; simp), by rw [l1]; exact S.len, fun j d h => ?_, fun j d h => ?_, fun j ns h => ?_, fun i j d e b q1 q2 s1 s2 => ?_, fun x hx => ?_⟩
  · obtain ⟨k, e, z1, z2, _⟩ := lent h1 h2
    obtain ⟨b', us, ds, _, y0, _, _, y3, _⟩ := S.own k e z1
    rw [z2] at y0
    cases y0
    rw [h] at y3
    cases y3
  · have m : some j ∉ p.map (·.2) := fun m => by
      obtain ⟨i, hi⟩ := List.getElem?_of_mem m
      obtain ⟨s, _, q⟩ := l3 i j hi
      rcases q with ⟨_, _, _, q | q⟩ | ⟨_, _, q⟩
      · rw [q.2] at h; cases h
      · rw [q.2] at h; cases h
      · rw [q] at h; cases h
    rw [l2 j m] at h
    obtain ⟨w, h1, h2⟩ := S.val j d h
    exact ⟨w, h1, h2.mono c.ff _ _⟩
  · by_cases m : some j ∈ p.map (·.2)
    · obtain ⟨i, s, w, i1, i2, i3, i4, i5⟩ := isL m
      obtain ⟨s', g1, q⟩ := l3 i j i1
      rcases q with ⟨d0, d', rfl, q⟩ | ⟨_, _, q⟩
      · have hd : d = d' ∧ (ρ[j]? = some (.own d0) ∨ ρ[j]? = some (.bor d0)) := by
          rcases q with q | q
          · rw [q.2] at h; rcases h with h | h <;> cases h; exact ⟨rfl, .inl q.1⟩
          · rw [q.2] at h; rcases h with h | h <;> cases h; exact ⟨rfl, .inr q.1⟩
        obtain ⟨rfl, hj⟩ := hd
        obtain ⟨b, us, ds, _, y0, y1, y2, y3, _⟩ := S.own j d0 hj
        rw [i4] at y0
        cases y0
        have hs : s = .bor d0 := by
          rcases borR_cases i5 with ⟨d2, rfl, h5⟩ | ⟨ns, _, h5⟩
          · rcases hj with hj | hj <;> rcases h5 with h5 | h5 <;> (rw [hj] at h5; cases h5) <;> rfl
          · rcases hj with hj | hj <;> (rw [hj] at h5; cases h5)
        subst hs
        obtain ⟨us', es, rfl, x1, x2, x3⟩ := c.outs i d0 d b (by rw [List.getElem?_map, i2]; rfl) i3 g1
        exact ⟨b, us', es, rfl, i4, x1, x2, y3, x3⟩
      · rw [q] at h; rcases h with h | h <;> cases h
    · rw [l2 j m] at h
      obtain ⟨b, us, ds, h0, y0, y1, y2, y3, y4⟩ := S.own j d h
      refine ⟨b, us, ds, h0, y0, c.keep b _ y1 fun i e h1 h2 => ?_, noF y2 (by rw [y1]; simp), y3, y4.mono c.ff _ _⟩
      obtain ⟨k, e', z1, z2, z3⟩ := lent h1 h2
      have ek := S.inj j k d e' b h z1 y0 z2
      subst ek
      exact m (List.mem_of_getElem? z3)
  · by_cases m : some j ∈ p.map (·.2)
    · obtain ⟨i, hi⟩ := List.getElem?_of_mem m
      obtain ⟨s, _, q⟩ := l3 i j hi
      rcases q with ⟨_, _, _, q | q⟩ | ⟨ms, q1, q2⟩
      · rw [q.2] at h; cases h
      · rw [q.2] at h; cases h
      · rw [q2] at h; cases h; exact S.scr j ns q1
    · rw [l2 j m] at h; exact S.scr j ns h
  · obtain ⟨d', z1⟩ := old q1
    obtain ⟨e', z2⟩ := old q2
    exact S.inj i j d' e' b z1 z2 s1 s2
  · obtain ⟨⟨d, q⟩, s1⟩ := S.bor x hx
    refine ⟨?_, s1⟩
    by_cases m : some x.1 ∈ p.map (·.2)
    · obtain ⟨i, hi⟩ := List.getElem?_of_mem m
      obtain ⟨s, _, z⟩ := l3 i x.1 hi
      rcases z with ⟨_, d', _, z | z⟩ | ⟨_, z, _⟩
      · rw [q] at z; cases z.1
      · exact ⟨d', z.2⟩
      · rw [q] at z; cases z
    · exact ⟨d, by rw [l2 x.1 m]; exact q⟩
/-- a new list that a call hands back is held by nobody -/
theorem call_new {r : Res} {v : V} (S : StOk K R B ρ σ H Hf) (a : ArgR K ρ σ Hf p vs) (nd : ((p.map (·.2)).filterMap id).Nodup) (hp : putAll (p.map (·.2)) r.outs ρ = some ρ2) (c : CallPost K H Hf H' Hf' (p.map (·.1)) vs r v) (n : New K H H' Hf' r.d v) : Alone K R ρ2 σ H' Hf' r.d v := by
  obtain ⟨l1, l2, l3⟩ := putAll_cases hp nd
  obtain ⟨b, us, ds, hd, rfl, h1, h2, h3, h4⟩ := n
  refine ⟨b, us, ds, hd, rfl, h1, h2, ?_, h4, fun j e h s1 => ?_⟩
  · cases q : R b with
    | none => rfl
    | some o => rw [S.rh b o q] at h3; cases h3
  · have h' : ∃ e', (ρ[j]? = some (.own e') ∨ ρ[j]? = some (.bor e')) := by
      by_cases m : some j ∈ p.map (·.2)
      · obtain ⟨i, hi⟩ := List.getElem?_of_mem m
        obtain ⟨s, _, q⟩ := l3 i j hi
        rcases q with ⟨d, d', _, q | q⟩ | ⟨ns, _, q⟩
        · exact ⟨d, .inl q.1⟩
        · exact ⟨d, .inr q.1⟩
        · rw [q] at h; rcases h with h | h <;> cases h
      · rw [l2 j m] at h; exact ⟨e, h⟩
    obtain ⟨e', h'⟩ := h'
    obtain ⟨b', us', ds', _, y0, y1, _⟩ := S.own j e' h'
    rw [s1] at y0
    cases y0
    rw [h3] at y1
    cases y1
end
end CD

set_option Elab.async false
set_option linter.all false
set_option maxRecDepth 100000
set_option autoImplicit false
/-! Judgements for calls, chains, slices, targets, what is walked, comprehensions. -/
namespace CD
open PySem PySem.Spec L2
open PyProof.Rows hiding St
open RZ (ItzT pi_zipA)

section
variable (K : PySem.W.Frag)
def tEva (f : Rho → Option (List (Slot × Option Nat) × Rho)) : TA := fun σ H Q => ∃ R B ρ Hf p ρ', StOk K R B ρ σ H Hf ∧ f ρ = some (p, ρ') ∧ ∀ vs H' Hf', StOk K R B ρ' σ H' Hf' → Same Hf Hf' → ArgR K ρ' σ Hf' p vs → Q vs H'
def tEvO (f : Rho → Option (PyData × Rho)) : TE := fun σ H Q => ∃ R B ρ Hf d ρ', StOk K R B ρ σ H Hf ∧ f ρ = some (d, ρ') ∧ ∀ v H' Hf', StOk K R B ρ' σ H' Hf' → Same Hf Hf' → Alone K R ρ' σ H' Hf' d v → Q v H'
/-- what an iterator yields -/
def IterOk (J : It) (Hf0 : Hp) (ds : List PyData) : Prop := ∀ (i : Nat) (H Hf : Hp), Same Hf0 Hf → Same Hf H →
  (∀ d, ds[i]? = some d → J.go i H ∧ ∀ x H', J.yld i H x H' → ∃ Hf', Grow H Hf H' Hf' ∧ Rep K Hf' d x) ∧ (ds.length ≤ i → J.stop i H)
def tEvI (f : Rho → Option (List PyData × Rho)) : TI := fun σ H Q => ∃ R B ρ Hf ds ρ', StOk K R B ρ σ H Hf ∧ f ρ = some (ds, ρ') ∧ ∀ J H' Hf', StOk K R B ρ' σ H' Hf' → Same Hf Hf' → IterOk K J Hf' ds → Q J H'
def tgS : Tg → List Nat
  | .nm i => [i]
  | .tp is => is
def tBind (tg : Tg) : TG := fun v σ H Q => ∃ R B ρ Hf d ρ', StOk K R B ρ σ H Hf ∧ Rep K Hf d v ∧ bindT tg d ρ = some ρ' ∧ ∀ σ', StOk K R B ρ' σ' H Hf → σ'.length = σ.length → (∀ j, j ∉ tgS tg → σ'[j]? = σ[j]?) → Q σ' H
end
section
variable {X : Cx} {Φ : PhiT}
def JA (X : Cx) (Φ : PhiT) (es : List Expr) (as : IAs) : Prop := ∀ s, PA X es (tEva X.K (eva Φ as s))
def JX (X : Cx) (Φ : PhiT) (e : Expr) (ie : IE) : Prop := PE X e (tEvO X.K (evO Φ ie))
def JI (X : Cx) (Φ : PhiT) (tg e : Expr) (it : II) : Prop := ∀ s, PI X tg e (tEvI X.K (evI Φ it s))
def JG (X : Cx) (tg : Expr) (itg : Tg) : Prop := PG X tg (tBind X.K itg)

/-! ### calls -/
theorem ja_nil : JA X Φ [] .n := fun s => pa_nil.weak fun σ H Q q => by
  obtain ⟨R, B, ρ, Hf, p, ρ', S, hf, k⟩ := q
  cases hf
  exact k [] H Hf S (Same.refl _) rfl
theorem ja_v {e : Expr} {es : List Expr} {ie : IE} {as : IAs} (h : JE X Φ e ie) (t : JA X Φ es as) (hs : ∀ x p, e ≠ .Starred x p) : JA X Φ (e :: es) (.v ie as) := fun s => (pa_cons (h s) (t s) (star_cons hs)).weak fun σ H Q q => by
  obtain ⟨R, B, ρ, Hf, p, ρ', S, hf, k⟩ := q
  simp only [eva] at hf
  split at hf
  · rename_i d ρ1 h1
    split at hf
    · rename_i ds2 ρ2 h2
      cases hf
      exact ⟨R, B, ρ, Hf, d, ρ1, S, h1, fun v H1 Hf1 S1 e1 r1 => ⟨R, B, ρ1, Hf1, ds2, ρ', S1, h2, fun vs H2 Hf2 S2 e2 r2 => k _ H2 Hf2 S2 (e1.trans e2) ⟨v, vs, d, rfl, rfl, r1.mono e2 _ _, r2⟩⟩⟩
    · cases hf
  · cases hf
theorem bor_slot {K : PySem.W.Frag} {R H Hf : Hp} {B : List (Nat × Addr)} {ρ : Rho} {σ : L2.St} (S : StOk K R B ρ σ H Hf) {i : Nat} {s : Slot} (h : borR i ρ = some s) : ∃ v, σ[i]? = some (some v) := by
  rcases borR_cases h with ⟨d, _, q⟩ | ⟨ns, _, q⟩
  · obtain ⟨a, us, ds, _, h1, _⟩ := S.own i d q
    exact ⟨_, h1⟩
  · obtain ⟨a, h1, _⟩ := S.scr i ns q
    exact ⟨_, h1⟩
theorem ja_b {i : Nat} {x : Str} {pos : Pos} {es : List Expr} {as : IAs} (hN : X.N[i]? = some x) (hv : Vis X.env.scope x) (hd : (x == ("__debug__" : Str)) = false) (hcd : (x == ("__classdict__" : Str)) = false) (t : JA X Φ es as) : JA X Φ (.Name x pos :: es) (.b i as) := fun s => (pa_cons (pe_var hN hv hd hcd) (t s) rfl).weak fun σ H Q q => by
  obtain ⟨R, B, ρ, Hf, p, ρ', S, hf, k⟩ := q
  simp only [eva] at hf
  split at hf
  · cases hf
  · split at hf
    · cases hf
    · rename_i s0 h0
      split at hf
      · rename_i ds2 ρ2 h2
        simp only [Option.map_eq_some_iff] at hf
        obtain ⟨s1, h3, hf⟩ := hf
        cases hf
        obtain ⟨v, hv⟩ := bor_slot S h0
        exact ⟨v, hv, R, B, ρ, Hf, ds2, ρ', S, h2, fun vs H2 Hf2 S2 e2 r2 => k _ H2 Hf2 S2 e2 ⟨v, vs, rfl, hv, h3, r2⟩⟩
      · cases hf
/-- where a def of the text stands -/
def FunAt (X : Cx) (Φ : PhiT) (n : Nat) (f : Str) : Prop := ∃ a fd ps, FnOk X.prog X.w X.K X.mg X.base CX0 n a fd ps (spF X.K (Φ f)) ∧ X.mg f = some (.ref a) ∧ PySem.W.keepIn X.K (.ref a) = true ∧ Binds X.K fd ps []
theorem call_run {n : Nat} {f : Str} {es : List Expr} {e : Expr} {as : IAs} {p pos : Pos} (hr : Room n X.A) (hg : Gl X f) (hdb : (f == ("__debug__" : Str)) = false) (F : ∀ p r, Φ f p = some r → FunAt X Φ n f) (h : JA X Φ (e :: es) as)
    (nd : ((idxA as).filterMap id).Nodup) (hs : starEach (e :: es) X.env = (false, eval e X.env) :: starEach es X.env) (hpl : (backTo pos (starEach es X.env)).any (·.1) = false)
    (pins : List (Addr × Obj)) (s : Shared) (σ : L2.St) (H : Hp) (Q : VK) (I : Inv X pins σ H s) {R : Hp} {B : List (Nat × Addr)} {ρ ρ1 ρ2 : Rho} {Hf : Hp} {q : List (Slot × Option Nat)} {r : Res} (S : StOk X.K R B ρ σ H Hf) {st : Bool} (h1 : eva Φ as st ρ = some (q, ρ1)) (h2 : Φ f (q.map (·.1)) = some r)
    (h3 : putAll (q.map (·.2)) r.outs ρ1 = some ρ2) (k : ∀ v H' Hf', StOk X.K R B ρ2 σ H' Hf' → Same Hf Hf' → (if r.fresh = true then Alone X.K R ρ2 σ H' Hf' r.d v else Rep X.K Hf' r.d v) → Q v H') :
    wpAny (model X.prog X.w) X.A (eval (.Call (.Name f p) (e :: es) [] pos) X.env) (EP X pins σ Q) X.xe s := by
  obtain ⟨a, fd, ps, FO, hm, hk, hb⟩ := F _ _ h2
  refine (pe_call FO hr hg hm hk hb .nil pass0 (h st) hdb hs hpl).run pins s σ H Q I ?_
  refine ⟨R, B, ρ, Hf, q, ρ1, S, h1, fun vs H1 Hf1 S1 e1 a1 => ?_⟩
  have nd1 : ((q.map (·.2)).filterMap id).Nodup := by rw [eva_idx as st ρ q ρ1 h1]; exact nd
  show spF X.K (Φ f) (vs ++ []) H1 Q E0
  rw [List.append_nil]
  refine ⟨Hf1, q.map (·.1), r, S1.fh, args_ok S1 a1 nd1, h2, fun v H2 Hf2 c => ?_⟩
  have S2 := call_post S1 a1 nd1 h3 c
  refine k v H2 Hf2 S2 (e1.trans c.ff) ?_
  have hres := c.res
  split
  · rename_i hf
    rw [if_pos hf] at hres
    exact call_new S1 a1 nd1 h3 c hres
  · rename_i hf
    rw [if_neg hf] at hres
    exact hres
theorem je_call {n : Nat} {f : Str} {es : List Expr} {e : Expr} {as : IAs} {p pos : Pos} (hr : Room n X.A) (hg : Gl X f) (hdb : (f == ("__debug__" : Str)) = false) (F : ∀ p r, Φ f p = some r → FunAt X Φ n f) (h : JA X Φ (e :: es) as)
    (nd : ((idxA as).filterMap id).Nodup) (hs : starEach (e :: es) X.env = (false, eval e X.env) :: starEach es X.env) (hpl : (backTo pos (starEach es X.env)).any (·.1) = false) : JE X Φ (.Call (.Name f p) (e :: es) [] pos) (.call f as) := by
  refine fun st => ⟨fun pins s σ H Q I q => ?_⟩
  obtain ⟨R, B, ρ, Hf, d, ρ', S, hf, k⟩ := q
  simp only [ev] at hf
  split at hf
  · rename_i q ρ1 h1
    split at hf
    · rename_i r h2
      split at hf
      · rename_i ρ2 h3
        cases hf
        refine call_run hr hg hdb F h nd hs hpl pins s σ H Q I S h1 h2 h3 fun v H' Hf' S' e' hq => ?_
        split at hq
        · obtain ⟨Hf2, S2, e2, r2⟩ := S'.freeze hq
          exact k v H' Hf2 S2 (e'.trans e2) r2
        · exact k v H' Hf' S' e' hq
      · cases hf
    · cases hf
  · cases hf
theorem jx_call {n : Nat} {f : Str} {es : List Expr} {e : Expr} {as : IAs} {p pos : Pos} (hr : Room n X.A) (hg : Gl X f) (hdb : (f == ("__debug__" : Str)) = false) (F : ∀ p r, Φ f p = some r → FunAt X Φ n f) (h : JA X Φ (e :: es) as)
    (nd : ((idxA as).filterMap id).Nodup) (hs : starEach (e :: es) X.env = (false, eval e X.env) :: starEach es X.env) (hpl : (backTo pos (starEach es X.env)).any (·.1) = false) : JX X Φ (.Call (.Name f p) (e :: es) [] pos) (.call f as) := by
  refine ⟨fun pins s σ H Q I q => ?_⟩
  obtain ⟨R, B, ρ, Hf, d, ρ', S, hf, k⟩ := q
  simp only [evO] at hf
  split at hf
  · rename_i q ρ1 h1
    split at hf
    · rename_i r h2
      split at hf
      · rename_i hfr
        split at hf
        · rename_i ρ2 h3
          cases hf
          refine call_run hr hg hdb F h nd hs hpl pins s σ H Q I S h1 h2 h3 fun v H' Hf' S' e' hq => ?_
          rw [if_pos hfr] at hq
          exact k v H' Hf' S' e' hq
        · cases hf
      · cases hf
    · cases hf
  · cases hf
theorem new_alone {K : PySem.W.Frag} {R H Hf : Hp} {B : List (Nat × Addr)} {ρ : Rho} {σ : L2.St} (S : StOk K R B ρ σ H Hf) {p : Addr} {ds : List PyData} {vs : List V} (hn : H p = none) (r : Reps K Hf ds vs) :
    StOk K R B ρ σ (upd H p (.lst vs)) Hf ∧ Alone K R ρ σ (upd H p (.lst vs)) Hf (.list ds) (.ref p) := by
  refine ⟨S.grow ⟨same_upd hn, Same.refl _, S.fh.trans (same_upd hn), fun _ _ h => .inl h⟩, p, vs, ds, rfl, rfl, upd_same, Same.free S.fh hn, Same.free S.rh hn, r, fun i e h s1 => ?_⟩
  obtain ⟨b, us, es, _, y0, y1, _⟩ := S.own i e h
  rw [s1] at y0
  cases y0
  rw [hn] at y1
  cases y1
theorem jx_lst {es : List Expr} {ies : IEs} {pos : Pos} (h : JEs X Φ es ies) : JX X Φ (.List es pos) (.lst ies) := by
  refine (pe_lst (h false)).weak fun σ H Q q => ?_
  obtain ⟨R, B, ρ, Hf, d, ρ', S, hf, k⟩ := q
  simp only [evO, ev] at hf
  split at hf
  · rename_i ds ρ1 h1
    split at hf
    · rename_i hz
      cases hf
      refine ⟨R, B, ρ, Hf, ds, _, S, h1, fun vs H1 Hf1 S1 e1 r1 => ⟨by rw [seqLine, ← r1.length]; exact hz, fun p hn => ?_⟩⟩
      obtain ⟨S2, al⟩ := new_alone S1 hn r1
      exact k _ _ _ S2 e1 al
    · cases hf
  · cases hf

/-! ### chains -/
theorem chain_read {o1 o2 : CmpOp} {a b c : IE} {s : Bool} (σ : L2.St) (H : Hp) (Q : VK) (q : tEv X.K (ev Φ (.chain o1 o2 a b c) s) σ H Q) :
    tChain (fun x y => rD X.K (.cmp o1) [x, y]) (fun x y => rD X.K (.cmp o2) [x, y]) (tEv X.K (ev Φ a s)) (tEv X.K (ev Φ b s)) (tEv X.K (ev Φ c s)) σ H Q := by
  obtain ⟨R, B, ρ, Hf, d, ρ', S, hf, k⟩ := q
  simp only [ev] at hf
  split at hf
  · rename_i x ρ1 h1
    split at hf
    · rename_i y ρ2 h2
      refine ⟨R, B, ρ, Hf, x, ρ1, S, h1, fun v H1 Hf1 S1 e1 r1 => ⟨R, B, ρ1, Hf1, y, ρ2, S1, h2, fun u H2 Hf2 S2 e2 r2 => ?_⟩⟩
      split at hf
      · rename_i hc
        refine rd_of S2 (views2 ((r1.mono e2 _ _).view S2.fh) (r2.view S2.fh)) (d := .bool true) (by simp [prD, hc]) fun v3 H3 Hf3 S3 e3 r3 => ⟨true, r3, iteT ?_⟩
        split at hf
        · rename_i z ρ3 h3
          simp only [Option.map_eq_some_iff] at hf
          obtain ⟨kk, hk, hf⟩ := hf
          cases hf
          exact ⟨R, B, ρ2, Hf3, z, _, S3, h3, fun w H4 Hf4 S4 e4 r4 => rd_of S4 (views2 ((r2.mono (e3.trans e4) _ _).view S4.fh) (r4.view S4.fh)) (d := .bool kk) (by simp [prD, hk]) fun v5 H5 Hf5 S5 e5 r5 => k v5 H5 Hf5 S5 ((((e1.trans e2).trans e3).trans e4).trans e5) r5⟩
        · cases hf
      · rename_i hc
        cases hf
        exact rd_of S2 (views2 ((r1.mono e2 _ _).view S2.fh) (r2.view S2.fh)) (d := .bool false) (by simp [prD, hc]) fun v3 H3 Hf3 S3 e3 r3 => ⟨false, r3, iteF (k _ H3 Hf3 S3 ((e1.trans e2).trans e3) rfl)⟩
      · cases hf
    · cases hf
  · cases hf

/-! ### slices -/
theorem rsl_of {K : PySem.W.Frag} {R : Hp} {B : List (Nat × Addr)} {ρ : Rho} {σ : L2.St} {H Hf : Hp} {d r : PyData} {v : V} {lo hi : Option Int} {Q : VK} (S : StOk K R B ρ σ H Hf) (w : View K H Hf d v) (hp : cutOf d lo hi = some r)
    (k : ∀ v H' Hf', StOk K R B ρ σ H' Hf' → Same Hf Hf' → Rep K Hf' r v → Q v H') : rSl K v lo hi H Q :=
  ⟨Hf, d, r, S.fh, w, hp, fun v H' Hf' g r => k v H' Hf' (S.grow g) g.ff r⟩
theorem slice10 {x i r : PyData} (h : prD (.slice true false) [x, i] = some r) : ∃ m, i = .int m ∧ cutOf x (some m) none = some r := by
  cases x <;> cases i <;> first | (simp [prD] at h; done) | exact ⟨_, rfl, h⟩
theorem slice01 {x i r : PyData} (h : prD (.slice false true) [x, i] = some r) : ∃ m, i = .int m ∧ cutOf x none (some m) = some r := by
  cases x <;> cases i <;> first | (simp [prD] at h; done) | exact ⟨_, rfl, h⟩
theorem slice11 {x i j r : PyData} (h : prD (.slice true true) [x, i, j] = some r) : ∃ m n, i = .int m ∧ j = .int n ∧ cutOf x (some m) (some n) = some r := by
  cases x <;> cases i <;> cases j <;> first | (simp [prD] at h; done) | exact ⟨_, _, rfl, rfl, h⟩
theorem je_sl10 {a b : Expr} {ia ib : IE} {s' : Bool} {p2 pos : Pos} (ha : JE X Φ a ia) (hoa : JO X Φ a ia) (hb : JE X Φ b ib) (hob : JO X Φ b ib) : JE X Φ (.Subscript a (.Slice (some b) none none p2) pos) (.pr s' (.slice true false) (.c ia (.c ib .n))) := by
  intro s
  cases s' with
  | false =>
    refine (pe_slice d_slice (ha s) (po_some (hb s)) po_none).weak fun σ H Q q => ?_
    obtain ⟨R, B, ρ, Hf, d, ρ', S, hf, k⟩ := q
    simp only [ev, evs] at hf
    split at hf
    · rename_i ds ρ1 h1
      split at h1
      · rename_i d1 ρ2 h2
        split at h1
        · rename_i ds3 ρ3 h3
          split at h3
          · rename_i d4 ρ4 h4
            cases h3
            cases h1
            simp only [Option.map_eq_some_iff] at hf
            obtain ⟨d0, hp, hf⟩ := hf
            cases hf
            obtain ⟨m, rfl, hp2⟩ := slice10 hp
            exact ⟨R, B, ρ, Hf, d1, ρ2, S, h2, fun v H1 Hf1 S1 e1 r1 => ⟨R, B, ρ2, Hf1, _, _, S1, h4, fun u H2 Hf2 S2 e2 r2 => ⟨m, r2, rsl_of S2 ((r1.mono e2 _ _).view S2.fh) hp2 fun v3 H3 Hf3 S3 e3 r3 => k v3 H3 Hf3 S3 ((e1.trans e2).trans e3) r3⟩⟩⟩
          · cases h3
        · cases h1
      · cases h1
    · cases hf
  | true =>
    refine (pe_slice d_slice hoa (po_some hob) po_none).weak fun σ H Q q => ?_
    obtain ⟨R, B, ρ, Hf, d, ρ', S, hf, k⟩ := q
    simp only [ev] at hf
    split at hf
    · rename_i ds h1
      obtain ⟨d1, ds', h2, h3, rfl⟩ := evw_cons h1
      obtain ⟨d4, ds4, h4, h5, rfl⟩ := evw_cons h3
      cases h5
      simp only [Option.map_eq_some_iff] at hf
      obtain ⟨d0, hp, hf⟩ := hf
      cases hf
      obtain ⟨m, rfl, hp2⟩ := slice10 hp
      exact ⟨R, B, ρ, Hf, d1, S, h2, fun v H1 Hf1 S1 e1 r1 => ⟨R, B, ρ, Hf1, _, S1, h4, fun u H2 Hf2 S2 e2 r2 => ⟨m, r2 H2 Hf2 S2 (Same.refl _), rsl_of S2 (r1 H2 Hf2 S2 e2) hp2 fun v3 H3 Hf3 S3 e3 r3 => k v3 H3 Hf3 S3 ((e1.trans e2).trans e3) r3⟩⟩⟩
    · cases hf
theorem je_sl01 {a b : Expr} {ia ib : IE} {s' : Bool} {p2 pos : Pos} (ha : JE X Φ a ia) (hoa : JO X Φ a ia) (hb : JE X Φ b ib) (hob : JO X Φ b ib) : JE X Φ (.Subscript a (.Slice none (some b) none p2) pos) (.pr s' (.slice false true) (.c ia (.c ib .n))) := by
  intro s
  cases s' with
  | false =>
    refine (pe_slice d_slice (ha s) po_none (po_some (hb s))).weak fun σ H Q q => ?_
    obtain ⟨R, B, ρ, Hf, d, ρ', S, hf, k⟩ := q
    simp only [ev, evs] at hf
    split at hf
    · rename_i ds ρ1 h1
      split at h1
      · rename_i d1 ρ2 h2
        split at h1
        · rename_i ds3 ρ3 h3
          split at h3
          · rename_i d4 ρ4 h4
            cases h3
            cases h1
            simp only [Option.map_eq_some_iff] at hf
            obtain ⟨d0, hp, hf⟩ := hf
            cases hf
            obtain ⟨m, rfl, hp2⟩ := slice01 hp
            exact ⟨R, B, ρ, Hf, d1, ρ2, S, h2, fun v H1 Hf1 S1 e1 r1 => ⟨R, B, ρ2, Hf1, _, _, S1, h4, fun u H2 Hf2 S2 e2 r2 => ⟨m, r2, rsl_of S2 ((r1.mono e2 _ _).view S2.fh) hp2 fun v3 H3 Hf3 S3 e3 r3 => k v3 H3 Hf3 S3 ((e1.trans e2).trans e3) r3⟩⟩⟩
          · cases h3
        · cases h1
      · cases h1
    · cases hf
  | true =>
    refine (pe_slice d_slice hoa po_none (po_some hob)).weak fun σ H Q q => ?_
    obtain ⟨R, B, ρ, Hf, d, ρ', S, hf, k⟩ := q
    simp only [ev] at hf
    split at hf
    · rename_i ds h1
      obtain ⟨d1, ds', h2, h3, rfl⟩ := evw_cons h1
      obtain ⟨d4, ds4, h4, h5, rfl⟩ := evw_cons h3
      cases h5
      simp only [Option.map_eq_some_iff] at hf
      obtain ⟨d0, hp, hf⟩ := hf
      cases hf
      obtain ⟨m, rfl, hp2⟩ := slice01 hp
      exact ⟨R, B, ρ, Hf, d1, S, h2, fun v H1 Hf1 S1 e1 r1 => ⟨R, B, ρ, Hf1, _, S1, h4, fun u H2 Hf2 S2 e2 r2 => ⟨m, r2 H2 Hf2 S2 (Same.refl _), rsl_of S2 (r1 H2 Hf2 S2 e2) hp2 fun v3 H3 Hf3 S3 e3 r3 => k v3 H3 Hf3 S3 ((e1.trans e2).trans e3) r3⟩⟩⟩
    · cases hf
theorem je_sl11 {a b c : Expr} {ia ib ic : IE} {p2 pos : Pos} (ha : JE X Φ a ia) (hb : JE X Φ b ib) (hc : JE X Φ c ic) : JE X Φ (.Subscript a (.Slice (some b) (some c) none p2) pos) (.pr false (.slice true true) (.c ia (.c ib (.c ic .n)))) := by
  intro s
  refine (pe_slice d_slice (ha s) (po_some (hb s)) (po_some (hc s))).weak fun σ H Q q => ?_
  obtain ⟨R, B, ρ, Hf, d, ρ', S, hf, k⟩ := q
  simp only [ev, evs] at hf
  split at hf
  · rename_i ds ρ1 h1
    split at h1
    · rename_i d1 ρ2 h2
      split at h1
      · rename_i ds3 ρ3 h3
        split at h3
        · rename_i d4 ρ4 h4
          split at h3
          · rename_i ds5 ρ5 h5
            split at h5
            · rename_i d6 ρ6 h6
              cases h5
              cases h3
              cases h1
              simp only [Option.map_eq_some_iff] at hf
              obtain ⟨d0, hp, hf⟩ := hf
              cases hf
              obtain ⟨m, n, rfl, rfl, hp2⟩ := slice11 hp
              exact ⟨R, B, ρ, Hf, d1, ρ2, S, h2, fun v H1 Hf1 S1 e1 r1 => ⟨R, B, ρ2, Hf1, _, _, S1, h4, fun u H2 Hf2 S2 e2 r2 => ⟨m, r2, R, B, _, Hf2, _, _, S2, h6, fun w H3 Hf3 S3 e3 r3 => ⟨n, r3, rsl_of S3 ((r1.mono (e2.trans e3) _ _).view S3.fh) hp2 fun v4 H4 Hf4 S4 e4 r4 => k v4 H4 Hf4 S4 (((e1.trans e2).trans e3).trans e4) r4⟩⟩⟩⟩
            · cases h5
          · cases h3
        · cases h3
      · cases h1
    · cases h1
  · cases hf

/-! ### targets -/
theorem setV_ne {i j : Nat} {d : PyData} {ρ ρ' : Rho} (h : setV i d ρ = some ρ') : i < ρ.length := by
  unfold setV at h
  split at h
  · rename_i q; exact lt_of_get q
  · rename_i q; exact lt_of_get q
  · rename_i q; exact lt_of_get q
  · cases h
theorem jg_nm {i : Nat} {x : Str} {pos : Pos} (hN : X.N.Nodup) (hi : X.N[i]? = some x) (hx : Loc X.env.scope x) (hf : X.fn x = true ∨ X.env.scope.names.lookup x = some .local) : JG X (.Name x pos) (.nm i) := by
  have h := pg_name (pos := pos) hN hi hx hf
  refine ⟨fun pins s σ H v u Q I r q => h.run pins s σ H v u Q I r ?_⟩
  obtain ⟨R, B, ρ, Hf, d, ρ', S, rp, hb, k⟩ := q
  refine k _ (S.setV hb rp) (by simp) fun j hj => ?_
  exact List.getElem?_set_ne (fun e => hj (by simp [tgS, e]))
def tSets (K : PySem.W.Frag) (is : List Nat) : TGs := fun vs σ H Q => ∃ R B ρ Hf ds ρ', StOk K R B ρ σ H Hf ∧ Reps K Hf ds vs ∧ setAll is ds ρ = some ρ' ∧ ∀ σ', StOk K R B ρ' σ' H Hf → σ'.length = σ.length → (∀ j, j ∉ is → σ'[j]? = σ[j]?) → Q σ' H
theorem jgs_nil : PGs X [] (tSets X.K []) := ⟨fun pins s σ H vs us Q I r q => pgs_nil.run pins s σ H vs us Q I r (by
  obtain ⟨R, B, ρ, Hf, ds, ρ', S, rp, hb, k⟩ := q
  cases ds with
  | nil =>
    cases hb
    exact ⟨rp, k σ S rfl fun _ _ => rfl⟩
  | cons d ds => simp [setAll] at hb)⟩
theorem jgs_cons {i : Nat} {is : List Nat} {x : Str} {pos : Pos} {es : List Expr} (hN : X.N.Nodup) (hi : X.N[i]? = some x) (hx : Loc X.env.scope x) (hf : X.fn x = true ∨ X.env.scope.names.lookup x = some .local) (t : PGs X es (tSets X.K is)) : PGs X (.Name x pos :: es) (tSets X.K (i :: is)) := by
  have h := pgs_cons (pg_name (pos := pos) hN hi hx hf) t (by rfl)
  refine ⟨fun pins s σ H vs us Q I r q => h.run pins s σ H vs us Q I r ?_⟩
  obtain ⟨R, B, ρ, Hf, ds, ρ', S, rp, hb, k⟩ := q
  cases ds with
  | nil => simp [setAll] at hb
  | cons d ds =>
    obtain ⟨v, vr, rfl, r1, r2⟩ := rp
    simp only [setAll, Option.bind_eq_some_iff] at hb
    obtain ⟨ρ1, b1, b2⟩ := hb
    refine ⟨v, vr, rfl, R, B, ρ1, Hf, ds, ρ', S.setV b1 r1, r2, b2, fun σ' S' hl hj => k σ' S' (by simpa using hl) fun j n => ?_⟩
    rw [hj j (fun z => n (by simp [z]))]
    exact List.getElem?_set_ne (fun e => n (by simp [e]))
theorem setAll_len : ∀ {is : List Nat} {ds : List PyData} {ρ ρ' : Rho}, setAll is ds ρ = some ρ' → is.length = ds.length
  | [], [], _, _, _ => rfl
  | [], _ :: _, _, _, h => by simp [setAll] at h
  | _ :: _, [], _, _, h => by simp [setAll] at h
  | i :: is, d :: ds, ρ, ρ', h => by
    simp only [setAll, Option.bind_eq_some_iff] at h
    obtain ⟨_, _, h⟩ := h
    rw [List.length_cons, List.length_cons, setAll_len h]
theorem jg_tp {is : List Nat} {es : List Expr} {k : Nat} {pos : Pos} (hc : X.calm = true) (t : PGs X es (tSets X.K is)) (hn : (assignEach es X.env).length = is.length) (hst : (assignEach es X.env).findIdx? (·.1) = none) : JG X (.Tuple es k pos) (.tp is) := by
  have h := pg_tup (k := k) (pos := pos) (n := is.length) hc t hn hst
  refine ⟨fun pins s σ H v u Q I r q => h.run pins s σ H v u Q I r ?_⟩
  obtain ⟨R, B, ρ, Hf, d, ρ', S, rp, hb, k⟩ := q
  cases d <;> first | (simp [bindT] at hb; done) | skip
  rename_i ds
  obtain ⟨a, vs, rfl, h1, h2⟩ := rp
  refine ⟨a, vs, rfl, sqT_mono S.fh h1, ?_, R, B, ρ, Hf, ds, ρ', S, h2, hb, k⟩
  rw [← h2.length]
  exact (setAll_len hb).symm

/-! ### what is walked -/
theorem iter_list {K : PySem.W.Frag} {Hf : Hp} {a : Addr} {vs : List V} {ds : List PyData} (h : Hf a = some (.lst vs)) (r : Reps K Hf ds vs) : IterOk K (Itl K a) Hf ds := by
  intro i H Hf2 e1 e2
  have q : SqL K H a vs := .inl (.inl (e2 _ _ (e1 _ _ h)))
  refine ⟨fun d hd => ?_, fun hl => ⟨vs, q, by rw [← r.length]; exact hl⟩⟩
  obtain ⟨v, hv, rv⟩ := r.get hd
  exact ⟨⟨vs, v, q, hv⟩, fun x H' y => by
    obtain ⟨rfl, y⟩ := y
    have e := y vs q
    rw [hv] at e
    cases e
    exact ⟨Hf2, Grow.refl e2, rv.mono e1 _ _⟩⟩
theorem iter_tup {K : PySem.W.Frag} {Hf : Hp} {a : Addr} {vs : List V} {ds : List PyData} (h : SqT K Hf a vs) (r : Reps K Hf ds vs) : IterOk K (Itt K a) Hf ds := by
  intro i H Hf2 e1 e2
  have q : SqT K H a vs := sqT_mono (e1.trans e2) h
  refine ⟨fun d hd => ?_, fun hl => ⟨vs, q, by rw [← r.length]; exact hl⟩⟩
  obtain ⟨v, hv, rv⟩ := r.get hd
  exact ⟨⟨vs, v, q, hv⟩, fun x H' y => by
    obtain ⟨rfl, y⟩ := y
    have e := y vs q
    rw [hv] at e
    cases e
    exact ⟨Hf2, Grow.refl e2, rv.mono e1 _ _⟩⟩
theorem ji_vals {tg e : Expr} {ie : IE} (h : JE X Φ e ie) : JI X Φ tg e (.vals ie) := by
  refine fun s => ⟨fun pins sh σ H Q I q => ?_⟩
  obtain ⟨R, B, ρ, Hf, ds, ρ', S, hf, k⟩ := q
  simp only [evI] at hf
  split at hf
  · rename_i xs ρ1 h1
    cases hf
    exact (pi_list (h s)).run pins sh σ H Q I ⟨R, B, ρ, Hf, _, _, S, h1, fun v H1 Hf1 S1 e1 r1 => by
      obtain ⟨a, vs, rfl, q1, q2⟩ := r1
      exact ⟨a, rfl, ⟨vs, .inl (.inl (S1.fh _ _ q1))⟩, k _ H1 Hf1 S1 e1 (iter_list q1 q2)⟩⟩
  · rename_i xs ρ1 h1
    cases hf
    exact (pi_tup (h s)).run pins sh σ H Q I ⟨R, B, ρ, Hf, _, _, S, h1, fun v H1 Hf1 S1 e1 r1 => by
      obtain ⟨a, vs, rfl, q1, q2⟩ := r1
      exact ⟨a, rfl, ⟨vs, sqT_mono S1.fh q1⟩, k _ H1 Hf1 S1 e1 (iter_tup q1 q2)⟩⟩
  · cases hf
theorem rangeD_get {lo hi : Int} {i : Nat} : (rangeD lo hi)[i]? = if i < (hi - lo).toNat then some (.int (lo + i)) else none := by
  unfold rangeD
  rw [List.getElem?_map]
  by_cases h : i < (hi - lo).toNat
  · rw [List.getElem?_range h, if_pos h]; rfl
  · rw [List.getElem?_eq_none (by simpa using h), if_neg h]; rfl
theorem iter_range {K : PySem.W.Frag} {Hf : Hp} {lo hi : Int} : IterOk K (Itr lo (hi - lo).toNat) Hf (rangeD lo hi) := by
  intro i H Hf2 e1 e2
  refine ⟨fun d hd => ?_, fun hl => ?_⟩
  · rw [rangeD_get] at hd
    split at hd
    · rename_i hi
      cases hd
      exact ⟨hi, fun x H' y => by
        obtain ⟨rfl, rfl⟩ := y
        exact ⟨Hf2, Grow.refl e2, rfl⟩⟩
    · cases hd
  · have hl' : (hi - lo).toNat ≤ i := by
      unfold rangeD at hl
      rw [List.length_map, List.length_range] at hl
      exact hl
    exact hl'
theorem reps1 {K : PySem.W.Frag} {H : Hp} {j : Int} {vs : List V} (h : Reps K H [.int j] vs) : vs = [.int j] := by
  obtain ⟨v, r, rfl, h1, h2⟩ := h
  rw [show v = _ from h1, show r = [] from h2]
theorem reps2 {K : PySem.W.Frag} {H : Hp} {i j : Int} {vs : List V} (h : Reps K H [.int i, .int j] vs) : vs = [.int i, .int j] := by
  obtain ⟨v, r, rfl, h1, u, r', rfl, h2, h3⟩ := h
  rw [show v = _ from h1, show u = _ from h2, show r' = [] from h3]
theorem ji_rng1 {tg a : Expr} {ia : IE} {p pos : Pos} (hg : Gl X "range") (hm : X.mg "range" = none) (h : JEs X Φ [a] (.c ia .n)) (hs : starEach [a] X.env = [(false, eval a X.env)]) : JI X Φ tg (.Call (.Name "range" p) [a] [] pos) (.rng (.c ia .n)) := by
  refine fun s => ⟨fun pins sh σ H Q I q => ?_⟩
  obtain ⟨R, B, ρ, Hf, ds, ρ', S, hf, k⟩ := q
  simp only [evI] at hf
  split at hf
  · rename_i es ρ1 h1
    simp only [Option.map_eq_some_iff] at hf
    obtain ⟨xs, hx, hf⟩ := hf
    cases hf
    have hj : ∃ j, es = [.int j] ∧ (-16777216 ≤ j ∧ j ≤ 16777216) ∧ ds = rangeD 0 j := by
      unfold rngD at hx
      split at hx
      · split at hx
        · rename_i j hj; cases hx; exact ⟨j, rfl, hj, rfl⟩
        · cases hx
      · exfalso
        simp only [evs] at h1
        split at h1
        · cases h1
        · cases h1
      · cases hx
    obtain ⟨j, rfl, hj, rfl⟩ := hj
    refine (pi_range1 (tg := tg) (p := p) (pos := pos) hg hm (h s) hs).run pins sh σ H Q I ⟨R, B, ρ, Hf, _, _, S, h1, fun vs H1 Hf1 S1 e1 r1 => ⟨j, reps1 r1, by omega, by omega, ?_⟩⟩
    have it : IterOk X.K (Itr 0 (j - 0).toNat) Hf1 (rangeD 0 j) := iter_range
    rw [Int.sub_zero] at it
    exact k _ H1 Hf1 S1 e1 it
  · cases hf
theorem evs_two {ia ib : IE} {s : Bool} {ρ ρ' : Rho} {ds : List PyData} (h1 : evs Φ (.c ia (.c ib .n)) s ρ = some (ds, ρ')) : ∃ x y, ds = [x, y] := by
  simp only [evs] at h1
  split at h1
  · split at h1
    · rename_i h2
      split at h2
      · cases h2
        cases h1
        exact ⟨_, _, rfl⟩
      · cases h2
    · cases h1
  · cases h1
theorem ji_rng2 {tg a b : Expr} {ia ib : IE} {p pos : Pos} (hg : Gl X "range") (hm : X.mg "range" = none) (h : JEs X Φ [a, b] (.c ia (.c ib .n))) (hs : starEach [a, b] X.env = [(false, eval a X.env), (false, eval b X.env)]) (hs2 : starEach [b] X.env = [(false, eval b X.env)]) : JI X Φ tg (.Call (.Name "range" p) [a, b] [] pos) (.rng (.c ia (.c ib .n))) := by
  refine fun s => ⟨fun pins sh σ H Q I q => ?_⟩
  obtain ⟨R, B, ρ, Hf, ds, ρ', S, hf, k⟩ := q
  simp only [evI] at hf
  split at hf
  · rename_i es ρ1 h1
    simp only [Option.map_eq_some_iff] at hf
    obtain ⟨xs, hx, hf⟩ := hf
    cases hf
    have hj : ∃ i j, es = [.int i, .int j] ∧ (-16777216 ≤ i ∧ i ≤ 16777216 ∧ j ≤ 16777216 ∧ -16777216 ≤ j) ∧ ds = rangeD i j := by
      unfold rngD at hx
      split at hx
      · obtain ⟨x, y, e⟩ := evs_two h1
        cases e
      · split at hx
        · rename_i i j hj; cases hx; exact ⟨i, j, rfl, hj, rfl⟩
        · cases hx
      · cases hx
    obtain ⟨i, j, rfl, hj, rfl⟩ := hj
    refine (pi_range2 (tg := tg) (p := p) (pos := pos) hg hm (h s) hs hs2).run pins sh σ H Q I ⟨R, B, ρ, Hf, _, _, S, h1, fun vs H1 Hf1 S1 e1 r1 => ⟨i, j, reps2 r1, by omega, ?_⟩⟩
    exact k _ H1 Hf1 S1 e1 iter_range
  · cases hf
theorem zipD_get {xs ys : List PyData} {i : Nat} {d : PyData} (h : (zipD xs ys)[i]? = some d) : ∃ x y, xs[i]? = some x ∧ ys[i]? = some y ∧ d = .tuple [x, y] := by
  unfold zipD at h
  rw [List.getElem?_map, Option.map_eq_some_iff] at h
  obtain ⟨p, hp, rfl⟩ := h
  rw [List.getElem?_zip_eq_some] at hp
  exact ⟨p.1, p.2, hp.1, hp.2, rfl⟩
theorem zipD_len {xs ys : List PyData} : (zipD xs ys).length = min xs.length ys.length := by
  unfold zipD
  rw [List.length_map, List.length_zip]
theorem iter_zipL {K : PySem.W.Frag} {Hf : Hp} {a b : Addr} {vs us : List V} {xs ys : List PyData} (h : Hf a = some (.lst vs)) (g : Hf b = some (.lst us)) (r : Reps K Hf xs vs) (q : Reps K Hf ys us) : IterOk K (Itz K a b) Hf (zipD xs ys) := by
  intro i H Hf2 e1 e2
  have qa : SqL K H a vs := .inl (.inl (e2 _ _ (e1 _ _ h)))
  have qb : SqL K H b us := .inl (.inl (e2 _ _ (e1 _ _ g)))
  refine ⟨fun d hd => ?_, fun hl => ⟨vs, us, qa, qb, by rw [zipD_len, r.length, q.length] at hl; omega⟩⟩
  obtain ⟨x, y, hx, hy, rfl⟩ := zipD_get hd
  obtain ⟨v, hv, rv⟩ := r.get hx
  obtain ⟨u, hu, ru⟩ := q.get hy
  refine ⟨⟨vs, us, v, u, qa, qb, hv, hu⟩, fun z H' yy => ?_⟩
  obtain ⟨T, v', u', rfl, hT, rfl, f1, f2⟩ := yy
  have e3 := f1 vs qa
  have e4 := f2 us qb
  rw [hv] at e3
  rw [hu] at e4
  cases e3
  cases e4
  have gr := Grow.upd (o := .tup [v, u]) e2 hT
  exact ⟨_, gr, T, [v, u], rfl, .inl (.inl upd_same), v, [u], rfl, (rv.mono e1 _ _).mono gr.ff _ _, u, [], rfl, (ru.mono e1 _ _).mono gr.ff _ _, rfl⟩
theorem iter_zipT {K : PySem.W.Frag} {Hf : Hp} {a b : Addr} {vs us : List V} {xs ys : List PyData} (h : SqT K Hf a vs) (g : SqT K Hf b us) (r : Reps K Hf xs vs) (q : Reps K Hf ys us) : IterOk K (ItzT K a b) Hf (zipD xs ys) := by
  intro i H Hf2 e1 e2
  have qa : SqT K H a vs := sqT_mono (e1.trans e2) h
  have qb : SqT K H b us := sqT_mono (e1.trans e2) g
  refine ⟨fun d hd => ?_, fun hl => ⟨vs, us, qa, qb, by rw [zipD_len, r.length, q.length] at hl; omega⟩⟩
  obtain ⟨x, y, hx, hy, rfl⟩ := zipD_get hd
  obtain ⟨v, hv, rv⟩ := r.get hx
  obtain ⟨u, hu, ru⟩ := q.get hy
  refine ⟨⟨vs, us, v, u, qa, qb, hv, hu⟩, fun z H' yy => ?_⟩
  obtain ⟨T, v', u', rfl, hT, rfl, f1, f2⟩ := yy
  have e3 := f1 vs qa
  have e4 := f2 us qb
  rw [hv] at e3
  rw [hu] at e4
  cases e3
  cases e4
  have gr := Grow.upd (o := .tup [v, u]) e2 hT
  exact ⟨_, gr, T, [v, u], rfl, .inl (.inl upd_same), v, [u], rfl, (rv.mono e1 _ _).mono gr.ff _ _, u, [], rfl, (ru.mono e1 _ _).mono gr.ff _ _, rfl⟩
theorem ji_zip {e e2 : Expr} {ie ie2 : IE} {p pos tpos : Pos} {elts : List Expr} {kk : Nat} (hg : Gl X "zip") (hm : X.mg "zip" = none) (h1 : JE X Φ e ie) (h2 : JE X Φ e2 ie2) (n1 : ∀ x p, e ≠ .Starred x p) (n2 : ∀ x p, e2 ≠ .Starred x p)
    (hs : starEach [e, e2] X.env = (false, eval e X.env) :: starEach [e2] X.env) (hpl : (backTo pos (starEach [e2] X.env)).any (·.1) = false) : JI X Φ (.Tuple elts kk tpos) (.Call (.Name "zip" p) [e, e2] [] pos) (.zip ie ie2) := by
  refine fun s => ⟨fun pins sh σ H Q I q => ?_⟩
  obtain ⟨R, B, ρ, Hf, ds, ρ', S, hf, k⟩ := q
  have ha : PA X [e, e2] (tEvs X.K (evs Φ (.c ie (.c ie2 .n)) s)) := jes_cons h1 (jes_cons h2 jes_nil n2) n1 s
  simp only [evI] at hf
  split at hf
  · rename_i x ρ1 g1
    split at hf
    · rename_i y ρ2 g2
      have g3 : evs Φ (.c ie (.c ie2 .n)) s ρ = some ([x, y], ρ2) := by simp only [evs, g1, g2]
      refine (pi_zipA (tpos := tpos) (elts := elts) (kk := kk) (p := p) (pos := pos) hg hm ha hs hpl).run pins sh σ H Q I ⟨R, B, ρ, Hf, _, _, S, g3, fun vs H1 Hf1 S1 e1 r1 => ?_⟩
      obtain ⟨v, r, rfl, w1, u, r', rfl, w2, w3⟩ := r1
      have w3 : r' = [] := w3
      subst w3
      split at hf
      · cases hf
        obtain ⟨a, vs, rfl, q1, q2⟩ := w1
        obtain ⟨b, us, rfl, q3, q4⟩ := w2
        exact ⟨a, b, vs, us, rfl, .inl ⟨.inl (.inl (S1.fh _ _ q1)), .inl (.inl (S1.fh _ _ q3)), k _ H1 Hf1 S1 e1 (iter_zipL q1 q3 q2 q4)⟩⟩
      · cases hf
        obtain ⟨a, vs, rfl, q1, q2⟩ := w1
        obtain ⟨b, us, rfl, q3, q4⟩ := w2
        exact ⟨a, b, vs, us, rfl, .inr ⟨sqT_mono S1.fh q1, sqT_mono S1.fh q3, k _ H1 Hf1 S1 e1 (iter_zipT q1 q3 q2 q4)⟩⟩
      · cases hf
    · cases hf
  · cases hf
end
end CD

set_option Elab.async false
set_option linter.all false
set_option maxRecDepth 100000
set_option autoImplicit false
/-! Comprehensions. -/
namespace CD
open PySem PySem.Spec L2
open PyProof.Rows hiding St

theorem wipe_get {vs : List Nat} : ∀ {σ : L2.St} {j : Nat}, j ∉ vs → (wipe σ vs)[j]? = σ[j]? := by
  induction vs with
  | nil => intro σ j _; rfl
  | cons v vs ih =>
    intro σ j h
    unfold wipe
    rw [List.getElem?_set_ne (fun e => h (by simp [e])), ih (fun e => h (by simp [e]))]
theorem wipe_in {vs : List Nat} : ∀ {σ : L2.St} {j : Nat}, j ∈ vs → j < σ.length → (wipe σ vs)[j]? = some none := by
  induction vs with
  | nil => intro σ j h; cases h
  | cons v vs ih =>
    intro σ j h hl
    unfold wipe
    by_cases e : v = j
    · subst e
      rw [List.getElem?_set_self (by rw [wipe_length]; exact hl)]
    · rw [List.getElem?_set_ne e]
      rcases List.mem_cons.mp h with z | z
      · exact absurd z.symm e
      · exact ih z hl
theorem wipe_congr {vs : List Nat} {σ σ' : L2.St} (hl : σ'.length = σ.length) (h : ∀ j, j ∉ vs → σ'[j]? = σ[j]?) : wipe σ' vs = wipe σ vs := by
  apply List.ext_getElem?
  intro j
  by_cases m : j ∈ vs
  · by_cases hj : j < σ.length
    · rw [wipe_in m hj, wipe_in m (by omega)]
    · rw [List.getElem?_eq_none (by rw [wipe_length]; omega), List.getElem?_eq_none (by rw [wipe_length]; omega)]
  · rw [wipe_get m, wipe_get m, h j m]
theorem wipe_wipe {vs : List Nat} {σ : L2.St} : wipe (wipe σ vs) vs = wipe σ vs := wipe_congr (wipe_length _ _) fun _ h => wipe_get h

theorem wipeR_cases : ∀ {is : List Nat} {ρ ρ' : Rho}, wipeR is ρ = some ρ' → ρ'.length = ρ.length ∧ (∀ j, j ∉ is → ρ'[j]? = ρ[j]?) ∧ ∀ j ∈ is, ρ'[j]? = some .no ∧ (ρ[j]? = some .no ∨ ∃ d, ρ[j]? = some (.val d))
  | [], ρ, ρ', h => by
    simp only [wipeR] at h
    cases h
    exact ⟨rfl, fun _ _ => rfl, fun j hj => by cases hj⟩
  | i :: is, ρ, ρ', h => by
    simp only [wipeR] at h
    have hk : (ρ[i]? = some .no ∨ ∃ d, ρ[i]? = some (.val d)) ∧ ∃ r, wipeR is ρ = some r ∧ ρ' = r.set i .no := by
      split at h
      · rename_i q
        simp only [Option.map_eq_some_iff] at h
        obtain ⟨r, h1, h2⟩ := h
        exact ⟨.inl q, r, h1, h2.symm⟩
      · rename_i d q
        simp only [Option.map_eq_some_iff] at h
        obtain ⟨r, h1, h2⟩ := h
        exact ⟨.inr ⟨d, q⟩, r, h1, h2.symm⟩
      · cases h
    obtain ⟨hk, r, h1, rfl⟩ := hk
    obtain ⟨g1, g2, g3⟩ := wipeR_cases h1
    have hi : i < ρ.length := by rcases hk with q | ⟨d, q⟩ <;> exact lt_of_get q
    refine ⟨by simpa using g1, fun j hj => ?_, fun j hj => ?_⟩
    · rw [List.getElem?_set_ne (fun e => hj (by simp [e])), g2 j (fun e => hj (by simp [e]))]
    · by_cases e : j = i
      · subst e
        exact ⟨List.getElem?_set_self (by omega), hk⟩
      · rw [List.getElem?_set_ne (Ne.symm e)]
        exact g3 j ((List.mem_cons.mp hj).resolve_left e)
theorem backR_cases (ρ0 ρ : Rho) : ∀ (is : List Nat), (backR is ρ0 ρ).length = ρ.length ∧ (∀ j, j ∉ is → (backR is ρ0 ρ)[j]? = ρ[j]?) ∧ ∀ j ∈ is, j < ρ.length → (backR is ρ0 ρ)[j]? = some (ρ0[j]?.getD .no)
  | [] => ⟨rfl, fun _ _ => rfl, fun j hj => by cases hj⟩
  | i :: is => by
    obtain ⟨g1, g2, g3⟩ := backR_cases ρ0 ρ is
    refine ⟨by simpa [backR] using g1, fun j hj => ?_, fun j hj hl => ?_⟩
    · unfold backR
      rw [List.getElem?_set_ne (fun e => hj (by simp [e])), g2 j (fun e => hj (by simp [e]))]
    · unfold backR
      by_cases e : j = i
      · subst e
        rw [List.getElem?_set_self (by omega)]
      · rw [List.getElem?_set_ne (Ne.symm e)]
        exact g3 j ((List.mem_cons.mp hj).resolve_left e) hl
section
variable {K : PySem.W.Frag} {R H Hf H' Hf' : Hp} {B : List (Nat × Addr)} {ρ ρ' ρ1 ρ3 : Rho} {σ : L2.St} {own : List Nat}
theorem StOk.wiped (S : StOk K R B ρ σ H Hf) (h : wipeR own ρ = some ρ') : StOk K R B ρ' (wipe σ own) H Hf := by
  obtain ⟨g1, g2, g3⟩ := wipeR_cases h
  have off : ∀ {j : Nat} {s : Slot}, ρ'[j]? = some s → s ≠ .no → j ∉ own ∧ ρ[j]? = some s := fun {j s} q n => by
    have m : j ∉ own := fun m => by
      have := (g3 j m).1
      rw [this] at q
      exact n (Option.some.inj q).symm
    exact ⟨m, by rw [← g2 j m]; exact q⟩
  have ob : ∀ {j : Nat} {e : PyData}, (ρ'[j]? = some (.own e) ∨ ρ'[j]? = some (.bor e)) → j ∉ own ∧ (ρ[j]? = some (.own e) ∨ ρ[j]? = some (.bor e)) := fun {j e} q => by
    rcases q with q | q
    · obtain ⟨m, q⟩ := off q (by simp); exact ⟨m, .inl q⟩
    · obtain ⟨m, q⟩ := off q (by simp); exact ⟨m, .inr q⟩
  refine ⟨S.fh, S.rh, S.rf, by rw [wipe_length, g1]; exact S.len, fun j d q => ?_, fun j d q => ?_, fun j ns q => ?_, fun i j d e a q1 q2 s1 s2 => ?_, fun x hx => ?_⟩
  · obtain ⟨m, q⟩ := off q (by simp)
    rw [wipe_get m]
    exact S.val j d q
  · obtain ⟨m, q⟩ := ob q
    rw [wipe_get m]
    exact S.own j d q
  · obtain ⟨m, q⟩ := off q (by simp)
    rw [wipe_get m]
    exact S.scr j ns q
  · obtain ⟨m1, q1⟩ := ob q1
    obtain ⟨m2, q2⟩ := ob q2
    rw [wipe_get m1] at s1
    rw [wipe_get m2] at s2
    exact S.inj i j d e a q1 q2 s1 s2
  · obtain ⟨⟨d, q⟩, s1⟩ := S.bor x hx
    have m : x.1 ∉ own := fun m => by
      rcases (g3 x.1 m).2 with z | ⟨_, z⟩ <;> (rw [q] at z; cases z)
    exact ⟨⟨d, by rw [g2 _ m]; exact q⟩, by rw [wipe_get m]; exact s1⟩
/-- a thing beside the state is guarded -/
theorem StOk.guard (S : StOk K R B ρ σ H Hf) {D : Addr} {o : HO} (hn : H D = none) : StOk K (upd R D o) B ρ σ (upd H D o) Hf := by
  have S1 : StOk K R B ρ σ (upd H D o) Hf := S.grow ⟨same_upd hn, Same.refl _, S.fh.trans (same_upd hn), fun _ _ h => .inl h⟩
  have rD : R D = none := Same.free S.rh hn
  refine ⟨S1.fh, same_upd2 S.rh, fun b x h => ?_, S.len, S.val, fun i d h => ?_, fun i ns h => ?_, S.inj, S.bor⟩
  · by_cases e : b = D
    · subst e; exact Same.free S.fh hn
    · rw [upd_ne e] at h; exact S.rf b x h
  · obtain ⟨a, us, ds, h0, h1, h2, h3, h4, h5⟩ := S1.own i d h
    have e : a ≠ D := fun e => by
      subst e
      obtain ⟨b, _, _, _, y1, y2, _⟩ := S.own i d h
      rw [h1] at y1
      cases y1
      rw [hn] at y2
      cases y2
    exact ⟨a, us, ds, h0, h1, h2, h3, by rw [upd_ne e]; exact h4, h5⟩
  · obtain ⟨a, h1, h2⟩ := S.scr i ns h
    exact ⟨a, h1, h2.mono (same_upd rD)⟩
theorem upd_upd' {H : Hp} {a : Addr} {o u : HO} : upd (upd H a o) a u = upd H a u := upd_upd
/-- the guarded list changes -/
theorem StOk.turn {D : Addr} {xs ys : List V} (rD : R D = none) (S : StOk K (upd R D (.lst xs)) B ρ σ H Hf) : StOk K (upd R D (.lst ys)) B ρ σ (upd H D (.lst ys)) Hf := by
  have fD : Hf D = none := S.rf D _ upd_same
  refine ⟨fun b x h => ?_, fun b x h => ?_, fun b x h => ?_, S.len, S.val, fun i d h => ?_, fun i ns h => ?_, S.inj, S.bor⟩
  · have e : b ≠ D := fun e => by subst e; rw [fD] at h; cases h
    rw [upd_ne e]; exact S.fh b x h
  · by_cases e : b = D
    · subst e; rw [upd_same] at h ⊢; exact h
    · rw [upd_ne e] at h ⊢; exact S.rh b x (by rw [upd_ne e]; exact h)
  · by_cases e : b = D
    · subst e; exact fD
    · rw [upd_ne e] at h; exact S.rf b x (by rw [upd_ne e]; exact h)
  · obtain ⟨a, us, ds, h0, h1, h2, h3, h4, h5⟩ := S.own i d h
    have e : a ≠ D := fun e => by subst e; rw [upd_same] at h4; cases h4
    exact ⟨a, us, ds, h0, h1, by rw [upd_ne e]; exact h2, h3, by rw [upd_ne e] at h4 ⊢; exact h4, h5⟩
  · obtain ⟨a, h1, h2⟩ := S.scr i ns h
    refine ⟨a, h1, ?_⟩
    rcases h2 with ⟨o, h2⟩ | h2
    · have e : a ≠ D := fun e => by subst e; rw [upd_same] at h2; cases h2
      rw [upd_ne e] at h2
      exact .inl ⟨o, by rw [upd_ne e]; exact h2⟩
    · exact .inr h2
/-- back behind a comprehension -/
theorem StOk.back {D : Addr} {xs : List V} (rD : R D = none) (S1 : StOk K R B ρ1 σ H Hf) (hw : wipeR own ρ1 = some ρ') (S : StOk K (upd R D (.lst xs)) B ρ3 (wipe σ own) H' Hf') (e : Same Hf Hf') : StOk K R B (backR own ρ1 ρ3) σ H' Hf' := by
  obtain ⟨w1, w2, w3⟩ := wipeR_cases hw
  obtain ⟨b1, b2, b3⟩ := backR_cases ρ1 ρ3 own
  have l3 : ρ3.length = σ.length := by rw [← S.len, wipe_length]
  have l1 : ρ1.length = σ.length := S1.len.symm
  have inn : ∀ {j : Nat} {s : Slot}, j ∈ own → (backR own ρ1 ρ3)[j]? = some s → ρ1[j]? = some s := fun {j s} m q => by
    have hj : j < ρ3.length := by have := lt_of_get q; omega
    rw [b3 j m hj] at q
    rcases (w3 j m).2 with z | ⟨d, z⟩ <;> (rw [z] at q ⊢; exact q)
  have ob : ∀ {j : Nat} {f : PyData}, ((backR own ρ1 ρ3)[j]? = some (.own f) ∨ (backR own ρ1 ρ3)[j]? = some (.bor f)) → j ∉ own ∧ (ρ3[j]? = some (.own f) ∨ ρ3[j]? = some (.bor f)) := fun {j f} q => by
    have m : j ∉ own := fun m => by
      have q' : ρ1[j]? = some (.own f) ∨ ρ1[j]? = some (.bor f) := q.elim (fun z => .inl (inn m z)) fun z => .inr (inn m z)
      rcases (w3 j m).2 with z | ⟨d, z⟩ <;> (rw [z] at q'; rcases q' with q' | q' <;> cases q')
    rw [b2 j m] at q
    exact ⟨m, q⟩
  refine ⟨S.fh, fun b x h => S.rh b x (by rw [upd_ne (ne_of_none h rD)]; exact h), fun b x h => S.rf b x (by rw [upd_ne (ne_of_none h rD)]; exact h), by rw [b1, l3], fun j d q => ?_, fun j d q => ?_, fun j ns q => ?_, fun i j d f a q1 q2 s1 s2 => ?_, fun x hx => ?_⟩
  · by_cases m : j ∈ own
    · obtain ⟨v, h1, h2⟩ := S1.val j d (inn m q)
      exact ⟨v, h1, h2.mono e _ _⟩
    · rw [b2 j m] at q
      obtain ⟨v, h1, h2⟩ := S.val j d q
      rw [wipe_get m] at h1
      exact ⟨v, h1, h2⟩
  · obtain ⟨m, q⟩ := ob q
    obtain ⟨a, us, ds, h0, h1, h2, h3, h4, h5⟩ := S.own j d q
    rw [wipe_get m] at h1
    have ne : a ≠ D := fun z => by subst z; rw [upd_same] at h4; cases h4
    rw [upd_ne ne] at h4
    exact ⟨a, us, ds, h0, h1, h2, h3, h4, h5⟩
  · have m : j ∉ own := fun m => by
      have q' := inn m q
      rcases (w3 j m).2 with z | ⟨d, z⟩ <;> (rw [z] at q'; cases q')
    rw [b2 j m] at q
    obtain ⟨a, h1, h2⟩ := S.scr j ns q
    rw [wipe_get m] at h1
    refine ⟨a, h1, ?_⟩
    rcases h2 with ⟨o, h2⟩ | h2
    · have ne : a ≠ D := fun z => by subst z; rw [upd_same] at h2; cases h2
      rw [upd_ne ne] at h2
      exact .inl ⟨o, h2⟩
    · exact .inr h2
  · obtain ⟨m1, q1⟩ := ob q1
    obtain ⟨m2, q2⟩ := ob q2
    exact S.inj i j d f a q1 q2 (by rw [wipe_get m1]; exact s1) (by rw [wipe_get m2]; exact s2)
  · obtain ⟨⟨d, q⟩, s1⟩ := S.bor x hx
    have s1' := (S1.bor x hx).2
    obtain ⟨d1, q1⟩ := (S1.bor x hx).1
    have m : x.1 ∉ own := fun m => by
      rcases (w3 x.1 m).2 with z | ⟨_, z⟩ <;> (rw [q1] at z; cases z)
    exact ⟨⟨d, by rw [b2 _ m]; exact q⟩, s1'⟩
end

section
variable {X : Cx} {Φ : PhiT}
/-- a comprehension's tests -/
def JC (X : Cx) (Φ : PhiT) (ifs : List Expr) (cd : IEs) : Prop := PTs X ifs (tEvT X.K (evc Φ cd false))
theorem jc_nil : JC X Φ [] .n := ⟨fun pins s σ H Q I q => pts_nil.run pins s σ H Q I (by
  obtain ⟨R, B, ρ, Hf, b, ρ', S, hf, k⟩ := q
  cases hf
  exact k H Hf S (Same.refl _))⟩
theorem jc_one {e : Expr} {ie : IE} (h : JT X Φ e ie) : JC X Φ [e] (.c ie .n) := ⟨fun pins s σ H Q I q => (pts_one (h false)).run pins s σ H Q I (by
  obtain ⟨R, B, ρ, Hf, b, ρ', S, hf, k⟩ := q
  simp only [evc] at hf
  split at hf
  · rename_i ρ1 h1
    cases hf
    exact ⟨R, B, ρ, Hf, true, _, S, h1, k⟩
  · rename_i ρ1 h1
    cases hf
    exact ⟨R, B, ρ, Hf, false, _, S, h1, k⟩
  · cases hf)⟩
/-- one turn of a comprehension -/
def turnF (Φ : PhiT) (tg : Tg) (cd : IEs) (elt : IE) (own : List Nat) (d : PyData) (r : Rho) : Option (Option PyData × Rho) := match bindT tg d r with
  | some r1 => match evc Φ cd false r1 with
    | some (true, r2) => match ev Φ elt false r2 with
      | some (x, r3) => (wipeR own r3).map fun r4 => (some x, r4)
      | none => none
    | some (false, r2) => (wipeR own r2).map fun r4 => (none, r4)
    | none => none
  | none => none
theorem comp_read {it : II} {itg : Tg} {icd : IEs} {ielt : IE} {s : Bool} (σ : L2.St) (H : Hp) (Q : VK) (q : tEv X.K (ev Φ (.comp it itg icd ielt (tgS itg)) s) σ H Q) :
    tLc (tEvI X.K (evI Φ it false)) (tBind X.K itg) (tEvT X.K (evc Φ icd false)) (tEv X.K (ev Φ ielt false)) (tgS itg) σ H Q := by
  obtain ⟨R, B, ρ, Hf, d, ρ', S, hf, k⟩ := q
  simp only [ev] at hf
  split at hf
  · cases hf
  · split at hf
    · rename_i ds ρ1 h1
      split at hf
      · rename_i ρ2 h2
        split at h2
        · rename_i hlen
          split at hf
          · rename_i rs ρ3 h3
            cases hf
            have h3' : loopM (turnF Φ itg icd ielt (tgS itg)) ds ρ2 = some (rs, ρ3) := h3
            refine ⟨R, B, ρ, Hf, ds, ρ1, S, h1, fun J H1 Hf1 S1 e1 itk D hD => ?_⟩
            have rD : R D = none := Same.free S1.rh hD
            refine ⟨fun i m H => m = ds.length - i ∧ i ≤ ds.length ∧ ∃ ρi Hfi acc done rest, StOk X.K (upd R D (.lst acc)) B ρi (wipe σ (tgS itg)) H Hfi ∧ Same Hf1 Hfi ∧ Reps X.K Hfi done acc ∧ acc.length ≤ i ∧ loopM (turnF Φ itg icd ielt (tgS itg)) (ds.drop i) ρi = some (rest, ρ3) ∧ rs = done ++ rest,
              ⟨ds.length, by simp, Nat.zero_le _, ρ2, Hf1, [], [], rs, (S1.wiped h2).guard hD, Same.refl _, rfl, Nat.le_refl _, h3', rfl⟩, ?_⟩
            rintro i m H2 ⟨rfl, hi, ρi, Hfi, acc, done, rest, Si, ei, ri, li, hl, hrs⟩
            obtain ⟨go, stop⟩ := itk i H2 Hfi ei Si.fh
            by_cases hlt : i < ds.length
            · have hd : ds[i]? = some ds[i] := List.getElem?_eq_getElem hlt
              obtain ⟨g1, g2⟩ := go _ hd
              refine .inr ⟨g1, fun H' => (ds.length - (i + 1) = ds.length - (i + 1) ∧ i + 1 ≤ ds.length ∧ ∃ ρi Hfi acc done rest, StOk X.K (upd R D (.lst acc)) B ρi (wipe σ (tgS itg)) H' Hfi ∧ Same Hf1 Hfi ∧ Reps X.K Hfi done acc ∧ acc.length ≤ i + 1 ∧ loopM (turnF Φ itg icd ielt (tgS itg)) (ds.drop (i + 1)) ρi = some (rest, ρ3) ∧ rs = done ++ rest),
                fun H' hn => ⟨ds.length - (i + 1), by omega, hn⟩, fun x H' y => ?_⟩
              obtain ⟨Hf2, gr, rx⟩ := g2 x H' y
              have S2 := Si.grow gr
              rw [List.drop_eq_getElem_cons hlt] at hl
              simp only [loopM] at hl
              cases hturn : turnF Φ itg icd ielt (tgS itg) ds[i] ρi with
              | none => rw [hturn] at hl; cases hl
              | some p =>
                obtain ⟨o, ρn⟩ := p
                rw [hturn] at hl
                dsimp only at hl
                split at hl
                · cases hl
                · rename_i rs2 ρ4 h4
                  cases hl
                  unfold turnF at hturn
                  cases hb : bindT itg ds[i] ρi with
                  | none => rw [hb] at hturn; cases hturn
                  | some r1 =>
                    rw [hb] at hturn
                    dsimp only at hturn
                    refine ⟨_, B, ρi, Hf2, _, r1, S2, rx, hb, fun σ2 S3 hl2 hj => ?_⟩
                    have hw : wipe σ2 (tgS itg) = wipe σ (tgS itg) := (wipe_congr (σ := wipe σ (tgS itg)) hl2 hj).trans wipe_wipe
                    refine ⟨hw, ?_⟩
                    cases hc : evc Φ icd false r1 with
                    | none => rw [hc] at hturn; cases hturn
                    | some p =>
                      obtain ⟨b, r2⟩ := p
                      rw [hc] at hturn
                      refine ⟨_, B, r1, Hf2, b, r2, S3, hc, fun H3 Hf3 S4 e4 => ?_⟩
                      cases b with
                      | true =>
                        refine iteT ?_
                        dsimp only at hturn
                        cases hx : ev Φ ielt false r2 with
                        | none => rw [hx] at hturn; cases hturn
                        | some p =>
                          obtain ⟨x5, r5⟩ := p
                          rw [hx] at hturn
                          simp only [Option.map_eq_some_iff] at hturn
                          obtain ⟨r6, hw6, hturn⟩ := hturn
                          cases hturn
                          refine ⟨_, B, r2, Hf3, x5, r5, S4, hx, fun y5 H5 Hf5 S5 e5 ry => ?_⟩
                          refine ⟨acc, S5.rh D _ upd_same, by rw [seqLine]; omega, rfl, hlt, _, Hf5, acc ++ [y5], done ++ [x5], rs2, ?_, (ei.trans gr.ff).trans (e4.trans e5), ?_, by rw [List.length_append]; simp; omega, h4, by rw [hrs]; simp⟩
                          · have S6 := (S5.wiped hw6).turn (ys := acc ++ [y5]) rD
                            rw [hw] at S6
                            exact S6
                          · exact Reps.append (ri.mono ((gr.ff.trans e4).trans e5) _ _) (.cons ry .nil)
                      | false =>
                        refine iteF ?_
                        simp only [Option.map_eq_some_iff] at hturn
                        obtain ⟨r6, hw6, hturn⟩ := hturn
                        cases hturn
                        refine ⟨rfl, hlt, _, Hf3, acc, done, rs2, ?_, (ei.trans gr.ff).trans e4, ri.mono (gr.ff.trans e4) _ _, by omega, h4, by rw [hrs]; simp⟩
                        have S6 := S4.wiped hw6
                        rw [hw] at S6
                        exact S6
            · have e : i = ds.length := by omega
              subst e
              refine .inl ⟨stop (Nat.le_refl _), ?_⟩
              rw [List.drop_length] at hl
              simp only [loopM] at hl
              cases hl
              rw [List.append_nil] at hrs
              subst hrs
              have S5 := StOk.back rD S1 h2 Si ei
              have al : Alone X.K R (backR (tgS itg) ρ1 ρ3) σ H2 Hfi (.list rs) (.ref D) := by
                refine ⟨D, acc, rs, rfl, rfl, Si.rh D _ upd_same, Si.rf D _ upd_same, rD, ri, fun j f hj hs => ?_⟩
                obtain ⟨b1, b2, b3⟩ := backR_cases ρ1 ρ3 (tgS itg)
                obtain ⟨a, us, es, h0, y0, y1, y2, y3, _⟩ := S5.own j f hj
                rw [hs] at y0
                cases y0
                obtain ⟨w1, w2, w3⟩ := wipeR_cases h2
                have mo : j ∉ tgS itg := fun m => by
                  have hj3 : j < ρ3.length := by
                    have : j < (backR (tgS itg) ρ1 ρ3).length := by rcases hj with q | q <;> exact lt_of_get q
                    omega
                  rw [b3 j m hj3] at hj
                  rcases (w3 j m).2 with z | ⟨_, z⟩ <;> (rw [z] at hj; rcases hj with q | q <;> cases q)
                rw [b2 j mo] at hj
                obtain ⟨a, us, es, h0, y0, y1, y2, y3, _⟩ := Si.own j f hj
                rw [wipe_get mo, hs] at y0
                cases y0
                rw [upd_same] at y3
                cases y3
              obtain ⟨Hf6, S6, e6, r6⟩ := S5.freeze al
              exact k _ H2 Hf6 S6 ((e1.trans ei).trans e6) r6
          · cases hf
        · cases h2
      · cases hf
    · cases hf
theorem je_comp {elt tg iter : Expr} {ifs : List Expr} {scope : Scope} {ownS : List (Str × Nat)} {pos : Pos} {it : II} {itg : Tg} {icd : IEs} {ielt : IE} (hc : X.calm = true) (hN : X.N.Nodup) (ok : BlkOk X.N X.env.scope scope ownS) (ho : ownS.map (·.2) = tgS itg)
    (hi : JI X Φ tg iter it) (hg : ∀ (s : Shared) (H : Hp) (C : Addr) (cl : List (Str × Addr)) (fp : List Addr), JG (X.blk s H scope (compEnvC scope cl C X.env) fp) tg itg) (ht : ∀ (s : Shared) (H : Hp) (C : Addr) (cl : List (Str × Addr)) (fp : List Addr), JC (X.blk s H scope (compEnvC scope cl C X.env) fp) Φ ifs icd)
    (he : ∀ (s : Shared) (H : Hp) (C : Addr) (cl : List (Str × Addr)) (fp : List Addr), JE (X.blk s H scope (compEnvC scope cl C X.env) fp) Φ elt ielt) (hs : ∀ x, foldedSetIterable iter X.env x = pure x) :
    JE X Φ (.ListComp elt [⟨tg, iter, ifs, 0⟩] scope pos) (.comp it itg icd ielt (tgS itg)) := by
  refine fun s => (pe_lc (g := tBind X.K itg) (tt := tEvT X.K (evc Φ icd false)) (te := tEv X.K (ev Φ ielt false)) hc hN (hi false) ok (fun s H C cl fp => hg s H C cl fp) (fun s H C cl fp => ht s H C cl fp) (fun s H C cl fp => he s H C cl fp false) hs).weak fun σ H Q q => ?_
  rw [ho]
  exact comp_read σ H Q q
end
end CD

set_option Elab.async false
set_option linter.all false
set_option maxRecDepth 100000
set_option autoImplicit false
/-! Statements. -/
namespace CD
open PySem PySem.Spec L2
open PyProof.Rows hiding St

def OutPost (K : PySem.W.Frag) (R : Hp) (B : List (Nat × Addr)) (Hf : Hp) (D : Ends) : Out → Prop
  | .nx ρ' => ∀ σ' H' Hf', StOk K R B ρ' σ' H' Hf' → Same Hf Hf' → D.nx σ' H'
  | .rt d fr ρ' => ∀ v σ' H' Hf', StOk K R B ρ' σ' H' Hf' → Same Hf Hf' → (if fr = true then Alone K R ρ' σ' H' Hf' d v else Rep K Hf' d v) → D.rt v H'
  | .bk ρ' => ∀ σ' H' Hf', StOk K R B ρ' σ' H' Hf' → Same Hf Hf' → D.bk σ' H'
theorem OutPost.mono {K : PySem.W.Frag} {R : Hp} {B : List (Nat × Addr)} {Hf Hf' : Hp} {D : Ends} (e : Same Hf Hf') : ∀ {o : Out}, OutPost K R B Hf D o → OutPost K R B Hf' D o
  | .nx _, h => fun σ' H' Hf2 S e2 => h σ' H' Hf2 S (e.trans e2)
  | .rt _ _ _, h => fun v σ' H' Hf2 S e2 r => h v σ' H' Hf2 S (e.trans e2) r
  | .bk _, h => fun σ' H' Hf2 S e2 => h σ' H' Hf2 S (e.trans e2)
def tEx (K : PySem.W.Frag) (f : Rho → Option Out) : TS := fun D σ H => ∃ R B ρ Hf o, StOk K R B ρ σ H Hf ∧ f ρ = some o ∧ OutPost K R B Hf D o

section
variable {X : Cx} {Φ : PhiT} {W : Nat}
theorem _root_.L2.PS.weak {st : Stmt} {t t' : TS} (h : PS X st t) (w : ∀ D σ H, t' D σ H → t D σ H) : PS X st t' := ⟨fun pins s σ H D I q => h.run pins s σ H D I (w _ _ _ q)⟩
theorem _root_.L2.PSs.weak {st : List Stmt} {t t' : TS} (h : PSs X st t) (w : ∀ D σ H, t' D σ H → t D σ H) : PSs X st t' := ⟨fun pins s σ H D I q => h.run pins s σ H D I (w _ _ _ q)⟩
def JS (X : Cx) (Φ : PhiT) (W : Nat) (st : Stmt) (ist : IS) : Prop := PS X st (tEx X.K (exec Φ W ist))
def JSs (X : Cx) (Φ : PhiT) (W : Nat) (sts : List Stmt) (ists : ISs) : Prop := PSs X sts (tEx X.K (execs Φ W ists))

theorem jss_nil : JSs X Φ W [] .n := pss_nil.weak fun D σ H q => by
  obtain ⟨R, B, ρ, Hf, o, S, hf, k⟩ := q
  simp only [execs] at hf
  cases hf
  exact k σ H Hf S (Same.refl _)
theorem jss_cons {st : Stmt} {sts : List Stmt} {i : IS} {is : ISs} (h : JS X Φ W st i) (t : JSs X Φ W sts is) : JSs X Φ W (st :: sts) (.c i is) := (pss_cons h t).weak fun D σ H q => by
  obtain ⟨R, B, ρ, Hf, o, S, hf, k⟩ := q
  simp only [execs] at hf
  split at hf
  · rename_i ρ1 h1
    exact ⟨R, B, ρ, Hf, _, S, h1, fun σ' H' Hf' S' e => ⟨R, B, ρ1, Hf', o, S', hf, k.mono e⟩⟩
  · rename_i o' hn
    refine ⟨R, B, ρ, Hf, o, S, hf, ?_⟩
    cases o with
    | nx ρ' => exact absurd hf (hn ρ')
    | rt d fr ρ' => exact k
    | bk ρ' => exact k
/-- name = value; a, b = value -/
theorem asg_read {tg : Tg} {ie : IE} (D : Ends) (σ : L2.St) (H : Hp) (q : tEx X.K (exec Φ W (.asg tg ie)) D σ H) : tEv X.K (ev Φ ie false) σ H (fun x H1 => tBind X.K tg x σ H1 D.nx) := by
  obtain ⟨R, B, ρ, Hf, o, S, hf, k⟩ := q
  simp only [exec] at hf
  split at hf
  · rename_i d ρ1 h1
    simp only [Option.map_eq_some_iff] at hf
    obtain ⟨ρ2, h2, rfl⟩ := hf
    exact ⟨R, B, ρ, Hf, d, ρ1, S, h1, fun v H1 Hf1 S1 e1 r1 => ⟨R, B, ρ1, Hf1, d, ρ2, S1, r1, h2, fun σ' S2 _ _ => k σ' H1 Hf1 S2 e1⟩⟩
  · cases hf
theorem bind_nm {K : PySem.W.Frag} {i : Nat} {x : V} {σ : L2.St} {H : Hp} {Q : L2.St → Hp → Prop} (q : tBind K (.nm i) x σ H Q) : Q (σ.set i (some x)) H := by
  obtain ⟨R, B, ρ, Hf, d, ρ', S, rp, hb, k⟩ := q
  refine k _ (S.setV hb rp) (by simp) fun j hj => ?_
  exact List.getElem?_set_ne (fun e => hj (by simp [tgS, e]))
theorem tEv_mono {K : PySem.W.Frag} {f : Rho → Option (PyData × Rho)} {σ : L2.St} {H : Hp} {Q Q' : VK} (q : tEv K f σ H Q) (h : ∀ v H', Q v H' → Q' v H') : tEv K f σ H Q' := by
  obtain ⟨R, B, ρ, Hf, d, ρ', S, hf, k⟩ := q
  exact ⟨R, B, ρ, Hf, d, ρ', S, hf, fun v H' Hf' S' e r => h _ _ (k v H' Hf' S' e r)⟩
theorem js_set {i : Nat} {x : Str} {e : Expr} {ie : IE} {pos pos' : Pos} (hN : X.N.Nodup) (hi : X.N[i]? = some x) (hx : Loc X.env.scope x) (he : JE X Φ e ie) (hs : swapsWith e (some (.Name x pos')) pos.line X.env = pure false) (hf : X.fn x = true ∨ X.env.scope.names.lookup x = some .local) :
    JS X Φ W (.Assign [.Name x pos'] e pos) (.asg (.nm i) ie) := (ps_set hN hi hx (he false) hs hf).weak fun D σ H q => tEv_mono (asg_read D σ H q) fun v H' h => bind_nm h
theorem js_asg {tg e : Expr} {itg : Tg} {ie : IE} {pos : Pos} (he : JE X Φ e ie) (hg : JG X tg itg) (hs : swapsWithSole [tg] e pos.line X.env = pure false) (hw : swappedStores [tg] e X.env = pure none) (h1 : (assignEach [tg] X.env).map (·.2) = [assign tg X.env]) :
    JS X Φ W (.Assign [tg] e pos) (.asg itg ie) := (ps_asg (he false) hg hs hw h1).weak fun D σ H q => asg_read D σ H q
theorem js_setLc {i : Nat} {y : Str} {py : Pos} {elt tg iter : Expr} {ifs : List Expr} {scope : Scope} {ownS : List (Str × Nat)} {pos spos : Pos} {it : II} {itg : Tg} {icd : IEs} {ielt : IE} (hc : X.calm = true) (hN : X.N.Nodup) (hy : X.N[i]? = some y) (hyl : X.env.scope.names.lookup y = some .local)
    (hsw : swapsWith (.ListComp elt [⟨tg, iter, ifs, 0⟩] scope pos) (some (.Name y py)) spos.line X.env = pure true) (ok : BlkOk X.N X.env.scope scope ownS) (ho : ownS.map (·.2) = tgS itg)
    (hi : JI X Φ tg iter it) (hg : ∀ (s : Shared) (H : Hp) (C : Addr) (cl : List (Str × Addr)) (fp : List Addr), JG (X.blk s H scope (compEnvC scope cl C X.env) fp) tg itg) (ht : ∀ (s : Shared) (H : Hp) (C : Addr) (cl : List (Str × Addr)) (fp : List Addr), JC (X.blk s H scope (compEnvC scope cl C X.env) fp) Φ ifs icd)
    (he : ∀ (s : Shared) (H : Hp) (C : Addr) (cl : List (Str × Addr)) (fp : List Addr), JE (X.blk s H scope (compEnvC scope cl C X.env) fp) Φ elt ielt) (hs : ∀ x, foldedSetIterable iter X.env x = pure x) :
    JS X Φ W (.Assign [.Name y py] (.ListComp elt [⟨tg, iter, ifs, 0⟩] scope pos) spos) (.asg (.nm i) (.comp it itg icd ielt (tgS itg))) := by
  refine (ps_setLc (g := tBind X.K itg) (tt := tEvT X.K (evc Φ icd false)) (te := tEv X.K (ev Φ ielt false)) hc hN hy hyl hsw (hi false) ok (fun s H C cl fp => hg s H C cl fp) (fun s H C cl fp => ht s H C cl fp) (fun s H C cl fp => he s H C cl fp false) hs).weak fun D σ H q => ?_
  rw [ho]
  exact comp_read σ H _ (tEv_mono (asg_read D σ H q) fun v H' h => bind_nm h)
theorem js_setO {i : Nat} {x : Str} {e : Expr} {ie : IE} {pos pos' : Pos} (hN : X.N.Nodup) (hi : X.N[i]? = some x) (hx : Loc X.env.scope x) (he : JX X Φ e ie) (hs : swapsWith e (some (.Name x pos')) pos.line X.env = pure false) (hf : X.fn x = true ∨ X.env.scope.names.lookup x = some .local) :
    JS X Φ W (.Assign [.Name x pos'] e pos) (.asgO i ie) := (ps_set hN hi hx he hs hf).weak fun D σ H q => by
  obtain ⟨R, B, ρ, Hf, o, S, hf, k⟩ := q
  simp only [exec] at hf
  split at hf
  · rename_i d ρ1 h1
    simp only [Option.map_eq_some_iff] at hf
    obtain ⟨ρ2, h2, rfl⟩ := hf
    exact ⟨R, B, ρ, Hf, d, ρ1, S, h1, fun v H1 Hf1 S1 e1 r1 => k _ H1 Hf1 (S1.setO h2 r1) e1⟩
  · cases hf
theorem js_par2 {i j : Nat} {x y : Str} {a b : Expr} {ies : IEs} {px py pt pos : Pos} {kt k2 : Nat} {pt2 : Pos} (hc : X.calm = true) (hN : X.N.Nodup) (hi : X.N[i]? = some x) (hj : X.N[j]? = some y) (hij : i ≠ j)
    (hx : X.env.scope.names.lookup x = some .local) (hy : X.env.scope.names.lookup y = some .local) (ha : JEs X Φ [a, b] ies)
    (hw : swappedStores [.Tuple [.Name x px, .Name y py] kt pt] (.Tuple [a, b] k2 pt2) X.env = pure (some [x, y])) (hs : swapsWithSole [.Tuple [.Name x px, .Name y py] kt pt] (.Tuple [a, b] k2 pt2) pos.line X.env = pure false) :
    JS X Φ W (.Assign [.Tuple [.Name x px, .Name y py] kt pt] (.Tuple [a, b] k2 pt2) pos) (.asg (.tp [i, j]) (.tup ies)) := (ps_par hc hN hi hj hij hx hy (ha false) hw hs).weak fun D σ H q => by
  obtain ⟨R, B, ρ, Hf, o, S, hf, k⟩ := q
  simp only [exec, ev] at hf
  split at hf
  · rename_i d ρ1 h1
    split at h1
    · rename_i ds ρ2 h2
      split at h1
      · cases h1
        simp only [Option.map_eq_some_iff, bindT] at hf
        obtain ⟨ρ3, h3, rfl⟩ := hf
        refine ⟨R, B, ρ, Hf, ds, _, S, h2, fun vs H1 Hf1 S1 e1 r1 => ?_⟩
        match ds, h3, r1 with
        | [d1, d2], h3, r1 =>
          obtain ⟨v, r, rfl, w1, u, r', rfl, w2, w3⟩ := r1
          have w3 : r' = [] := w3
          subst w3
          simp only [setAll, Option.bind_eq_some_iff] at h3
          obtain ⟨ρ4, h4, ρ5, h5, h6⟩ := h3
          cases h6
          exact ⟨v, u, rfl, k _ H1 Hf1 ((S1.setV h4 w1).setV h5 w2) e1⟩
        | [], h3, r1 => simp [setAll] at h3
        | [_], h3, r1 =>
          simp only [setAll, Option.bind_eq_some_iff] at h3
          obtain ⟨_, _, h3⟩ := h3
          cases h3
        | _ :: _ :: _ :: _, h3, r1 =>
          simp only [setAll, Option.bind_eq_some_iff] at h3
          obtain ⟨_, _, _, _, h3⟩ := h3
          cases h3
      · cases h1
    · cases h1
  · cases hf
theorem js_par3 {i j l : Nat} {x y z : Str} {a b c : Expr} {ies : IEs} {px py pz pt pos : Pos} {kt k2 : Nat} {pt2 : Pos} (hc : X.calm = true) (hN : X.N.Nodup) (hi : X.N[i]? = some x) (hj : X.N[j]? = some y) (hl : X.N[l]? = some z) (hij : i ≠ j) (hil : i ≠ l) (hjl : j ≠ l)
    (hx : X.env.scope.names.lookup x = some .local) (hy : X.env.scope.names.lookup y = some .local) (hz : X.env.scope.names.lookup z = some .local) (ha : JEs X Φ [a, b, c] ies)
    (hw : swappedStores [.Tuple [.Name x px, .Name y py, .Name z pz] kt pt] (.Tuple [a, b, c] k2 pt2) X.env = pure (some [x, y, z])) (hs : swapsWithSole [.Tuple [.Name x px, .Name y py, .Name z pz] kt pt] (.Tuple [a, b, c] k2 pt2) pos.line X.env = pure false) :
    JS X Φ W (.Assign [.Tuple [.Name x px, .Name y py, .Name z pz] kt pt] (.Tuple [a, b, c] k2 pt2) pos) (.asg (.tp [i, j, l]) (.tup ies)) := (ps_par3 hc hN hi hj hl hij hil hjl hx hy hz (ha false) hw hs).weak fun D σ H q => by
  obtain ⟨R, B, ρ, Hf, o, S, hf, k⟩ := q
  simp only [exec, ev] at hf
  split at hf
  · rename_i d ρ1 h1
    split at h1
    · rename_i ds ρ2 h2
      split at h1
      · cases h1
        simp only [Option.map_eq_some_iff, bindT] at hf
        obtain ⟨ρ3, h3, rfl⟩ := hf
        refine ⟨R, B, ρ, Hf, ds, _, S, h2, fun vs H1 Hf1 S1 e1 r1 => ?_⟩
        match ds, h3, r1 with
        | [d1, d2, d3], h3, r1 =>
          obtain ⟨v, r, rfl, w1, u, r', rfl, w2, t, r'', rfl, w3, w4⟩ := r1
          have w4 : r'' = [] := w4
          subst w4
          simp only [setAll, Option.bind_eq_some_iff] at h3
          obtain ⟨ρ4, h4, ρ5, h5, ρ6, h6, h7⟩ := h3
          cases h7
          exact ⟨v, u, t, rfl, k _ H1 Hf1 (((S1.setV h4 w1).setV h5 w2).setV h6 w3) e1⟩
        | [], h3, r1 => simp [setAll] at h3
        | [_], h3, r1 =>
          simp only [setAll, Option.bind_eq_some_iff] at h3
          obtain ⟨_, _, h3⟩ := h3
          cases h3
        | [_, _], h3, r1 =>
          simp only [setAll, Option.bind_eq_some_iff] at h3
          obtain ⟨_, _, _, _, h3⟩ := h3
          cases h3
        | _ :: _ :: _ :: _ :: _, h3, r1 =>
          simp only [setAll, Option.bind_eq_some_iff] at h3
          obtain ⟨_, _, _, _, _, _, h3⟩ := h3
          cases h3
      · cases h1
    · cases h1
  · cases hf
/-- x[k] = e -/
theorem js_store {i : Nat} {x : Str} {k e : Expr} {ik ie : IE} {p1 p2 pos : Pos} (hN : X.N[i]? = some x) (hv : Vis X.env.scope x) (hd : (x == ("__debug__" : Str)) = false) (hcd : (x == ("__classdict__" : Str)) = false) (hk : JE X Φ k ik) (he : JE X Φ e ie)
    (ha : ∀ v, assign (.Subscript (.Name x p1) k p2) X.env v = (do
      let ov ← holding [v] (eval (.Name x p1) X.env)
      let iv ← holding [v, ov] (eval k X.env)
      standAt p2
      holding [v, ov, iv] (setItem ov iv v)
      release [v, ov, iv] []))
    (hs : swapsWithSole [.Subscript (.Name x p1) k p2] e pos.line X.env = pure false) (hw : swappedStores [.Subscript (.Name x p1) k p2] e X.env = pure none) (h1 : (assignEach [.Subscript (.Name x p1) k p2] X.env).map (·.2) = [assign (.Subscript (.Name x p1) k p2) X.env]) :
    JS X Φ W (.Assign [.Subscript (.Name x p1) k p2] e pos) (.store i ik ie) := by
  refine (ps_asg (he false) (pg_sub (pe_var hN hv hd hcd) (hk true) set_list ha) hs hw h1).weak fun D σ H q => ?_
  obtain ⟨R, B, ρ, Hf, o, S, hf, kk⟩ := q
  simp only [exec] at hf
  split at hf
  · rename_i d ρ1 h1
    split at hf
    · rename_i kd ρ2 h2
      have e2 := ev_strict Φ ik ρ1 kd ρ2 h2
      subst e2
      refine ⟨R, B, ρ, Hf, d, _, S, h1, fun v H1 Hf1 S1 e1 r1 => ?_⟩
      have fin : ∀ {x y : PyData} {s : Slot}, storeD x kd d = some y → ((ρ2[i]? = some (.own x) ∧ s = .own y) ∨ (ρ2[i]? = some (.bor x) ∧ s = .bor y)) → o = .nx (ρ2.set i s) → gSub (tVar i) (tEv X.K (ev Φ ik true)) rSetL v σ H1 D.nx := by
        intro x y s hst hsl ho
        have hown : ρ2[i]? = some (.own x) ∨ ρ2[i]? = some (.bor x) := hsl.elim (fun z => .inl z.1) fun z => .inr z.1
        obtain ⟨a, us, ds, rfl, y0, _⟩ := S1.own i x hown
        refine ⟨.ref a, y0, R, B, ρ2, Hf1, kd, ρ2, S1, h2, fun kv H2 Hf2 S2 e2 r2 => ?_⟩
        obtain ⟨a', us, ds', hds, y0', y1, y2, y3, y4⟩ := S2.own i _ hown
        rw [y0] at y0'
        cases y0'
        cases hds
        cases kd <;> first | (simp [storeD] at hst; done) | skip
        rename_i m
        simp only [storeD, Option.map_eq_some_iff] at hst
        obtain ⟨j, hj, rfl⟩ := hst
        refine ⟨a, us, m, j, rfl, r2, y1, by rw [← y4.length]; exact hj, ?_⟩
        subst ho
        exact kk σ _ Hf2 (S2.put hsl y0 (y4.set (r1.mono e2 _ _) j)) (e1.trans e2)
      split at hf
      · rename_i x hx
        simp only [Option.map_eq_some_iff] at hf
        obtain ⟨y, hy, rfl⟩ := hf
        exact fin hy (.inl ⟨hx, rfl⟩) rfl
      · rename_i x hx
        simp only [Option.map_eq_some_iff] at hf
        obtain ⟨y, hy, rfl⟩ := hf
        exact fin hy (.inr ⟨hx, rfl⟩) rfl
      · cases hf
    · cases hf
  · cases hf
/-- x.append(e) -/
theorem js_app {i : Nat} {x : Str} {e : Expr} {ie : IE} {p1 apos cpos pos : Pos} (hN : X.N[i]? = some x) (hv : Vis X.env.scope x) (hd : (x == ("__debug__" : Str)) = false) (hcd : (x == ("__classdict__" : Str)) = false) (he : JE X Φ e ie) (ns : ∀ x p, e ≠ .Starred x p)
    (hbase : attributeBase (.Name x p1) "append" X.env (eval (.Name x p1) X.env) = eval (.Name x p1) X.env) (hline : (apos.endLine == cpos.line) = true)
    (hs : swapsWith (.Call (.Attribute (.Name x p1) "append" apos) [e] [] cpos) none pos.line X.env = pure false) :
    JS X Φ W (.Expr (.Call (.Attribute (.Name x p1) "append" apos) [e] [] cpos) pos) (.app i ie) := by
  have st : starEach [e] X.env = (false, eval e X.env) :: starEach [] X.env := star_cons ns
  have hp : PE X (.Call (.Attribute (.Name x p1) "append" apos) [e] [] cpos) (tBM X.K "list" rAppend (tVar i) (tEvs X.K (evs Φ (.c ie .n) false))) :=
    pe_bm PySem.F.plainAttrs_list PySem.F.slot_list_append PySem.F.type_list_append mt_append (pe_var hN hv hd hcd) (jes_cons he jes_nil ns false) hbase (by rw [st]; rfl) hline st rfl
  refine (ps_expr hp hs).weak fun D σ H q => ?_
  obtain ⟨R, B, ρ, Hf, o, S, hf, k⟩ := q
  simp only [exec] at hf
  split at hf
  · rename_i d ρ1 h1
    split at h1
    · rename_i hob
      have hown0 : ∃ x, ρ[i]? = some (.own x) ∨ ρ[i]? = some (.bor x) := by
        unfold isOB at hob
        split at hob
        · rename_i q; exact ⟨_, .inl q⟩
        · rename_i q; exact ⟨_, .inr q⟩
        · cases hob
      obtain ⟨x0, hown0⟩ := hown0
      obtain ⟨a, us0, ds0, _, y0, y1, _⟩ := S.own i x0 hown0
      have fin : ∀ {xs : List PyData} {s : Slot}, xs.length < 16777216 → ((ρ1[i]? = some (.own (.list xs)) ∧ s = .own (.list (xs ++ [d]))) ∨ (ρ1[i]? = some (.bor (.list xs)) ∧ s = .bor (.list (xs ++ [d])))) → o = .nx (ρ1.set i s) → tDrop (tBM X.K "list" rAppend (tVar i) (tEvs X.K (evs Φ (.c ie .n) false))) D σ H := by
        intro xs s hlt hsl ho
        refine ⟨.ref a, y0, .inl ⟨rfl, us0, .inl (.inl y1)⟩, R, B, ρ, Hf, [d], ρ1, S, by simp only [evs, h1], fun vs H1 Hf1 S1 e1 r1 => ?_⟩
        obtain ⟨v, r, rfl, w1, w2⟩ := r1
        have w2 : r = [] := w2
        subst w2
        have hown : ρ1[i]? = some (.own (.list xs)) ∨ ρ1[i]? = some (.bor (.list xs)) := hsl.elim (fun z => .inl z.1) fun z => .inr z.1
        obtain ⟨a', us, ds, hds, z0, z1, z2, z3, z4⟩ := S1.own i _ hown
        rw [y0] at z0
        cases z0
        cases hds
        refine ⟨a, us, v, rfl, rfl, z1, by rw [seqLine, ← z4.length]; exact hlt, ?_⟩
        subst ho
        exact k σ _ Hf1 (S1.put hsl y0 (z4.append (.cons w1 .nil))) e1
      split at hf
      · rename_i xs hx
        split at hf
        · rename_i hlt
          cases hf
          exact fin hlt (.inl ⟨hx, rfl⟩) rfl
        · cases hf
      · rename_i xs hx
        split at hf
        · rename_i hlt
          cases hf
          exact fin hlt (.inr ⟨hx, rfl⟩) rfl
        · cases hf
      · cases hf
    · cases h1
  · cases hf
theorem js_expr {e : Expr} {ie : IE} {pos : Pos} (he : JE X Φ e ie) (hs : swapsWith e none pos.line X.env = pure false) : JS X Φ W (.Expr e pos) (.expr ie) := (ps_expr (he false) hs).weak fun D σ H q => by
  obtain ⟨R, B, ρ, Hf, o, S, hf, k⟩ := q
  simp only [exec] at hf
  split at hf
  · rename_i d ρ1 h1
    cases hf
    exact ⟨R, B, ρ, Hf, d, ρ1, S, h1, fun v H1 Hf1 S1 e1 r1 => k σ H1 Hf1 S1 e1⟩
  · cases hf
theorem js_ret {e : Expr} {ie : IE} {pos : Pos} (he : JE X Φ e ie) : JS X Φ W (.Return (some e) pos) (.ret ie) := (ps_ret (he false)).weak fun D σ H q => by
  obtain ⟨R, B, ρ, Hf, o, S, hf, k⟩ := q
  simp only [exec] at hf
  split at hf
  · rename_i d ρ1 h1
    cases hf
    exact ⟨R, B, ρ, Hf, d, ρ1, S, h1, fun v H1 Hf1 S1 e1 r1 => k v σ H1 Hf1 S1 e1 (by rw [if_neg Bool.false_ne_true]; exact r1)⟩
  · cases hf
theorem js_retO {e : Expr} {ie : IE} {pos : Pos} (he : JX X Φ e ie) : JS X Φ W (.Return (some e) pos) (.retO ie) := (ps_ret he).weak fun D σ H q => by
  obtain ⟨R, B, ρ, Hf, o, S, hf, k⟩ := q
  simp only [exec] at hf
  split at hf
  · rename_i d ρ1 h1
    cases hf
    exact ⟨R, B, ρ, Hf, d, ρ1, S, h1, fun v H1 Hf1 S1 e1 r1 => k v σ H1 Hf1 S1 e1 (by rw [if_pos rfl]; exact r1)⟩
  · cases hf
theorem js_brk {pos : Pos} : JS X Φ W (.Break pos) .brk := ps_break.weak fun D σ H q => by
  obtain ⟨R, B, ρ, Hf, o, S, hf, k⟩ := q
  simp only [exec] at hf
  cases hf
  exact k σ H Hf S (Same.refl _)
theorem js_pass {pos : Pos} : JS X Φ W (.Pass pos) .pass := ps_pass.weak fun D σ H q => by
  obtain ⟨R, B, ρ, Hf, o, S, hf, k⟩ := q
  simp only [exec] at hf
  cases hf
  exact k σ H Hf S (Same.refl _)
theorem js_bad {st : Stmt} : JS X Φ W st .bad := (ps_never (st := st)).weak fun D σ H q => by
  obtain ⟨R, B, ρ, Hf, o, S, hf, k⟩ := q
  simp only [exec] at hf
  cases hf
theorem js_ife {c : Expr} {a b : List Stmt} {ic : IE} {ia ib : ISs} {pos : Pos} (hc : JT X Φ c ic) (ha : JSs X Φ W a ia) (hb : JSs X Φ W b ib) : JS X Φ W (.If c a b pos) (.ife ic ia ib) := (ps_if (hc false) ha hb).weak fun D σ H q => by
  obtain ⟨R, B, ρ, Hf, o, S, hf, k⟩ := q
  simp only [exec] at hf
  split at hf
  · rename_i ρ1 h1
    exact ⟨R, B, ρ, Hf, true, ρ1, S, h1, fun H1 Hf1 S1 e1 => iteT ⟨R, B, ρ1, Hf1, o, S1, hf, k.mono e1⟩⟩
  · rename_i ρ1 h1
    exact ⟨R, B, ρ, Hf, false, ρ1, S, h1, fun H1 Hf1 S1 e1 => iteF ⟨R, B, ρ1, Hf1, o, S1, hf, k.mono e1⟩⟩
  · cases hf
theorem js_for {tg iter : Expr} {body : List Stmt} {it : II} {itg : Tg} {ib : ISs} {pos : Pos} (hxe : X.xe = fun _ _ => False) (hc : X.calm = true) (hi : JI X Φ tg iter it) (hg : JG X tg itg) (hb : JSs X Φ W body ib) (hs : ∀ x, foldedSetIterable iter X.env x = pure x) :
    JS X Φ W (.For tg iter body [] pos) (.forr it itg ib) := by
  refine (ps_for (by rw [hxe]; exact PassesOwn.never) hc (hi false) hg hb hs).weak fun D σ H q => ?_
  obtain ⟨R, B, ρ, Hf, o, S, hf, k⟩ := q
  simp only [exec] at hf
  split at hf
  · rename_i ds ρ1 h1
    refine ⟨R, B, ρ, Hf, ds, ρ1, S, h1, fun J H1 Hf1 S1 e1 itk => ?_⟩
    generalize hF : (fun d r => match bindT itg d r with | some r1 => execs Φ W ib r1 | none => none) = F at hf
    refine ⟨fun i m σ H => m = ds.length - i ∧ i ≤ ds.length ∧ ∃ ρi Hfi, StOk X.K R B ρi σ H Hfi ∧ Same Hf1 Hfi ∧ forL F (ds.drop i) ρi = some o, ⟨ds.length, by simp, Nat.zero_le _, ρ1, Hf1, S1, Same.refl _, hf⟩, ?_⟩
    rintro i m σ2 H2 ⟨rfl, hi, ρi, Hfi, Si, ei, hl⟩
    obtain ⟨go, stop⟩ := itk i H2 Hfi ei Si.fh
    by_cases hlt : i < ds.length
    · have hd : ds[i]? = some ds[i] := List.getElem?_eq_getElem hlt
      obtain ⟨g1, g2⟩ := go _ hd
      refine .inr ⟨g1, fun σ H => (ds.length - (i + 1) = ds.length - (i + 1) ∧ i + 1 ≤ ds.length ∧ ∃ ρi Hfi, StOk X.K R B ρi σ H Hfi ∧ Same Hf1 Hfi ∧ forL F (ds.drop (i + 1)) ρi = some o), fun σ' H' hn => ⟨ds.length - (i + 1), by omega, hn⟩, fun x H' y => ?_⟩
      obtain ⟨Hf2, gr, rx⟩ := g2 x H' y
      have S2 := Si.grow gr
      rw [List.drop_eq_getElem_cons hlt] at hl
      simp only [forL] at hl
      have hFd : F ds[i] ρi = (match bindT itg ds[i] ρi with | some r1 => execs Φ W ib r1 | none => none) := by rw [← hF]
      rw [hFd] at hl
      cases hb : bindT itg ds[i] ρi with
      | none => rw [hb] at hl; cases hl
      | some r1 =>
        rw [hb] at hl
        dsimp only at hl
        refine ⟨R, B, ρi, Hf2, _, r1, S2, rx, hb, fun σ3 S3 _ _ => ?_⟩
        cases he : execs Φ W ib r1 with
        | none => rw [he] at hl; cases hl
        | some o1 =>
          rw [he] at hl
          refine ⟨R, B, r1, Hf2, o1, S3, he, ?_⟩
          cases o1 with
          | nx ρ2 => exact fun σ' H' Hf' S' e' => ⟨rfl, hlt, ρ2, Hf', S', (ei.trans gr.ff).trans e', hl⟩
          | rt d fr ρ2 =>
            cases hl
            exact fun v σ' H' Hf' S' e' r => k v σ' H' Hf' S' (((e1.trans ei).trans gr.ff).trans e') r
          | bk ρ2 =>
            cases hl
            exact fun σ' H' Hf' S' e' => k σ' H' Hf' S' (((e1.trans ei).trans gr.ff).trans e')
    · have e : i = ds.length := by omega
      subst e
      rw [List.drop_length] at hl
      simp only [forL] at hl
      cases hl
      exact .inl ⟨stop (Nat.le_refl _), k σ2 H2 Hfi Si (e1.trans ei)⟩
  · cases hf
theorem js_while {c : Expr} {body : List Stmt} {ic : IE} {ib : ISs} {pos : Pos} (hxe : X.xe = fun _ _ => False) (hc : JT X Φ c ic) (hb : JSs X Φ W body ib) : JS X Φ W (.While c body [] pos) (.whil ic ib) := by
  refine (ps_while (by rw [hxe]; exact PassesOwn.never) (hc false) hb).weak fun D σ H q => ?_
  obtain ⟨R, B, ρ, Hf, o, S, hf, k⟩ := q
  simp only [exec] at hf
  refine ⟨fun m σ H => ∃ ρi Hfi, StOk X.K R B ρi σ H Hfi ∧ Same Hf Hfi ∧ whileL (fun r => asB (ev Φ ic false r)) (fun r => execs Φ W ib r) m ρi = some o, ⟨W, ρ, Hf, S, Same.refl _, hf⟩, ?_⟩
  rintro m σ2 H2 ⟨ρi, Hfi, Si, ei, hl⟩
  cases m with
  | zero => simp [whileL] at hl
  | succ m =>
    simp only [whileL] at hl
    split at hl
    · rename_i ρ1 h1
      cases hl
      exact ⟨R, B, ρi, Hfi, false, ρ1, Si, h1, fun H1 Hf1 S1 e1 => iteF (k σ2 H1 Hf1 S1 (ei.trans e1))⟩
    · rename_i ρ1 h1
      refine ⟨R, B, ρi, Hfi, true, ρ1, Si, h1, fun H1 Hf1 S1 e1 => iteT ⟨fun σ H => ∃ ρi Hfi, StOk X.K R B ρi σ H Hfi ∧ Same Hf Hfi ∧ whileL (fun r => asB (ev Φ ic false r)) (fun r => execs Φ W ib r) m ρi = some o, fun σ' H' hn => ⟨m, Nat.lt_succ_self _, hn⟩, ?_⟩⟩
      split at hl
      · rename_i ρ2 h2
        exact ⟨R, B, ρ1, Hf1, _, S1, h2, fun σ' H' Hf' S' e' => ⟨ρ2, Hf', S', (ei.trans e1).trans e', hl⟩⟩
      · rename_i ρ2 h2
        cases hl
        exact ⟨R, B, ρ1, Hf1, _, S1, h2, fun σ' H' Hf' S' e' => k σ' H' Hf' S' ((ei.trans e1).trans e')⟩
      · rename_i d f ρ2 h2
        cases hl
        exact ⟨R, B, ρ1, Hf1, _, S1, h2, fun v σ' H' Hf' S' e' r => k v σ' H' Hf' S' ((ei.trans e1).trans e') r⟩
      · cases hl
    · cases hl
end
end CD

set_option Elab.async false
set_option linter.all false
set_option maxRecDepth 100000
set_option autoImplicit false
/-! A def keeps its promise. -/
namespace CD
open PySem PySem.Spec L2
open PyProof.Rows hiding St
open Classical in
/-- all that stands beside what is handed over -/
noncomputable def restOf (H Hf : Hp) (as : List Slot) (vs : List V) : Hp := fun b => if Hf b = none ∧ (∀ (i : Nat) (d : PyData), as[i]? = some (.bor d) → vs[i]? ≠ some (.ref b)) then H b else none
/-- what is lent -/
def lentOf (as : List Slot) (vs : List V) : List (Nat × Addr) := (List.range as.length).filterMap fun (i : Nat) => match (as[i]? : Option Slot), (vs[i]? : Option V) with
  | some (Slot.bor _), some (V.ref a) => some (i, a)
  | _, _ => none
theorem lentOf_iff {as : List Slot} {vs : List V} {i : Nat} {a : Addr} : (i, a) ∈ lentOf as vs ↔ ∃ d, as[i]? = some (.bor d) ∧ vs[i]? = some (.ref a) := by
  unfold lentOf
  rw [List.mem_filterMap]
  constructor
  · rintro ⟨j, hj, h⟩
    split at h
    · rename_i d b q1 q2
      cases h
      exact ⟨d, q1, q2⟩
    · cases h
  · rintro ⟨d, h1, h2⟩
    exact ⟨i, List.mem_range.mpr (lt_of_get h1), by rw [h1, h2]⟩
section
variable {K : PySem.W.Frag} {H Hf : Hp} {as : List Slot} {vs : List V} {N : List Str} {m : Nat}
theorem start_get {i : Nat} {v : V} (h : vs[i]? = some v) : (L2.start N vs)[i]? = some (some v) := by
  unfold L2.start
  have hi := lt_of_get h
  rw [List.getElem?_append_left (by simpa using hi), List.getElem?_map, h]
  rfl
theorem restOf_le : Same (restOf H Hf as vs) H := fun b o h => by
  unfold restOf at h
  split at h
  · exact h
  · cases h
theorem start_ok (hs : Same Hf H) (a : ArgsOk K H Hf as vs) (hN : vs.length + m = N.length) : StOk K (restOf H Hf as vs) (lentOf as vs) (as ++ List.replicate m .no) (L2.start N vs) H Hf := by
  have hlen := a.len
  have off : ∀ {i : Nat} {s : Slot}, (as ++ List.replicate m Slot.no)[i]? = some s → s ≠ .no → as[i]? = some s := fun {i s} q n => by
    by_cases hi : i < as.length
    · rw [List.getElem?_append_left hi] at q; exact q
    · rw [List.getElem?_append_right (by omega), List.getElem?_replicate] at q
      split at q
      · exact absurd (Option.some.inj q).symm n
      · cases q
  have vget : ∀ {i : Nat} {s : Slot}, as[i]? = some s → ∃ v, vs[i]? = some v := fun {i s} q => by
    have := lt_of_get q
    exact ⟨vs[i]'(by omega), List.getElem?_eq_getElem (by omega)⟩
  refine ⟨hs, restOf_le, fun b o h => ?_, ?_, fun i d q => ?_, fun i d q => ?_, fun i ns q => ?_, fun i j d e b q1 q2 s1 s2 => ?_, fun x hx => ?_⟩
  · unfold restOf at h
    split at h
    · rename_i z; exact z.1
    · cases h
  · unfold L2.start
    simp only [List.length_append, List.length_map, List.length_replicate]
    omega
  · have q' := off q (by simp)
    obtain ⟨v, hv⟩ := vget q'
    exact ⟨v, start_get hv, a.at_ i _ v q' hv⟩
  · rcases q with q | q
    · have q' := off q (by simp)
      obtain ⟨v, hv⟩ := vget q'
      exact (a.at_ i _ v q' hv).elim
    · have q' := off q (by simp)
      obtain ⟨v, hv⟩ := vget q'
      obtain ⟨b, us, ds, hd, rfl, h1, h2, h3⟩ := a.at_ i _ v q' hv
      refine ⟨b, us, ds, hd, start_get hv, h1, h2, ?_, h3⟩
      unfold restOf
      rw [if_neg (fun z => z.2 i d q' hv)]
  · have q' := off q (by simp)
    obtain ⟨v, hv⟩ := vget q'
    obtain ⟨b, P, rfl, h1, h2, h3⟩ := a.at_ i _ v q' hv
    refine ⟨b, start_get hv, ScrAt.mono (fun c o hc => ?_) h3⟩
    unfold restOf
    rw [if_pos (h2 c o hc)]
    exact h1 c o hc
  · have own_no : ∀ {k : Nat} {f : PyData}, (as ++ List.replicate m Slot.no)[k]? = some (.own f) → False := fun {k f} q => by
      have q' := off q (by simp)
      obtain ⟨v, hv⟩ := vget q'
      exact (a.at_ k _ v q' hv).elim
    have b1 : as[i]? = some (.bor d) := q1.elim (fun z => (own_no z).elim) fun z => off z (by simp)
    have b2 : as[j]? = some (.bor e) := q2.elim (fun z => (own_no z).elim) fun z => off z (by simp)
    obtain ⟨v, hv⟩ := vget b1
    obtain ⟨u, hu⟩ := vget b2
    rw [start_get hv] at s1
    rw [start_get hu] at s2
    cases s1
    cases s2
    exact a.inj i j d e b b1 b2 hv hu
  · obtain ⟨d, q1, q2⟩ := lentOf_iff.mp (show (x.1, x.2) ∈ lentOf as vs from hx)
    exact ⟨⟨d, by rw [List.getElem?_append_left (lt_of_get q1)]; exact q1⟩, start_get q2⟩
theorem post_ok {H' Hf' : Hp} {ρ' : Rho} {σ' : L2.St} {d : PyData} {fr : Bool} {v : V} (hs : Same Hf H) (a : ArgsOk K H Hf as vs) (S : StOk K (restOf H Hf as vs) (lentOf as vs) ρ' σ' H' Hf') (e : Same Hf Hf')
    (r : if fr = true then Alone K (restOf H Hf as vs) ρ' σ' H' Hf' d v else Rep K Hf' d v) : CallPost K H Hf H' Hf' as vs ⟨d, fr, ρ'.take as.length⟩ v := by
  have lent : ∀ {i : Nat} {f : PyData} {b : Addr}, as[i]? = some (.bor f) → vs[i]? = some (.ref b) → (∃ g, ρ'[i]? = some (.bor g)) ∧ σ'[i]? = some (some (.ref b)) := fun {i f b} h1 h2 => S.bor (i, b) (lentOf_iff.mpr ⟨f, h1, h2⟩)
  have atl : ∀ {i : Nat} {f : PyData} {b : Addr}, as[i]? = some (.bor f) → vs[i]? = some (.ref b) → Hf' b = none := fun {i f b} h1 h2 => by
    obtain ⟨⟨g, q⟩, s1⟩ := lent h1 h2
    obtain ⟨c, us, ds, _, y0, y1, y2, _⟩ := S.own i g (.inr q)
    rw [s1] at y0
    cases y0
    exact y2
  have rest_of : ∀ {b : Addr} {o : HO}, H b = some o → Hf b = none → (∀ (i : Nat) (f : PyData), as[i]? = some (.bor f) → vs[i]? ≠ some (.ref b)) → restOf H Hf as vs b = some o := fun {b o} h1 h2 h3 => by
    unfold restOf
    rw [if_pos ⟨h2, h3⟩]
    exact h1
  refine ⟨e, S.fh, fun b o h hn => ?_, fun b o h => ?_, fun i f d' b h1 h2 h3 => ?_, ?_⟩
  · cases q : Hf b with
    | some u =>
      have := hs b u q
      rw [h] at this
      cases this
      exact S.fh b _ (e b _ q)
    | none => exact S.rh b o (rest_of h q hn)
  · cases q : Hf b with
    | some u =>
      have := e b u q
      rw [h] at this
      cases this
      exact .inl rfl
    | none =>
      right
      cases q2 : H b with
      | none => rfl
      | some u =>
        by_cases hn : ∀ (i : Nat) (f : PyData), as[i]? = some (.bor f) → vs[i]? ≠ some (.ref b)
        · rw [S.rf b u (rest_of q2 q hn)] at h; cases h
        · simp only [Classical.not_forall] at hn
          obtain ⟨i, f, h1, h2⟩ := hn
          rw [atl h1 (by simpa using h2)] at h
          cases h
  · obtain ⟨⟨g, q⟩, s1⟩ := lent h1 h2
    have hi := lt_of_get h1
    dsimp only at h3
    rw [List.getElem?_take, if_pos hi, q] at h3
    cases h3
    obtain ⟨c, us, ds, hd, y0, y1, y2, _, y4⟩ := S.own i _ (.inr q)
    rw [s1] at y0
    cases y0
    exact ⟨us, ds, hd, y1, y2, y4⟩
  · dsimp only
    split at r
    · rename_i hf
      rw [if_pos hf]
      obtain ⟨c, us, ds, hd, rfl, y1, y2, y3, y4, y5⟩ := r
      refine ⟨c, us, ds, hd, rfl, y1, y2, ?_, y4⟩
      cases q2 : H c with
      | none => rfl
      | some u =>
        exfalso
        by_cases hn : ∀ (i : Nat) (f : PyData), as[i]? = some (.bor f) → vs[i]? ≠ some (.ref c)
        · rw [rest_of q2 (Same.free e y2) hn] at y3; cases y3
        · simp only [Classical.not_forall] at hn
          obtain ⟨i, f, h1, h2⟩ := hn
          obtain ⟨⟨g, q⟩, s1⟩ := lent h1 (by simpa using h2)
          exact y5 i g (.inr q) s1
    · rename_i hf
      rw [if_neg hf]
      exact r
end
/-- THE RULE: a def and its term -/
theorem fun_keeps {P : Program} {w : World} {K : PySem.W.Frag} {mg : Str → Option Value} {base : Heap} {x qual : Str} {st : Stmt} {f : Addr} {fd : FuncData} {N ps : List Str} {n W : Nat} {Φ : PhiT} {F : IFun} (FN : L2.Fun K x qual st f fd) (S : FnScope N ps (defScope st)) (hp : ps.length = F.np) (hN : N.length = F.ns) (hle : F.np ≤ F.ns)
    (body : ∀ (cdv : Value) (A : Around) (outer : List Env) (s : Shared) (H : Hp) (E : XK), Room n (A.deeper (envOfC qual (defScope st) s.heap.objs.size f cdv)) → JSs (cxOf CX0 P w K mg base N qual (defScope st) f cdv A outer s H E).nox Φ W (defBody st) F.body) :
    FnOk P w K mg base CX0 (n + 1) f fd ps (spF K (runF Φ W F)) := by
  have hlen : ∀ {as : List Slot} {r : Res}, runF Φ W F as = some r → as.length = F.np := fun {as r} h => by
    unfold runF at h
    split at h
    · assumption
    · cases h
  refine FN.ok S (fun vs H Q E h => ?_) fun cdv A outer s H vs Q E hr h => ?_
  · obtain ⟨Hf, as, r, h1, h2, h3, _⟩ := h
    rw [← h2.len, hlen h3, hp]
  · obtain ⟨Hf, as, r, h1, h2, h3, k⟩ := h
    refine ⟨_, body cdv A outer s H E hr, ?_⟩
    have hl := hlen h3
    have hvl := h2.len
    unfold runF at h3
    rw [if_pos hl] at h3
    have S0 := start_ok (N := N) (m := F.ns - F.np) h1 h2 (by omega)
    refine ⟨restOf H Hf as vs, lentOf as vs, as ++ List.replicate (F.ns - F.np) .no, Hf, ?_⟩
    split at h3
    · rename_i ρ' he
      cases h3
      refine ⟨.nx ρ', S0, he, fun σ' H' Hf' S' e' => k _ H' Hf' ?_⟩
      have q := post_ok (d := .none) (fr := false) (v := .non) h1 h2 S' e' (by rw [if_neg Bool.false_ne_true]; rfl)
      rw [hl] at q
      exact q
    · rename_i d fr ρ' he
      cases h3
      refine ⟨.rt d fr ρ', S0, he, fun v σ' H' Hf' S' e' r => k _ H' Hf' ?_⟩
      have q := post_ok h1 h2 S' e' r
      rw [hl] at q
      exact q
    · cases h3
end CD

set_option Elab.async false
set_option linter.all false
set_option maxRecDepth 100000
set_option autoImplicit false
/-! A text and its term held side by side: what a look by computing shows. -/
namespace CD
open PySem PySem.Spec L2
open PyProof.Rows hiding St

mutual
def pdEq : PyData → PyData → Bool
  | .none, .none => true
  | .bool a, .bool b => a == b
  | .int a, .int b => a == b
  | .str a, .str b => decide (a = b)
  | .list a, .list b => pdEqs a b
  | .tuple a, .tuple b => pdEqs a b
  | _, _ => false
def pdEqs : List PyData → List PyData → Bool
  | [], [] => true
  | a :: r, b :: s => pdEq a b && pdEqs r s
  | _, _ => false
end
mutual
theorem pdEq_eq : ∀ (a b : PyData), pdEq a b = true → a = b
  | .none, b, h => by cases b <;> simp [pdEq] at h <;> rfl
  | .bool x, b, h => by cases b <;> simp [pdEq] at h; subst h; rfl
  | .int x, b, h => by cases b <;> simp [pdEq] at h; subst h; rfl
  | .str x, b, h => by cases b <;> simp [pdEq] at h; subst h; rfl
  | .list x, b, h => by
    cases b <;> simp only [pdEq] at h <;> first | (cases h; done) | skip
    rw [pdEqs_eq _ _ h]
  | .tuple x, b, h => by
    cases b <;> simp only [pdEq] at h <;> first | (cases h; done) | skip
    rw [pdEqs_eq _ _ h]
  | .dict x, b, h => by cases b <;> simp [pdEq] at h
theorem pdEqs_eq : ∀ (a b : List PyData), pdEqs a b = true → a = b
  | [], b, h => by cases b <;> simp [pdEqs] at h; rfl
  | x :: r, b, h => by
    cases b with
    | nil => simp [pdEqs] at h
    | cons y s =>
      simp only [pdEqs, Bool.and_eq_true] at h
      rw [pdEq_eq _ _ h.1, pdEqs_eq _ _ h.2]
end
def vis (sc : Scope) (x : Str) : Bool := match sc.names.lookup x with
  | some .local | some .cell | some .free => true
  | _ => false
def gl (sc : Scope) (x : Str) : Bool := match sc.names.lookup x with
  | some .globalImplicit => true
  | _ => false
def nameOk (x : Str) : Bool := !(x == ("__debug__" : Str)) && !(x == ("__classdict__" : Str)) && decide (x ≠ "__name__")
def fnOf : Option Scope → Str → Bool
  | none, _ => true
  | some s, x => s.names.lookup x == some .cell
def tgOk (sc : Scope) (cs : Option Scope) (x : Str) : Bool := match sc.names.lookup x with
  | some .local => true
  | some .cell => fnOf cs x
  | _ => false
def constIs : Const → PyData → Bool
  | .none, .none => true
  | .bool a, .bool b => a == b
  | .int a, .int b => a == b
  | .str a, .str b => decide (a = b)
  | _, _ => false
def binP : Operator → Option Prim
  | .Add => some .add | .Sub => some .sub | .Mult => some .mul | .FloorDiv => some .fdiv | .Mod => some .mod | .Pow => some .pow
  | _ => none
def biName : BI → Str
  | .len => "len" | .abs => "abs" | .min => "min" | .max => "max" | .sum => "sum" | .all => "all" | .any => "any" | .tuple => "tuple" | .list => "list" | .sorted => "sorted"
def plain : Expr → Bool
  | .Starred .. => false
  | _ => true
def notSet : Expr → Bool
  | .Set .. => false
  | _ => true
def notSlice : Expr → Bool
  | .Slice .. => false
  | _ => true
def notComp : Expr → Bool
  | .ListComp .. | .SetComp .. | .DictComp .. => false
  | _ => true
def isOne : Expr → Option Expr
  | .BoolOp _ [a] _ => some a
  | _ => none
/-- a test that is walked by its own form, or a plain one -/
def tst : Nat → Expr → Bool
  | 0, _ => false
  | _ + 1, .IfExp .. => false
  | _ + 1, .NamedExpr .. => false
  | k + 1, .UnaryOp .Not a _ => tst k a
  | k + 1, .BoolOp _ es _ => es.all (tst k)
  | _ + 1, _ => true
section
variable (N : List Str) (G : List (Str × PyData))
def chkT (sc : Scope) (cs : Option Scope) : List Expr → List Nat → Bool
  | [], [] => true
  | .Name x _ :: es, i :: is => decide (N[i]? = some x) && tgOk sc cs x && chkT sc cs es is
  | _, _ => false
def chkG (sc : Scope) (cs : Option Scope) : Expr → Tg → Bool
  | .Name x _, .nm i => decide (N[i]? = some x) && tgOk sc cs x
  | .Tuple es _ _, .tp is => chkT N sc cs es is
  | _, _ => false
def namesT : List Expr → List Nat → List (Str × Nat)
  | .Name x _ :: es, i :: is => (x, i) :: namesT es is
  | _, _ => []
def ownOf : Expr → Tg → List (Str × Nat)
  | .Name x _, .nm i => [(x, i)]
  | .Tuple es _ _, .tp is => namesT es is
  | _, _ => []
mutual
def chkE : Nat → Scope → Option Scope → Expr → IE → Bool
  | 0, _, _, _, _ => false
  | k + 1, sc, cs, e, ie => match isOne e with
    | some a => chkE k sc cs a ie
    | none => match e, ie with
      | .Name x _, .var i => decide (N[i]? = some x) && vis sc x && nameOk x
      | .Name x _, .cst d => gl sc x && nameOk x && (match G.lookup x with | some d' => pdEq d' d | none => false)
      | .Constant c _ _, .cst d => constIs c d
      | .IfExp c a b _, .ifx ic ia ib => tst 99 c && chkE k sc cs c ic && chkE k sc cs a ia && chkE k sc cs b ib
      | .UnaryOp .Not a _, .no ia => chkE k sc cs a ia
      | .UnaryOp .USub a _, .pr _ .neg (.c ia .n) => chkE k sc cs a ia
      | .BoolOp .And (a :: b :: r) p, .an ia ib => chkE k sc cs a ia && chkE k sc cs (.BoolOp .And (b :: r) p) ib
      | .BoolOp .Or (a :: b :: r) p, .orr ia ib => chkE k sc cs a ia && chkE k sc cs (.BoolOp .Or (b :: r) p) ib
      | .Tuple es _ _, .tup ies => chkL k sc cs es ies
      | .List es _, .lst ies => chkL k sc cs es ies
      | .BinOp a op b _, .pr _ o (.c ia (.c ib .n)) => decide (binP op = some o) && chkE k sc cs a ia && chkE k sc cs b ib
      | .Compare a [op] [b] _, .pr _ (.cmp o) (.c ia (.c ib .n)) => decide (op = o) && notSet b && chkE k sc cs a ia && chkE k sc cs b ib
      | .Compare a [.Is] [.Constant .none _ _] _, .pr _ (.isN false) (.c ia .n) => chkE k sc cs a ia
      | .Compare a [.IsNot] [.Constant .none _ _] _, .pr _ (.isN true) (.c ia .n) => chkE k sc cs a ia
      | .Compare a [.Is] [.Constant (.bool b) _ _] _, .pr _ (.isB b' false) (.c ia .n) => (b == b') && chkE k sc cs a ia
      | .Compare a [.IsNot] [.Constant (.bool b) _ _] _, .pr _ (.isB b' true) (.c ia .n) => (b == b') && chkE k sc cs a ia
      | .Compare a [o1, o2] [b, c] _, .chain p1 p2 ia ib ic => decide (o1 = p1) && decide (o2 = p2) && notSet c && chkE k sc cs a ia && chkE k sc cs b ib && chkE k sc cs c ic
      | .Subscript a (.Slice (some b) none none _) _, .pr _ (.slice true false) (.c ia (.c ib .n)) => chkE k sc cs a ia && chkE k sc cs b ib
      | .Subscript a (.Slice none (some b) none _) _, .pr _ (.slice false true) (.c ia (.c ib .n)) => chkE k sc cs a ia && chkE k sc cs b ib
      | .Subscript a (.Slice (some b) (some c) none _) _, .pr false (.slice true true) (.c ia (.c ib (.c ic .n))) => chkE k sc cs a ia && chkE k sc cs b ib && chkE k sc cs c ic
      | .Subscript a b _, .pr _ .item (.c ia (.c ib .n)) => notSlice b && chkE k sc cs a ia && chkE k sc cs b ib
      | .Call (.Name x _) [e, .Name ty _] [] _, .pr _ (.isi t) (.c ie .n) => decide (x = "isinstance") && gl sc x && gl sc ty && decide (ty = Str.ofString (tyName t)) && plain e && chkE k sc cs e ie
      | .Call (.Name x _) [.Call (.Name y _) [e] [] _] [] _, .pr _ .sset (.c ie .n) => decide (x = "sorted") && decide (y = "set") && gl sc x && gl sc y && plain e && chkE k sc cs e ie
      | .Call (.Name x _) (e :: es) [] _, .pr _ (.bi b) ies => decide (x = biName b) && gl sc x && chkL k sc cs (e :: es) ies
      | .Call (.Name f _) (e :: es) [] _, .call f' as => decide (f = f') && gl sc f && nameOk f && decide (((idxA as).filterMap id).Nodup) && chkA k sc cs (e :: es) as
      | .ListComp elt [⟨tg, iter, ifs, 0⟩] scope _, .comp it itg icd ielt own =>
        decide (own = tgS itg) && blkC N sc scope (ownOf tg itg) && chkG N (relS scope sc) (some scope) tg itg && chkI k sc cs tg iter it && chkC k (relS scope sc) (some scope) ifs icd && chkE k (relS scope sc) (some scope) elt ielt
      | _, _ => false
def chkL : Nat → Scope → Option Scope → List Expr → IEs → Bool
  | 0, _, _, _, _ => false
  | _ + 1, _, _, [], .n => true
  | k + 1, sc, cs, e :: es, .c ie ies => plain e && chkE k sc cs e ie && chkL k sc cs es ies
  | _ + 1, _, _, _, _ => false
def chkC : Nat → Scope → Option Scope → List Expr → IEs → Bool
  | 0, _, _, _, _ => false
  | _ + 1, _, _, [], .n => true
  | k + 1, sc, cs, [e], .c ie .n => tst 99 e && chkE k sc cs e ie
  | _ + 1, _, _, _, _ => false
def chkA : Nat → Scope → Option Scope → List Expr → IAs → Bool
  | 0, _, _, _, _ => false
  | _ + 1, _, _, [], .n => true
  | k + 1, sc, cs, e :: es, .v ie as => plain e && chkE k sc cs e ie && chkA k sc cs es as
  | k + 1, sc, cs, .Name x _ :: es, .b i as => decide (N[i]? = some x) && vis sc x && nameOk x && chkA k sc cs es as
  | _ + 1, _, _, _, _ => false
def chkI : Nat → Scope → Option Scope → Expr → Expr → II → Bool
  | 0, _, _, _, _, _ => false
  | k + 1, sc, cs, _, e, .vals ie => notSet e && chkE k sc cs e ie
  | k + 1, sc, cs, _, .Call (.Name x _) [a] [] _, .rng (.c ia .n) => decide (x = "range") && gl sc x && plain a && chkE k sc cs a ia
  | k + 1, sc, cs, _, .Call (.Name x _) [a, b] [] _, .rng (.c ia (.c ib .n)) => decide (x = "range") && gl sc x && plain a && plain b && chkE k sc cs a ia && chkE k sc cs b ib
  | k + 1, sc, cs, .Tuple _ _ _, .Call (.Name x _) [a, b] [] _, .zip ia ib => decide (x = "zip") && gl sc x && plain a && plain b && chkE k sc cs a ia && chkE k sc cs b ib
  | _ + 1, _, _, _, _, _ => false
end
end
/-- what is known of a place in the text -/
structure Ctx (X : Cx) (Φ : PhiT) (n : Nat) (N : List Str) (G : List (Str × PyData)) (sc : Scope) (cs : Option Scope) : Prop where
  calm : X.calm = true
  nn : X.N = N
  nd : N.Nodup
  sc_ : X.env.scope = sc
  xe : X.xe = fun _ _ => False
  room : Room n X.A
  fn : ∀ x, fnOf cs x = true → X.fn x = true
  kind : sc.kind = .function
  glob : ∀ (x : Str) (d : PyData), G.lookup x = some d → ∃ u v, X.mg x = some u ∧ RelV v u ∧ ∀ H, Rep X.K H d v
  blt : ∀ x : Str, x ∈ (["len", "abs", "min", "max", "sum", "all", "any", "tuple", "list", "sorted", "isinstance", "int", "bool", "str", "range", "zip", "enumerate", "set"] : List Str) → X.mg x = none
  funs : ∀ f p r, Φ f p = some r → FunAt X Φ n f
section
variable {X : Cx} {Φ : PhiT} {n : Nat} {N : List Str} {G : List (Str × PyData)} {sc : Scope} {cs : Option Scope}
theorem Ctx.vis (C : Ctx X Φ n N G sc cs) {x : Str} (h : CD.vis sc x = true) : Vis X.env.scope x := by
  unfold CD.vis at h
  rw [C.sc_]
  unfold Vis
  split at h
  · rename_i q; exact .inl q
  · rename_i q; exact .inr (.inl q)
  · rename_i q; exact .inr (.inr q)
  · cases h
theorem Ctx.gl (C : Ctx X Φ n N G sc cs) {x : Str} (h : CD.gl sc x = true) : Gl X x := by
  unfold CD.gl at h
  show X.env.scope.names.lookup x = _
  rw [C.sc_]
  split at h
  · rename_i q; exact q
  · cases h
theorem nameOk_of {x : Str} (h : nameOk x = true) : (x == ("__debug__" : Str)) = false ∧ (x == ("__classdict__" : Str)) = false ∧ x ≠ "__name__" := by
  unfold nameOk at h
  simp only [Bool.and_eq_true, Bool.not_eq_true', decide_eq_true_eq] at h
  exact ⟨h.1.1, h.1.2, h.2⟩
theorem Ctx.tg (C : Ctx X Φ n N G sc cs) {x : Str} (h : tgOk sc cs x = true) : Loc X.env.scope x ∧ (X.fn x = true ∨ X.env.scope.names.lookup x = some .local) := by
  unfold tgOk at h
  unfold L2.Loc
  rw [C.sc_]
  split at h
  · rename_i q; exact ⟨.inl q, .inr q⟩
  · rename_i q; exact ⟨.inr q, .inl (C.fn x h)⟩
  · cases h
theorem plain_of {e : Expr} (h : plain e = true) : ∀ x p, e ≠ .Starred x p := fun x p z => by rw [z] at h; cases h
theorem notSet_mark {e : Expr} {op : CmpOp} (h : notSet e = true) : behindInMarks op e = false := by
  cases e <;> first | rfl | (simp [notSet] at h)
theorem notSet_iter {e : Expr} {env : Env} (h : notSet e = true) : ∀ x, foldedSetIterable e env x = pure x := by
  intro x
  cases e <;> first | rfl | (simp [notSet] at h)
theorem notSlice_ix {e : Expr} (h : notSlice e = true) : PlainIx e := by
  intro o i
  cases e <;> first | rfl | (simp [notSlice] at h)
theorem tests_plain {e : Expr} {env : Env} (h1 : ∀ a p, e ≠ .UnaryOp .Not a p) (h2 : ∀ o es p, e ≠ .BoolOp o es p) (h3 : ∀ t b o p, e ≠ .IfExp t b o p) (h4 : ∀ l ops r p, e ≠ .Compare l ops r p) : ∀ whole, isTrue e env whole = (do let v ← whole; standAt e.pos; holding [v] (truthy v)) := by
  intro whole
  cases e with
  | UnaryOp op a p => cases op <;> first | rfl | exact absurd rfl (h1 _ _)
  | BoolOp o es p => exact absurd rfl (h2 _ _ _)
  | IfExp t b o p => exact absurd rfl (h3 _ _ _ _)
  | Compare l ops r p => exact absurd rfl (h4 _ _ _ _)
  | _ => rfl
theorem const_pe {c : Const} {d : PyData} {k : Nat} {pos : Pos} (h : constIs c d = true) : ∃ v, PE X (.Constant c k pos) (tC v) ∧ ∀ H, Rep X.K H d v := by
  cases c <;> cases d <;> first | (simp [constIs] at h; done) | skip
  · exact ⟨.non, pe_non, fun _ => rfl⟩
  · simp [constIs] at h; subst h; exact ⟨.bl _, pe_bl, fun _ => rfl⟩
  · simp [constIs] at h; subst h; exact ⟨.int _, pe_int, fun _ => rfl⟩
  · simp [constIs] at h; subst h; exact ⟨.str _, pe_str, fun _ => rfl⟩
theorem chkT_ok (C : Ctx X Φ n N G sc cs) : ∀ {es : List Expr} {is : List Nat}, chkT N sc cs es is = true → PGs X es (tSets X.K is) ∧ (assignEach es X.env).length = is.length ∧ (assignEach es X.env).findIdx? (·.1) = none ∧ (namesT es is).map (·.2) = is
  | [], [], _ => ⟨jgs_nil, rfl, rfl, rfl⟩
  | [], _ :: _, h => by simp [chkT] at h
  | .Name x p :: es, [], h => by simp [chkT] at h
  | .Name x p :: es, i :: is, h => by
    simp only [chkT, Bool.and_eq_true, decide_eq_true_eq] at h
    obtain ⟨⟨h1, h2⟩, h3⟩ := h
    obtain ⟨q1, q2, q3, q4⟩ := chkT_ok C h3
    obtain ⟨l, f⟩ := C.tg h2
    refine ⟨jgs_cons (by rw [C.nn]; exact C.nd) (by rw [C.nn]; exact h1) l f q1, ?_, ?_, ?_⟩
    · show (assignEach es X.env).length + 1 = is.length + 1
      rw [q2]
    · show ((false, assign (.Name x p) X.env) :: assignEach es X.env).findIdx? (·.1) = none
      rw [List.findIdx?_cons]
      simp [q3]
    · show i :: (namesT es is).map (·.2) = i :: is
      rw [q4]
  | .BoolOp .. :: _, _, h | .NamedExpr .. :: _, _, h | .BinOp .. :: _, _, h | .UnaryOp .. :: _, _, h | .Lambda .. :: _, _, h | .IfExp .. :: _, _, h | .Dict .. :: _, _, h | .Set .. :: _, _, h | .ListComp .. :: _, _, h | .SetComp .. :: _, _, h
  | .DictComp .. :: _, _, h | .GeneratorExp .. :: _, _, h | .Await .. :: _, _, h | .Yield .. :: _, _, h | .YieldFrom .. :: _, _, h | .Compare .. :: _, _, h | .Call .. :: _, _, h | .FormattedValue .. :: _, _, h | .JoinedStr .. :: _, _, h
  | .Constant .. :: _, _, h | .Attribute .. :: _, _, h | .Subscript .. :: _, _, h | .Starred .. :: _, _, h | .List .. :: _, _, h | .Tuple .. :: _, _, h | .Slice .. :: _, _, h => by simp [chkT] at h
theorem chkG_ok (C : Ctx X Φ n N G sc cs) {e : Expr} {tg : Tg} (h : chkG N sc cs e tg = true) : JG X e tg ∧ (ownOf e tg).map (·.2) = tgS tg := by
  cases e <;> cases tg <;> first | (simp [chkG] at h; done) | skip
  · simp only [chkG, Bool.and_eq_true, decide_eq_true_eq] at h
    obtain ⟨l, f⟩ := C.tg h.2
    exact ⟨jg_nm (by rw [C.nn]; exact C.nd) (by rw [C.nn]; exact h.1) l f, rfl⟩
  · obtain ⟨q1, q2, q3, q4⟩ := chkT_ok C h
    exact ⟨jg_tp C.calm q1 q2 q3, q4⟩
theorem relS_kind {scope sc : Scope} : (relS scope sc).kind = scope.kind := rfl
theorem Ctx.blk (C : Ctx X Φ n N G sc cs) {scope : Scope} {own : List (Str × Nat)} (h : blkC N sc scope own = true) (s : Shared) (H : Hp) (Ca : Addr) (cl : List (Str × Addr)) (fp : List Addr) : Ctx (X.blk s H scope (compEnvC scope cl Ca X.env) fp) Φ n N G (relS scope sc) (some scope) where
  calm := C.calm
  nn := C.nn
  nd := C.nd
  sc_ := by rw [← C.sc_]; rfl
  xe := rfl
  room := C.room
  fn := fun x h => h
  kind := (blkOk_by h).kind
  glob := C.glob
  blt := C.blt
  funs := C.funs
end
end CD

set_option Elab.async false
set_option linter.all false
set_option maxRecDepth 100000
set_option autoImplicit false
/-! The look is sound. -/
namespace CD
open PySem PySem.Spec L2
open PyProof.Rows hiding St
theorem jo_any {X : Cx} {Φ : PhiT} {e : Expr} {ie : IE} (h : JE X Φ e ie) (hv : ∀ i, ie ≠ .var i) : JO X Φ e ie := jo_of h (by cases ie <;> first | rfl | exact absurd rfl (hv _))
def GoodE (X : Cx) (Φ : PhiT) (e : Expr) (ie : IE) : Prop := JE X Φ e ie ∧ JO X Φ e ie ∧ (∀ m, tst m e = true → JT X Φ e ie) ∧ ∀ op es p m, e = .BoolOp op es p → tst m e = true → JW X Φ e ie
theorem good_val {X : Cx} {Φ : PhiT} {e : Expr} {ie : IE} (h : JE X Φ e ie) (hv : ∀ i, ie ≠ .var i) (h1 : ∀ a p, e ≠ .UnaryOp .Not a p) (h2 : ∀ o es p, e ≠ .BoolOp o es p) (h3 : ∀ t b o p, e ≠ .IfExp t b o p) (h4 : ∀ l ops r p, e ≠ .Compare l ops r p) : GoodE X Φ e ie :=
  ⟨h, jo_any h hv, fun _ _ => jt_val h (tests_plain h1 h2 h3 h4), fun op es p m e' _ => absurd e' (h2 _ _ _)⟩
theorem good_test {X : Cx} {Φ : PhiT} {e : Expr} {ie : IE} (h : JE X Φ e ie) (t : JT X Φ e ie) (hv : ∀ i, ie ≠ .var i) (h2 : ∀ o es p, e ≠ .BoolOp o es p) : GoodE X Φ e ie :=
  ⟨h, jo_any h hv, fun _ _ => t, fun op es p m e' _ => absurd e' (h2 _ _ _)⟩
theorem back_plain {es : List Expr} {env : Env} {pos : Pos} (h : ∀ e ∈ es, plain e = true) : (backTo pos (starEach es env)).any (·.1) = false := by
  induction es with
  | nil => rfl
  | cons e es ih =>
    rw [star_cons (plain_of (h e (by simp)))]
    unfold backTo at ih ⊢
    rw [List.map_cons, List.any_cons, ih fun x hx => h x (by simp [hx])]
    rfl
section
variable {Φ : PhiT} {n : Nat} {N : List Str} {G : List (Str × PyData)}
theorem chkL_plain : ∀ {k : Nat} {sc : Scope} {cs : Option Scope} {es : List Expr} {ies : IEs}, chkL N G k sc cs es ies = true → ∀ e ∈ es, plain e = true
  | 0, _, _, _, _, h => by simp [chkL] at h
  | k + 1, _, _, [], _, h => by simp
  | k + 1, _, _, e :: es, .n, h => by simp [chkL] at h
  | k + 1, _, _, e :: es, .c ie ies, h => by
    simp only [chkL, Bool.and_eq_true] at h
    intro x hx
    rcases List.mem_cons.mp hx with rfl | hx
    · exact h.1.1
    · exact chkL_plain h.2 x hx
theorem chkA_plain : ∀ {k : Nat} {sc : Scope} {cs : Option Scope} {es : List Expr} {as : IAs}, chkA N G k sc cs es as = true → ∀ e ∈ es, plain e = true
  | 0, _, _, _, _, h => by simp [chkA] at h
  | k + 1, _, _, [], _, h => by simp
  | k + 1, _, _, e :: es, .n, h => by simp [chkA] at h
  | k + 1, _, _, e :: es, .v ie as, h => by
    simp only [chkA, Bool.and_eq_true] at h
    intro x hx
    rcases List.mem_cons.mp hx with rfl | hx
    · exact h.1.1
    · exact chkA_plain h.2 x hx
  | k + 1, _, _, e :: es, .b i as, h => by
    cases e <;> first | (simp [chkA] at h; done) | skip
    simp only [chkA, Bool.and_eq_true] at h
    intro x hx
    rcases List.mem_cons.mp hx with rfl | hx
    · rfl
    · exact chkA_plain h.2 x hx

structure Sound (Φ : PhiT) (n : Nat) (N : List Str) (G : List (Str × PyData)) (k : Nat) : Prop where
  e : ∀ (X : Cx) (sc : Scope) (cs : Option Scope), Ctx X Φ n N G sc cs → ∀ (e : Expr) (ie : IE), chkE N G k sc cs e ie = true → GoodE X Φ e ie
  l : ∀ (X : Cx) (sc : Scope) (cs : Option Scope), Ctx X Φ n N G sc cs → ∀ (es : List Expr) (ies : IEs), chkL N G k sc cs es ies = true → JEs X Φ es ies ∧ JOs X Φ es ies
  c : ∀ (X : Cx) (sc : Scope) (cs : Option Scope), Ctx X Φ n N G sc cs → ∀ (es : List Expr) (ies : IEs), chkC N G k sc cs es ies = true → JC X Φ es ies
  a : ∀ (X : Cx) (sc : Scope) (cs : Option Scope), Ctx X Φ n N G sc cs → ∀ (es : List Expr) (as : IAs), chkA N G k sc cs es as = true → JA X Φ es as
  i : ∀ (X : Cx) (sc : Scope) (cs : Option Scope), Ctx X Φ n N G sc cs → ∀ (tg e : Expr) (it : II), chkI N G k sc cs tg e it = true → JI X Φ tg e it

theorem d_bin {X : Cx} {op : Operator} {o : Prim} (h : binP op = some o) : OpR X (binaryOp op) (fun x y => rD X.K o [x, y]) := by
  cases op <;> simp [binP] at h <;> subst h
  · exact d_add
  · exact d_sub
  · exact d_mul
  · exact d_mod
  · exact d_pow
  · exact d_fdiv

theorem ty_in (t : Ty) : Str.ofString (tyName t) ∈ (["len", "abs", "min", "max", "sum", "all", "any", "tuple", "list", "sorted", "isinstance", "int", "bool", "str", "range", "zip", "enumerate", "set"] : List Str) := by
  cases t <;> simp [tyName]
theorem bi_in (b : BI) : biName b ∈ (["len", "abs", "min", "max", "sum", "all", "any", "tuple", "list", "sorted", "isinstance", "int", "bool", "str", "range", "zip", "enumerate", "set"] : List Str) := by
  cases b <;> simp [biName]
theorem boot_ty (t : Ty) : bootBuiltins (Str.ofString (tyName t)) = some (.type (tyName t)) := by
  cases t
  · exact PyProof.Rows.boot_int
  · exact PyProof.Rows.boot_bool
  · exact PyProof.Rows.boot_tuple
  · exact PyProof.Rows.boot_str
  · exact PyProof.Rows.boot_list
theorem je_isi {X : Cx} {e : Expr} {ie : IE} {t : Ty} {ty : Str} {s' : Bool} {p p2 pos : Pos} (hg : Gl X "isinstance") (hm : X.mg "isinstance" = none) (hg2 : Gl X (Str.ofString (tyName t))) (hm2 : X.mg (Str.ofString (tyName t)) = none) (ht : ty = Str.ofString (tyName t)) (ns : ∀ x p, e ≠ .Starred x p) (h : JE X Φ e ie) (ho : JO X Φ e ie) :
    JE X Φ (.Call (.Name "isinstance" p) [e, .Name ty p2] [] pos) (.pr s' (.isi t) (.c ie .n)) := by
  subst ht
  refine je_pr1 (r := fun x => rIsiD X.K t [x, .ty (tyName t)]) (fun ta ha => ?_) (fun x H Q q => ⟨x, rfl, q⟩) h ho
  have hn : Str.ofString (tyName t) ≠ "__name__" := by cases t <;> decide
  have hd : (Str.ofString (tyName t) == ("__debug__" : Str)) = false := by cases t <;> decide
  exact pe_callB (d_isi t) hg hm PyProof.Rows.boot_isinstance (pa_cons ha (pa_cons (pe_bltn hg2 hm2 (boot_ty t) (v := .ty (tyName t)) rfl hn hd) pa_nil rfl) (star_cons ns)) (by decide) (by decide) (star_cons ns) rfl
theorem d_sorted {X : Cx} : CallR X (.builtin "sorted") (rD X.K (.bi .sorted)) := by
  intro pins s σ H vs us Q I r h
  obtain ⟨Hf, ds, d, e, hv, hp, k⟩ := h
  simp [prD, biD] at hp
theorem bi_call {X : Cx} {b : BI} {e : Expr} {es : List Expr} {t : TA} {p pos : Pos} (hc : X.calm = true) (hg : Gl X (biName b)) (hm : X.mg (biName b) = none) (ha : PA X (e :: es) t) (he : starEach (e :: es) X.env = (false, eval e X.env) :: starEach es X.env) (hpl : (backTo pos (starEach es X.env)).any (·.1) = false) :
    PE X (.Call (.Name (biName b) p) (e :: es) [] pos) (tCB (rD X.K (.bi b)) t) := by
  cases b
  · exact pe_callB d_len hg hm PySem.boot_len ha (by decide) (by decide) he hpl
  · exact pe_callB d_abs hg hm PyProof.Rows.boot_abs ha (by decide) (by decide) he hpl
  · exact pe_callB (d_min hc) hg hm PyProof.Rows.boot_min ha (by decide) (by decide) he hpl
  · exact pe_callB (d_max hc) hg hm PyProof.Rows.boot_max ha (by decide) (by decide) he hpl
  · exact pe_callB (d_sum hc) hg hm PyProof.Rows.boot_sum ha (by decide) (by decide) he hpl
  · exact pe_callB (d_all hc) hg hm PyProof.Rows.boot_all ha (by decide) (by decide) he hpl
  · exact pe_callB (d_any hc) hg hm PyProof.Rows.boot_any ha (by decide) (by decide) he hpl
  · exact pe_callTy d_tuple hg hm PyProof.Rows.boot_tuple ha (by decide) (by decide) he hpl
  · exact pe_callTy d_list hg hm PyProof.Rows.boot_list ha (by decide) (by decide) he hpl
  · exact pe_callB d_sorted hg hm PyProof.Rows.boot_sorted ha (by decide) (by decide) he hpl
theorem pe_sset {X : Cx} {a : Expr} {ta : TE} {p p2 pos pos2 : Pos} (hc : X.calm = true) (hg : Gl X "sorted") (hm : X.mg "sorted" = none) (hg2 : Gl X "set") (hm2 : X.mg "set" = none) (ns : ∀ x q, a ≠ .Starred x q) (ha : PE X a ta) :
    PE X (.Call (.Name "sorted" p) [.Call (.Name "set" p2) [a] [] pos2] [] pos) (tUn (fun x H Q => rD X.K .sset [x] H Q) ta) := by
  refine ⟨fun pins s σ H Q I h => ?_⟩
  have pset : PE X (.Call (.Name "set" p2) [a] [] pos2) (fun σ H Q2 => (Q2 = fun v H2 => rSortedSet X.w [v] H2 Q) ∧ ta σ H fun x H1 => rD X.K .sset [x] H1 Q) := by
    refine ⟨fun pins s σ H Q2 I q => ?_⟩
    obtain ⟨rfl, q⟩ := q
    refine wpAny_Call_Name_kw (ld_blt I hg2 hm2 PyProof.Rows.boot_set ?_ (by decide) (by decide))
    have hp := (pa_cons ha pa_nil (star_cons ns)).run pos2 pins s σ H (fun vs H1 => rD X.K .sset vs H1 Q) I q
    exact PyProof.Rows.callWith_type1 (thn hp fun us s1 ⟨vs, H1, I1, r1, q1⟩ => cr_setI hc pins s1 σ H1 _ us _ I1 r1 (sset_of q1)) (star_cons ns) rfl
  refine wpAny_Call_Name_kw (ld_blt I hg hm PyProof.Rows.boot_sorted ?_ (by decide) (by decide))
  have hp := (pa_cons pset pa_nil rfl).run pos pins s σ H (fun vs H1 => rSortedSet X.w vs H1 Q) I ⟨rfl, h⟩
  exact PyProof.Rows.callWith_builtin1 (thn hp fun us s1 ⟨vs, H1, I1, r1, q1⟩ => cr_sortedSet hc pins s1 σ H1 vs us Q I1 r1 q1) rfl rfl
theorem chkI_fold {X : Cx} {k : Nat} {sc : Scope} {cs : Option Scope} {tg e : Expr} {it : II} (h : chkI N G k sc cs tg e it = true) : ∀ x, foldedSetIterable e X.env x = pure x := by
  have hn : notSet e = true := by
    cases k with
    | zero => exact absurd h (by unfold chkI; decide)
    | succ k =>
      unfold chkI at h
      split at h
      · cases h
      · rename_i hk
        cases hk
        simp only [Bool.and_eq_true] at h
        exact h.1
      · rfl
      · rfl
      · rfl
      · cases h
  exact notSet_iter hn
theorem chkT_own {N : List Str} {sc : Scope} {cs : Option Scope} : ∀ {es : List Expr} {is : List Nat}, chkT N sc cs es is = true → (namesT es is).map (·.2) = is := fun {es is} h => by
  induction es generalizing is with
  | nil => cases is with
    | nil => rfl
    | cons _ _ => simp [chkT] at h
  | cons e es ih =>
    cases is with
    | nil => cases e <;> simp [chkT] at h
    | cons i is =>
      cases e <;> first | (simp [chkT] at h; done) | skip
      simp only [chkT, Bool.and_eq_true] at h
      show i :: (namesT es is).map (·.2) = i :: is
      rw [ih h.2]
theorem chkG_own {N : List Str} {sc : Scope} {cs : Option Scope} {e : Expr} {tg : Tg} (h : chkG N sc cs e tg = true) : (ownOf e tg).map (·.2) = tgS tg := by
  cases e <;> cases tg <;> first | (simp [chkG] at h; done) | skip
  · rfl
  · exact chkT_own h
theorem Ctx.bok {X : Cx} {sc : Scope} {cs : Option Scope} (C : Ctx X Φ n N G sc cs) {scope : Scope} {own : List (Str × Nat)} (h : blkC N sc scope own = true) : BlkOk X.N X.env.scope scope own := by
  rw [C.nn, C.sc_]
  exact blkOk_by h
theorem w_an {X : Cx} {a b : Expr} {r : List Expr} {p : Pos} {ia ib : IE} (g3 : ∀ m, tst m a = true → JT X Φ a ia)
    (f4 : ∀ (op : BoolOp) (es : List Expr) (q : Pos) (m : Nat), Expr.BoolOp .And (b :: r) p = .BoolOp op es q → tst m (.BoolOp .And (b :: r) p) = true → JW X Φ (.BoolOp .And (b :: r) p) ib) (m : Nat)
    (hm : tst m (.BoolOp .And (a :: b :: r) p) = true) : JW X Φ (.BoolOp .And (a :: b :: r) p) (.an ia ib) := by
  cases m with
  | zero => cases hm
  | succ m =>
    have hm' : tst m a = true ∧ (b :: r).all (tst m) = true := by
      have := hm
      unfold tst at this
      rw [List.all_cons, Bool.and_eq_true] at this
      exact this
    exact jw_an (g3 m hm'.1) (f4 _ _ _ (m + 1) rfl hm'.2)
theorem w_orr {X : Cx} {a b : Expr} {r : List Expr} {p : Pos} {ia ib : IE} (g3 : ∀ m, tst m a = true → JT X Φ a ia)
    (f4 : ∀ (op : BoolOp) (es : List Expr) (q : Pos) (m : Nat), Expr.BoolOp .Or (b :: r) p = .BoolOp op es q → tst m (.BoolOp .Or (b :: r) p) = true → JW X Φ (.BoolOp .Or (b :: r) p) ib) (m : Nat)
    (hm : tst m (.BoolOp .Or (a :: b :: r) p) = true) : JW X Φ (.BoolOp .Or (a :: b :: r) p) (.orr ia ib) := by
  cases m with
  | zero => cases hm
  | succ m =>
    have hm' : tst m a = true ∧ (b :: r).all (tst m) = true := by
      have := hm
      unfold tst at this
      rw [List.all_cons, Bool.and_eq_true] at this
      exact this
    exact jw_orr (g3 m hm'.1) (f4 _ _ _ (m + 1) rfl hm'.2)
theorem sound_e {k : Nat} (S : Sound Φ n N G k) (X : Cx) (sc : Scope) (cs : Option Scope) (C : Ctx X Φ n N G sc cs) (e : Expr) (ie : IE) (h : chkE N G (k + 1) sc cs e ie = true) : GoodE X Φ e ie := by
  have hu : X.A.units + 65 < cLine := by
    have := C.room.units
    have := C.room.un
    omega
  unfold chkE at h
  split at h
  · rename_i a ha
    have he : ∃ op p, e = .BoolOp op [a] p := by
      unfold isOne at ha
      split at ha
      · cases ha; exact ⟨_, _, rfl⟩
      · cases ha
    obtain ⟨op, p, rfl⟩ := he
    obtain ⟨g1, g2, g3, g4⟩ := S.e X sc cs C _ _ h
    have w : ∀ m, tst m (.BoolOp op [a] p) = true → JW X Φ (.BoolOp op [a] p) ie := fun m hm => by
      cases m with
      | zero => cases hm
      | succ m =>
        have hm' : tst m a = true := by simpa [tst] using hm
        cases op with
        | And => exact jw_and1 (g3 m hm')
        | Or => exact jw_or1 (g3 m hm')
    exact ⟨je_one g1, pe_one g2, fun m hm => (w m hm).jt, fun _ _ _ m _ hm => w m hm⟩
  · split at h
    · -- a name
      simp only [Bool.and_eq_true, decide_eq_true_eq] at h
      obtain ⟨⟨h1, h2⟩, h3⟩ := h
      obtain ⟨n1, n2, n3⟩ := nameOk_of h3
      exact ⟨je_var (by rw [C.nn]; exact h1) (C.vis h2) n1 n2, jo_var (by rw [C.nn]; exact h1) (C.vis h2) n1 n2, fun _ _ => jt_val (je_var (by rw [C.nn]; exact h1) (C.vis h2) n1 n2) fun _ => rfl, fun _ _ _ _ e' _ => by cases e'⟩
    · -- a constant of the module
      simp only [Bool.and_eq_true] at h
      obtain ⟨⟨h1, h2⟩, h3⟩ := h
      obtain ⟨n1, n2, n3⟩ := nameOk_of h2
      split at h3
      · rename_i d' hd
        have e1 := pdEq_eq _ _ h3
        subst e1
        obtain ⟨u, v, q1, q2, q3⟩ := C.glob _ _ hd
        exact good_val (je_cst (pe_glob (C.gl h1) q1 q2 n1) q3) (fun _ z => by cases z) (fun _ _ z => by cases z) (fun _ _ _ z => by cases z) (fun _ _ _ _ z => by cases z) (fun _ _ _ _ z => by cases z)
      · cases h3
    · obtain ⟨v, q1, q2⟩ := const_pe (X := X) h
      exact good_val (je_cst q1 q2) (fun _ z => by cases z) (fun _ _ z => by cases z) (fun _ _ _ z => by cases z) (fun _ _ _ _ z => by cases z) (fun _ _ _ _ z => by cases z)
    · simp only [Bool.and_eq_true] at h
      obtain ⟨⟨⟨h1, h2⟩, h3⟩, h4⟩ := h
      refine ⟨je_ifx (S.e X sc cs C _ _ h2 |>.2.2.1 _ h1) (S.e X sc cs C _ _ h3).1 (S.e X sc cs C _ _ h4).1, jo_any (je_ifx (S.e X sc cs C _ _ h2 |>.2.2.1 _ h1) (S.e X sc cs C _ _ h3).1 (S.e X sc cs C _ _ h4).1) (fun _ z => by cases z), fun m hm => ?_, fun _ _ _ _ e' _ => by cases e'⟩
      cases m <;> simp [tst] at hm
    · obtain ⟨g1, g2, g3, g4⟩ := S.e X sc cs C _ _ h
      refine ⟨je_no g1, jo_any (je_no g1) (fun _ z => by cases z), fun m hm => ?_, fun _ _ _ _ e' _ => by cases e'⟩
      cases m with
      | zero => cases hm
      | succ m => exact jt_no (g3 m (by simpa [tst] using hm))
    · obtain ⟨g1, g2, g3, g4⟩ := S.e X sc cs C _ _ h
      exact good_val (je_pr1 (fun ta ha => pe_un d_neg ha) (fun _ _ _ q => q) g1 g2) (fun _ z => by cases z) (fun _ _ z => by cases z) (fun _ _ _ z => by cases z) (fun _ _ _ _ z => by cases z) (fun _ _ _ _ z => by cases z)
    · simp only [Bool.and_eq_true] at h
      obtain ⟨g1, g2, g3, g4⟩ := S.e X sc cs C _ _ h.1
      obtain ⟨f1, f2, f3, f4⟩ := S.e X sc cs C _ _ h.2
      have w := w_an g3 f4
      exact ⟨je_an g1 f1, jo_any (je_an g1 f1) (fun _ z => by cases z), fun m hm => (w m hm).jt, fun _ _ _ m _ hm => w m hm⟩
    · simp only [Bool.and_eq_true] at h
      obtain ⟨g1, g2, g3, g4⟩ := S.e X sc cs C _ _ h.1
      obtain ⟨f1, f2, f3, f4⟩ := S.e X sc cs C _ _ h.2
      have w := w_orr g3 f4
      exact ⟨je_orr g1 f1, jo_any (je_orr g1 f1) (fun _ z => by cases z), fun m hm => (w m hm).jt, fun _ _ _ m _ hm => w m hm⟩
    · exact good_val (je_tup (S.l X sc cs C _ _ h).1) (fun _ z => by cases z) (fun _ _ z => by cases z) (fun _ _ _ z => by cases z) (fun _ _ _ _ z => by cases z) (fun _ _ _ _ z => by cases z)
    · exact good_val (je_lst (S.l X sc cs C _ _ h).1) (fun _ z => by cases z) (fun _ _ z => by cases z) (fun _ _ _ z => by cases z) (fun _ _ _ _ z => by cases z) (fun _ _ _ _ z => by cases z)
    · simp only [Bool.and_eq_true, decide_eq_true_eq] at h
      obtain ⟨⟨h1, h2⟩, h3⟩ := h
      obtain ⟨g1, g2, _, _⟩ := S.e X sc cs C _ _ h2
      obtain ⟨f1, f2, _, _⟩ := S.e X sc cs C _ _ h3
      exact good_val (je_pr2 (fun ta tb ha hb => pe_op (d_bin h1) ha hb) (fun _ _ _ _ q => q) g1 g2 f1 f2) (fun _ z => by cases z) (fun _ _ z => by cases z) (fun _ _ _ z => by cases z) (fun _ _ _ _ z => by cases z) (fun _ _ _ _ z => by cases z)
    · simp only [Bool.and_eq_true, decide_eq_true_eq] at h
      obtain ⟨⟨⟨h1, h0⟩, h2⟩, h3⟩ := h
      subst h1
      obtain ⟨g1, g2, _, _⟩ := S.e X sc cs C _ _ h2
      obtain ⟨f1, f2, _, _⟩ := S.e X sc cs C _ _ h3
      exact good_test (je_pr2 (fun ta tb ha hb => pe_cmpR (d_cmp _ hu) ha hb (notSet_mark h0)) (fun _ _ _ _ q => q) g1 g2 f1 f2) (jt_pr2 (fun ta tb ha hb => pt_cmpR (d_cmp _ hu) ha hb (notSet_mark h0)) (fun _ _ _ _ q => q) g1 g2 f1 f2) (fun _ z => by cases z) (fun _ _ _ z => by cases z)
    · obtain ⟨g1, g2, _, _⟩ := S.e X sc cs C _ _ h
      exact good_test (je_pr1 (r := fun x => rIsND X.K false x .non) (fun ta ha => pe_cmpR d_isN ha pe_non rfl) (fun _ _ _ q => ⟨rfl, q⟩) g1 g2) (jt_pr1 (r := fun x => rIsND X.K false x .non) (fun ta ha => pt_cmpR d_isN ha pe_non rfl) (fun _ _ _ q => ⟨rfl, q⟩) g1 g2) (fun _ z => by cases z) (fun _ _ _ z => by cases z)
    · obtain ⟨g1, g2, _, _⟩ := S.e X sc cs C _ _ h
      exact good_test (je_pr1 (r := fun x => rIsND X.K true x .non) (fun ta ha => pe_cmpR d_notN ha pe_non rfl) (fun _ _ _ q => ⟨rfl, q⟩) g1 g2) (jt_pr1 (r := fun x => rIsND X.K true x .non) (fun ta ha => pt_cmpR d_notN ha pe_non rfl) (fun _ _ _ q => ⟨rfl, q⟩) g1 g2) (fun _ z => by cases z) (fun _ _ _ z => by cases z)
    · simp only [Bool.and_eq_true, beq_iff_eq] at h
      obtain ⟨rfl, h⟩ := h
      obtain ⟨g1, g2, _, _⟩ := S.e X sc cs C _ _ h
      exact good_test (je_pr1 (r := fun x => rIsBD X.K _ false x (.bl _)) (fun ta ha => pe_cmpR (d_isB _) ha pe_bl rfl) (fun _ _ _ q => ⟨rfl, q⟩) g1 g2) (jt_pr1 (r := fun x => rIsBD X.K _ false x (.bl _)) (fun ta ha => pt_cmpR (d_isB _) ha pe_bl rfl) (fun _ _ _ q => ⟨rfl, q⟩) g1 g2) (fun _ z => by cases z) (fun _ _ _ z => by cases z)
    · simp only [Bool.and_eq_true, beq_iff_eq] at h
      obtain ⟨rfl, h⟩ := h
      obtain ⟨g1, g2, _, _⟩ := S.e X sc cs C _ _ h
      exact good_test (je_pr1 (r := fun x => rIsBD X.K _ true x (.bl _)) (fun ta ha => pe_cmpR (d_notB _) ha pe_bl rfl) (fun _ _ _ q => ⟨rfl, q⟩) g1 g2) (jt_pr1 (r := fun x => rIsBD X.K _ true x (.bl _)) (fun ta ha => pt_cmpR (d_notB _) ha pe_bl rfl) (fun _ _ _ q => ⟨rfl, q⟩) g1 g2) (fun _ z => by cases z) (fun _ _ _ z => by cases z)
    · simp only [Bool.and_eq_true, decide_eq_true_eq] at h
      obtain ⟨⟨⟨⟨⟨rfl, rfl⟩, h0⟩, h1⟩, h2⟩, h3⟩ := h
      have ga := (S.e X sc cs C _ _ h1).1
      have gb := (S.e X sc cs C _ _ h2).1
      have gc := (S.e X sc cs C _ _ h3).1
      have hm : ∀ {b c : Expr} {o1 o2 : CmpOp}, notSet c = true → lastMarks [o1, o2] [b, c] = false := fun h => notSet_mark h
      exact good_test (fun s => (pe_chain (d_cmp _ hu) (d_cmp _ hu) (ga s) (gb s) (gc s) (hm h0)).weak (chain_read (s := s))) (jt_via fun s => (pt_chain (d_cmp _ hu) (d_cmp _ hu) (ga s) (gb s) (gc s) (hm h0)).weak fun σ H Q q => chain_read (s := s) σ H _ q) (fun _ z => by cases z) (fun _ _ _ z => by cases z)
    · simp only [Bool.and_eq_true] at h
      obtain ⟨g1, g2, _, _⟩ := S.e X sc cs C _ _ h.1
      obtain ⟨f1, f2, _, _⟩ := S.e X sc cs C _ _ h.2
      exact good_val (je_sl10 g1 g2 f1 f2) (fun _ z => by cases z) (fun _ _ z => by cases z) (fun _ _ _ z => by cases z) (fun _ _ _ _ z => by cases z) (fun _ _ _ _ z => by cases z)
    · simp only [Bool.and_eq_true] at h
      obtain ⟨g1, g2, _, _⟩ := S.e X sc cs C _ _ h.1
      obtain ⟨f1, f2, _, _⟩ := S.e X sc cs C _ _ h.2
      exact good_val (je_sl01 g1 g2 f1 f2) (fun _ z => by cases z) (fun _ _ z => by cases z) (fun _ _ _ z => by cases z) (fun _ _ _ _ z => by cases z) (fun _ _ _ _ z => by cases z)
    · simp only [Bool.and_eq_true] at h
      exact good_val (je_sl11 (S.e X sc cs C _ _ h.1.1).1 (S.e X sc cs C _ _ h.1.2).1 (S.e X sc cs C _ _ h.2).1) (fun _ z => by cases z) (fun _ _ z => by cases z) (fun _ _ _ z => by cases z) (fun _ _ _ _ z => by cases z) (fun _ _ _ _ z => by cases z)
    · simp only [Bool.and_eq_true] at h
      obtain ⟨g1, g2, _, _⟩ := S.e X sc cs C _ _ h.1.2
      obtain ⟨f1, f2, _, _⟩ := S.e X sc cs C _ _ h.2
      exact good_val (je_pr2 (fun ta tb ha hb => pe_ix d_item ha hb (notSlice_ix h.1.1)) (fun _ _ _ _ q => q) g1 g2 f1 f2) (fun _ z => by cases z) (fun _ _ z => by cases z) (fun _ _ _ z => by cases z) (fun _ _ _ _ z => by cases z) (fun _ _ _ _ z => by cases z)
    · -- isinstance
      simp only [Bool.and_eq_true, decide_eq_true_eq] at h
      obtain ⟨⟨⟨⟨⟨rfl, h1⟩, h2⟩, h3⟩, h4⟩, h5⟩ := h
      obtain ⟨g1, g2, _, _⟩ := S.e X sc cs C _ _ h5
      exact good_val (je_isi (C.gl h1) (C.blt _ (by simp)) (C.gl (by rw [← h3]; exact h2)) (C.blt _ (ty_in _)) h3 (plain_of h4) g1 g2) (fun _ z => by cases z) (fun _ _ z => by cases z) (fun _ _ _ z => by cases z) (fun _ _ _ _ z => by cases z) (fun _ _ _ _ z => by cases z)
    · -- sorted(set(..))
      simp only [Bool.and_eq_true, decide_eq_true_eq] at h
      obtain ⟨⟨⟨⟨⟨rfl, rfl⟩, h1⟩, h2⟩, h3⟩, h4⟩ := h
      obtain ⟨g1, g2, _, _⟩ := S.e X sc cs C _ _ h4
      exact good_val (je_pr1 (fun ta ha => pe_sset C.calm (C.gl h1) (C.blt _ (by simp)) (C.gl h2) (C.blt _ (by simp)) (plain_of h3) ha) (fun _ _ _ q => q) g1 g2) (fun _ z => by cases z) (fun _ _ z => by cases z) (fun _ _ _ z => by cases z) (fun _ _ _ _ z => by cases z) (fun _ _ _ _ z => by cases z)
    · -- a built-in
      simp only [Bool.and_eq_true, decide_eq_true_eq] at h
      obtain ⟨⟨rfl, h1⟩, h2⟩ := h
      have hp := chkL_plain h2
      obtain ⟨q1, q2⟩ := S.l X sc cs C _ _ h2
      exact good_val (je_prN (fun t ht => bi_call C.calm (C.gl h1) (C.blt _ (bi_in _)) ht (star_cons (plain_of (hp _ (by simp)))) (back_plain fun x hx => hp x (by simp [hx]))) q1 q2) (fun _ z => by cases z) (fun _ _ z => by cases z) (fun _ _ _ z => by cases z) (fun _ _ _ _ z => by cases z) (fun _ _ _ _ z => by cases z)
    · -- a def
      simp only [Bool.and_eq_true, decide_eq_true_eq] at h
      obtain ⟨⟨⟨⟨rfl, h1⟩, h2⟩, h3⟩, h4⟩ := h
      obtain ⟨n1, n2, n3⟩ := nameOk_of h2
      have hp := chkA_plain h4
      exact good_val (je_call C.room (C.gl h1) n1 (fun p r q => C.funs _ p r q) (S.a X sc cs C _ _ h4) h3 (star_cons (plain_of (hp _ (by simp)))) (back_plain fun x hx => hp x (by simp [hx]))) (fun _ z => by cases z) (fun _ _ z => by cases z) (fun _ _ _ z => by cases z) (fun _ _ _ _ z => by cases z) (fun _ _ _ _ z => by cases z)
    · -- a comprehension
      simp only [Bool.and_eq_true, decide_eq_true_eq] at h
      obtain ⟨⟨⟨⟨⟨rfl, h1⟩, h2⟩, h3⟩, h4⟩, h5⟩ := h
      have hb := C.bok h1
      have hi := S.i X sc cs C _ _ _ h3
      have CB := fun s H Ca cl fp => C.blk h1 s H Ca cl fp
      have ho := chkG_own h2
      exact good_val (je_comp C.calm (by rw [C.nn]; exact C.nd) hb ho hi (fun s H Ca cl fp => (chkG_ok (CB s H Ca cl fp) h2).1) (fun s H Ca cl fp => S.c _ _ _ (CB s H Ca cl fp) _ _ h4) (fun s H Ca cl fp => (S.e _ _ _ (CB s H Ca cl fp) _ _ h5).1) (chkI_fold h3)) (fun _ z => by cases z) (fun _ _ z => by cases z) (fun _ _ _ z => by cases z) (fun _ _ _ _ z => by cases z) (fun _ _ _ _ z => by cases z)
    · cases h
theorem sound_i {k : Nat} (S : Sound Φ n N G k) (X : Cx) (sc : Scope) (cs : Option Scope) (C : Ctx X Φ n N G sc cs) (tg e : Expr) (it : II) (h : chkI N G (k + 1) sc cs tg e it = true) : JI X Φ tg e it := by
  unfold chkI at h
  split at h
  · cases h
  · rename_i hk
    cases hk
    simp only [Bool.and_eq_true] at h
    exact ji_vals (S.e X _ _ C _ _ h.2).1
  · rename_i hk
    cases hk
    simp only [Bool.and_eq_true, decide_eq_true_eq] at h
    obtain ⟨⟨⟨rfl, h1⟩, h2⟩, h3⟩ := h
    exact ji_rng1 (C.gl h1) (C.blt _ (by simp)) (jes_cons (S.e X _ _ C _ _ h3).1 jes_nil (plain_of h2)) (star_cons (plain_of h2))
  · rename_i hk
    cases hk
    simp only [Bool.and_eq_true, decide_eq_true_eq] at h
    obtain ⟨⟨⟨⟨⟨rfl, h1⟩, h2⟩, h3⟩, h4⟩, h5⟩ := h
    have s2 := star_cons (es := []) (env := X.env) (plain_of h3)
    exact ji_rng2 (C.gl h1) (C.blt _ (by simp)) (jes_cons (S.e X _ _ C _ _ h4).1 (jes_cons (S.e X _ _ C _ _ h5).1 jes_nil (plain_of h3)) (plain_of h2)) (by rw [star_cons (plain_of h2), s2]; rfl) s2
  · rename_i hk
    cases hk
    simp only [Bool.and_eq_true, decide_eq_true_eq] at h
    obtain ⟨⟨⟨⟨⟨rfl, h1⟩, h2⟩, h3⟩, h4⟩, h5⟩ := h
    exact ji_zip (C.gl h1) (C.blt _ (by simp)) (S.e X _ _ C _ _ h4).1 (S.e X _ _ C _ _ h5).1 (plain_of h2) (plain_of h3) (star_cons (plain_of h2)) (back_plain fun x hx => by rw [show x = _ from by simpa using hx]; exact h3)
  · cases h
theorem sound : ∀ k, Sound Φ n N G k
  | 0 => ⟨fun _ _ _ _ e ie h => by simp [chkE] at h, fun _ _ _ _ e ie h => by simp [chkL] at h, fun _ _ _ _ e ie h => by simp [chkC] at h, fun _ _ _ _ e ie h => by simp [chkA] at h, fun _ _ _ _ _ e ie h => by simp [chkI] at h⟩
  | k + 1 => by
    have S := sound k
    refine ⟨sound_e S, fun X sc cs C es ies h => ?_, fun X sc cs C es ies h => ?_, fun X sc cs C es as h => ?_, sound_i S⟩
    · cases es <;> cases ies <;> first | (simp [chkL] at h; done) | skip
      · exact ⟨jes_nil, jos_nil⟩
      · simp only [chkL, Bool.and_eq_true] at h
        obtain ⟨g1, g2, _, _⟩ := S.e X _ _ C _ _ h.1.2
        obtain ⟨f1, f2⟩ := S.l X _ _ C _ _ h.2
        exact ⟨jes_cons g1 f1 (plain_of h.1.1), jos_cons g2 f2 (plain_of h.1.1)⟩
    · unfold chkC at h
      split at h
      · cases h
      · exact jc_nil
      · rename_i hk
        cases hk
        simp only [Bool.and_eq_true] at h
        exact jc_one ((S.e X _ _ C _ _ h.2).2.2.1 _ h.1)
      · cases h
    · unfold chkA at h
      split at h
      · cases h
      · exact ja_nil
      · rename_i hk
        cases hk
        simp only [Bool.and_eq_true] at h
        exact ja_v (S.e X _ _ C _ _ h.1.2).1 (S.a X _ _ C _ _ h.2) (plain_of h.1.1)
      · rename_i hk
        cases hk
        simp only [Bool.and_eq_true, decide_eq_true_eq] at h
        obtain ⟨n1, n2, _⟩ := nameOk_of h.1.2
        exact ja_b (by rw [C.nn]; exact h.1.1.1) (C.vis h.1.1.2) n1 n2 (S.a X _ _ C _ _ h.2)
      · cases h
end
end CD

set_option Elab.async false
set_option linter.all false
set_option maxRecDepth 100000
set_option autoImplicit false
/-! Statements and their terms side by side. -/
namespace CD
open PySem PySem.Spec L2
open PyProof.Rows hiding St
def nmL (sc : Scope) (line : Nat) : Expr → Option Str
  | .Name id pos => if sc.names.lookup id == some .local && pos.line == line then some id else none
  | _ => none
def isStar : Expr → Bool
  | .Starred .. => true
  | _ => false
/-- the order of the stores of a tuple display: none where the model is silent -/
def swp (sc : Scope) (ts vs : List Expr) : Option (Option (List Str)) :=
  if !(ts.length == 2 || ts.length == 3) || vs.length != ts.length then some none
  else if vs.any isStar then some none
  else
    let names := ts.filterMap (nmL sc ((ts.head?.map (·.pos.line)).getD 0))
    if names.length != ts.length || names.eraseDups.length != names.length then some none
    else if vs.all (foldedForSure 8) then some none
    else if vs.all (constantsAlone 8) then none
    else some (some names)
theorem swp_ok {env : Env} (hk : env.scope.kind = .function) {ts vs : List Expr} {k k2 : Nat} {p p2 : Pos} {r : Option (List Str)} (h : swp env.scope ts vs = some r) : swappedStores [.Tuple ts k p] (.Tuple vs k2 p2) env = pure r := by
  have hb : env.blockKind = .function := by unfold Env.blockKind; rw [hk]; rfl
  have hb2 : (env.blockKind != .function) = false := by rw [hb]; rfl
  unfold swappedStores
  show (if (!(ts.length == 2 || ts.length == 3) || vs.length != ts.length || env.blockKind != .function) = true then (pure none : Sem (Option (List Str))) else if vs.any isStar = true then pure none
    else if ((ts.filterMap (nmL env.scope ((ts.head?.map (·.pos.line)).getD 0))).length != ts.length || (ts.filterMap (nmL env.scope ((ts.head?.map (·.pos.line)).getD 0))).eraseDups.length != (ts.filterMap (nmL env.scope ((ts.head?.map (·.pos.line)).getD 0))).length) = true then pure none
    else if vs.all (foldedForSure 8) = true then pure none
    else if vs.all (constantsAlone 8) = true then (do unsupported "assign.tuple-of-constant-expressions:order-of-the-stores"; pure (some (ts.filterMap (nmL env.scope ((ts.head?.map (·.pos.line)).getD 0))))) else pure (some (ts.filterMap (nmL env.scope ((ts.head?.map (·.pos.line)).getD 0))))) = pure r
  rw [hb2, Bool.or_false]
  unfold swp at h
  dsimp only at h
  split at h
  · rename_i q
    cases h
    rw [if_pos q]
  · rename_i q
    rw [if_neg q]
    split at h
    · rename_i q1
      cases h
      rw [if_pos q1]
    · rename_i q1
      rw [if_neg q1]
      split at h
      · rename_i q2
        cases h
        rw [if_pos q2]
      · rename_i q2
        rw [if_neg q2]
        split at h
        · rename_i q3
          cases h
          rw [if_pos q3]
        · rename_i q3
          rw [if_neg q3]
          split at h
          · cases h
          · rename_i q4
            cases h
            rw [if_neg q4]
def notTup : Expr → Bool
  | .Tuple .. => false
  | _ => true
section
variable (N : List Str) (G : List (Str × PyData))
def chkX (sc : Scope) : Expr → IE → Bool
  | .List es _, .lst ies => chkL N G 99 sc none es ies
  | .Call (.Name f _) (e :: es) [] _, .call f' as => decide (f = f') && gl sc f && nameOk f && decide (((idxA as).filterMap id).Nodup) && chkA N G 99 sc none (e :: es) as
  | _, _ => false
def swOk (sc : Scope) : List Expr → List Expr → List Nat → Bool
  | ts, vs, is => decide (swp sc ts vs = some none) || match ts, vs, is with
      | [.Name x _, .Name y _], [_, _], [i, j] => decide (swp sc ts vs = some (some [x, y])) && (sc.names.lookup x == some .local) && (sc.names.lookup y == some .local) && decide (i ≠ j)
      | [.Name x _, .Name y _, .Name z _], [_, _, _], [i, j, l] => decide (swp sc ts vs = some (some [x, y, z])) && (sc.names.lookup x == some .local) && (sc.names.lookup y == some .local) && (sc.names.lookup z == some .local) && decide (i ≠ j) && decide (i ≠ l) && decide (j ≠ l)
      | _, _, _ => false
mutual
def chkS : Nat → Scope → Stmt → IS → Bool
  | 0, _, _, _ => false
  | _ + 1, _, _, .bad => true
  | _ + 1, sc, .Assign [.Name y py] (.ListComp elt [⟨tg, iter, ifs, 0⟩] scope cp) _, .asg (.nm i) (.comp it itg icd ielt own) =>
    decide (N[i]? = some y) && (sc.names.lookup y == some .local) && (py.line == cp.line) && !(scope.names.any fun (n, k) => n == y && (k == .local || k == .cell)) && decide (own = tgS itg)
      && blkC N sc scope (ownOf tg itg) && chkG N (relS scope sc) (some scope) tg itg && chkI N G 99 sc none tg iter it && chkC N G 99 (relS scope sc) (some scope) ifs icd && chkE N G 99 (relS scope sc) (some scope) elt ielt
  | _ + 1, sc, .Assign [.Name x _] e _, .asg (.nm i) ie => decide (N[i]? = some x) && tgOk sc none x && notComp e && chkE N G 99 sc none e ie
  | _ + 1, sc, .Assign [.Name x _] e _, .asgO i ie => decide (N[i]? = some x) && tgOk sc none x && notComp e && chkX N G sc e ie
  | _ + 1, sc, .Assign [.Tuple ts _ _] (.Tuple vs _ _) _, .asg (.tp is) (.tup ies) => swOk sc ts vs is && chkT N sc none ts is && chkL N G 99 sc none vs ies
  | _ + 1, sc, .Assign [.Tuple ts _ _] e _, .asg (.tp is) ie => notTup e && chkT N sc none ts is && chkE N G 99 sc none e ie
  | _ + 1, sc, .Assign [.Subscript (.Name x _) key _] e _, .store i ik ie => decide (N[i]? = some x) && vis sc x && nameOk x && notSlice key && chkE N G 99 sc none key ik && chkE N G 99 sc none e ie
  | _ + 1, sc, .Expr (.Call (.Attribute (.Name x _) m ap) [e] [] cp) _, .app i ie => decide (m = "append") && decide (N[i]? = some x) && vis sc x && nameOk x && (ap.endLine == cp.line) && plain e && chkE N G 99 sc none e ie
  | _ + 1, sc, .Expr e _, .expr ie => notComp e && chkE N G 99 sc none e ie
  | _ + 1, sc, .Return (some e) _, .ret ie => chkE N G 99 sc none e ie
  | _ + 1, sc, .Return (some e) _, .retO ie => chkX N G sc e ie
  | _ + 1, _, .Break _, .brk => true
  | _ + 1, _, .Pass _, .pass => true
  | k + 1, sc, .If c a b _, .ife ic ia ib => tst 99 c && chkE N G 99 sc none c ic && chkSs k sc a ia && chkSs k sc b ib
  | k + 1, sc, .For tg iter body [] _, .forr it itg ib => chkG N sc none tg itg && chkI N G 99 sc none tg iter it && chkSs k sc body ib
  | k + 1, sc, .While c body [] _, .whil ic ib => tst 99 c && chkE N G 99 sc none c ic && chkSs k sc body ib
  | _ + 1, _, _, _ => false
def chkSs : Nat → Scope → List Stmt → ISs → Bool
  | 0, _, _, _ => false
  | _ + 1, _, [], .n => true
  | k + 1, sc, s :: r, .c i is => chkS k sc s i && chkSs k sc r is
  | _ + 1, _, _, _ => false
end
end
theorem sw_no {e : Expr} {t : Option Expr} {l : Nat} {env : Env} (h : notComp e = true) : swapsWith e t l env = pure false := by
  cases e <;> first | rfl | (simp [notComp] at h)
section
variable {X : Cx} {Φ : PhiT} {n W : Nat} {N : List Str} {G : List (Str × PyData)} {sc : Scope}
theorem chkX_ok (C : Ctx X Φ n N G sc none) {e : Expr} {ie : IE} (h : chkX N G sc e ie = true) : JX X Φ e ie := by
  unfold chkX at h
  split at h
  · exact jx_lst ((sound 99).l X _ _ C _ _ h).1
  · simp only [Bool.and_eq_true, decide_eq_true_eq] at h
    obtain ⟨⟨⟨⟨rfl, h1⟩, h2⟩, h3⟩, h4⟩ := h
    obtain ⟨n1, n2, n3⟩ := nameOk_of h2
    have hp := chkA_plain h4
    exact jx_call C.room (C.gl h1) n1 (fun p r q => C.funs _ p r q) ((sound 99).a X _ _ C _ _ h4) h3 (star_cons (plain_of (hp _ (by simp)))) (back_plain fun x hx => hp x (by simp [hx]))
  · cases h
theorem sws_no {e : Expr} {ts : List Expr} {k : Nat} {p : Pos} {l : Nat} {env : Env} : swapsWithSole [.Tuple ts k p] e l env = pure false := by
  cases e <;> rfl
theorem js_tup (C : Ctx X Φ n N G sc none) {ts vs : List Expr} {is : List Nat} {ies : IEs} {kt k2 : Nat} {pt p2 pos : Pos} (h1 : swOk sc ts vs is = true) (h2 : chkT N sc none ts is = true) (h3 : chkL N G 99 sc none vs ies = true) :
    JS X Φ W (.Assign [.Tuple ts kt pt] (.Tuple vs k2 p2) pos) (.asg (.tp is) (.tup ies)) := by
  have hk : X.env.scope.kind = .function := by rw [C.sc_]; exact C.kind
  have hl := ((sound 99).l X _ _ C _ _ h3).1
  unfold swOk at h1
  rw [Bool.or_eq_true] at h1
  rcases h1 with hq | h1
  · simp only [decide_eq_true_eq] at hq
    have hw : swappedStores [.Tuple ts kt pt] (.Tuple vs k2 p2) X.env = pure none := swp_ok hk (by rw [C.sc_]; exact hq)
    obtain ⟨q1, q2, q3, _⟩ := chkT_ok C h2
    exact js_asg (je_tup hl) (jg_tp C.calm q1 q2 q3) sws_no hw rfl
  · split at h1
    · simp only [Bool.and_eq_true, decide_eq_true_eq, beq_iff_eq] at h1
      obtain ⟨⟨⟨hq, hx⟩, hy⟩, hij⟩ := h1
      simp only [chkT, Bool.and_eq_true, decide_eq_true_eq] at h2
      have hw := swp_ok (k := kt) (k2 := k2) (p := pt) (p2 := p2) hk (by rw [C.sc_]; exact hq)
      exact js_par2 C.calm (by rw [C.nn]; exact C.nd) (by rw [C.nn]; exact h2.1.1) (by rw [C.nn]; exact h2.2.1.1) hij (by rw [C.sc_]; exact hx) (by rw [C.sc_]; exact hy) hl hw sws_no
    · simp only [Bool.and_eq_true, decide_eq_true_eq, beq_iff_eq] at h1
      obtain ⟨⟨⟨⟨⟨⟨hq, hx⟩, hy⟩, hz⟩, hij⟩, hil⟩, hjl⟩ := h1
      simp only [chkT, Bool.and_eq_true, decide_eq_true_eq] at h2
      have hw := swp_ok (k := kt) (k2 := k2) (p := pt) (p2 := p2) hk (by rw [C.sc_]; exact hq)
      exact js_par3 C.calm (by rw [C.nn]; exact C.nd) (by rw [C.nn]; exact h2.1.1) (by rw [C.nn]; exact h2.2.1.1) (by rw [C.nn]; exact h2.2.2.1.1) hij hil hjl (by rw [C.sc_]; exact hx) (by rw [C.sc_]; exact hy) (by rw [C.sc_]; exact hz) hl hw sws_no
    · cases h1
theorem sst_no {e : Expr} {ts : List Expr} {k : Nat} {p : Pos} {env : Env} (h : notTup e = true) : swappedStores [.Tuple ts k p] e env = pure none := by
  cases e <;> first | rfl | (simp [notTup] at h)
theorem sub_sw {e a b : Expr} {p : Pos} {l : Nat} {env : Env} : swapsWithSole [.Subscript a b p] e l env = pure false := by
  cases e <;> rfl
theorem sub_st {e a b : Expr} {p : Pos} {env : Env} : swappedStores [.Subscript a b p] e env = pure none := by
  cases e <;> rfl
theorem sub_asg {a b : Expr} {p : Pos} {env : Env} (h : notSlice b = true) (v : Value) : assign (.Subscript a b p) env v = (do
      let ov ← holding [v] (eval a env)
      let iv ← holding [v, ov] (eval b env)
      standAt p
      holding [v, ov, iv] (setItem ov iv v)
      release [v, ov, iv] []) := by
  cases b <;> first | rfl | (simp [notSlice] at h)
theorem sound_s (C : Ctx X Φ n N G sc none) : ∀ k, (∀ (st : Stmt) (i : IS), chkS N G k sc st i = true → JS X Φ W st i) ∧ (∀ (sts : List Stmt) (is : ISs), chkSs N G k sc sts is = true → JSs X Φ W sts is)
  | 0 => ⟨fun st i h => by simp [chkS] at h, fun st i h => by simp [chkSs] at h⟩
  | k + 1 => by
    obtain ⟨ihS, ihSs⟩ := sound_s C k
    have S := sound (Φ := Φ) (n := n) (N := N) (G := G) 99
    have hND : X.N.Nodup := by rw [C.nn]; exact C.nd
    have hNi : ∀ {i : Nat} {x : Str}, N[i]? = some x → X.N[i]? = some x := fun h => by rw [C.nn]; exact h
    have nofn : ∀ {x : Str}, tgOk sc none x = true → L2.Loc X.env.scope x ∧ (X.fn x = true ∨ X.env.scope.names.lookup x = some .local) := fun h => C.tg h
    refine ⟨fun st i h => ?_, fun sts is h => ?_⟩
    · unfold chkS at h
      split at h
      · cases h
      · exact js_bad
      · rename_i hk
        cases hk
        simp only [Bool.and_eq_true, decide_eq_true_eq, beq_iff_eq, Bool.not_eq_true'] at h
        obtain ⟨⟨⟨⟨⟨⟨⟨⟨⟨h1, h2⟩, h3⟩, h4⟩, rfl⟩, h5⟩, h6⟩, h7⟩, h8⟩, h9⟩ := h
        have hb := C.bok h5
        have CB := fun s H Ca cl fp => C.blk h5 s H Ca cl fp
        exact js_setLc C.calm hND (hNi h1) (by rw [C.sc_]; exact h2) (sw_true (by rw [C.sc_]; exact C.kind) (by rw [C.sc_]; exact h2) (by simpa using h3) h4) hb (chkG_own h6) (S.i X _ _ C _ _ _ h7)
          (fun s H Ca cl fp => (chkG_ok (CB s H Ca cl fp) h6).1) (fun s H Ca cl fp => S.c _ _ _ (CB s H Ca cl fp) _ _ h8) (fun s H Ca cl fp => (S.e _ _ _ (CB s H Ca cl fp) _ _ h9).1) (chkI_fold h7)
      · rename_i hk
        cases hk
        simp only [Bool.and_eq_true, decide_eq_true_eq] at h
        exact js_set hND (hNi h.1.1.1) (nofn h.1.1.2).1 (S.e X _ _ C _ _ h.2).1 (sw_no h.1.2) (nofn h.1.1.2).2
      · rename_i hk
        cases hk
        simp only [Bool.and_eq_true, decide_eq_true_eq] at h
        exact js_setO hND (hNi h.1.1.1) (nofn h.1.1.2).1 (chkX_ok C h.2) (sw_no h.1.2) (nofn h.1.1.2).2
      · rename_i hk
        cases hk
        simp only [Bool.and_eq_true] at h
        exact js_tup C h.1.1 h.1.2 h.2
      · rename_i hk
        cases hk
        simp only [Bool.and_eq_true] at h
        obtain ⟨q1, q2, q3, _⟩ := chkT_ok C h.1.2
        exact js_asg (S.e X _ _ C _ _ h.2).1 (jg_tp C.calm q1 q2 q3) sws_no (sst_no h.1.1) rfl
      · rename_i hk
        cases hk
        simp only [Bool.and_eq_true, decide_eq_true_eq] at h
        obtain ⟨⟨⟨⟨⟨h1, h2⟩, h3⟩, h4⟩, h5⟩, h6⟩ := h
        obtain ⟨n1, n2, n3⟩ := nameOk_of h3
        exact js_store (hNi h1) (C.vis h2) n1 n2 (S.e X _ _ C _ _ h5).1 (S.e X _ _ C _ _ h6).1 (sub_asg h4) sub_sw sub_st rfl
      · rename_i hk
        cases hk
        simp only [Bool.and_eq_true, decide_eq_true_eq] at h
        obtain ⟨⟨⟨⟨⟨⟨rfl, h1⟩, h2⟩, h3⟩, h4⟩, h5⟩, h6⟩ := h
        obtain ⟨n1, n2, n3⟩ := nameOk_of h3
        exact js_app (hNi h1) (C.vis h2) n1 n2 (S.e X _ _ C _ _ h6).1 (plain_of h5) rfl h4 rfl
      · rename_i hk
        cases hk
        simp only [Bool.and_eq_true] at h
        exact js_expr (S.e X _ _ C _ _ h.2).1 (sw_no h.1)
      · rename_i hk
        cases hk
        exact js_ret (S.e X _ _ C _ _ h).1
      · rename_i hk
        cases hk
        exact js_retO (chkX_ok C h)
      · exact js_brk
      · exact js_pass
      · rename_i hk
        cases hk
        simp only [Bool.and_eq_true] at h
        exact js_ife ((S.e X _ _ C _ _ h.1.1.2).2.2.1 _ h.1.1.1) (ihSs _ _ h.1.2) (ihSs _ _ h.2)
      · rename_i hk
        cases hk
        simp only [Bool.and_eq_true] at h
        exact js_for C.xe C.calm (S.i X _ _ C _ _ _ h.1.2) (chkG_ok C h.1.1).1 (ihSs _ _ h.2) (chkI_fold h.1.2)
      · rename_i hk
        cases hk
        simp only [Bool.and_eq_true] at h
        exact js_while C.xe ((S.e X _ _ C _ _ h.1.2).2.2.1 _ h.1.1) (ihSs _ _ h.2)
      · cases h
    · unfold chkSs at h
      split at h
      · cases h
      · exact jss_nil
      · rename_i hk
        cases hk
        simp only [Bool.and_eq_true] at h
        exact jss_cons (ihS _ _ h.1) (ihSs _ _ h.2)
      · cases h
end
end CD

set_option Elab.async false
set_option linter.all false
set_option maxRecDepth 100000
set_option autoImplicit false
/-! All defs of a text keep their promises, at every depth; the end. -/
namespace CD
open PySem PySem.Spec L2
open PyProof.Rows hiding St
/-- a def of the text: its name, its statement, the names of its places, its parameters, its term -/
structure DefT where
  name : Str
  st : Stmt
  N : List Str
  ps : List Str
  F : IFun
def tabOf (ds : List DefT) : List (Str × IFun) := ds.map fun d => (d.name, d.F)
def locB (sc : Scope) (x : Str) : Bool := match sc.names.lookup x with
  | some .local | some .cell => true
  | _ => false
def scB (N ps : List Str) (sc : Scope) : Bool := (sc.kind == .function) && !sc.isCoroutine && !sc.isGenerator && decide N.Nodup && decide (N.take ps.length = ps) && ps.all (locB sc) && sc.names.all (fun y => decide (y.2 ≠ .free))
theorem scB_ok {N ps : List Str} {sc : Scope} (h : scB N ps sc = true) : FnScope N ps sc := by
  unfold scB at h
  simp only [Bool.and_eq_true, decide_eq_true_eq, beq_iff_eq, Bool.not_eq_true', List.all_eq_true] at h
  obtain ⟨⟨⟨⟨⟨⟨h1, h2⟩, h3⟩, h4⟩, h5⟩, h6⟩, h7⟩ := h
  refine ⟨h1, h2, h3, h4, h5, fun x hx => ?_, fun y hy => h7 y hy⟩
  have q := h6 x hx
  unfold locB at q
  split at q
  · rename_i e; exact .inl e
  · rename_i e; exact .inr e
  · cases q
def chkD (G : List (Str × PyData)) (d : DefT) : Bool := scB d.N d.ps (defScope d.st) && (d.ps.length == d.F.np) && (d.N.length == d.F.ns) && decide (d.F.np ≤ d.F.ns) && chkSs d.N G 99 (defScope d.st) (defBody d.st) d.F.body
structure DefOk (G : List (Str × PyData)) (d : DefT) : Prop where
  chk : chkD G d = true
  bind : ∀ (kV doc pm : Value) (an : Option Addr) (cdv ct : Value) (us : List Value), us.length = d.ps.length → bindArgs (PySem.W.fnOf d.name d.name (defArgs d.st) (defBody d.st) (defScope d.st) .none kV doc pm an cdv ct) ⟨us, []⟩ = pure (d.ps.zip us)
/-- it stands in the written part -/
def DefIn (K : PySem.W.Frag) (d : DefT) : Prop := ∃ f fd, PySem.W.nsIn K mainGlobals d.name = some (some (.ref f)) ∧ L2.Fun K d.name d.name d.st f fd
theorem defIn {K : PySem.W.Frag} {d : DefT} {f : Addr} {oc : Value} {od an : Option Addr} {osl : Array (Option Value)} {kV doc pm cdv ct : Value} (a : PySem.W.nsIn K mainGlobals d.name = some (some (.ref f)))
    (l : K.lookup f = some ⟨oc, od, .func (PySem.W.fnOf d.name d.name (defArgs d.st) (defBody d.st) (defScope d.st) .none kV doc pm an cdv ct), osl⟩) (c : PySem.W.codeIn K cdv d.name = true) (k : PySem.W.keepIn K (.ref f) = true) : DefIn K d := ⟨f, _, a, fun_mk l c k⟩
/-- a name of the module that stands for data -/
def GlobIn (K : PySem.W.Frag) (x : Str) (d : PyData) : Prop := ∃ u v, PySem.W.nsIn K mainGlobals x = some (some u) ∧ RelV v u ∧ ∀ H, Rep K H d v
theorem globIn_int {K : PySem.W.Frag} {x : Str} {i : Int} {t : Tok} (a : PySem.W.nsIn K mainGlobals x = some (some (.int i t))) : GlobIn K x (.int i) := ⟨_, .int i, a, ⟨_, rfl⟩, fun _ => rfl⟩
def bltNames : List Str := ["len", "abs", "min", "max", "sum", "all", "any", "tuple", "list", "sorted", "isinstance", "int", "bool", "str", "range", "zip", "enumerate", "set"]
theorem lookup_tab {ds : List DefT} {f : Str} {F : IFun} (h : (tabOf ds).lookup f = some F) : ∃ d ∈ ds, d.name = f ∧ d.F = F := by
  induction ds with
  | nil => cases h
  | cons d ds ih =>
    unfold tabOf at h
    rw [List.map_cons, List.lookup_cons] at h
    split at h
    · rename_i q
      cases h
      exact ⟨d, List.mem_cons_self .., (beq_iff_eq.mp q).symm, rfl⟩
    · obtain ⟨e, h1, h2⟩ := ih h
      exact ⟨e, List.mem_cons_of_mem _ h1, h2⟩
theorem all_levels {P : Program} {w : World} {K : PySem.W.Frag} {mg : Str → Option Value} {base : Heap} (ds : List DefT) (G : List (Str × PyData)) (W : Nat) (ok : ∀ d ∈ ds, DefOk G d)
    (ins : ∀ d ∈ ds, DefIn K d) (mgf : ∀ n v, PySem.W.nsIn K mainGlobals n = some (some v) → mg n = some v) (gin : ∀ x d, G.lookup x = some d → GlobIn K x d) (blt : ∀ x ∈ bltNames, mg x = none) :
    ∀ n d, d ∈ ds → (tabOf ds).lookup d.name = some d.F → ∀ a fd, PySem.W.nsIn K mainGlobals d.name = some (some (.ref a)) → L2.Fun K d.name d.name d.st a fd → FnOk P w K mg base CX0 (n + 1) a fd d.ps (spF K (phi (tabOf ds) W (n + 1) d.name))
  | n, d, hd, h, a, fd, h1, FN => by
    have D := ok d hd
    have hc := D.chk
    unfold chkD at hc
    simp only [Bool.and_eq_true, decide_eq_true_eq, beq_iff_eq] at hc
    obtain ⟨⟨⟨⟨c1, c2⟩, c3⟩, c4⟩, c5⟩ := hc
    have S := scB_ok c1
    have e : phi (tabOf ds) W (n + 1) d.name = runF (phi (tabOf ds) W n) W d.F := by
      funext as
      show (match (tabOf ds).lookup d.name with | some F => runF (phi (tabOf ds) W n) W F as | none => none) = _
      rw [h]
    rw [e]
    refine fun_keeps FN S c2 c3 c4 fun cdv A outer s H E hr => ?_
    refine (sound_s (sc := defScope d.st) (N := d.N) (G := G) (n := n) ?_ 99).2 _ _ c5
    exact {
      calm := rfl
      nn := rfl
      nd := S.nd
      sc_ := rfl
      xe := rfl
      room := hr
      fn := fun _ _ => rfl
      kind := S.kind
      glob := fun x dd hx => by
        obtain ⟨u, v, q1, q2, q3⟩ := gin x dd hx
        exact ⟨u, v, mgf _ _ q1, q2, q3⟩
      blt := fun x hx => blt x hx
      funs := fun g p r q => by
        cases n with
        | zero => cases q
        | succ n =>
          have : ∃ F, (tabOf ds).lookup g = some F := by
            revert q
            show (match (tabOf ds).lookup g with | some F => runF (phi (tabOf ds) W n) W F p | none => none) = some r → _
            cases (tabOf ds).lookup g with
            | none => exact fun q => by cases q
            | some F => exact fun _ => ⟨F, rfl⟩
          obtain ⟨F, hF⟩ := this
          obtain ⟨d2, hd2, rfl, rfl⟩ := lookup_tab hF
          obtain ⟨a2, fd2, w1, w2⟩ := ins d2 hd2
          exact ⟨a2, fd2, d2.ps, all_levels ds G W ok ins mgf gin blt n d2 hd2 hF a2 fd2 w1 w2, mgf _ _ w1, w2.kp, w2.binds (ok d2 hd2).bind⟩ }
/-- the law's promise: on the script the term answers True -/
def spEnd (K : PySem.W.Frag) (φ : List Slot → Option Res) : Sp := spF K φ
theorem end_ok {K : PySem.W.Frag} {φ : List Slot → Option Res} {H : Hp} {a : Addr} {ns : List Int} {o : List Slot} (h : φ [.scr ns] = some ⟨.bool true, false, o⟩) (hO : Only H) (hS : SqL K H a (ns.map V.int)) :
    spF K φ [.ref a] H (fun v _ => v = .bl true) fun _ _ _ => False := by
  refine ⟨fun _ => none, [.scr ns], _, fun b o z => (by cases z), ⟨rfl, ?_, ?_⟩, h, fun v H' Hf' q => ?_⟩
  · intro i s v h1 h2
    match i, h1, h2 with
    | 0, h1, h2 =>
      cases h1
      cases h2
      refine ⟨a, H, rfl, Same.refl _, fun b o q => ⟨rfl, fun i d z => ?_⟩, ?_⟩
      · match i, z with
        | 0, z => cases z
        | _ + 1, z => cases z
      · rcases hS with h | h
        · rcases h with h | ⟨o, h⟩
          · rcases hO a with z | ⟨o, xs, z⟩
            · rw [z] at h; cases h
            · rw [z] at h; cases h
          · exact .inl ⟨o, h⟩
        · exact .inr (.inr h)
    | _ + 1, h1, h2 => cases h1
  · intro i j d e a' h1
    match i, h1 with
    | 0, h1 => cases h1
    | _ + 1, h1 => cases h1
  · have := q.res
    exact this
/-- THE END: from what stands in the written part to the law -/
theorem walk {l : PySem.W.OpenLaw} {q : Program} {loose : List Str} {XP : (Str → Option Value) → Heap → Prop} {YP : World → Heap → Prop} {d : DefRec} {K : Params → PySem.W.Frag} {x : Str} (ds : List DefT) (G : List (Str × PyData)) (W k : Nat)
    (hn : l.most = some 63) (hdf : d.params.defaults = []) (hr : Room (k + 1) callerA) (hY : ∀ (w : World) (h : Heap), YP w h → (K w.params).In h) (ok : ∀ e ∈ ds, DefOk G e)
    (D : DefT) (hD : D ∈ ds) (e1 : D.name = d.name) (e2 : D.ps = [x]) (e3 : (tabOf ds).lookup D.name = some D.F)
    (hlaw : ∀ ns : List Int, ns.length ≤ 63 → ∃ o, phi (tabOf ds) W (k + 1) d.name [.scr ns] = some ⟨.bool true, false, o⟩)
    (fn : ∀ (kV doc pm : Value) (an : Option Addr) (cdv ct : Value) (s : Shared) (u : Value), BindsTo s (PySem.W.fnOf D.name D.name (defArgs D.st) (defBody D.st) (defScope D.st) .none kV doc pm an cdv ct) ⟨[u], []⟩ [(x, u)])
    (F : ∀ w : World, (∀ e ∈ ds, DefIn (K w.params) e) ∧ (∀ y e, G.lookup y = some e → GlobIn (K w.params) y e) ∧ ∀ y ∈ bltNames, PySem.W.nsIn (K w.params) mainGlobals y = some none) :
    PySem.W.WalkO q loose XP YP l.row.toRowW d [] (fun f vs => PySem.call f vs) := by
  refine L2.walk_of (n := 63) (k := k + 1) (x := x) (CX := fun _ => CX0) (sp := fun w => spF (K w.params) (phi (tabOf ds) W (k + 1) d.name)) hn (by decide) hdf hr hY (fun w mg fa h KX Gs hmg => ?_) (fun w H a ns hl hO hS => ?_) fun _ _ _ _ _ z => z
  · obtain ⟨f1, f2, f3⟩ := F w
    obtain ⟨a, fd, h1, FN⟩ := f1 D hD
    have ea : a = fa := by
      have q := PySem.W.mg_of KX Gs h1
      rw [e1, hmg] at q
      cases q
      rfl
    subst ea
    obtain ⟨oc, od, kV, doc, pm, an, cdv, ct, osl, hfd, lk, hcd⟩ := FN.ex
    refine ⟨fd, fun s u => ?_, fun base KB GB => ?_⟩
    · rw [hfd]
      exact fn kV doc pm an cdv ct s u
    · have q := all_levels (P := l.prog) (w := w) (base := base) ds G W ok f1 (fun n v e => PySem.W.mg_of KB GB e) f2 (fun y hy => PySem.W.mg_none_of KB GB (f3 y hy)) k D hD e3 a fd h1 FN
      rw [e1, e2] at q
      exact q
  · obtain ⟨o, ho⟩ := hlaw ns hl
    exact end_ok ho hO hS
theorem allNil {α : Type} {p : α → Prop} : ∀ e ∈ ([] : List α), p e := fun e h => by cases h
theorem allCons {α : Type} {p : α → Prop} {a : α} {l : List α} (h : p a) (t : ∀ e ∈ l, p e) : ∀ e ∈ a :: l, p e := List.forall_mem_cons.mpr ⟨h, t⟩
theorem globNil {K : PySem.W.Frag} : ∀ y e, ([] : List (Str × PyData)).lookup y = some e → GlobIn K y e := fun y e h => by cases h
theorem globCons {K : PySem.W.Frag} {x : Str} {d : PyData} {G : List (Str × PyData)} (h : GlobIn K x d) (t : ∀ y e, G.lookup y = some e → GlobIn K y e) : ∀ y e, ((x, d) :: G).lookup y = some e → GlobIn K y e := fun y e q => by
  rw [List.lookup_cons] at q
  split at q
  · rename_i z
    cases q
    rw [beq_iff_eq.mp z]
    exact h
  · exact t y e q
theorem globIn_of {K : PySem.W.Frag} {x : Str} {d : PyData} {u : Value} {v : V} (a : PySem.W.nsIn K mainGlobals x = some (some u)) (r : RelV v u) (p : ∀ H, Rep K H d v) : GlobIn K x d := ⟨u, v, a, r, p⟩
theorem globIn_tup {K : PySem.W.Frag} {x : Str} {ds : List PyData} {b : Addr} {o : Obj} {its : Array Value} {n : Nat} (a : PySem.W.nsIn K mainGlobals x = some (some (.ref b))) (l : K.lookup b = some o) (c : o.cls = .type "tuple") (e : o.data = .seq its n) (vs : List V)
    (z : its.size ≤ sizeLine) (r : Vals vs its.toList) (p : ∀ H, Reps K H ds vs) : GlobIn K x (.tuple ds) := ⟨_, .ref b, a, rfl, fun H => ⟨b, vs, rfl, .inr ⟨o, its, n, l, c, e, z, r⟩, p H⟩⟩
theorem defInX {K : PySem.W.Frag} {x : Str} {st : Stmt} {N ps : List Str} {F : IFun} {f : Addr} {oc : Value} {od an : Option Addr} {osl : Array (Option Value)} {kV doc pm cdv ct : Value} (a : PySem.W.nsIn K mainGlobals x = some (some (.ref f)))
    (l : K.lookup f = some ⟨oc, od, .func (PySem.W.fnOf x x (defArgs st) (defBody st) (defScope st) .none kV doc pm an cdv ct), osl⟩) (c : PySem.W.codeIn K cdv x = true) (k : PySem.W.keepIn K (.ref f) = true) : DefIn K ⟨x, st, N, ps, F⟩ := ⟨f, _, a, fun_mk l c k⟩
end CD

set_option Elab.async false
set_option linter.all false
set_option maxRecDepth 100000
set_option autoImplicit false
/-! Words about the terms: what steps of the evaluator give. -/
namespace CD
open PySem PySem.Spec L2
open PyProof.Rows hiding St
def frB : Slot → Bool
  | .no | .val _ => true
  | _ => false
def frO : Option Slot → Bool
  | some s => frB s
  | none => false
def fwB : Slot → Bool
  | .no | .val _ | .own _ => true
  | _ => false
def fwO : Option Slot → Bool
  | some s => fwB s
  | none => false
theorem frO_some (s : Slot) : frO (some s) = frB s := rfl
theorem frB_no : frB .no = true := rfl
theorem frB_val (d : PyData) : frB (.val d) = true := rfl
theorem fwO_some (s : Slot) : fwO (some s) = fwB s := rfl
theorem fwB_no : fwB .no = true := rfl
theorem fwB_val (d : PyData) : fwB (.val d) = true := rfl
theorem fwB_own (d : PyData) : fwB (.own d) = true := rfl
theorem setV_eq (i : Nat) (d : PyData) (ρ : Rho) : setV i d ρ = if fwO ρ[i]? = true then some (ρ.set i (.val d)) else none := by
  unfold setV
  cases h : ρ[i]? with
  | none => rfl
  | some s => cases s <;> rfl
theorem setO_eq (i : Nat) (d : PyData) (ρ : Rho) : setO i d ρ = if fwO ρ[i]? = true then some (ρ.set i (.own d)) else none := by
  unfold setO
  cases h : ρ[i]? with
  | none => rfl
  | some s => cases s <;> rfl
theorem wipeR_eq (i : Nat) (is : List Nat) (ρ : Rho) : wipeR (i :: is) ρ = if frO ρ[i]? = true then (wipeR is ρ).map fun r => r.set i .no else none := by
  show (match ρ[i]? with | some .no | some (.val _) => (wipeR is ρ).map fun (r : Rho) => r.set i .no | _ => none) = _
  cases h : ρ[i]? with
  | none => rfl
  | some s => cases s <;> rfl
theorem loopM_pure {f : PyData → Rho → Option (Option PyData × Rho)} {ρ : Rho} (g : PyData → Option PyData) : ∀ {ds : List PyData}, (∀ d ∈ ds, f d ρ = some (g d, ρ)) → loopM f ds ρ = some (ds.flatMap fun d => (g d).toList, ρ)
  | [], _ => rfl
  | d :: ds, h => by
    unfold loopM
    rw [h d (List.mem_cons_self ..)]
    dsimp only
    rw [loopM_pure g fun x hx => h x (List.mem_cons_of_mem _ hx)]
    rfl
/-- a loop that draws: what stands around keeps its kind, each item is of the kind P -/
theorem loopM_inv {f : PyData → Rho → Option (Option PyData × Rho)} (I : Rho → Prop) (P : PyData → PyData → Prop) : ∀ {ds : List PyData} {ρ : Rho}, I ρ → (∀ d ∈ ds, ∀ ρ, I ρ → ∃ o ρ', f d ρ = some (o, ρ') ∧ I ρ' ∧ ∀ x ∈ o.toList, P d x) →
    ∃ rs ρ', loopM f ds ρ = some (rs, ρ') ∧ I ρ' ∧ ∃ ps : List (PyData × PyData), rs = ps.map (·.2) ∧ (ps.map (·.1)).Sublist ds ∧ ∀ p ∈ ps, P p.1 p.2
  | [], ρ, h, _ => ⟨[], ρ, rfl, h, [], rfl, List.Sublist.refl _, fun p hp => by cases hp⟩
  | d :: ds, ρ, h, k => by
    obtain ⟨o, ρ1, h1, h2, h3⟩ := k d (List.mem_cons_self ..) ρ h
    obtain ⟨rs, ρ2, h4, h5, ps, h6, h7, h8⟩ := loopM_inv I P h2 fun x hx => k x (List.mem_cons_of_mem _ hx)
    refine ⟨o.toList ++ rs, ρ2, ?_, h5, ?_⟩
    · unfold loopM
      rw [h1]
      dsimp only
      rw [h4]
    · cases o with
      | none => exact ⟨ps, h6, h7.cons _, h8⟩
      | some x =>
        refine ⟨(d, x) :: ps, by rw [h6]; rfl, h7.cons_cons d, fun p hp => ?_⟩
        rcases List.mem_cons.mp hp with rfl | hp
        · exact h3 x (by simp)
        · exact h8 p hp
/-- the same where nothing is left out -/
theorem loopM_all {f : PyData → Rho → Option (Option PyData × Rho)} (I : Rho → Prop) (P : PyData → PyData → Prop) : ∀ {ds : List PyData} {ρ : Rho}, I ρ → (∀ d ∈ ds, ∀ ρ, I ρ → ∃ x ρ', f d ρ = some (some x, ρ') ∧ I ρ' ∧ P d x) →
    ∃ rs ρ', loopM f ds ρ = some (rs, ρ') ∧ I ρ' ∧ rs.length = ds.length ∧ ∀ x ∈ rs, ∃ d ∈ ds, P d x
  | [], ρ, h, _ => ⟨[], ρ, rfl, h, rfl, fun p hp => by cases hp⟩
  | d :: ds, ρ, h, k => by
    obtain ⟨x, ρ1, h1, h2, h3⟩ := k d (List.mem_cons_self ..) ρ h
    obtain ⟨rs, ρ2, h4, h5, h6, h7⟩ := loopM_all I P h2 fun x hx => k x (List.mem_cons_of_mem _ hx)
    refine ⟨x :: rs, ρ2, ?_, h5, by rw [List.length_cons, List.length_cons, h6], fun y hy => ?_⟩
    · unfold loopM
      rw [h1]
      dsimp only
      rw [h4]
      rfl
    · rcases List.mem_cons.mp hy with rfl | hy
      · exact ⟨d, List.mem_cons_self .., h3⟩
      · obtain ⟨e, he, q⟩ := h7 y hy
        exact ⟨e, List.mem_cons_of_mem _ he, q⟩
theorem loopM_inv' {f : PyData → Rho → Option (Option PyData × Rho)} {ds : List PyData} {ρ : Rho} {o : Option (List PyData × Rho)} (e : loopM f ds ρ = o) (I : Rho → Prop) (P : PyData → PyData → Prop) (h0 : I ρ) (h : ∀ d ∈ ds, ∀ ρ, I ρ → ∃ o ρ', f d ρ = some (o, ρ') ∧ I ρ' ∧ ∀ x ∈ o.toList, P d x) :
    ∃ rs ρ', o = some (rs, ρ') ∧ I ρ' ∧ ∃ ps : List (PyData × PyData), rs = ps.map (·.2) ∧ (ps.map (·.1)).Sublist ds ∧ ∀ p ∈ ps, P p.1 p.2 := by
  subst e
  exact loopM_inv I P h0 h
theorem loopM_all' {f : PyData → Rho → Option (Option PyData × Rho)} {ds : List PyData} {ρ : Rho} {o : Option (List PyData × Rho)} (e : loopM f ds ρ = o) (I : Rho → Prop) (P : PyData → PyData → Prop) (h0 : I ρ) (h : ∀ d ∈ ds, ∀ ρ, I ρ → ∃ x ρ', f d ρ = some (some x, ρ') ∧ I ρ' ∧ P d x) :
    ∃ rs ρ', o = some (rs, ρ') ∧ I ρ' ∧ rs.length = ds.length ∧ ∀ x ∈ rs, ∃ d ∈ ds, P d x := by
  subst e
  exact loopM_all I P h0 h
/-- a loop of statements that never leaves: the state by the turn -/
theorem forL_inv {f : PyData → Rho → Option Out} (I : Nat → Rho → Prop) {ds : List PyData} {ρ : Rho} (h0 : I 0 ρ) (h : ∀ (i : Nat) (d : PyData) (ρ : Rho), ds[i]? = some d → I i ρ → ∃ ρ', f d ρ = some (.nx ρ') ∧ I (i + 1) ρ') : ∃ ρ', forL f ds ρ = some (.nx ρ') ∧ I ds.length ρ' := by
  have : ∀ (r : List PyData) (k : Nat) (ρ : Rho), (∀ j, r[j]? = ds[k + j]?) → k + r.length = ds.length → I k ρ → ∃ ρ', forL f r ρ = some (.nx ρ') ∧ I ds.length ρ' := fun r => by
    induction r with
    | nil => exact fun k ρ _ e hI => ⟨ρ, rfl, by rw [← e]; exact hI⟩
    | cons d r ih =>
      intro k ρ hr e hI
      obtain ⟨ρ1, h1, h2⟩ := h k d ρ (by have := hr 0; simpa using this.symm) hI
      obtain ⟨ρ2, h3, h4⟩ := ih (k + 1) ρ1 (fun j => by have := hr (j + 1); rw [List.getElem?_cons_succ] at this; rw [this]; congr 1; omega) (by rw [← e, List.length_cons]; omega) h2
      refine ⟨ρ2, ?_, h4⟩
      unfold forL
      rw [h1]
      exact h3
  exact this ds 0 ρ (fun j => by rw [Nat.zero_add]) (by rw [Nat.zero_add]) h0
theorem forL_inv' {f : PyData → Rho → Option Out} {ds : List PyData} {ρ : Rho} {o : Option Out} (e : forL f ds ρ = o) (I : Nat → Rho → Prop) (h0 : I 0 ρ) (h : ∀ (i : Nat) (d : PyData) (ρ : Rho), ds[i]? = some d → I i ρ → ∃ ρ', f d ρ = some (.nx ρ') ∧ I (i + 1) ρ') : ∃ ρ', o = some (.nx ρ') ∧ I ds.length ρ' := by
  subst e
  exact forL_inv I h0 h
/-- a loop that may leave with an answer -/
theorem forL_leave {f : PyData → Rho → Option Out} (I : Rho → Prop) (Q : Out → Prop) : ∀ {ds : List PyData} {ρ : Rho}, I ρ → (∀ d ∈ ds, ∀ ρ, I ρ → ∃ o, f d ρ = some o ∧ ((∃ ρ', o = .nx ρ' ∧ I ρ') ∨ ((∃ d f ρ', o = .rt d f ρ') ∧ Q o))) → (∀ ρ, I ρ → Q (.nx ρ)) → ∃ o, forL f ds ρ = some o ∧ Q o
  | [], ρ, h, _, q => ⟨_, rfl, q ρ h⟩
  | d :: ds, ρ, h, k, q => by
    obtain ⟨o, h1, h2⟩ := k d (List.mem_cons_self ..) ρ h
    rcases h2 with ⟨ρ', rfl, h2⟩ | ⟨⟨x, b, ρ', rfl⟩, h2⟩
    · obtain ⟨o, h3, h4⟩ := forL_leave I Q h2 (fun x hx => k x (List.mem_cons_of_mem _ hx)) q
      exact ⟨o, by unfold forL; rw [h1]; exact h3, h4⟩
    · exact ⟨_, by unfold forL; rw [h1], h2⟩
theorem item0 {x : PyData} {r : List PyData} : L2.atI (x :: r) 0 = some x := by simp [L2.atI, ixN]
theorem item_at {xs : List PyData} {i : Int} {x : PyData} (h : xs[i.toNat]? = some x) (h0 : 0 ≤ i) : L2.atI xs i = some x := by
  have := (List.getElem?_eq_some_iff.mp h).1
  unfold L2.atI ixN
  rw [if_pos h0, if_pos (by omega)]
  exact h
theorem item_neg {xs : List PyData} {x : PyData} (h : xs.getLast? = some x) : L2.atI xs (-1) = some x := by
  have hne : xs ≠ [] := fun e => by rw [e] at h; cases h
  have hl : 0 < xs.length := List.length_pos_iff.mpr hne
  unfold L2.atI ixN
  rw [if_neg (by decide), if_pos (by omega)]
  show xs[(-1 + (xs.length : Int)).toNat]? = some x
  rw [List.getLast?_eq_getElem?] at h
  rw [← h]
  congr 1
  omega
theorem intsOf_map (l : List Int) : intsOf (l.map .int) = some l := by
  induction l with
  | nil => rfl
  | cons a l ih => show (intsOf (l.map .int)).map (a :: ·) = _; rw [ih]; rfl
theorem intsOf_1 {a : Int} : intsOf [.int a] = some [a] := rfl
theorem intsOf_2 {a b : Int} : intsOf [.int a, .int b] = some [a, b] := rfl
theorem boolsOf_map (l : List Bool) : boolsOf (l.map .bool) = some l := by
  induction l with
  | nil => rfl
  | cons a l ih => show (boolsOf (l.map .bool)).map (a :: ·) = _; rw [ih]; rfl
theorem p_add {i j : Int} : prD .add [.int i, .int j] = some (.int (i + j)) := rfl
theorem p_addT {xs ys : List PyData} : prD .add [.tuple xs, .tuple ys] = if xs.length + ys.length ≤ 16777216 then some (.tuple (xs ++ ys)) else none := rfl
theorem p_addL {xs ys : List PyData} : prD .add [.list xs, .list ys] = if xs.length + ys.length ≤ 16777216 then some (.list (xs ++ ys)) else none := rfl
theorem p_sub {i j : Int} : prD .sub [.int i, .int j] = some (.int (i - j)) := rfl
theorem p_mul {i j : Int} : prD .mul [.int i, .int j] = if i.natAbs.log2 + j.natAbs.log2 < 1000000 then some (.int (i * j)) else none := rfl
theorem p_fdiv {i j : Int} : prD .fdiv [.int i, .int j] = if 0 < j ∧ j.natAbs.log2 < 9000 then some (.int (i / j)) else none := rfl
theorem p_mod {i j : Int} : prD .mod [.int i, .int j] = if 0 < j then some (.int (i % j)) else none := rfl
theorem p_pow {i j : Int} : prD .pow [.int i, .int j] = if 0 ≤ j ∧ j ≤ 1000 ∧ i.natAbs < 2 ^ 64 then some (.int (i ^ j.toNat)) else none := rfl
theorem p_neg {i : Int} : prD .neg [.int i] = some (.int (-i)) := rfl
theorem p_Lt {a b : Int} : prD (.cmp .Lt) [.int a, .int b] = some (.bool (decide (a < b))) := rfl
theorem c_Lt {a b : Int} : cmpD .Lt (.int a) (.int b) = some (decide (a < b)) := rfl
theorem p_LtE {a b : Int} : prD (.cmp .LtE) [.int a, .int b] = some (.bool (decide (a ≤ b))) := rfl
theorem c_LtE {a b : Int} : cmpD .LtE (.int a) (.int b) = some (decide (a ≤ b)) := rfl
theorem p_Gt {a b : Int} : prD (.cmp .Gt) [.int a, .int b] = some (.bool (decide (b < a))) := rfl
theorem c_Gt {a b : Int} : cmpD .Gt (.int a) (.int b) = some (decide (b < a)) := rfl
theorem p_GtE {a b : Int} : prD (.cmp .GtE) [.int a, .int b] = some (.bool (decide (b ≤ a))) := rfl
theorem c_GtE {a b : Int} : cmpD .GtE (.int a) (.int b) = some (decide (b ≤ a)) := rfl
theorem p_isN {n : Bool} {a : PyData} : prD (.isN n) [a] = some (.bool (n != isND a)) := rfl
theorem p_isB {b n c : Bool} : prD (.isB b n) [.bool c] = some (.bool (n != (c == b))) := rfl
theorem p_itemL {xs : List PyData} {i : Int} : prD .item [.list xs, .int i] = L2.atI xs i := rfl
theorem p_itemT {xs : List PyData} {i : Int} : prD .item [.tuple xs, .int i] = L2.atI xs i := rfl
theorem p_sl11L {xs : List PyData} {i j : Int} : prD (.slice true true) [.list xs, .int i, .int j] = some (.list (cutD xs (some i) (some j))) := rfl
theorem p_sl10L {xs : List PyData} {i : Int} : prD (.slice true false) [.list xs, .int i] = some (.list (cutD xs (some i) none)) := rfl
theorem p_sl01L {xs : List PyData} {j : Int} : prD (.slice false true) [.list xs, .int j] = some (.list (cutD xs none (some j))) := rfl
theorem p_lenL {xs : List PyData} : prD (.bi .len) [.list xs] = some (.int xs.length) := rfl
theorem p_sumL {xs : List PyData} : prD (.bi .sum) [.list xs] = (intsOf xs).map fun xs => .int xs.sum := rfl
theorem p_tupleL {xs : List PyData} : prD (.bi .tuple) [.list xs] = some (.tuple xs) := rfl
theorem p_listL {xs : List PyData} : prD (.bi .list) [.list xs] = some (.list xs) := rfl
theorem p_sl11T {xs : List PyData} {i j : Int} : prD (.slice true true) [.tuple xs, .int i, .int j] = some (.tuple (cutD xs (some i) (some j))) := rfl
theorem p_sl10T {xs : List PyData} {i : Int} : prD (.slice true false) [.tuple xs, .int i] = some (.tuple (cutD xs (some i) none)) := rfl
theorem p_sl01T {xs : List PyData} {j : Int} : prD (.slice false true) [.tuple xs, .int j] = some (.tuple (cutD xs none (some j))) := rfl
theorem p_lenT {xs : List PyData} : prD (.bi .len) [.tuple xs] = some (.int xs.length) := rfl
theorem p_sumT {xs : List PyData} : prD (.bi .sum) [.tuple xs] = (intsOf xs).map fun xs => .int xs.sum := rfl
theorem p_tupleT {xs : List PyData} : prD (.bi .tuple) [.tuple xs] = some (.tuple xs) := rfl
theorem p_listT {xs : List PyData} : prD (.bi .list) [.tuple xs] = some (.list xs) := rfl
def absI (i : Int) : Int := if i < 0 then -i else i
theorem p_abs {i : Int} : prD (.bi .abs) [.int i] = some (.int (absI i)) := rfl
theorem p_min2 {i j : Int} : prD (.bi .min) [.int i, .int j] = some (.int (if j < i then j else i)) := rfl
theorem p_max2 {i j : Int} : prD (.bi .max) [.int i, .int j] = some (.int (if j > i then j else i)) := rfl
theorem p_min {xs : List PyData} : prD (.bi .min) [.list xs] = (intsOf xs).bind fun xs => (leastI xs).map .int := rfl
theorem p_max {xs : List PyData} : prD (.bi .max) [.list xs] = (intsOf xs).bind fun xs => (mostI xs).map .int := rfl
theorem p_all {xs : List PyData} : prD (.bi .all) [.list xs] = (boolsOf xs).map fun xs => .bool (xs.all id) := rfl
theorem p_any {xs : List PyData} : prD (.bi .any) [.list xs] = (boolsOf xs).map fun xs => .bool (xs.any id) := rfl
theorem p_isi {y : Ty} {d : PyData} : prD (.isi y) [d] = some (.bool (isiD y d)) := rfl
theorem p_eq {a b : PyData} : prD (.cmp .Eq) [a, b] = if (lay 9 a && lay 9 b) = true then some (.bool (PyData.eqv a b)) else none := by
  show (if (lay 9 a && lay 9 b) = true then some (PyData.eqv a b) else none).map PyData.bool = _
  split <;> rfl
theorem p_ne {a b : PyData} : prD (.cmp .NotEq) [a, b] = if (lay 9 a && lay 9 b) = true then some (.bool (!PyData.eqv a b)) else none := by
  show (if (lay 9 a && lay 9 b) = true then some (!PyData.eqv a b) else none).map PyData.bool = _
  split <;> rfl
theorem eqv_int (a b : Int) : PyData.eqv (.int a) (.int b) = decide (a = b) := by
  unfold PyData.eqv
  first | rfl | (by_cases h : a = b <;> simp [h])
theorem p_eqI {a b : Int} : prD (.cmp .Eq) [.int a, .int b] = some (.bool (decide (a = b))) := by rw [p_eq, if_pos (by rfl), eqv_int]
theorem p_neI {a b : Int} : prD (.cmp .NotEq) [.int a, .int b] = some (.bool (!decide (a = b))) := by rw [p_ne, if_pos (by rfl), eqv_int]
theorem p_inT {a : PyData} {xs : List PyData} : prD (.cmp .In) [a, .tuple xs] = if (flat a && xs.all flat) = true then some (.bool (xs.any fun x => PyData.eqv x a)) else none := by
  show (if (flat a && xs.all flat) = true then some (xs.any fun x => PyData.eqv x a) else none).map PyData.bool = _
  split <;> rfl
theorem p_inL {a : PyData} {xs : List PyData} : prD (.cmp .In) [a, .list xs] = if (lay 9 a && xs.all (lay 9)) = true then some (.bool (xs.any fun x => PyData.eqv x a)) else none := by
  show (if (lay 9 a && xs.all (lay 9)) = true then some (xs.any fun x => PyData.eqv x a) else none).map PyData.bool = _
  split <;> rfl
theorem p_niT {a : PyData} {xs : List PyData} : prD (.cmp .NotIn) [a, .tuple xs] = if (flat a && xs.all flat) = true then some (.bool (!xs.any fun x => PyData.eqv x a)) else none := by
  show (if (flat a && xs.all flat) = true then some (!xs.any fun x => PyData.eqv x a) else none).map PyData.bool = _
  split <;> rfl
theorem p_niL {a : PyData} {xs : List PyData} : prD (.cmp .NotIn) [a, .list xs] = if (lay 9 a && xs.all (lay 9)) = true then some (.bool (!xs.any fun x => PyData.eqv x a)) else none := by
  show (if (lay 9 a && xs.all (lay 9)) = true then some (!xs.any fun x => PyData.eqv x a) else none).map PyData.bool = _
  split <;> rfl
theorem b_tf {c : Bool} : prD (.isB true false) [.bool c] = some (.bool c) := by cases c <;> rfl
theorem b_tt {c : Bool} : prD (.isB true true) [.bool c] = some (.bool (!c)) := by cases c <;> rfl
theorem b_ff {c : Bool} : prD (.isB false false) [.bool c] = some (.bool (!c)) := by cases c <;> rfl
theorem b_ft {c : Bool} : prD (.isB false true) [.bool c] = some (.bool c) := by cases c <;> rfl
theorem n_f {a : PyData} : prD (.isN false) [a] = some (.bool (isND a)) := by cases a <;> rfl
theorem n_t {a : PyData} : prD (.isN true) [a] = some (.bool (!isND a)) := by cases a <;> rfl
theorem st_20 {x y e : PyData} : storeD (.list [x, y]) (.int 0) e = some (.list [e, y]) := rfl
theorem st_21 {x y e : PyData} : storeD (.list [x, y]) (.int 1) e = some (.list [x, e]) := rfl
theorem it_21 {x y : PyData} {r : List PyData} : L2.atI (x :: y :: r) 1 = some y := item_at rfl (by decide)
theorem sub_map_int {l : List PyData} {xs : List Int} (h : l.Sublist (xs.map .int)) : ∃ ys : List Int, l = ys.map .int ∧ ys.Sublist xs := by
  obtain ⟨ys, h1, h2⟩ := List.sublist_map_iff.mp h
  exact ⟨ys, h2, h1⟩
theorem rangeD_eq (lo hi : Int) : rangeD lo hi = ((List.range (hi - lo).toNat).map fun (k : Nat) => lo + (k : Int)).map .int := by
  unfold rangeD
  rw [List.map_map]
  rfl
theorem range_pair (lo : Int) (n : Nat) : ((List.range n).map fun (k : Nat) => lo + (k : Int)).Pairwise (· < ·) := by
  rw [List.pairwise_map]
  exact List.Pairwise.imp (fun h => by omega) List.pairwise_lt_range
theorem range_mem {lo x : Int} {n : Nat} (h : x ∈ (List.range n).map fun (k : Nat) => lo + (k : Int)) : lo ≤ x ∧ x < lo + n := by
  obtain ⟨k, hk, rfl⟩ := List.mem_map.mp h
  have := List.mem_range.mp hk
  omega
theorem cutD_take {xs : List PyData} {j : Nat} : cutD xs none (some (j : Int)) = xs.take j := by
  unfold cutD
  rw [HT.sIx_none, HT.sIx_nat, List.drop_zero, Nat.sub_zero]
  by_cases h : j ≤ xs.length
  · rw [Nat.min_eq_left h]
  · rw [Nat.min_eq_right (by omega), List.take_length, List.take_of_length_le (by omega)]
theorem cutD_drop {xs : List PyData} {i : Nat} : cutD xs (some (i : Int)) none = xs.drop i := by
  unfold cutD
  rw [HT.sIx_none, HT.sIx_nat]
  by_cases h : i ≤ xs.length
  · rw [Nat.min_eq_left h]
    exact List.take_of_length_le (by rw [List.length_drop]; exact Nat.le_refl _)
  · rw [Nat.min_eq_right (by omega), List.drop_of_length_le (Nat.le_refl _), List.drop_of_length_le (by omega), List.take_nil]
theorem cutD_mid {xs : List PyData} {i j : Nat} (h : i ≤ j) (hj : j ≤ xs.length) : cutD xs (some (i : Int)) (some (j : Int)) = (xs.drop i).take (j - i) := by
  unfold cutD
  rw [HT.sIx_nat, HT.sIx_nat, Nat.min_eq_left hj, Nat.min_eq_left (by omega)]
theorem it_2 {x y z : PyData} {r : List PyData} : L2.atI (x :: y :: z :: r) 2 = some z := item_at rfl (by decide)
theorem it_3 {x y z u : PyData} {r : List PyData} : L2.atI (x :: y :: z :: u :: r) 3 = some u := item_at rfl (by decide)
theorem it_4 {x y z u v : PyData} {r : List PyData} : L2.atI (x :: y :: z :: u :: v :: r) 4 = some v := item_at rfl (by decide)
theorem log2_le {n : Int} (k : Nat) (h : n.natAbs < 2 ^ k) (hk : 0 < k) : n.natAbs.log2 < k := by
  by_cases e : n.natAbs = 0
  · rw [e]; exact hk
  · exact (Nat.log2_lt e).mpr h
theorem log2_c {n : Int} (h : -18446744073709551616 < n) (h2 : n < 18446744073709551616) : n.natAbs.log2 < 64 := log2_le 64 (by omega) (by decide)
theorem log2_b {n : Int} (h : -4294967296 < n) (h2 : n < 4294967296) : n.natAbs.log2 < 32 := log2_le 32 (by omega) (by decide)
theorem mulOk {i j : Int} (h1 : i.natAbs.log2 < 400000) (h2 : j.natAbs.log2 < 400000) : prD .mul [.int i, .int j] = some (.int (i * j)) := by rw [p_mul, if_pos (by omega)]
theorem fdivOk {i j : Int} (h1 : 0 < j) (h2 : j < 4294967296) : prD .fdiv [.int i, .int j] = some (.int (i / j)) := by
  have := log2_b (n := j) (by omega) h2
  rw [p_fdiv, if_pos ⟨h1, by omega⟩]
theorem modOk {i j : Int} (h1 : 0 < j) : prD .mod [.int i, .int j] = some (.int (i % j)) := by rw [p_mod, if_pos h1]
end CD

set_option Elab.async false
set_option linter.all false
set_option maxRecDepth 100000
set_option autoImplicit false
/-! What the texts are about, in plain Lean. -/
namespace CD
open PySem PySem.Spec L2
open PyProof.Rows hiding St
/-! ### loops over encoded lists -/
section
variable {α β : Type}
theorem loopM_enc {f : PyData → Rho → Option (Option PyData × Rho)} (enc : α → PyData) {l : List α} {ρ : Rho} {o : Option (List PyData × Rho)} (e : loopM f (l.map enc) ρ = o) (g : α → PyData) (h : ∀ a ∈ l, f (enc a) ρ = some (some (g a), ρ)) : o = some (l.map g, ρ) := by
  subst e
  induction l with
  | nil => rfl
  | cons a l ih =>
    rw [List.map_cons]
    unfold loopM
    rw [h a (List.mem_cons_self ..)]
    dsimp only
    rw [ih fun x hx => h x (List.mem_cons_of_mem _ hx)]
    rfl
theorem loopM_filter {f : PyData → Rho → Option (Option PyData × Rho)} (enc : α → PyData) {l : List α} {ρ : Rho} {o : Option (List PyData × Rho)} (e : loopM f (l.map enc) ρ = o) (p : α → Bool) (g : α → PyData) (h : ∀ a ∈ l, f (enc a) ρ = some (if p a = true then some (g a) else none, ρ)) : o = some ((l.filter p).map g, ρ) := by
  subst e
  induction l with
  | nil => rfl
  | cons a l ih =>
    rw [List.map_cons]
    unfold loopM
    rw [h a (List.mem_cons_self ..)]
    dsimp only
    rw [ih fun x hx => h x (List.mem_cons_of_mem _ hx)]
    cases hp : p a <;> simp [hp]
theorem forL_fold {f : PyData → Rho → Option Out} (enc : α → PyData) (I : β → Rho → Prop) (g : β → α → β) {l : List α} {ρ : Rho} {b : β} {o : Option Out} (e : forL f (l.map enc) ρ = o) (h0 : I b ρ) (h : ∀ b, ∀ a ∈ l, ∀ ρ, I b ρ → ∃ ρ', f (enc a) ρ = some (.nx ρ') ∧ I (g b a) ρ') : ∃ ρ', o = some (.nx ρ') ∧ I (l.foldl g b) ρ' := by
  subst e
  induction l generalizing ρ b with
  | nil => exact ⟨ρ, rfl, h0⟩
  | cons a l ih =>
    obtain ⟨ρ1, h1, h2⟩ := h b a (List.mem_cons_self ..) ρ h0
    obtain ⟨ρ2, h3, h4⟩ := ih h2 fun b x hx ρ hI => h b x (List.mem_cons_of_mem _ hx) ρ hI
    refine ⟨ρ2, ?_, h4⟩
    rw [List.map_cons]
    unfold forL
    rw [h1]
    exact h3
end
theorem ints_of_all : ∀ {l : List PyData}, (∀ x ∈ l, ∃ z : Int, x = .int z) → ∃ ys : List Int, l = ys.map .int
  | [], _ => ⟨[], rfl⟩
  | x :: l, h => by
    obtain ⟨z, rfl⟩ := h x (List.mem_cons_self ..)
    obtain ⟨ys, rfl⟩ := ints_of_all fun y hy => h y (List.mem_cons_of_mem _ hy)
    exact ⟨z :: ys, rfl⟩
theorem forL_each {α : Type} {f : PyData → Rho → Option Out} (enc : α → PyData) (I : Rho → Prop) {l : List α} {ρ : Rho} {o : Option Out} (e : forL f (l.map enc) ρ = o) (h0 : I ρ) (h : ∀ a ∈ l, ∀ ρ, I ρ → ∃ ρ', f (enc a) ρ = some (.nx ρ') ∧ I ρ') : ∃ ρ', o = some (.nx ρ') ∧ I ρ' :=
  forL_fold enc (fun (_ : Unit) ρ => I ρ) (fun b _ => b) (b := ()) e h0 fun b a ha ρ hI => h a ha ρ hI
/-- a range as a list of numbers -/
theorem forL_range {f : PyData → Rho → Option Out} (I : Rho → Prop) {lo hi : Int} {ρ : Rho} {o : Option Out} (e : forL f (rangeD lo hi) ρ = o) (h0 : I ρ) (h : ∀ k : Int, lo ≤ k → k < hi → ∀ ρ, I ρ → ∃ ρ', f (.int k) ρ = some (.nx ρ') ∧ I ρ') : ∃ ρ', o = some (.nx ρ') ∧ I ρ' := by
  rw [rangeD_eq] at e
  refine forL_each .int I e h0 fun a ha ρ hI => ?_
  have := range_mem ha
  exact h a this.1 (by omega) ρ hI
/-! ### data that are alike -/
theorem eqvAll_nil : PyData.eqvAll [] [] = true := by unfold PyData.eqvAll; rfl
theorem eqvAll_cons (x y : PyData) (xs ys : List PyData) : PyData.eqvAll (x :: xs) (y :: ys) = (PyData.eqv x y && PyData.eqvAll xs ys) := by rw [PyData.eqvAll]
theorem eqv_tuple (xs ys : List PyData) : PyData.eqv (.tuple xs) (.tuple ys) = PyData.eqvAll xs ys := by rw [PyData.eqv]
theorem eqv_list (xs ys : List PyData) : PyData.eqv (.list xs) (.list ys) = PyData.eqvAll xs ys := by rw [PyData.eqv]
theorem eqvAll_ints : ∀ l l' : List Int, PyData.eqvAll (l.map .int) (l'.map .int) = decide (l = l')
  | [], [] => eqvAll_nil
  | [], _ :: _ => by unfold PyData.eqvAll; rfl
  | _ :: _, [] => by unfold PyData.eqvAll; rfl
  | a :: l, b :: l' => by
    rw [List.map_cons, List.map_cons, eqvAll_cons, eqv_int, eqvAll_ints l l']
    by_cases h1 : a = b <;> by_cases h2 : l = l' <;> simp [h1, h2]
theorem lay_ints (n : Nat) (l : List Int) : lay (n + 1) (.tuple (l.map .int)) = true := by
  show (l.map PyData.int).all (lay n) = true
  rw [List.all_map, List.all_eq_true]
  intro x _
  cases n <;> rfl
theorem lay_listI (n : Nat) (l : List Int) : lay (n + 1) (.list (l.map .int)) = true := lay_ints n l
theorem eq_ints (l l' : List Int) : prD (.cmp .Eq) [.tuple (l.map .int), .tuple (l'.map .int)] = some (.bool (decide (l = l'))) := by
  rw [p_eq, lay_ints, lay_ints, if_pos (by rfl), eqv_tuple, eqvAll_ints]
theorem ne_ints (l l' : List Int) : prD (.cmp .NotEq) [.tuple (l.map .int), .tuple (l'.map .int)] = some (.bool (!decide (l = l'))) := by
  rw [p_ne, lay_ints, lay_ints, if_pos (by rfl), eqv_tuple, eqvAll_ints]
theorem eq_pair (a b c e : Int) : prD (.cmp .Eq) [.tuple [.int a, .int b], .tuple [.int c, .int e]] = some (.bool (decide (a = c) && decide (b = e))) := by
  have := eq_ints [a, b] [c, e]
  refine this.trans ?_
  congr 2
  by_cases h1 : a = c <;> by_cases h2 : b = e <;> simp [h1, h2]
theorem ne_pair (a b c e : Int) : prD (.cmp .NotEq) [.tuple [.int a, .int b], .tuple [.int c, .int e]] = some (.bool (!(decide (a = c) && decide (b = e)))) := by
  have := ne_ints [a, b] [c, e]
  refine this.trans ?_
  congr 3
  by_cases h1 : a = c <;> by_cases h2 : b = e <;> simp [h1, h2]
/-! ### drawing -/
def Src (a b : Int) : Prop := 0 ≤ a ∧ 0 ≤ b ∧ b < 2147483647
abbrev srcD (a b : Int) : PyData := .list [.int a, .int b]
/-! ### dithers -/
structure Dit where
  top : Int
  lv : List Int
  sh : List Int
  dv : Int
  hi : Bool
def tieS (b : Bool) : Str := if b = true then "high" else "low"
theorem eqv_str (a b : Str) : PyData.eqv (.str a) (.str b) = decide (a = b) := by
  unfold PyData.eqv
  first | rfl | (by_cases h : a = b <;> simp [h])
theorem flat_tie (b : Bool) : flat (.str (tieS b)) = true := by cases b <;> decide +kernel
theorem tie_ll : (("low" : Str) = tieS false) := rfl
theorem tie_hh : (("high" : Str) = tieS true) := rfl
theorem flat_low : flat (.str "low") = true := by decide +kernel
theorem flat_high : flat (.str "high") = true := by decide +kernel
theorem tie_in (b : Bool) : prD (.cmp .In) [.str (tieS b), .tuple [.str "low", .str "high"]] = some (.bool true) := by
  have e : ([PyData.str "low", .str "high"]).all flat = true := by
    simp only [List.all_cons, List.all_nil, flat_low, flat_high, Bool.and_true]
  rw [p_inT, if_pos (by rw [flat_tie, e]; rfl)]
  simp only [List.any_cons, List.any_nil, eqv_str]
  cases b
  · rw [decide_eq_true tie_ll, Bool.true_or]
  · rw [decide_eq_true tie_hh, Bool.true_or, Bool.or_true]
theorem tie_eq_low (b : Bool) : prD (.cmp .Eq) [.str (tieS b), .str "low"] = some (.bool (!b)) := by
  have e1 : lay 9 (.str (tieS b)) = true := flat_tie b
  have e2 : lay 9 (.str "low") = true := flat_low
  rw [p_eq, e1, e2, if_pos (by rfl), eqv_str]
  cases b
  · rw [decide_eq_true (by exact tie_ll.symm)]; rfl
  · rw [decide_eq_false (by decide +kernel)]; rfl
theorem tie_eq_high (b : Bool) : prD (.cmp .Eq) [.str (tieS b), .str "high"] = some (.bool b) := by
  have e1 : lay 9 (.str (tieS b)) = true := flat_tie b
  have e2 : lay 9 (.str "high") = true := flat_high
  rw [p_eq, e1, e2, if_pos (by rfl), eqv_str]
  cases b
  · rw [decide_eq_false (by decide +kernel)]
  · rw [decide_eq_true (by exact tie_hh.symm)]
abbrev intsD (l : List Int) : PyData := .tuple (l.map .int)
def Dit.enc (d : Dit) : PyData := .tuple [.int d.top, .tuple (d.lv.map .int), .tuple (d.sh.map .int), .int d.dv, .str (tieS d.hi)]
theorem enc_it0 {d : Dit} : prD .item [d.enc, .int 0] = some (.int d.top) := item0
theorem enc_it1 {d : Dit} : prD .item [d.enc, .int 1] = some (.tuple (d.lv.map .int)) := it_21
theorem enc_it2 {d : Dit} : prD .item [d.enc, .int 2] = some (.tuple (d.sh.map .int)) := it_2
theorem enc_it3 {d : Dit} : prD .item [d.enc, .int 3] = some (.int d.dv) := it_3
theorem enc_it4 {d : Dit} : prD .item [d.enc, .int 4] = some (.str (tieS d.hi)) := it_4
structure Dit.Ok (d : Dit) : Prop where
  t1 : 1 ≤ d.top
  t8 : d.top ≤ 8
  d1 : 1 ≤ d.dv
  d8 : d.dv ≤ 8
  l2 : 2 ≤ d.lv.length
  l6 : d.lv.length ≤ 6
  inc : d.lv.Pairwise (· < ·)
  hd : d.lv.head? = some 0
  lst : d.lv.getLast? = some d.top
  s1 : 1 ≤ d.sh.length
  s2 : d.sh.length ≤ 2
  sb : ∀ s ∈ d.sh, 0 ≤ s ∧ s ≤ d.dv
  ss : d.sh.sum ≤ d.dv
theorem inner_ok {t : Int} {l : List Int} (ht : 1 ≤ t) (h1 : l.Pairwise (· < ·)) (h2 : ∀ x ∈ l, 1 ≤ x ∧ x < t) : (0 :: (l ++ [t])).Pairwise (· < ·) := by
  rw [List.pairwise_cons]
  refine ⟨fun x hx => ?_, ?_⟩
  · rcases List.mem_append.mp hx with hx | hx
    · have := h2 x hx; omega
    · rw [List.mem_singleton.mp hx]; omega
  · rw [List.pairwise_append]
    refine ⟨h1, List.pairwise_singleton _ _, fun x hx y hy => ?_⟩
    rw [List.mem_singleton.mp hy]
    exact (h2 x hx).2
theorem Dit.Ok.lvc {d : Dit} (h : d.Ok) : ∃ r, d.lv = 0 :: r ∧ 1 ≤ r.length := by
  have h1 := h.hd
  have h2 := h.l2
  cases e : d.lv with
  | nil => rw [e] at h1; cases h1
  | cons x r =>
    rw [e] at h1 h2
    cases h1
    exact ⟨r, rfl, by simpa using h2⟩
theorem Dit.Ok.lvb {d : Dit} (h : d.Ok) : ∀ x ∈ d.lv, 0 ≤ x ∧ x ≤ d.top := by
  intro x hx
  constructor
  · obtain ⟨r, e, _⟩ := h.lvc
    have := h.inc
    rw [e] at hx this
    rcases List.mem_cons.mp hx with rfl | hx
    · exact Int.le_refl _
    · exact Int.le_of_lt ((List.pairwise_cons.mp this).1 x hx)
  · have h1 := h.lst
    have h2 := h.inc
    obtain ⟨ys, e⟩ := List.getLast?_eq_some_iff.mp h1
    rw [e] at hx h2
    rcases List.mem_append.mp hx with hx | hx
    · exact Int.le_of_lt ((List.pairwise_append.mp h2).2.2 x hx _ (List.mem_singleton.mpr rfl))
    · rw [List.mem_singleton.mp hx]; exact Int.le_refl _
theorem Dit.Ok.shc {d : Dit} (h : d.Ok) : (∃ a, d.sh = [a] ∧ 0 ≤ a ∧ a ≤ d.dv) ∨ ∃ a b, d.sh = [a, b] ∧ 0 ≤ a ∧ 0 ≤ b ∧ a + b ≤ d.dv := by
  have h1 := h.s1
  have h2 := h.s2
  have h3 := h.sb
  have h4 := h.ss
  match e : d.sh, h1, h2 with
  | [a], _, _ =>
    rw [e] at h3
    exact .inl ⟨a, rfl, h3 a (by simp)⟩
  | [a, b], _, _ =>
    rw [e] at h3 h4
    exact .inr ⟨a, b, rfl, (h3 a (by simp)).1, (h3 b (by simp)).1, by simpa using h4⟩
theorem pair_zip : ∀ {l : List Int}, l.Pairwise (· < ·) → ∀ p ∈ l.zip (l.drop 1), p.1 < p.2
  | [], _, p, hp => by cases hp
  | [_], _, p, hp => by cases hp
  | a :: b :: r, h, p, hp => by
    have h1 := List.pairwise_cons.mp h
    rcases List.mem_cons.mp (show p ∈ (a, b) :: (b :: r).zip r from hp) with rfl | hp
    · exact h1.1 b (List.mem_cons_self ..)
    · exact pair_zip h1.2 p hp
/-! ### the nearest level -/
theorem absI_nonneg (i : Int) : 0 ≤ absI i := by unfold absI; split <;> omega
def nearI (hi : Bool) (v f : Int) (l : List Int) : Int := l.foldl (fun f x => if absI (v - x) < absI (v - f) ∨ (absI (v - x) = absI (v - f) ∧ hi = true) then x else f) f
theorem nearI_cons (hi : Bool) (v f x : Int) (l : List Int) : nearI hi v f (x :: l) = nearI hi v (if absI (v - x) < absI (v - f) ∨ (absI (v - x) = absI (v - f) ∧ hi = true) then x else f) l := rfl
theorem nearI_mem (hi : Bool) (v : Int) : ∀ (l : List Int) (f : Int), nearI hi v f l ∈ f :: l
  | [], f => by unfold nearI; simp
  | x :: l, f => by
    rw [nearI_cons]
    have := nearI_mem hi v l (if absI (v - x) < absI (v - f) ∨ (absI (v - x) = absI (v - f) ∧ hi = true) then x else f)
    split at this
    · rename_i h; rw [if_pos h]; exact List.mem_cons_of_mem _ this
    · rename_i h
      rw [if_neg h]
      rcases List.mem_cons.mp this with e | e
      · rw [e]; exact List.mem_cons_self ..
      · exact List.mem_cons_of_mem _ (List.mem_cons_of_mem _ e)
theorem nearI_le (hi : Bool) (v : Int) : ∀ (l : List Int) (f : Int), ∀ y ∈ f :: l, absI (v - nearI hi v f l) ≤ absI (v - y)
  | [], f, y, hy => by rw [List.mem_singleton.mp hy]; exact Int.le_refl _
  | x :: l, f, y, hy => by
    rw [nearI_cons]
    have ih := nearI_le hi v l (if absI (v - x) < absI (v - f) ∨ (absI (v - x) = absI (v - f) ∧ hi = true) then x else f)
    have hf := ih _ (List.mem_cons_self ..)
    rcases List.mem_cons.mp hy with rfl | hy
    · refine Int.le_trans hf ?_
      split <;> omega
    · rcases List.mem_cons.mp hy with rfl | hy
      · refine Int.le_trans hf ?_
        split
        · omega
        · rename_i h
          simp only [not_or] at h
          omega
      · exact ih y (List.mem_cons_of_mem _ hy)
theorem leastI_near (hi : Bool) (v : Int) : ∀ (l : List Int) (f : Int), leastI ((f :: l).map fun x => absI (v - x)) = some (absI (v - nearI hi v f l))
  | [], f => rfl
  | x :: l, f => by
    rw [nearI_cons, ← leastI_near hi v l]
    show some (((l.map fun x => absI (v - x)).foldl _ (if absI (v - x) < absI (v - f) then absI (v - x) else absI (v - f)))) = some ((l.map fun x => absI (v - x)).foldl _ (absI (v - _)))
    congr 2
    by_cases h : absI (v - x) < absI (v - f)
    · rw [if_pos h, if_pos (.inl h)]
    · rw [if_neg h]
      by_cases h2 : absI (v - x) = absI (v - f) ∧ hi = true
      · rw [if_pos (.inr h2), h2.1]
      · rw [if_neg (fun q => q.elim h h2)]
theorem near_low (v : Int) : ∀ (l : List Int) (f : Int), ((f :: l).filter fun x => decide (absI (v - x) = absI (v - nearI false v f l))).head? = some (nearI false v f l)
  | [], f => by
    show (List.filter _ [f]).head? = some f
    rw [List.filter_cons_of_pos (by simp [nearI])]
    rfl
  | x :: l, f => by
    have hm := nearI_le false v (x :: l) f
    rw [nearI_cons] at hm ⊢
    by_cases h : absI (v - x) < absI (v - f)
    · rw [if_pos (.inl h)] at hm ⊢
      have := hm x (by simp)
      rw [List.filter_cons_of_neg (by simp; omega)]
      exact near_low v l x
    · rw [if_neg (fun q => q.elim h fun z => by cases z.2)] at hm ⊢
      have ih := near_low v l f
      have m1 := hm f (by simp)
      by_cases e : absI (v - f) = absI (v - nearI false v f l)
      · rw [List.filter_cons_of_pos (by simpa using e)] at ih ⊢
        exact ih
      · rw [List.filter_cons_of_neg (by simpa using e)] at ih ⊢
        rw [List.filter_cons_of_neg (by simp; omega)]
        exact ih
theorem near_high (v : Int) : ∀ (l : List Int) (f : Int), ((f :: l).filter fun x => decide (absI (v - x) = absI (v - nearI true v f l))).getLast? = some (nearI true v f l)
  | [], f => by
    show (List.filter _ [f]).getLast? = some f
    rw [List.filter_cons_of_pos (by simp [nearI])]
    rfl
  | x :: l, f => by
    have hm := nearI_le true v (x :: l) f
    rw [nearI_cons] at hm ⊢
    by_cases h : absI (v - x) ≤ absI (v - f)
    · have hc : absI (v - x) < absI (v - f) ∨ (absI (v - x) = absI (v - f) ∧ true = true) := by
        rcases Int.lt_or_eq_of_le h with z | z
        · exact .inl z
        · exact .inr ⟨z, rfl⟩
      rw [if_pos hc] at hm ⊢
      have ih := near_high v l x
      by_cases e : absI (v - f) = absI (v - nearI true v x l)
      · rw [List.filter_cons_of_pos (by simpa using e), List.getLast?_cons, ih]
        rfl
      · rw [List.filter_cons_of_neg (by simpa using e)]
        exact ih
    · have hc : ¬ (absI (v - x) < absI (v - f) ∨ (absI (v - x) = absI (v - f) ∧ true = true)) := fun q => by
        rcases q with q | q
        · omega
        · have := q.1; omega
      rw [if_neg hc] at hm ⊢
      have ih := near_high v l f
      have m1 := hm f (by simp)
      by_cases e : absI (v - f) = absI (v - nearI true v f l)
      · rw [List.filter_cons_of_pos (by simpa using e)] at ih ⊢
        rw [List.filter_cons_of_neg (by simp; omega)]
        exact ih
      · rw [List.filter_cons_of_neg (by simpa using e)] at ih ⊢
        rw [List.filter_cons_of_neg (by simp; omega)]
        exact ih
/-! ### a step -/
def partI (e s d : Int) : Int := if 0 ≤ e then absI e * s / d else -(absI e * s / d)
def Dit.near (d : Dit) (v : Int) : Int := match d.lv with
  | [] => 0
  | f :: r => nearI d.hi v f r
def Dit.later (d : Dit) (e : Int) : Int := match d.sh with
  | [_, b] => partI e b d.dv
  | _ => 0
def Dit.first (d : Dit) (e : Int) : Int := if d.sh.sum = d.dv then e - d.later e else match d.sh with
  | a :: _ => partI e a d.dv
  | [] => 0
structure Turn where
  out : Int
  err : Int
  h0 : Int
  h1 : Int
  deriving DecidableEq
def Dit.step (d : Dit) (h0 h1 x : Int) : Turn :=
  let v := x + h0
  let o := d.near v
  let e := v - o
  ⟨o, e, h1 + d.first e, d.later e⟩
abbrev pairD (a b : Int) : PyData := .tuple [.int a, .int b]
theorem part_abs {e s d : Int} (hd : 0 < d) (hs : 0 ≤ s) : absI (partI e s d) = absI e * s / d := by
  have h1 : 0 ≤ absI e * s / d := Int.ediv_nonneg (Int.mul_nonneg (absI_nonneg _) hs) (by omega)
  unfold partI
  generalize absI e * s / d = q at *
  unfold absI
  split <;> split <;> omega
theorem part_le {E s d : Int} (hE : 0 ≤ E) (hd : 0 < d) (hs : s ≤ d) : E * s / d ≤ E :=
  Int.ediv_le_of_le_mul hd (Int.mul_le_mul_of_nonneg_left hs hE)
theorem two_parts {E a b d : Int} (hE : 0 ≤ E) (hd : 0 < d) (h : a + b ≤ d) : E * a / d + E * b / d ≤ E := by
  have h1 := Int.ediv_mul_le (E * a) (Int.ne_of_gt hd)
  have h2 := Int.ediv_mul_le (E * b) (Int.ne_of_gt hd)
  have h3 : (E * a / d + E * b / d) * d ≤ E * d := by
    rw [Int.add_mul]
    have := Int.mul_le_mul_of_nonneg_left h hE
    rw [Int.mul_add] at this
    omega
  exact Int.le_of_mul_le_mul_right h3 hd
def lawPart (e s d : Int) : Int := if 0 ≤ e * s then e * s / d else 0 - (0 - e * s) / d
theorem lawPart_eq {e s d : Int} (hs : 0 ≤ s) : lawPart e s d = partI e s d := by
  unfold lawPart partI
  by_cases he : 0 ≤ e
  · have ha : absI e = e := by unfold absI; rw [if_neg (by omega)]
    rw [if_pos (Int.mul_nonneg he hs), if_pos he, ha]
  · have ha : absI e = -e := by unfold absI; rw [if_pos (by omega)]
    rw [if_neg he, ha]
    by_cases h0 : s = 0
    · subst h0
      simp
    · have h1 : e * s < 0 := Int.mul_neg_of_neg_of_pos (by omega) (by omega)
      rw [if_neg (show ¬ 0 ≤ e * s by omega), Int.neg_mul, Int.zero_sub, Int.zero_sub]
theorem Dit.Ok.near_mem {d : Dit} (h : d.Ok) (v : Int) : d.near v ∈ d.lv := by
  obtain ⟨r, e, _⟩ := h.lvc
  unfold Dit.near
  rw [e]
  exact nearI_mem _ _ _ _
theorem Dit.Ok.near_le {d : Dit} (h : d.Ok) (v : Int) : absI (v - d.near v) ≤ absI v := by
  obtain ⟨r, e, _⟩ := h.lvc
  unfold Dit.near
  rw [e]
  have := nearI_le d.hi v r 0 0 (List.mem_cons_self ..)
  rw [Int.sub_zero] at this
  exact this
theorem Dit.Ok.split {d : Dit} (h : d.Ok) (e : Int) : absI (d.first e) + absI (d.later e) ≤ absI e := by
  have hd : 0 < d.dv := by have := h.d1; omega
  have hE := absI_nonneg e
  rcases h.shc with ⟨a, ha, a0, a1⟩ | ⟨a, b, ha, a0, b0, ab⟩
  · unfold Dit.first Dit.later
    simp only [ha]
    split
    · have : absI 0 = 0 := rfl
      rw [this, Int.sub_zero]
      omega
    · rw [part_abs hd a0]
      have := part_le hE hd a1
      have : absI 0 = 0 := rfl
      omega
  · unfold Dit.first Dit.later
    simp only [ha]
    split
    · have h1 := part_le (s := b) hE hd (by omega)
      have h2 := part_abs (e := e) hd b0
      have h3 : 0 ≤ absI e * b / d.dv := Int.ediv_nonneg (Int.mul_nonneg hE b0) (by omega)
      have h4 : (0 ≤ e ∧ partI e b d.dv = absI e * b / d.dv) ∨ (e < 0 ∧ partI e b d.dv = -(absI e * b / d.dv)) := by
        unfold partI
        split <;> omega
      generalize absI e * b / d.dv = q at *
      unfold absI at *
      rcases h4 with ⟨z, h4⟩ | ⟨z, h4⟩ <;> rw [h4] at * <;> split <;> split <;> split at hE <;> split at h1 <;> omega
    · rw [part_abs hd a0, part_abs hd b0]
      exact two_parts hE hd ab
theorem absI_add (a b : Int) : absI (a + b) ≤ absI a + absI b := by unfold absI; split <;> split <;> split <;> omega
theorem absI_of_nonneg {a : Int} (h : 0 ≤ a) : absI a = a := by unfold absI; rw [if_neg (by omega)]
theorem absI_lt {a n : Int} (h : absI a < n) : -n < a ∧ a < n := by unfold absI at h; split at h <;> omega
theorem absI_le {a n : Int} : absI a ≤ n ↔ -n ≤ a ∧ a ≤ n := by unfold absI; split <;> omega
theorem Dit.Ok.err_le {d : Dit} (h : d.Ok) {h0 h1 x : Int} (x0 : 0 ≤ x) (x1 : x ≤ d.top) : absI (d.step h0 h1 x).err ≤ absI h0 + 8 := by
  have e1 := h.near_le (x + h0)
  have e2 := absI_add x h0
  have e3 := absI_of_nonneg x0
  have := h.t8
  show absI (x + h0 - d.near (x + h0)) ≤ _
  omega
theorem Dit.Ok.bound {d : Dit} (h : d.Ok) {h0 h1 x : Int} (x0 : 0 ≤ x) (x1 : x ≤ d.top) : absI (d.step h0 h1 x).h0 + absI (d.step h0 h1 x).h1 ≤ absI h0 + absI h1 + 8 := by
  have e1 := h.err_le (h1 := h1) (h0 := h0) x0 x1
  have e2 := h.split (d.step h0 h1 x).err
  have e3 := absI_add h1 (d.first (d.step h0 h1 x).err)
  show absI (h1 + d.first (d.step h0 h1 x).err) + absI (d.later (d.step h0 h1 x).err) ≤ _
  omega
/-! ### a row -/
structure Walk where
  outs : List Int
  errs : List Int
  h0 : Int
  h1 : Int
  deriving DecidableEq
def Dit.put (d : Dit) (s : Walk) (x : Int) : Walk := ⟨s.outs ++ [(d.step s.h0 s.h1 x).out], s.errs ++ [(d.step s.h0 s.h1 x).err], (d.step s.h0 s.h1 x).h0, (d.step s.h0 s.h1 x).h1⟩
def Dit.walk (d : Dit) (h0 h1 : Int) (row : List Int) : Walk := row.foldl d.put ⟨[], [], h0, h1⟩
/-- the shades are shades -/
def Dit.Row (d : Dit) (row : List Int) : Prop := ∀ x ∈ row, 0 ≤ x ∧ x ≤ d.top
theorem forL_foldN {α β : Type} {f : PyData → Rho → Option Out} (enc : α → PyData) (I : Nat → β → Rho → Prop) (g : β → α → β) {l : List α} {ρ : Rho} {b : β} {o : Option Out} (e : forL f (l.map enc) ρ = o) (h0 : I 0 b ρ) (h : ∀ i b a ρ, a ∈ l → i < l.length → I i b ρ → ∃ ρ', f (enc a) ρ = some (.nx ρ') ∧ I (i + 1) (g b a) ρ') : ∃ ρ', o = some (.nx ρ') ∧ I l.length (l.foldl g b) ρ' := by
  subst e
  have : ∀ (r : List α) (k : Nat) (b : β) (ρ : Rho), (∀ a ∈ r, a ∈ l) → k + r.length = l.length → I k b ρ → ∃ ρ', forL f (r.map enc) ρ = some (.nx ρ') ∧ I l.length (r.foldl g b) ρ' := fun r => by
    induction r with
    | nil => exact fun k b ρ _ e hI => ⟨ρ, rfl, by rw [← e]; exact hI⟩
    | cons a r ih =>
      intro k b ρ hr e hI
      rw [List.length_cons] at e
      obtain ⟨ρ1, h1, h2⟩ := h k b a ρ (hr a (List.mem_cons_self ..)) (by omega) hI
      obtain ⟨ρ2, h3, h4⟩ := ih (k + 1) (g b a) ρ1 (fun x hx => hr x (List.mem_cons_of_mem _ hx)) (by omega) h2
      refine ⟨ρ2, ?_, h4⟩
      rw [List.map_cons]
      unfold forL
      rw [h1]
      exact h3
  exact this l 0 b ρ (fun a h => h) (by omega) h0
end CD

set_option Elab.async false
set_option linter.all false
set_option maxRecDepth 100000
set_option autoImplicit false
namespace CD
open PySem PySem.Spec L2
open PyProof.Rows hiding St
def top (i : Nat) : Stmt := PySem.Challenge.pw_carrydithers_k01_dithers_recognized.main.body.getD i (.Pass ⟨0, 0, 0, 0⟩)
def i__law_source : IFun := ⟨2, 3, (.c (.asg (.nm 2) (.cst (.int 0))) (.c (.ife (.pr false (.cmp .Lt) (.c (.var 1) (.c (.pr true (.bi .len) (.c (.var 0) .n)) .n))) (.c (.asg (.nm 2) (.pr false (.bi
  .abs) (.c (.pr true .item (.c (.var 0) (.c (.var 1) .n))) .n))) .n) .n) (.c (.ife (.pr false (.cmp .Lt) (.c (.var 2) (.c (.pr false .pow (.c (.cst (.int 10)) (.c (.cst (.int 18)) .n))) .n))) (.c
  (.retO (.lst (.c (.cst (.int 0)) (.c (.pr false .add (.c (.cst (.int 1)) (.c (.pr false .mod (.c (.pr false .add (.c (.pr false .mul (.c (.var 2) (.c (.cst (.int 7919)) .n))) (.c (.pr false .mul (.c
  (.cst (.int 104729)) (.c (.var 1) .n))) .n))) (.c (.cst (.int 2147483646)) .n))) .n))) .n)))) .n) .n) (.c (.retO (.lst (.c (.var 2) (.c (.pr false .add (.c (.cst (.int 1)) (.c (.pr false .mod (.c
  (.pr false .add (.c (.var 2) (.c (.var 1) .n))) (.c (.cst (.int 2147483646)) .n))) .n))) .n)))) .n))))⟩
def n__law_source : List Str := ["_law_script", "_law_index", "_law_cell"]
def p__law_source : List Str := ["_law_script", "_law_index"]
abbrev s__law_source : Stmt := top 15
abbrev d__law_source : DefT := ⟨"_law_source", s__law_source, n__law_source, p__law_source, i__law_source⟩
def i__law_draw : IFun := ⟨2, 3, (.c (.ife (.pr false (.cmp .Gt) (.c (.pr true .item (.c (.var 0) (.c (.cst (.int 0)) .n))) (.c (.cst (.int 0)) .n))) (.c (.asg (.nm 2) (.pr false .mod (.c (.pr true
  .item (.c (.var 0) (.c (.cst (.int 0)) .n))) (.c (.var 1) .n)))) (.c (.store 0 (.cst (.int 0)) (.pr false .fdiv (.c (.pr true .item (.c (.var 0) (.c (.cst (.int 0)) .n))) (.c (.var 1) .n)))) (.c
  (.ret (.var 2)) .n))) .n) (.c (.store 0 (.cst (.int 1)) (.pr false .mod (.c (.pr false .mul (.c (.pr true .item (.c (.var 0) (.c (.cst (.int 1)) .n))) (.c (.cst (.int 48271)) .n))) (.c (.cst (.int
  2147483647)) .n)))) (.c (.ret (.pr false .mod (.c (.pr false .fdiv (.c (.pr false .mod (.c (.pr false .mul (.c (.pr true .item (.c (.var 0) (.c (.cst (.int 1)) .n))) (.c (.pr true .item (.c (.var 0)
  (.c (.cst (.int 1)) .n))) .n))) (.c (.cst (.int 2147483629)) .n))) (.c (.cst (.int 64)) .n))) (.c (.var 1) .n)))) .n)))⟩
def n__law_draw : List Str := ["_law_source_here", "_law_size", "_law_drawn"]
def p__law_draw : List Str := ["_law_source_here", "_law_size"]
abbrev s__law_draw : Stmt := top 16
abbrev d__law_draw : DefT := ⟨"_law_draw", s__law_draw, n__law_draw, p__law_draw, i__law_draw⟩
def i__law_choice : IFun := ⟨2, 2, (.c (.ret (.pr false .item (.c (.var 1) (.c (.call "_law_draw" (.b 0 (.v (.pr false (.bi .len) (.c (.var 1) .n)) .n))) .n)))) .n)⟩
def n__law_choice : List Str := ["_law_source_here", "_law_items"]
def p__law_choice : List Str := ["_law_source_here", "_law_items"]
abbrev s__law_choice : Stmt := top 17
abbrev d__law_choice : DefT := ⟨"_law_choice", s__law_choice, n__law_choice, p__law_choice, i__law_choice⟩
def i__law_dither : IFun := ⟨2, 9, (.c (.asg (.nm 2) (.pr false .add (.c (.cst (.int 1)) (.c (.call "_law_draw" (.b 0 (.v (.var 1) .n))) .n)))) (.c (.asg (.nm 3) (.pr false (.slice false true) (.c
  (.comp (.rng (.c (.cst (.int 1)) (.c (.var 2) .n))) (.nm 8) (.c (.pr false (.cmp .Eq) (.c (.call "_law_draw" (.b 0 (.v (.cst (.int 3)) .n))) (.c (.cst (.int 0)) .n))) .n) (.var 8) [8]) (.c (.cst
  (.int 4)) .n)))) (.c (.asg (.nm 4) (.pr false .add (.c (.cst (.int 1)) (.c (.call "_law_draw" (.b 0 (.v (.cst (.int 8)) .n))) .n)))) (.c (.asg (.nm 5) (.call "_law_draw" (.b 0 (.v (.pr false .add
  (.c (.var 4) (.c (.cst (.int 1)) .n))) .n)))) (.c (.asg (.nm 6) (.lst (.c (.tup (.c (.var 4) .n)) (.c (.tup (.c (.var 5) .n)) (.c (.tup (.c (.var 5) (.c (.pr false .sub (.c (.var 4) (.c (.var 5)
  .n))) .n))) (.c (.tup (.c (.var 5) (.c (.call "_law_draw" (.b 0 (.v (.pr false .add (.c (.pr false .sub (.c (.var 4) (.c (.var 5) .n))) (.c (.cst (.int 1)) .n))) .n))) .n))) .n)))))) (.c (.asg (.nm
  7) (.call "_law_choice" (.b 0 (.v (.var 6) .n)))) (.c (.ret (.tup (.c (.var 2) (.c (.pr false (.bi .tuple) (.c (.pr false .add (.c (.pr false .add (.c (.lst (.c (.cst (.int 0)) .n)) (.c (.var 3)
  .n))) (.c (.lst (.c (.var 2) .n)) .n))) .n)) (.c (.var 7) (.c (.var 4) (.c (.call "_law_choice" (.b 0 (.v (.lst (.c (.cst (.str "low")) (.c (.cst (.str "high")) .n))) .n))) .n))))))) .n)))))))⟩
def n__law_dither : List Str := ["_law_source_here", "_law_most", "_law_top", "_law_inner", "_law_divide", "_law_first", "_law_some", "_law_shares_so", "_law_level"]
def p__law_dither : List Str := ["_law_source_here", "_law_most"]
abbrev s__law_dither : Stmt := top 19
abbrev d__law_dither : DefT := ⟨"_law_dither", s__law_dither, n__law_dither, p__law_dither, i__law_dither⟩
def i_is_between : IFun := ⟨3, 3, (.c (.ret (.an (.pr false (.isi .int) (.c (.var 0) .n)) (.an (.no (.pr false (.isi .bool) (.c (.var 0) .n))) (.chain .LtE .LtE (.var 1) (.var 0) (.var 2))))) .n)⟩
def n_is_between : List Str := ["value", "low", "high"]
def p_is_between : List Str := ["value", "low", "high"]
abbrev s_is_between : Stmt := top 7
abbrev d_is_between : DefT := ⟨"is_between", s_is_between, n_is_between, p_is_between, i_is_between⟩
def i_are_levels : IFun := ⟨2, 5, (.c (.ife (.orr (.no (.pr false (.isi .tuple) (.c (.var 0) .n))) (.no (.chain .LtE .LtE (.cst (.int 2)) (.pr false (.bi .len) (.c (.var 0) .n)) (.cst (.int 6))))) (.c
  (.ret (.cst (.bool false))) .n) .n) (.c (.ife (.no (.pr false (.bi .all) (.c (.comp (.vals (.var 0)) (.nm 2) .n (.call "is_between" (.v (.var 2) (.v (.cst (.int 0)) (.v (.var 1) .n)))) [2]) .n)))
  (.c (.ret (.cst (.bool false))) .n) .n) (.c (.ret (.an (.pr false (.cmp .Eq) (.c (.pr false .item (.c (.var 0) (.c (.cst (.int 0)) .n))) (.c (.cst (.int 0)) .n))) (.an (.pr false (.cmp .Eq) (.c (.pr
  false .item (.c (.var 0) (.c (.pr false .neg (.c (.cst (.int 1)) .n)) .n))) (.c (.var 1) .n))) (.pr false (.bi .all) (.c (.comp (.zip (.var 0) (.pr false (.slice true false) (.c (.var 0) (.c (.cst
  (.int 1)) .n)))) (.tp [3, 4]) .n (.pr false (.cmp .Lt) (.c (.var 3) (.c (.var 4) .n))) [3, 4]) .n))))) .n)))⟩
def n_are_levels : List Str := ["value", "top", "level", "one", "other"]
def p_are_levels : List Str := ["value", "top"]
abbrev s_are_levels : Stmt := top 8
abbrev d_are_levels : DefT := ⟨"are_levels", s_are_levels, n_are_levels, p_are_levels, i_are_levels⟩
def i_are_shares : IFun := ⟨2, 3, (.c (.ife (.orr (.no (.pr false (.isi .tuple) (.c (.var 0) .n))) (.no (.chain .LtE .LtE (.cst (.int 1)) (.pr false (.bi .len) (.c (.var 0) .n)) (.cst (.int 2))))) (.c
  (.ret (.cst (.bool false))) .n) .n) (.c (.ret (.an (.pr false (.bi .all) (.c (.comp (.vals (.var 0)) (.nm 2) .n (.call "is_between" (.v (.var 2) (.v (.cst (.int 0)) (.v (.var 1) .n)))) [2]) .n))
  (.pr false (.cmp .LtE) (.c (.pr false (.bi .sum) (.c (.var 0) .n)) (.c (.var 1) .n))))) .n))⟩
def n_are_shares : List Str := ["value", "divisor", "share"]
def p_are_shares : List Str := ["value", "divisor"]
abbrev s_are_shares : Stmt := top 9
abbrev d_are_shares : DefT := ⟨"are_shares", s_are_shares, n_are_shares, p_are_shares, i_are_shares⟩
def i_is_dither : IFun := ⟨1, 6, (.c (.ife (.orr (.no (.pr false (.isi .tuple) (.c (.var 0) .n))) (.pr false (.cmp .NotEq) (.c (.pr false (.bi .len) (.c (.var 0) .n)) (.c (.cst (.int 5)) .n)))) (.c
  (.ret (.cst (.bool false))) .n) .n) (.c (.asg (.tp [1, 2, 3, 4, 5]) (.var 0)) (.c (.ife (.orr (.no (.call "is_between" (.v (.var 1) (.v (.cst (.int 1)) (.v (.cst (.int 8)) .n))))) (.no (.call
  "is_between" (.v (.var 4) (.v (.cst (.int 1)) (.v (.cst (.int 8)) .n)))))) (.c (.ret (.cst (.bool false))) .n) .n) (.c (.ife (.orr (.no (.call "are_levels" (.v (.var 2) (.v (.var 1) .n)))) (.no
  (.call "are_shares" (.v (.var 3) (.v (.var 4) .n))))) (.c (.ret (.cst (.bool false))) .n) .n) (.c (.ret (.an (.pr false (.isi .str) (.c (.var 5) .n)) (.pr false (.cmp .In) (.c (.var 5) (.c (.tup (.c
  (.cst (.str "low")) (.c (.cst (.str "high")) .n))) .n))))) .n)))))⟩
def n_is_dither : List Str := ["value", "top", "levels", "shares", "divisor", "tie"]
def p_is_dither : List Str := ["value"]
abbrev s_is_dither : Stmt := top 10
abbrev d_is_dither : DefT := ⟨"is_dither", s_is_dither, n_is_dither, p_is_dither, i_is_dither⟩
def i_need_dither : IFun := ⟨1, 1, (.c (.ife (.no (.call "is_dither" (.v (.var 0) .n))) (.c .bad .n) .n) .n)⟩
def n_need_dither : List Str := ["dither"]
def p_need_dither : List Str := ["dither"]
abbrev s_need_dither : Stmt := top 11
abbrev d_need_dither : DefT := ⟨"need_dither", s_need_dither, n_need_dither, p_need_dither, i_need_dither⟩
def i_exact : IFun := ⟨1, 1, (.c (.ret (.pr false (.cmp .Eq) (.c (.pr false (.bi .sum) (.c (.pr false .item (.c (.var 0) (.c (.cst (.int 2)) .n))) .n)) (.c (.pr false .item (.c (.var 0) (.c (.cst
  (.int 3)) .n))) .n)))) .n)⟩
def n_exact : List Str := ["dither"]
def p_exact : List Str := ["dither"]
abbrev s_exact : Stmt := top 12
abbrev d_exact : DefT := ⟨"exact", s_exact, n_exact, p_exact, i_exact⟩
def i_is_exact : IFun := ⟨1, 1, (.c (.expr (.call "need_dither" (.v (.var 0) .n))) (.c (.ret (.call "exact" (.v (.var 0) .n))) .n))⟩
def n_is_exact : List Str := ["dither"]
def p_is_exact : List Str := ["dither"]
abbrev s_is_exact : Stmt := top 13
abbrev d_is_exact : DefT := ⟨"is_exact", s_is_exact, n_is_exact, p_is_exact, i_is_exact⟩
def i__law_parted : IFun := ⟨2, 5, (.c (.ife (.an (.pr false (.isi .tuple) (.c (.var 1) .n)) (.an (.pr false (.cmp .NotEq) (.c (.var 1) (.c (.tup .n) .n))) (.pr false (.cmp .Gt) (.c (.call "_law_draw"
  (.b 0 (.v (.cst (.int 5)) .n))) (.c (.cst (.int 0)) .n))))) (.c (.asg (.nm 2) (.call "_law_draw" (.b 0 (.v (.pr false (.bi .len) (.c (.var 1) .n)) .n)))) (.c (.asg (.nm 3) (.call "_law_draw" (.b 0
  (.v (.cst (.int 9)) .n)))) (.c (.ife (.pr false (.cmp .Eq) (.c (.var 3) (.c (.cst (.int 0)) .n))) (.c (.ret (.pr false .add (.c (.pr false (.slice false true) (.c (.var 1) (.c (.var 2) .n))) (.c
  (.pr false (.slice true false) (.c (.var 1) (.c (.pr false .add (.c (.var 2) (.c (.cst (.int 1)) .n))) .n))) .n)))) .n) .n) (.c (.ife (.pr false (.cmp .Eq) (.c (.var 3) (.c (.cst (.int 1)) .n))) (.c
  (.ret (.pr false .add (.c (.pr false (.slice false true) (.c (.var 1) (.c (.pr false .add (.c (.var 2) (.c (.cst (.int 1)) .n))) .n))) (.c (.pr false (.slice true false) (.c (.var 1) (.c (.var 2)
  .n))) .n)))) .n) .n) (.c (.ret (.pr false .add (.c (.pr false .add (.c (.pr false (.slice false true) (.c (.var 1) (.c (.var 2) .n))) (.c (.tup (.c (.call "_law_parted" (.b 0 (.v (.pr false .item
  (.c (.var 1) (.c (.var 2) .n))) .n))) .n)) .n))) (.c (.pr false (.slice true false) (.c (.var 1) (.c (.pr false .add (.c (.var 2) (.c (.cst (.int 1)) .n))) .n))) .n)))) .n))))) .n) (.c (.ife (.pr
  false (.cmp .Eq) (.c (.call "_law_draw" (.b 0 (.v (.cst (.int 3)) .n))) (.c (.cst (.int 0)) .n))) (.c (.asg (.nm 4) (.lst (.c (.cst .none) (.c (.cst (.bool true)) (.c (.cst (.bool false)) (.c (.cst
  (.int 0)) (.c (.cst (.int 1)) (.c (.cst (.int 8)) (.c (.cst (.int 9)) (.c (.pr false .neg (.c (.cst (.int 1)) .n)) (.c (.cst (.str "")) (.c (.cst (.str "low")) (.c (.cst (.str "High")) (.c (.tup .n)
  (.c (.lst .n) (.c (.tup (.c (.cst (.int 0)) .n)) (.c (.lst (.c (.cst (.int 0)) (.c (.cst (.int 4)) .n))) (.c (.tup (.c (.cst (.int 1)) (.c (.cst (.int 1)) (.c (.cst (.int 1)) .n))))
  .n)))))))))))))))))) (.c (.ret (.call "_law_choice" (.b 0 (.v (.var 4) .n)))) .n)) .n) (.c (.ife (.pr false (.isi .int) (.c (.var 1) .n)) (.c (.ret (.call "_law_choice" (.b 0 (.v (.lst (.c (.pr
  false .add (.c (.var 1) (.c (.cst (.int 1)) .n))) (.c (.pr false .sub (.c (.var 1) (.c (.cst (.int 1)) .n))) (.c (.pr false .sub (.c (.cst (.int 0)) (.c (.var 1) .n))) .n)))) .n)))) .n) .n) (.c
  (.ret (.ifx (.pr false (.isi .tuple) (.c (.var 1) .n)) (.pr false (.bi .list) (.c (.var 1) .n)) (.lst (.c (.var 1) .n)))) .n))))⟩
def n__law_parted : List Str := ["_law_source_here", "_law_value", "_law_at", "_law_way", "_law_some"]
def p__law_parted : List Str := ["_law_source_here", "_law_value"]
abbrev s__law_parted : Stmt := top 20
abbrev d__law_parted : DefT := ⟨"_law_parted", s__law_parted, n__law_parted, p__law_parted, i__law_parted⟩
def i__law_is_between : IFun := ⟨3, 3, (.c (.ret (.an (.pr false (.isi .int) (.c (.var 0) .n)) (.an (.no (.pr false (.isi .bool) (.c (.var 0) .n))) (.chain .LtE .LtE (.var 1) (.var 0) (.var 2)))))
  .n)⟩
def n__law_is_between : List Str := ["_law_value", "_law_low", "_law_high"]
def p__law_is_between : List Str := ["_law_value", "_law_low", "_law_high"]
abbrev s__law_is_between : Stmt := top 18
abbrev d__law_is_between : DefT := ⟨"_law_is_between", s__law_is_between, n__law_is_between, p__law_is_between, i__law_is_between⟩
def i__law_all_within : IFun := ⟨3, 4, (.c (.ret (.an (.pr false (.isi .tuple) (.c (.var 0) .n)) (.pr false (.cmp .Eq) (.c (.comp (.vals (.var 0)) (.nm 3) (.c (.no (.call "_law_is_between" (.v (.var
  3) (.v (.var 1) (.v (.var 2) .n))))) .n) (.var 3) [3]) (.c (.lst .n) .n))))) .n)⟩
def n__law_all_within : List Str := ["_law_value", "_law_low", "_law_high", "_law_one"]
def p__law_all_within : List Str := ["_law_value", "_law_low", "_law_high"]
abbrev s__law_all_within : Stmt := top 21
abbrev d__law_all_within : DefT := ⟨"_law_all_within", s__law_all_within, n__law_all_within, p__law_all_within, i__law_all_within⟩
def i__law_is_dither : IFun := ⟨1, 6, (.c (.ife (.orr (.no (.pr false (.isi .tuple) (.c (.var 0) .n))) (.orr (.pr false (.cmp .NotEq) (.c (.pr false (.bi .len) (.c (.var 0) .n)) (.c (.cst (.int 5))
  .n))) (.no (.call "_law_is_between" (.v (.pr false .item (.c (.var 0) (.c (.cst (.int 0)) .n))) (.v (.cst (.int 1)) (.v (.cst (.int 8)) .n))))))) (.c (.ret (.cst (.bool false))) .n) .n) (.c (.asg
  (.tp [1, 2, 3, 4, 5]) (.var 0)) (.c (.ife (.orr (.no (.call "_law_is_between" (.v (.var 4) (.v (.cst (.int 1)) (.v (.cst (.int 8)) .n))))) (.orr (.no (.call "_law_all_within" (.v (.var 2) (.v (.cst
  (.int 0)) (.v (.var 1) .n))))) (.no (.chain .LtE .LtE (.cst (.int 2)) (.pr false (.bi .len) (.c (.var 2) .n)) (.cst (.int 6)))))) (.c (.ret (.cst (.bool false))) .n) .n) (.c (.ife (.orr (.pr false
  (.cmp .NotEq) (.c (.pr false (.bi .list) (.c (.var 2) .n)) (.c (.pr false .sset (.c (.var 2) .n)) .n))) (.orr (.pr false (.cmp .NotEq) (.c (.pr false .item (.c (.var 2) (.c (.cst (.int 0)) .n))) (.c
  (.cst (.int 0)) .n))) (.pr false (.cmp .NotEq) (.c (.pr false .item (.c (.var 2) (.c (.pr false .neg (.c (.cst (.int 1)) .n)) .n))) (.c (.var 1) .n))))) (.c (.ret (.cst (.bool false))) .n) .n) (.c
  (.ife (.orr (.no (.call "_law_all_within" (.v (.var 3) (.v (.cst (.int 0)) (.v (.var 4) .n))))) (.orr (.no (.chain .LtE .LtE (.cst (.int 1)) (.pr false (.bi .len) (.c (.var 3) .n)) (.cst (.int 2))))
  (.pr false (.cmp .Gt) (.c (.pr false (.bi .sum) (.c (.var 3) .n)) (.c (.var 4) .n))))) (.c (.ret (.cst (.bool false))) .n) .n) (.c (.ret (.an (.pr false (.isi .str) (.c (.var 5) .n)) (.pr false
  (.cmp .In) (.c (.var 5) (.c (.lst (.c (.cst (.str "low")) (.c (.cst (.str "high")) .n))) .n))))) .n))))))⟩
def n__law_is_dither : List Str := ["_law_value", "_law_top", "_law_levels", "_law_shares_so", "_law_divide", "_law_tie"]
def p__law_is_dither : List Str := ["_law_value"]
abbrev s__law_is_dither : Stmt := top 22
abbrev d__law_is_dither : DefT := ⟨"_law_is_dither", s__law_is_dither, n__law_is_dither, p__law_is_dither, i__law_is_dither⟩
def i_law : IFun := ⟨1, 8, (.c (.forr (.rng (.c (.pr false .add (.c (.cst (.int 1)) (.c (.pr false (.bi .min) (.c (.pr true (.bi .len) (.c (.var 0) .n)) (.c (.cst (.int 10)) .n))) .n))) .n)) (.nm 1)
  (.c (.asgO 2 (.call "_law_source" (.b 0 (.v (.var 1) .n)))) (.c (.forr (.rng (.c (.cst (.int 5)) .n)) (.nm 3) (.c (.asg (.nm 4) (.call "_law_dither" (.b 2 (.v (.cst (.int 8)) .n)))) (.c (.ife (.pr
  false (.isB true true) (.c (.call "is_dither" (.v (.var 4) .n)) .n)) (.c (.ret (.cst (.bool false))) .n) .n) (.c (.asg (.nm 5) (.call "is_exact" (.v (.var 4) .n))) (.c (.ife (.orr (.no (.pr false
  (.isi .bool) (.c (.var 5) .n))) (.pr false (.cmp .NotEq) (.c (.var 5) (.c (.pr false (.cmp .Eq) (.c (.pr false (.bi .sum) (.c (.pr false .item (.c (.var 4) (.c (.cst (.int 2)) .n))) .n)) (.c (.pr
  false .item (.c (.var 4) (.c (.cst (.int 3)) .n))) .n))) .n)))) (.c (.ret (.cst (.bool false))) .n) .n) (.c (.forr (.rng (.c (.cst (.int 12)) .n)) (.nm 6) (.c (.asg (.nm 7) (.call "_law_parted" (.b
  2 (.v (.var 4) .n)))) (.c (.asg (.nm 5) (.call "is_dither" (.v (.var 7) .n))) (.c (.ife (.orr (.no (.pr false (.isi .bool) (.c (.var 5) .n))) (.pr false (.cmp .NotEq) (.c (.var 5) (.c (.call
  "_law_is_dither" (.v (.var 7) .n)) .n)))) (.c (.ret (.cst (.bool false))) .n) .n) .n)))) .n)))))) .n))) (.c (.ret (.an (.pr false (.isB true false) (.c (.call "is_dither" (.v (.tup (.c (.cst (.int
  4)) (.c (.tup (.c (.cst (.int 0)) (.c (.cst (.int 4)) .n))) (.c (.tup (.c (.cst (.int 0)) .n)) (.c (.cst (.int 8)) (.c (.cst (.str "low")) .n)))))) .n)) .n)) (.pr false (.isB false false) (.c (.call
  "is_dither" (.v (.tup (.c (.cst (.int 4)) (.c (.tup (.c (.cst (.int 0)) (.c (.cst (.int 4)) .n))) (.c (.tup (.c (.cst (.int 3)) (.c (.cst (.int 3)) .n))) (.c (.cst (.int 5)) (.c (.cst (.str "low"))
  .n)))))) .n)) .n)))) .n))⟩
def n_law : List Str := ["_law_script", "_law_k", "_law_source_here", "_law_turn", "_law_dither_here", "_law_found", "_law_again_so", "_law_value"]
def p_law : List Str := ["_law_script"]
abbrev s_law : Stmt := top 23
abbrev d_law : DefT := ⟨"law", s_law, n_law, p_law, i_law⟩
abbrev ds : List DefT := [d__law_source, d__law_draw, d__law_choice, d__law_dither, d_is_between, d_are_levels, d_are_shares, d_is_dither, d_need_dither, d_exact, d_is_exact, d__law_parted,
  d__law_is_between, d__law_all_within, d__law_is_dither, d_law]
abbrev tab : List (Str × IFun) := [("_law_source", i__law_source), ("_law_draw", i__law_draw), ("_law_choice", i__law_choice), ("_law_dither", i__law_dither), ("is_between", i_is_between),
  ("are_levels", i_are_levels), ("are_shares", i_are_shares), ("is_dither", i_is_dither), ("need_dither", i_need_dither), ("exact", i_exact), ("is_exact", i_is_exact), ("_law_parted", i__law_parted),
  ("_law_is_between", i__law_is_between), ("_law_all_within", i__law_all_within), ("_law_is_dither", i__law_is_dither), ("law", i_law)]
abbrev glo : List (Str × PyData) := [("MOST_TOP", (.int 8)), ("MOST_LEVELS", (.int 6)), ("MOST_DIVISOR", (.int 8))]
def depth : Nat := 5
def fuel : Nat := 0
def Ph (n : Nat) : PhiT := phi (tabOf ds) fuel n
theorem Ph_lk {f : Str} {F : IFun} {n : Nat} {as : List Slot} (h : (tabOf ds).lookup f = some F) : Ph (n + 1) f as = runF (Ph n) fuel F as := by
  show (match (tabOf ds).lookup f with | some F => runF (phi (tabOf ds) fuel n) fuel F as | none => none) = _
  rw [h]
  rfl
theorem L__law_source (n : Nat) (as : List Slot) : Ph (n + 1) "_law_source" as = runF (Ph n) fuel i__law_source as := Ph_lk rfl
theorem L__law_draw (n : Nat) (as : List Slot) : Ph (n + 1) "_law_draw" as = runF (Ph n) fuel i__law_draw as := Ph_lk rfl
theorem L__law_choice (n : Nat) (as : List Slot) : Ph (n + 1) "_law_choice" as = runF (Ph n) fuel i__law_choice as := Ph_lk rfl
theorem L__law_dither (n : Nat) (as : List Slot) : Ph (n + 1) "_law_dither" as = runF (Ph n) fuel i__law_dither as := Ph_lk rfl
theorem L_is_between (n : Nat) (as : List Slot) : Ph (n + 1) "is_between" as = runF (Ph n) fuel i_is_between as := Ph_lk rfl
theorem L_are_levels (n : Nat) (as : List Slot) : Ph (n + 1) "are_levels" as = runF (Ph n) fuel i_are_levels as := Ph_lk rfl
theorem L_are_shares (n : Nat) (as : List Slot) : Ph (n + 1) "are_shares" as = runF (Ph n) fuel i_are_shares as := Ph_lk rfl
theorem L_is_dither (n : Nat) (as : List Slot) : Ph (n + 1) "is_dither" as = runF (Ph n) fuel i_is_dither as := Ph_lk rfl
theorem L_need_dither (n : Nat) (as : List Slot) : Ph (n + 1) "need_dither" as = runF (Ph n) fuel i_need_dither as := Ph_lk rfl
theorem L_exact (n : Nat) (as : List Slot) : Ph (n + 1) "exact" as = runF (Ph n) fuel i_exact as := Ph_lk rfl
theorem L_is_exact (n : Nat) (as : List Slot) : Ph (n + 1) "is_exact" as = runF (Ph n) fuel i_is_exact as := Ph_lk rfl
theorem L__law_parted (n : Nat) (as : List Slot) : Ph (n + 1) "_law_parted" as = runF (Ph n) fuel i__law_parted as := Ph_lk rfl
theorem L__law_is_between (n : Nat) (as : List Slot) : Ph (n + 1) "_law_is_between" as = runF (Ph n) fuel i__law_is_between as := Ph_lk rfl
theorem L__law_all_within (n : Nat) (as : List Slot) : Ph (n + 1) "_law_all_within" as = runF (Ph n) fuel i__law_all_within as := Ph_lk rfl
theorem L__law_is_dither (n : Nat) (as : List Slot) : Ph (n + 1) "_law_is_dither" as = runF (Ph n) fuel i__law_is_dither as := Ph_lk rfl
theorem L_law (n : Nat) (as : List Slot) : Ph (n + 1) "law" as = runF (Ph n) fuel i_law as := Ph_lk rfl
theorem ok_draw (m : Nat) {a b : Int} (n : Int) (hs : Src a b) (h0 : 0 < n) (hn : n < 4294967296) : ∃ a' b' r : Int, Src a' b' ∧ 0 ≤ r ∧ r < n ∧ Ph (m + 1) "_law_draw" [.bor (srcD a b), .val (.int n)] = some ⟨.int r, false, [.bor (srcD a' b'), .val (.int n)]⟩ := by
  obtain ⟨ha, hb, hb2⟩ := hs
  rw [L__law_draw]
  by_cases h : 0 < a
  · refine ⟨a / n, b, a % n, ⟨Int.ediv_nonneg ha (by omega), hb, hb2⟩, Int.emod_nonneg _ (by omega), Int.emod_lt_of_pos _ h0, ?_⟩
    simp only [i__law_draw, runF, execs, exec, ev, evs, evw, evc, eva, evI, evO, asB, varOf, viewR, borR, putB, putAll, isOB, bindT, setAll, setV_eq, setO_eq, wipeR_eq, wipeR, backR, frO_some, frB_no, frB_val, fwO_some, fwB_no, fwB_val, fwB_own, st_20, st_21, it_21, it_2, it_3, it_4, enc_it0, enc_it1, enc_it2, enc_it3, enc_it4, tie_eq_high, tie_eq_low, p_add, p_addT, p_addL, p_sub, p_neg, p_Lt, p_LtE, p_Gt, p_GtE, c_Lt, c_LtE, c_Gt, c_GtE, b_tf, b_tt, b_ff, b_ft, n_f, n_t, p_itemL, p_itemT, p_sl11L, p_sl11T, p_sl10L, p_sl10T, p_sl01L, p_sl01T, p_lenL, p_lenT, p_sumL, p_sumT, p_tupleL, p_tupleT, p_listL, p_listT, p_abs, p_min2, p_max2, p_min, p_max, p_all, p_any, p_isi, p_eqI, p_neI, isiD, isND, item0, intsOf_map, boolsOf_map, List.getElem?_cons_zero, List.getElem?_cons_succ, List.getElem?_nil, List.set_cons_zero, List.set_cons_succ, List.length_cons, List.length_nil, List.length_append, List.length_map, List.length_range, List.map_cons, List.map_nil, List.cons_append, List.nil_append, List.append_nil, List.replicate_succ, List.replicate_zero, List.take_succ_cons, List.take_zero, Option.map_some, Option.map_none, Option.bind_some, Option.bind_none, Option.getD_some, Option.toList, if_true, if_false, ite_true, ite_false, reduceIte, Bool.false_eq_true, Bool.true_eq_false, Bool.not_true, Bool.not_false, decide_true, decide_false, decide_eq_true_eq, Nat.reduceAdd, Nat.reduceSub, Nat.reduceLeDiff, Nat.zero_le, Int.cast_ofNat_Int, Nat.reduceEqDiff, Nat.reduceMul, Nat.reducePow, Int.reduceAdd, Int.reduceSub, Int.reduceMul, Int.reduceNeg, Int.reduceLT, Int.reduceEq, Int.reduceLE, Int.reduceToNat, Int.reduceDiv, Int.reduceMod, Int.reducePow, Nat.zero_add, eq_self, Nat.add_zero, Bool.and_true, Bool.true_and, Bool.and_self, implies_true, and_true, true_and, and_self, not_true_eq_false, not_false_eq_true, true_or, or_true, Function.comp, h, fdivOk h0 hn, modOk h0]
  · have e : a = 0 := by omega
    subst e
    have m1 := Int.emod_nonneg (b * 48271) (by decide : (2147483647 : Int) ≠ 0)
    have m2 := Int.emod_lt_of_pos (b * 48271) (by decide : (0 : Int) < 2147483647)
    have lb : b.natAbs.log2 < 32 := log2_b (by omega) (by omega)
    have lb2 : (b * 48271 % 2147483647).natAbs.log2 < 32 := log2_b (by omega) (by omega)
    refine ⟨0, b * 48271 % 2147483647, b * 48271 % 2147483647 * (b * 48271 % 2147483647) % 2147483629 / 64 % n, ⟨by omega, m1, m2⟩, Int.emod_nonneg _ (by omega), Int.emod_lt_of_pos _ h0, ?_⟩
    have e1 : prD .mul [.int b, .int 48271] = some (.int (b * 48271)) := mulOk (by omega) (by decide)
    have e2 : prD .mod [.int (b * 48271), .int 2147483647] = some (.int (b * 48271 % 2147483647)) := modOk (by decide)
    generalize hx : b * 48271 % 2147483647 = x at *
    have e3 : prD .mul [.int x, .int x] = some (.int (x * x)) := mulOk (by omega) (by omega)
    have e4 : prD .mod [.int (x * x), .int 2147483629] = some (.int (x * x % 2147483629)) := modOk (by decide)
    have e5 : prD .fdiv [.int (x * x % 2147483629), .int 64] = some (.int (x * x % 2147483629 / 64)) := fdivOk (by decide) (by decide)
    simp only [i__law_draw, runF, execs, exec, ev, evs, evw, evc, eva, evI, evO, asB, varOf, viewR, borR, putB, putAll, isOB, bindT, setAll, setV_eq, setO_eq, wipeR_eq, wipeR, backR, frO_some, frB_no, frB_val, fwO_some, fwB_no, fwB_val, fwB_own, st_20, st_21, it_21, it_2, it_3, it_4, enc_it0, enc_it1, enc_it2, enc_it3, enc_it4, tie_eq_high, tie_eq_low, p_add, p_addT, p_addL, p_sub, p_neg, p_Lt, p_LtE, p_Gt, p_GtE, c_Lt, c_LtE, c_Gt, c_GtE, b_tf, b_tt, b_ff, b_ft, n_f, n_t, p_itemL, p_itemT, p_sl11L, p_sl11T, p_sl10L, p_sl10T, p_sl01L, p_sl01T, p_lenL, p_lenT, p_sumL, p_sumT, p_tupleL, p_tupleT, p_listL, p_listT, p_abs, p_min2, p_max2, p_min, p_max, p_all, p_any, p_isi, p_eqI, p_neI, isiD, isND, item0, intsOf_map, boolsOf_map, List.getElem?_cons_zero, List.getElem?_cons_succ, List.getElem?_nil, List.set_cons_zero, List.set_cons_succ, List.length_cons, List.length_nil, List.length_append, List.length_map, List.length_range, List.map_cons, List.map_nil, List.cons_append, List.nil_append, List.append_nil, List.replicate_succ, List.replicate_zero, List.take_succ_cons, List.take_zero, Option.map_some, Option.map_none, Option.bind_some, Option.bind_none, Option.getD_some, Option.toList, if_true, if_false, ite_true, ite_false, reduceIte, Bool.false_eq_true, Bool.true_eq_false, Bool.not_true, Bool.not_false, decide_true, decide_false, decide_eq_true_eq, Nat.reduceAdd, Nat.reduceSub, Nat.reduceLeDiff, Nat.zero_le, Int.cast_ofNat_Int, Nat.reduceEqDiff, Nat.reduceMul, Nat.reducePow, Int.reduceAdd, Int.reduceSub, Int.reduceMul, Int.reduceNeg, Int.reduceLT, Int.reduceEq, Int.reduceLE, Int.reduceToNat, Int.reduceDiv, Int.reduceMod, Int.reducePow, Nat.zero_add, eq_self, Nat.add_zero, Bool.and_true, Bool.true_and, Bool.and_self, implies_true, and_true, true_and, and_self, not_true_eq_false, not_false_eq_true, true_or, or_true, Function.comp, e1, e2, e3, e4, e5, fdivOk h0 hn, modOk h0]
theorem ok_choice (m : Nat) {a b : Int} (xs : List PyData) (hs : Src a b) (h0 : 0 < xs.length) (hn : xs.length < 4294967296) : ∃ a' b' x, Src a' b' ∧ x ∈ xs ∧ Ph (m + 2) "_law_choice" [.bor (srcD a b), .val (.list xs)] = some ⟨x, false, [.bor (srcD a' b'), .val (.list xs)]⟩ := by
  obtain ⟨a', b', r, h1, h2, h3, h4⟩ := ok_draw m (xs.length : Int) hs (by omega) (by omega)
  have hl : r.toNat < xs.length := by omega
  have hx : xs[r.toNat]? = some xs[r.toNat] := List.getElem?_eq_getElem hl
  refine ⟨a', b', xs[r.toNat], h1, List.getElem_mem _, ?_⟩
  rw [L__law_choice]
  simp only [i__law_choice, runF, execs, exec, ev, evs, evw, evc, eva, evI, evO, asB, varOf, viewR, borR, putB, putAll, isOB, bindT, setAll, setV_eq, setO_eq, wipeR_eq, wipeR, backR, frO_some, frB_no, frB_val, fwO_some, fwB_no, fwB_val, fwB_own, st_20, st_21, it_21, it_2, it_3, it_4, enc_it0, enc_it1, enc_it2, enc_it3, enc_it4, tie_eq_high, tie_eq_low, p_add, p_addT, p_addL, p_sub, p_neg, p_Lt, p_LtE, p_Gt, p_GtE, c_Lt, c_LtE, c_Gt, c_GtE, b_tf, b_tt, b_ff, b_ft, n_f, n_t, p_itemL, p_itemT, p_sl11L, p_sl11T, p_sl10L, p_sl10T, p_sl01L, p_sl01T, p_lenL, p_lenT, p_sumL, p_sumT, p_tupleL, p_tupleT, p_listL, p_listT, p_abs, p_min2, p_max2, p_min, p_max, p_all, p_any, p_isi, p_eqI, p_neI, isiD, isND, item0, intsOf_map, boolsOf_map, List.getElem?_cons_zero, List.getElem?_cons_succ, List.getElem?_nil, List.set_cons_zero, List.set_cons_succ, List.length_cons, List.length_nil, List.length_append, List.length_map, List.length_range, List.map_cons, List.map_nil, List.cons_append, List.nil_append, List.append_nil, List.replicate_succ, List.replicate_zero, List.take_succ_cons, List.take_zero, Option.map_some, Option.map_none, Option.bind_some, Option.bind_none, Option.getD_some, Option.toList, if_true, if_false, ite_true, ite_false, reduceIte, Bool.false_eq_true, Bool.true_eq_false, Bool.not_true, Bool.not_false, decide_true, decide_false, decide_eq_true_eq, Nat.reduceAdd, Nat.reduceSub, Nat.reduceLeDiff, Nat.zero_le, Int.cast_ofNat_Int, Nat.reduceEqDiff, Nat.reduceMul, Nat.reducePow, Int.reduceAdd, Int.reduceSub, Int.reduceMul, Int.reduceNeg, Int.reduceLT, Int.reduceEq, Int.reduceLE, Int.reduceToNat, Int.reduceDiv, Int.reduceMod, Int.reducePow, Nat.zero_add, eq_self, Nat.add_zero, Bool.and_true, Bool.true_and, Bool.and_self, implies_true, and_true, true_and, and_self, not_true_eq_false, not_false_eq_true, true_or, or_true, Function.comp, h4, item_at hx h2]
theorem ok_dither (m : Nat) {a b most : Int} (hs : Src a b) (h0 : 1 ≤ most) (hn : most ≤ 8) : ∃ a' b' d, Src a' b' ∧ Dit.Ok d ∧ d.top ≤ most ∧ Ph (m + 3) "_law_dither" [.bor (srcD a b), .val (.int most)] = some ⟨d.enc, false, [.bor (srcD a' b'), .val (.int most)]⟩ := by
  obtain ⟨a1, b1, r1, s1, p1, q1, e1⟩ := ok_draw (m + 1) most hs (by omega) (by omega)
  rw [L__law_dither]
  simp only [i__law_dither, runF, execs, exec, ev, evs, evw, evc, eva, evI, evO, asB, varOf, viewR, borR, putB, putAll, isOB, bindT, setAll, setV_eq, setO_eq, wipeR_eq, wipeR, backR, frO_some, frB_no, frB_val, fwO_some, fwB_no, fwB_val, fwB_own, st_20, st_21, it_21, it_2, it_3, it_4, enc_it0, enc_it1, enc_it2, enc_it3, enc_it4, tie_eq_high, tie_eq_low, p_add, p_addT, p_addL, p_sub, p_neg, p_Lt, p_LtE, p_Gt, p_GtE, c_Lt, c_LtE, c_Gt, c_GtE, b_tf, b_tt, b_ff, b_ft, n_f, n_t, p_itemL, p_itemT, p_sl11L, p_sl11T, p_sl10L, p_sl10T, p_sl01L, p_sl01T, p_lenL, p_lenT, p_sumL, p_sumT, p_tupleL, p_tupleT, p_listL, p_listT, p_abs, p_min2, p_max2, p_min, p_max, p_all, p_any, p_isi, p_eqI, p_neI, isiD, isND, item0, intsOf_map, boolsOf_map, List.getElem?_cons_zero, List.getElem?_cons_succ, List.getElem?_nil, List.set_cons_zero, List.set_cons_succ, List.length_cons, List.length_nil, List.length_append, List.length_map, List.length_range, List.map_cons, List.map_nil, List.cons_append, List.nil_append, List.append_nil, List.replicate_succ, List.replicate_zero, List.take_succ_cons, List.take_zero, Option.map_some, Option.map_none, Option.bind_some, Option.bind_none, Option.getD_some, Option.toList, if_true, if_false, ite_true, ite_false, reduceIte, Bool.false_eq_true, Bool.true_eq_false, Bool.not_true, Bool.not_false, decide_true, decide_false, decide_eq_true_eq, Nat.reduceAdd, Nat.reduceSub, Nat.reduceLeDiff, Nat.zero_le, Int.cast_ofNat_Int, Nat.reduceEqDiff, Nat.reduceMul, Nat.reducePow, Int.reduceAdd, Int.reduceSub, Int.reduceMul, Int.reduceNeg, Int.reduceLT, Int.reduceEq, Int.reduceLE, Int.reduceToNat, Int.reduceDiv, Int.reduceMod, Int.reducePow, Nat.zero_add, eq_self, Nat.add_zero, Bool.and_true, Bool.true_and, Bool.and_self, implies_true, and_true, true_and, and_self, not_true_eq_false, not_false_eq_true, true_or, or_true, Function.comp, e1, rngD]
  rw [if_pos (by omega)]
  simp only [runF, execs, exec, ev, evs, evw, evc, eva, evI, evO, asB, varOf, viewR, borR, putB, putAll, isOB, bindT, setAll, setV_eq, setO_eq, wipeR_eq, wipeR, backR, frO_some, frB_no, frB_val, fwO_some, fwB_no, fwB_val, fwB_own, st_20, st_21, it_21, it_2, it_3, it_4, enc_it0, enc_it1, enc_it2, enc_it3, enc_it4, tie_eq_high, tie_eq_low, p_add, p_addT, p_addL, p_sub, p_neg, p_Lt, p_LtE, p_Gt, p_GtE, c_Lt, c_LtE, c_Gt, c_GtE, b_tf, b_tt, b_ff, b_ft, n_f, n_t, p_itemL, p_itemT, p_sl11L, p_sl11T, p_sl10L, p_sl10T, p_sl01L, p_sl01T, p_lenL, p_lenT, p_sumL, p_sumT, p_tupleL, p_tupleT, p_listL, p_listT, p_abs, p_min2, p_max2, p_min, p_max, p_all, p_any, p_isi, p_eqI, p_neI, isiD, isND, item0, intsOf_map, boolsOf_map, List.getElem?_cons_zero, List.getElem?_cons_succ, List.getElem?_nil, List.set_cons_zero, List.set_cons_succ, List.length_cons, List.length_nil, List.length_append, List.length_map, List.length_range, List.map_cons, List.map_nil, List.cons_append, List.nil_append, List.append_nil, List.replicate_succ, List.replicate_zero, List.take_succ_cons, List.take_zero, Option.map_some, Option.map_none, Option.bind_some, Option.bind_none, Option.getD_some, Option.toList, if_true, if_false, ite_true, ite_false, reduceIte, Bool.false_eq_true, Bool.true_eq_false, Bool.not_true, Bool.not_false, decide_true, decide_false, decide_eq_true_eq, Nat.reduceAdd, Nat.reduceSub, Nat.reduceLeDiff, Nat.zero_le, Int.cast_ofNat_Int, Nat.reduceEqDiff, Nat.reduceMul, Nat.reducePow, Int.reduceAdd, Int.reduceSub, Int.reduceMul, Int.reduceNeg, Int.reduceLT, Int.reduceEq, Int.reduceLE, Int.reduceToNat, Int.reduceDiv, Int.reduceMod, Int.reducePow, Nat.zero_add, eq_self, Nat.add_zero, Bool.and_true, Bool.true_and, Bool.and_self, implies_true, and_true, true_and, and_self, not_true_eq_false, not_false_eq_true, true_or, or_true, Function.comp]
  rw [if_pos (by rw [rangeD_eq, List.length_map, List.length_map, List.length_range]; omega)]
  simp only [runF, execs, exec, ev, evs, evw, evc, eva, evI, evO, asB, varOf, viewR, borR, putB, putAll, isOB, bindT, setAll, setV_eq, setO_eq, wipeR_eq, wipeR, backR, frO_some, frB_no, frB_val, fwO_some, fwB_no, fwB_val, fwB_own, st_20, st_21, it_21, it_2, it_3, it_4, enc_it0, enc_it1, enc_it2, enc_it3, enc_it4, tie_eq_high, tie_eq_low, p_add, p_addT, p_addL, p_sub, p_neg, p_Lt, p_LtE, p_Gt, p_GtE, c_Lt, c_LtE, c_Gt, c_GtE, b_tf, b_tt, b_ff, b_ft, n_f, n_t, p_itemL, p_itemT, p_sl11L, p_sl11T, p_sl10L, p_sl10T, p_sl01L, p_sl01T, p_lenL, p_lenT, p_sumL, p_sumT, p_tupleL, p_tupleT, p_listL, p_listT, p_abs, p_min2, p_max2, p_min, p_max, p_all, p_any, p_isi, p_eqI, p_neI, isiD, isND, item0, intsOf_map, boolsOf_map, List.getElem?_cons_zero, List.getElem?_cons_succ, List.getElem?_nil, List.set_cons_zero, List.set_cons_succ, List.length_cons, List.length_nil, List.length_append, List.length_map, List.length_range, List.map_cons, List.map_nil, List.cons_append, List.nil_append, List.append_nil, List.replicate_succ, List.replicate_zero, List.take_succ_cons, List.take_zero, Option.map_some, Option.map_none, Option.bind_some, Option.bind_none, Option.getD_some, Option.toList, if_true, if_false, ite_true, ite_false, reduceIte, Bool.false_eq_true, Bool.true_eq_false, Bool.not_true, Bool.not_false, decide_true, decide_false, decide_eq_true_eq, Nat.reduceAdd, Nat.reduceSub, Nat.reduceLeDiff, Nat.zero_le, Int.cast_ofNat_Int, Nat.reduceEqDiff, Nat.reduceMul, Nat.reducePow, Int.reduceAdd, Int.reduceSub, Int.reduceMul, Int.reduceNeg, Int.reduceLT, Int.reduceEq, Int.reduceLE, Int.reduceToNat, Int.reduceDiv, Int.reduceMod, Int.reducePow, Nat.zero_add, eq_self, Nat.add_zero, Bool.and_true, Bool.true_and, Bool.and_self, implies_true, and_true, true_and, and_self, not_true_eq_false, not_false_eq_true, true_or, or_true, Function.comp]
  generalize hL : loopM _ _ _ = o
  obtain ⟨rs, ρ', rfl, ⟨a2, b2, s2, rfl⟩, ps, rfl, hsub, hP⟩ := loopM_inv' hL (fun ρ => ∃ a b, Src a b ∧ ρ = [.bor (srcD a b), .val (.int most), .val (.int (1 + r1)), .no, .no, .no, .no, .no, .no]) (fun x y => y = x) ⟨a1, b1, s1, rfl⟩ (by
    rintro d hd ρ ⟨a, b, hs, rfl⟩
    obtain ⟨a3, b3, r3, s3, p3, q3, e3⟩ := ok_draw (m + 1) 3 hs (by omega) (by omega)
    by_cases h : r3 = 0
    · refine ⟨some d, [.bor (srcD a3 b3), .val (.int most), .val (.int (1 + r1)), .no, .no, .no, .no, .no, .no], ?_, ⟨a3, b3, s3, rfl⟩, fun x hx => ?_⟩
      · subst h
        simp only [runF, execs, exec, ev, evs, evw, evc, eva, evI, evO, asB, varOf, viewR, borR, putB, putAll, isOB, bindT, setAll, setV_eq, setO_eq, wipeR_eq, wipeR, backR, frO_some, frB_no, frB_val, fwO_some, fwB_no, fwB_val, fwB_own, st_20, st_21, it_21, it_2, it_3, it_4, enc_it0, enc_it1, enc_it2, enc_it3, enc_it4, tie_eq_high, tie_eq_low, p_add, p_addT, p_addL, p_sub, p_neg, p_Lt, p_LtE, p_Gt, p_GtE, c_Lt, c_LtE, c_Gt, c_GtE, b_tf, b_tt, b_ff, b_ft, n_f, n_t, p_itemL, p_itemT, p_sl11L, p_sl11T, p_sl10L, p_sl10T, p_sl01L, p_sl01T, p_lenL, p_lenT, p_sumL, p_sumT, p_tupleL, p_tupleT, p_listL, p_listT, p_abs, p_min2, p_max2, p_min, p_max, p_all, p_any, p_isi, p_eqI, p_neI, isiD, isND, item0, intsOf_map, boolsOf_map, List.getElem?_cons_zero, List.getElem?_cons_succ, List.getElem?_nil, List.set_cons_zero, List.set_cons_succ, List.length_cons, List.length_nil, List.length_append, List.length_map, List.length_range, List.map_cons, List.map_nil, List.cons_append, List.nil_append, List.append_nil, List.replicate_succ, List.replicate_zero, List.take_succ_cons, List.take_zero, Option.map_some, Option.map_none, Option.bind_some, Option.bind_none, Option.getD_some, Option.toList, if_true, if_false, ite_true, ite_false, reduceIte, Bool.false_eq_true, Bool.true_eq_false, Bool.not_true, Bool.not_false, decide_true, decide_false, decide_eq_true_eq, Nat.reduceAdd, Nat.reduceSub, Nat.reduceLeDiff, Nat.zero_le, Int.cast_ofNat_Int, Nat.reduceEqDiff, Nat.reduceMul, Nat.reducePow, Int.reduceAdd, Int.reduceSub, Int.reduceMul, Int.reduceNeg, Int.reduceLT, Int.reduceEq, Int.reduceLE, Int.reduceToNat, Int.reduceDiv, Int.reduceMod, Int.reducePow, Nat.zero_add, eq_self, Nat.add_zero, Bool.and_true, Bool.true_and, Bool.and_self, implies_true, and_true, true_and, and_self, not_true_eq_false, not_false_eq_true, true_or, or_true, Function.comp, e3]
      · exact List.mem_singleton.mp (show x ∈ [d] from hx)
    · refine ⟨none, [.bor (srcD a3 b3), .val (.int most), .val (.int (1 + r1)), .no, .no, .no, .no, .no, .no], ?_, ⟨a3, b3, s3, rfl⟩, fun x hx => ?_⟩
      · simp only [runF, execs, exec, ev, evs, evw, evc, eva, evI, evO, asB, varOf, viewR, borR, putB, putAll, isOB, bindT, setAll, setV_eq, setO_eq, wipeR_eq, wipeR, backR, frO_some, frB_no, frB_val, fwO_some, fwB_no, fwB_val, fwB_own, st_20, st_21, it_21, it_2, it_3, it_4, enc_it0, enc_it1, enc_it2, enc_it3, enc_it4, tie_eq_high, tie_eq_low, p_add, p_addT, p_addL, p_sub, p_neg, p_Lt, p_LtE, p_Gt, p_GtE, c_Lt, c_LtE, c_Gt, c_GtE, b_tf, b_tt, b_ff, b_ft, n_f, n_t, p_itemL, p_itemT, p_sl11L, p_sl11T, p_sl10L, p_sl10T, p_sl01L, p_sl01T, p_lenL, p_lenT, p_sumL, p_sumT, p_tupleL, p_tupleT, p_listL, p_listT, p_abs, p_min2, p_max2, p_min, p_max, p_all, p_any, p_isi, p_eqI, p_neI, isiD, isND, item0, intsOf_map, boolsOf_map, List.getElem?_cons_zero, List.getElem?_cons_succ, List.getElem?_nil, List.set_cons_zero, List.set_cons_succ, List.length_cons, List.length_nil, List.length_append, List.length_map, List.length_range, List.map_cons, List.map_nil, List.cons_append, List.nil_append, List.append_nil, List.replicate_succ, List.replicate_zero, List.take_succ_cons, List.take_zero, Option.map_some, Option.map_none, Option.bind_some, Option.bind_none, Option.getD_some, Option.toList, if_true, if_false, ite_true, ite_false, reduceIte, Bool.false_eq_true, Bool.true_eq_false, Bool.not_true, Bool.not_false, decide_true, decide_false, decide_eq_true_eq, Nat.reduceAdd, Nat.reduceSub, Nat.reduceLeDiff, Nat.zero_le, Int.cast_ofNat_Int, Nat.reduceEqDiff, Nat.reduceMul, Nat.reducePow, Int.reduceAdd, Int.reduceSub, Int.reduceMul, Int.reduceNeg, Int.reduceLT, Int.reduceEq, Int.reduceLE, Int.reduceToNat, Int.reduceDiv, Int.reduceMod, Int.reducePow, Nat.zero_add, eq_self, Nat.add_zero, Bool.and_true, Bool.true_and, Bool.and_self, implies_true, and_true, true_and, and_self, not_true_eq_false, not_false_eq_true, true_or, or_true, Function.comp, e3, h]
      · cases hx)
  have hrs : ps.map (·.2) = ps.map (·.1) := List.map_congr_left fun p hp => hP p hp
  rw [hrs]
  rw [rangeD_eq] at hsub
  obtain ⟨ys, hy, hys⟩ := sub_map_int hsub
  rw [hy]
  have y1 : ys.Pairwise (· < ·) := (range_pair _ _).sublist hys
  have y2 : ∀ x ∈ ys, 1 ≤ x ∧ x < 1 + r1 := fun x hx => by
    have := range_mem (hys.subset hx)
    omega
  have ec : cutD (ys.map PyData.int) none (some 4) = (ys.take 4).map .int := by
    rw [List.map_take]
    exact cutD_take (j := 4)
  have y3 : (ys.take 4).Pairwise (· < ·) := y1.sublist (List.take_sublist _ _)
  have y4 : ∀ x ∈ ys.take 4, 1 ≤ x ∧ x < 1 + r1 := fun x hx => y2 x (List.mem_of_mem_take hx)
  have y5 : (ys.take 4).length ≤ 4 := List.length_take_le _ _
  generalize ys.take 4 = zs at *
  obtain ⟨a3, b3, r3, s3, p3, q3, e3⟩ := ok_draw (m + 1) 8 s2 (by omega) (by omega)
  obtain ⟨a4, b4, r4, s4, p4, q4, e4⟩ := ok_draw (m + 1) (1 + r3 + 1) s3 (by omega) (by omega)
  obtain ⟨a5, b5, r5, s5, p5, q5, e5⟩ := ok_draw (m + 1) (1 + r3 - r4 + 1) s4 (by omega) (by omega)
  obtain ⟨a6, b6, x6, s6, m6, e6⟩ := ok_choice m [.tuple [.int (1 + r3)], .tuple [.int r4], .tuple [.int r4, .int (1 + r3 - r4)], .tuple [.int r4, .int r5]] s5 (by simp) (by simp)
  obtain ⟨a7, b7, x7, s7, m7, e7⟩ := ok_choice m [.str "low", .str "high"] s6 (by decide) (by decide)
  simp only [runF, execs, exec, ev, evs, evw, evc, eva, evI, evO, asB, varOf, viewR, borR, putB, putAll, isOB, bindT, setAll, setV_eq, setO_eq, wipeR_eq, wipeR, backR, frO_some, frB_no, frB_val, fwO_some, fwB_no, fwB_val, fwB_own, st_20, st_21, it_21, it_2, it_3, it_4, enc_it0, enc_it1, enc_it2, enc_it3, enc_it4, tie_eq_high, tie_eq_low, p_add, p_addT, p_addL, p_sub, p_neg, p_Lt, p_LtE, p_Gt, p_GtE, c_Lt, c_LtE, c_Gt, c_GtE, b_tf, b_tt, b_ff, b_ft, n_f, n_t, p_itemL, p_itemT, p_sl11L, p_sl11T, p_sl10L, p_sl10T, p_sl01L, p_sl01T, p_lenL, p_lenT, p_sumL, p_sumT, p_tupleL, p_tupleT, p_listL, p_listT, p_abs, p_min2, p_max2, p_min, p_max, p_all, p_any, p_isi, p_eqI, p_neI, isiD, isND, item0, intsOf_map, boolsOf_map, List.getElem?_cons_zero, List.getElem?_cons_succ, List.getElem?_nil, List.set_cons_zero, List.set_cons_succ, List.length_cons, List.length_nil, List.length_append, List.length_map, List.length_range, List.map_cons, List.map_nil, List.cons_append, List.nil_append, List.append_nil, List.replicate_succ, List.replicate_zero, List.take_succ_cons, List.take_zero, Option.map_some, Option.map_none, Option.bind_some, Option.bind_none, Option.getD_some, Option.toList, if_true, if_false, ite_true, ite_false, reduceIte, Bool.false_eq_true, Bool.true_eq_false, Bool.not_true, Bool.not_false, decide_true, decide_false, decide_eq_true_eq, Nat.reduceAdd, Nat.reduceSub, Nat.reduceLeDiff, Nat.zero_le, Int.cast_ofNat_Int, Nat.reduceEqDiff, Nat.reduceMul, Nat.reducePow, Int.reduceAdd, Int.reduceSub, Int.reduceMul, Int.reduceNeg, Int.reduceLT, Int.reduceEq, Int.reduceLE, Int.reduceToNat, Int.reduceDiv, Int.reduceMod, Int.reducePow, Nat.zero_add, eq_self, Nat.add_zero, Bool.and_true, Bool.true_and, Bool.and_self, implies_true, and_true, true_and, and_self, not_true_eq_false, not_false_eq_true, true_or, or_true, Function.comp, ec, e3, e4, e5, e6, e7]
  have h6 : ∃ sh : List Int, x6 = .tuple (sh.map .int) ∧ 1 ≤ sh.length ∧ sh.length ≤ 2 ∧ (∀ s ∈ sh, 0 ≤ s ∧ s ≤ 1 + r3) ∧ sh.sum ≤ 1 + r3 := by
    simp only [List.mem_cons, List.not_mem_nil, or_false] at m6
    rcases m6 with rfl | rfl | rfl | rfl
    · exact ⟨[1 + r3], rfl, by simp, by simp, by simp; omega, by simp⟩
    · exact ⟨[r4], rfl, by simp, by simp, by simp; omega, by simp; omega⟩
    · exact ⟨[r4, 1 + r3 - r4], rfl, by simp, by simp, by simp; omega, by simp; omega⟩
    · exact ⟨[r4, r5], rfl, by simp, by simp, by simp; omega, by simp; omega⟩
  have h7 : ∃ hi : Bool, x7 = .str (tieS hi) := by
    simp only [List.mem_cons, List.not_mem_nil, or_false] at m7
    rcases m7 with rfl | rfl
    · exact ⟨false, rfl⟩
    · exact ⟨true, rfl⟩
  obtain ⟨sh, rfl, z1, z2, z3, z4⟩ := h6
  obtain ⟨hi, rfl⟩ := h7
  refine ⟨a7, b7, ⟨1 + r1, 0 :: (zs ++ [1 + r1]), sh, 1 + r3, hi⟩, s7, ⟨by show 1 ≤ 1 + r1; omega, by show 1 + r1 ≤ 8; omega, by show 1 ≤ 1 + r3; omega, by show 1 + r3 ≤ 8; omega, by simp, by simp; omega, inner_ok (by omega) y3 y4, rfl, ?_, z1, z2, z3, z4⟩, by show 1 + r1 ≤ most; omega, ?_⟩
  · show (0 :: (zs ++ [1 + r1])).getLast? = _
    rw [List.getLast?_cons, List.getLast?_append]
    simp
  · rw [if_pos (by omega)]
    simp only [runF, execs, exec, ev, evs, evw, evc, eva, evI, evO, asB, varOf, viewR, borR, putB, putAll, isOB, bindT, setAll, setV_eq, setO_eq, wipeR_eq, wipeR, backR, frO_some, frB_no, frB_val, fwO_some, fwB_no, fwB_val, fwB_own, st_20, st_21, it_21, it_2, it_3, it_4, enc_it0, enc_it1, enc_it2, enc_it3, enc_it4, tie_eq_high, tie_eq_low, p_add, p_addT, p_addL, p_sub, p_neg, p_Lt, p_LtE, p_Gt, p_GtE, c_Lt, c_LtE, c_Gt, c_GtE, b_tf, b_tt, b_ff, b_ft, n_f, n_t, p_itemL, p_itemT, p_sl11L, p_sl11T, p_sl10L, p_sl10T, p_sl01L, p_sl01T, p_lenL, p_lenT, p_sumL, p_sumT, p_tupleL, p_tupleT, p_listL, p_listT, p_abs, p_min2, p_max2, p_min, p_max, p_all, p_any, p_isi, p_eqI, p_neI, isiD, isND, item0, intsOf_map, boolsOf_map, List.getElem?_cons_zero, List.getElem?_cons_succ, List.getElem?_nil, List.set_cons_zero, List.set_cons_succ, List.length_cons, List.length_nil, List.length_append, List.length_map, List.length_range, List.map_cons, List.map_nil, List.cons_append, List.nil_append, List.append_nil, List.replicate_succ, List.replicate_zero, List.take_succ_cons, List.take_zero, Option.map_some, Option.map_none, Option.bind_some, Option.bind_none, Option.getD_some, Option.toList, if_true, if_false, ite_true, ite_false, reduceIte, Bool.false_eq_true, Bool.true_eq_false, Bool.not_true, Bool.not_false, decide_true, decide_false, decide_eq_true_eq, Nat.reduceAdd, Nat.reduceSub, Nat.reduceLeDiff, Nat.zero_le, Int.cast_ofNat_Int, Nat.reduceEqDiff, Nat.reduceMul, Nat.reducePow, Int.reduceAdd, Int.reduceSub, Int.reduceMul, Int.reduceNeg, Int.reduceLT, Int.reduceEq, Int.reduceLE, Int.reduceToNat, Int.reduceDiv, Int.reduceMod, Int.reducePow, Nat.zero_add, eq_self, Nat.add_zero, Bool.and_true, Bool.true_and, Bool.and_self, implies_true, and_true, true_and, and_self, not_true_eq_false, not_false_eq_true, true_or, or_true, Function.comp, e3, e4, e5, e6, e7]
    rw [if_pos (by omega)]
    simp only [runF, execs, exec, ev, evs, evw, evc, eva, evI, evO, asB, varOf, viewR, borR, putB, putAll, isOB, bindT, setAll, setV_eq, setO_eq, wipeR_eq, wipeR, backR, frO_some, frB_no, frB_val, fwO_some, fwB_no, fwB_val, fwB_own, st_20, st_21, it_21, it_2, it_3, it_4, enc_it0, enc_it1, enc_it2, enc_it3, enc_it4, tie_eq_high, tie_eq_low, p_add, p_addT, p_addL, p_sub, p_neg, p_Lt, p_LtE, p_Gt, p_GtE, c_Lt, c_LtE, c_Gt, c_GtE, b_tf, b_tt, b_ff, b_ft, n_f, n_t, p_itemL, p_itemT, p_sl11L, p_sl11T, p_sl10L, p_sl10T, p_sl01L, p_sl01T, p_lenL, p_lenT, p_sumL, p_sumT, p_tupleL, p_tupleT, p_listL, p_listT, p_abs, p_min2, p_max2, p_min, p_max, p_all, p_any, p_isi, p_eqI, p_neI, isiD, isND, item0, intsOf_map, boolsOf_map, List.getElem?_cons_zero, List.getElem?_cons_succ, List.getElem?_nil, List.set_cons_zero, List.set_cons_succ, List.length_cons, List.length_nil, List.length_append, List.length_map, List.length_range, List.map_cons, List.map_nil, List.cons_append, List.nil_append, List.append_nil, List.replicate_succ, List.replicate_zero, List.take_succ_cons, List.take_zero, Option.map_some, Option.map_none, Option.bind_some, Option.bind_none, Option.getD_some, Option.toList, if_true, if_false, ite_true, ite_false, reduceIte, Bool.false_eq_true, Bool.true_eq_false, Bool.not_true, Bool.not_false, decide_true, decide_false, decide_eq_true_eq, Nat.reduceAdd, Nat.reduceSub, Nat.reduceLeDiff, Nat.zero_le, Int.cast_ofNat_Int, Nat.reduceEqDiff, Nat.reduceMul, Nat.reducePow, Int.reduceAdd, Int.reduceSub, Int.reduceMul, Int.reduceNeg, Int.reduceLT, Int.reduceEq, Int.reduceLE, Int.reduceToNat, Int.reduceDiv, Int.reduceMod, Int.reducePow, Nat.zero_add, eq_self, Nat.add_zero, Bool.and_true, Bool.true_and, Bool.and_self, implies_true, and_true, true_and, and_self, not_true_eq_false, not_false_eq_true, true_or, or_true, Function.comp, e3, e4, e5, e6, e7, Dit.enc, List.map_append]
theorem ok_source (m : Nat) (ns : List Int) {k : Int} (h0 : 0 ≤ k) (hk : k < 1000) : ∃ a b, Src a b ∧ Ph (m + 1) "_law_source" [.scr ns, .val (.int k)] = some ⟨srcD a b, true, [.scr ns, .val (.int k)]⟩ := by
  rw [L__law_source]
  have lk : k.natAbs.log2 < 32 := log2_b (by omega) (by omega)
  have c0 : prD .pow [.int 10, .int 18] = some (.int 1000000000000000000) := by rfl
  by_cases h : k < (ns.length : Int)
  · have hl : k.toNat < ns.length := by omega
    have hx : (ns.map PyData.int)[k.toNat]? = some (.int ns[k.toNat]) := by rw [List.getElem?_map, List.getElem?_eq_getElem hl]; rfl
    have hc := absI_nonneg ns[k.toNat]
    by_cases h2 : absI ns[k.toNat] < 1000000000000000000
    · have lc : (absI ns[k.toNat]).natAbs.log2 < 64 := log2_c (by omega) (by omega)
      have e1 : prD .mul [.int (absI ns[k.toNat]), .int 7919] = some (.int (absI ns[k.toNat] * 7919)) := mulOk (by omega) (by decide)
      have e2 : prD .mul [.int 104729, .int k] = some (.int (104729 * k)) := mulOk (by decide) (by omega)
      have e3 : prD .mod [.int (absI ns[k.toNat] * 7919 + 104729 * k), .int 2147483646] = some (.int ((absI ns[k.toNat] * 7919 + 104729 * k) % 2147483646)) := modOk (by decide)
      refine ⟨0, 1 + (absI ns[k.toNat] * 7919 + 104729 * k) % 2147483646, ⟨by omega, by omega, by omega⟩, ?_⟩
      simp only [i__law_source, runF, execs, exec, ev, evs, evw, evc, eva, evI, evO, asB, varOf, viewR, borR, putB, putAll, isOB, bindT, setAll, setV_eq, setO_eq, wipeR_eq, wipeR, backR, frO_some, frB_no, frB_val, fwO_some, fwB_no, fwB_val, fwB_own, st_20, st_21, it_21, it_2, it_3, it_4, enc_it0, enc_it1, enc_it2, enc_it3, enc_it4, tie_eq_high, tie_eq_low, p_add, p_addT, p_addL, p_sub, p_neg, p_Lt, p_LtE, p_Gt, p_GtE, c_Lt, c_LtE, c_Gt, c_GtE, b_tf, b_tt, b_ff, b_ft, n_f, n_t, p_itemL, p_itemT, p_sl11L, p_sl11T, p_sl10L, p_sl10T, p_sl01L, p_sl01T, p_lenL, p_lenT, p_sumL, p_sumT, p_tupleL, p_tupleT, p_listL, p_listT, p_abs, p_min2, p_max2, p_min, p_max, p_all, p_any, p_isi, p_eqI, p_neI, isiD, isND, item0, intsOf_map, boolsOf_map, List.getElem?_cons_zero, List.getElem?_cons_succ, List.getElem?_nil, List.set_cons_zero, List.set_cons_succ, List.length_cons, List.length_nil, List.length_append, List.length_map, List.length_range, List.map_cons, List.map_nil, List.cons_append, List.nil_append, List.append_nil, List.replicate_succ, List.replicate_zero, List.take_succ_cons, List.take_zero, Option.map_some, Option.map_none, Option.bind_some, Option.bind_none, Option.getD_some, Option.toList, if_true, if_false, ite_true, ite_false, reduceIte, Bool.false_eq_true, Bool.true_eq_false, Bool.not_true, Bool.not_false, decide_true, decide_false, decide_eq_true_eq, Nat.reduceAdd, Nat.reduceSub, Nat.reduceLeDiff, Nat.zero_le, Int.cast_ofNat_Int, Nat.reduceEqDiff, Nat.reduceMul, Nat.reducePow, Int.reduceAdd, Int.reduceSub, Int.reduceMul, Int.reduceNeg, Int.reduceLT, Int.reduceEq, Int.reduceLE, Int.reduceToNat, Int.reduceDiv, Int.reduceMod, Int.reducePow, Nat.zero_add, eq_self, Nat.add_zero, Bool.and_true, Bool.true_and, Bool.and_self, implies_true, and_true, true_and, and_self, not_true_eq_false, not_false_eq_true, true_or, or_true, Function.comp, h, item_at hx h0, c0, h2, e1, e2, e3]
    · have e3 : prD .mod [.int (absI ns[k.toNat] + k), .int 2147483646] = some (.int ((absI ns[k.toNat] + k) % 2147483646)) := modOk (by decide)
      refine ⟨absI ns[k.toNat], 1 + (absI ns[k.toNat] + k) % 2147483646, ⟨hc, by omega, by omega⟩, ?_⟩
      simp only [i__law_source, runF, execs, exec, ev, evs, evw, evc, eva, evI, evO, asB, varOf, viewR, borR, putB, putAll, isOB, bindT, setAll, setV_eq, setO_eq, wipeR_eq, wipeR, backR, frO_some, frB_no, frB_val, fwO_some, fwB_no, fwB_val, fwB_own, st_20, st_21, it_21, it_2, it_3, it_4, enc_it0, enc_it1, enc_it2, enc_it3, enc_it4, tie_eq_high, tie_eq_low, p_add, p_addT, p_addL, p_sub, p_neg, p_Lt, p_LtE, p_Gt, p_GtE, c_Lt, c_LtE, c_Gt, c_GtE, b_tf, b_tt, b_ff, b_ft, n_f, n_t, p_itemL, p_itemT, p_sl11L, p_sl11T, p_sl10L, p_sl10T, p_sl01L, p_sl01T, p_lenL, p_lenT, p_sumL, p_sumT, p_tupleL, p_tupleT, p_listL, p_listT, p_abs, p_min2, p_max2, p_min, p_max, p_all, p_any, p_isi, p_eqI, p_neI, isiD, isND, item0, intsOf_map, boolsOf_map, List.getElem?_cons_zero, List.getElem?_cons_succ, List.getElem?_nil, List.set_cons_zero, List.set_cons_succ, List.length_cons, List.length_nil, List.length_append, List.length_map, List.length_range, List.map_cons, List.map_nil, List.cons_append, List.nil_append, List.append_nil, List.replicate_succ, List.replicate_zero, List.take_succ_cons, List.take_zero, Option.map_some, Option.map_none, Option.bind_some, Option.bind_none, Option.getD_some, Option.toList, if_true, if_false, ite_true, ite_false, reduceIte, Bool.false_eq_true, Bool.true_eq_false, Bool.not_true, Bool.not_false, decide_true, decide_false, decide_eq_true_eq, Nat.reduceAdd, Nat.reduceSub, Nat.reduceLeDiff, Nat.zero_le, Int.cast_ofNat_Int, Nat.reduceEqDiff, Nat.reduceMul, Nat.reducePow, Int.reduceAdd, Int.reduceSub, Int.reduceMul, Int.reduceNeg, Int.reduceLT, Int.reduceEq, Int.reduceLE, Int.reduceToNat, Int.reduceDiv, Int.reduceMod, Int.reducePow, Nat.zero_add, eq_self, Nat.add_zero, Bool.and_true, Bool.true_and, Bool.and_self, implies_true, and_true, true_and, and_self, not_true_eq_false, not_false_eq_true, true_or, or_true, Function.comp, h, item_at hx h0, c0, h2, e3]
  · have e1 : prD .mul [.int 0, .int 7919] = some (.int 0) := by rfl
    have e2 : prD .mul [.int 104729, .int k] = some (.int (104729 * k)) := mulOk (by decide) (by omega)
    have e3 : prD .mod [.int (0 + 104729 * k), .int 2147483646] = some (.int ((0 + 104729 * k) % 2147483646)) := modOk (by decide)
    refine ⟨0, 1 + (0 + 104729 * k) % 2147483646, ⟨by omega, by omega, by omega⟩, ?_⟩
    simp only [i__law_source, runF, execs, exec, ev, evs, evw, evc, eva, evI, evO, asB, varOf, viewR, borR, putB, putAll, isOB, bindT, setAll, setV_eq, setO_eq, wipeR_eq, wipeR, backR, frO_some, frB_no, frB_val, fwO_some, fwB_no, fwB_val, fwB_own, st_20, st_21, it_21, it_2, it_3, it_4, enc_it0, enc_it1, enc_it2, enc_it3, enc_it4, tie_eq_high, tie_eq_low, p_add, p_addT, p_addL, p_sub, p_neg, p_Lt, p_LtE, p_Gt, p_GtE, c_Lt, c_LtE, c_Gt, c_GtE, b_tf, b_tt, b_ff, b_ft, n_f, n_t, p_itemL, p_itemT, p_sl11L, p_sl11T, p_sl10L, p_sl10T, p_sl01L, p_sl01T, p_lenL, p_lenT, p_sumL, p_sumT, p_tupleL, p_tupleT, p_listL, p_listT, p_abs, p_min2, p_max2, p_min, p_max, p_all, p_any, p_isi, p_eqI, p_neI, isiD, isND, item0, intsOf_map, boolsOf_map, List.getElem?_cons_zero, List.getElem?_cons_succ, List.getElem?_nil, List.set_cons_zero, List.set_cons_succ, List.length_cons, List.length_nil, List.length_append, List.length_map, List.length_range, List.map_cons, List.map_nil, List.cons_append, List.nil_append, List.append_nil, List.replicate_succ, List.replicate_zero, List.take_succ_cons, List.take_zero, Option.map_some, Option.map_none, Option.bind_some, Option.bind_none, Option.getD_some, Option.toList, if_true, if_false, ite_true, ite_false, reduceIte, Bool.false_eq_true, Bool.true_eq_false, Bool.not_true, Bool.not_false, decide_true, decide_false, decide_eq_true_eq, Nat.reduceAdd, Nat.reduceSub, Nat.reduceLeDiff, Nat.zero_le, Int.cast_ofNat_Int, Nat.reduceEqDiff, Nat.reduceMul, Nat.reducePow, Int.reduceAdd, Int.reduceSub, Int.reduceMul, Int.reduceNeg, Int.reduceLT, Int.reduceEq, Int.reduceLE, Int.reduceToNat, Int.reduceDiv, Int.reduceMod, Int.reducePow, Nat.zero_add, eq_self, Nat.add_zero, Bool.and_true, Bool.true_and, Bool.and_self, implies_true, and_true, true_and, and_self, not_true_eq_false, not_false_eq_true, true_or, or_true, Function.comp, h, c0, e1, e2, e3]
theorem ok_between (m : Nat) (v l h : Int) : Ph (m + 1) "is_between" [.val (.int v), .val (.int l), .val (.int h)] = some ⟨.bool (decide (l ≤ v) && decide (v ≤ h)), false, [.val (.int v), .val (.int l), .val (.int h)]⟩ := by
  rw [L_is_between]
  by_cases h1 : l ≤ v
  · simp only [i_is_between, runF, execs, exec, ev, evs, evw, evc, eva, evI, evO, asB, varOf, viewR, borR, putB, putAll, isOB, bindT, setAll, setV_eq, setO_eq, wipeR_eq, wipeR, backR, frO_some, frB_no, frB_val, fwO_some, fwB_no, fwB_val, fwB_own, st_20, st_21, it_21, it_2, it_3, it_4, enc_it0, enc_it1, enc_it2, enc_it3, enc_it4, tie_eq_high, tie_eq_low, p_add, p_addT, p_addL, p_sub, p_neg, p_Lt, p_LtE, p_Gt, p_GtE, c_Lt, c_LtE, c_Gt, c_GtE, b_tf, b_tt, b_ff, b_ft, n_f, n_t, p_itemL, p_itemT, p_sl11L, p_sl11T, p_sl10L, p_sl10T, p_sl01L, p_sl01T, p_lenL, p_lenT, p_sumL, p_sumT, p_tupleL, p_tupleT, p_listL, p_listT, p_abs, p_min2, p_max2, p_min, p_max, p_all, p_any, p_isi, p_eqI, p_neI, isiD, isND, item0, intsOf_map, boolsOf_map, List.getElem?_cons_zero, List.getElem?_cons_succ, List.getElem?_nil, List.set_cons_zero, List.set_cons_succ, List.length_cons, List.length_nil, List.length_append, List.length_map, List.length_range, List.map_cons, List.map_nil, List.cons_append, List.nil_append, List.append_nil, List.replicate_succ, List.replicate_zero, List.take_succ_cons, List.take_zero, Option.map_some, Option.map_none, Option.bind_some, Option.bind_none, Option.getD_some, Option.toList, if_true, if_false, ite_true, ite_false, reduceIte, Bool.false_eq_true, Bool.true_eq_false, Bool.not_true, Bool.not_false, decide_true, decide_false, decide_eq_true_eq, Nat.reduceAdd, Nat.reduceSub, Nat.reduceLeDiff, Nat.zero_le, Int.cast_ofNat_Int, Nat.reduceEqDiff, Nat.reduceMul, Nat.reducePow, Int.reduceAdd, Int.reduceSub, Int.reduceMul, Int.reduceNeg, Int.reduceLT, Int.reduceEq, Int.reduceLE, Int.reduceToNat, Int.reduceDiv, Int.reduceMod, Int.reducePow, Nat.zero_add, eq_self, Nat.add_zero, Bool.and_true, Bool.true_and, Bool.and_self, implies_true, and_true, true_and, and_self, not_true_eq_false, not_false_eq_true, true_or, or_true, Function.comp, h1]
  · simp only [i_is_between, runF, execs, exec, ev, evs, evw, evc, eva, evI, evO, asB, varOf, viewR, borR, putB, putAll, isOB, bindT, setAll, setV_eq, setO_eq, wipeR_eq, wipeR, backR, frO_some, frB_no, frB_val, fwO_some, fwB_no, fwB_val, fwB_own, st_20, st_21, it_21, it_2, it_3, it_4, enc_it0, enc_it1, enc_it2, enc_it3, enc_it4, tie_eq_high, tie_eq_low, p_add, p_addT, p_addL, p_sub, p_neg, p_Lt, p_LtE, p_Gt, p_GtE, c_Lt, c_LtE, c_Gt, c_GtE, b_tf, b_tt, b_ff, b_ft, n_f, n_t, p_itemL, p_itemT, p_sl11L, p_sl11T, p_sl10L, p_sl10T, p_sl01L, p_sl01T, p_lenL, p_lenT, p_sumL, p_sumT, p_tupleL, p_tupleT, p_listL, p_listT, p_abs, p_min2, p_max2, p_min, p_max, p_all, p_any, p_isi, p_eqI, p_neI, isiD, isND, item0, intsOf_map, boolsOf_map, List.getElem?_cons_zero, List.getElem?_cons_succ, List.getElem?_nil, List.set_cons_zero, List.set_cons_succ, List.length_cons, List.length_nil, List.length_append, List.length_map, List.length_range, List.map_cons, List.map_nil, List.cons_append, List.nil_append, List.append_nil, List.replicate_succ, List.replicate_zero, List.take_succ_cons, List.take_zero, Option.map_some, Option.map_none, Option.bind_some, Option.bind_none, Option.getD_some, Option.toList, if_true, if_false, ite_true, ite_false, reduceIte, Bool.false_eq_true, Bool.true_eq_false, Bool.not_true, Bool.not_false, decide_true, decide_false, decide_eq_true_eq, Nat.reduceAdd, Nat.reduceSub, Nat.reduceLeDiff, Nat.zero_le, Int.cast_ofNat_Int, Nat.reduceEqDiff, Nat.reduceMul, Nat.reducePow, Int.reduceAdd, Int.reduceSub, Int.reduceMul, Int.reduceNeg, Int.reduceLT, Int.reduceEq, Int.reduceLE, Int.reduceToNat, Int.reduceDiv, Int.reduceMod, Int.reducePow, Nat.zero_add, eq_self, Nat.add_zero, Bool.and_true, Bool.true_and, Bool.and_self, implies_true, and_true, true_and, and_self, not_true_eq_false, not_false_eq_true, true_or, or_true, Function.comp, h1, Bool.false_and]
theorem ok_levels (m : Nat) (d : Dit) (h : d.Ok) : Ph (m + 2) "are_levels" [.val (.tuple (d.lv.map .int)), .val (.int d.top)] = some ⟨.bool true, false, [.val (.tuple (d.lv.map .int)), .val (.int d.top)]⟩ := by
  rw [L_are_levels]
  have h2 := h.l2
  have h6 := h.l6
  have hb := h.lvb
  obtain ⟨r, hr, hr1⟩ := h.lvc
  have hlast : L2.atI (d.lv.map PyData.int) (-1) = some (.int d.top) := item_neg (by rw [List.getLast?_map, h.lst]; rfl)
  have hfirst : L2.atI (d.lv.map PyData.int) 0 = some (.int 0) := by rw [hr]; exact item0
  have c1 : (2 : Int) ≤ (d.lv.length : Int) := by omega
  have c2 : (d.lv.length : Int) ≤ 6 := by omega
  have c3 : d.lv.length ≤ 16777216 := by omega
  simp only [i_are_levels, runF, execs, exec, ev, evs, evw, evc, eva, evI, evO, asB, varOf, viewR, borR, putB, putAll, isOB, bindT, setAll, setV_eq, setO_eq, wipeR_eq, wipeR, backR, frO_some, frB_no, frB_val, fwO_some, fwB_no, fwB_val, fwB_own, st_20, st_21, it_21, it_2, it_3, it_4, enc_it0, enc_it1, enc_it2, enc_it3, enc_it4, tie_eq_high, tie_eq_low, p_add, p_addT, p_addL, p_sub, p_neg, p_Lt, p_LtE, p_Gt, p_GtE, c_Lt, c_LtE, c_Gt, c_GtE, b_tf, b_tt, b_ff, b_ft, n_f, n_t, p_itemL, p_itemT, p_sl11L, p_sl11T, p_sl10L, p_sl10T, p_sl01L, p_sl01T, p_lenL, p_lenT, p_sumL, p_sumT, p_tupleL, p_tupleT, p_listL, p_listT, p_abs, p_min2, p_max2, p_min, p_max, p_all, p_any, p_isi, p_eqI, p_neI, isiD, isND, item0, intsOf_map, boolsOf_map, List.getElem?_cons_zero, List.getElem?_cons_succ, List.getElem?_nil, List.set_cons_zero, List.set_cons_succ, List.length_cons, List.length_nil, List.length_append, List.length_map, List.length_range, List.map_cons, List.map_nil, List.cons_append, List.nil_append, List.append_nil, List.replicate_succ, List.replicate_zero, List.take_succ_cons, List.take_zero, Option.map_some, Option.map_none, Option.bind_some, Option.bind_none, Option.getD_some, Option.toList, if_true, if_false, ite_true, ite_false, reduceIte, Bool.false_eq_true, Bool.true_eq_false, Bool.not_true, Bool.not_false, decide_true, decide_false, decide_eq_true_eq, Nat.reduceAdd, Nat.reduceSub, Nat.reduceLeDiff, Nat.zero_le, Int.cast_ofNat_Int, Nat.reduceEqDiff, Nat.reduceMul, Nat.reducePow, Int.reduceAdd, Int.reduceSub, Int.reduceMul, Int.reduceNeg, Int.reduceLT, Int.reduceEq, Int.reduceLE, Int.reduceToNat, Int.reduceDiv, Int.reduceMod, Int.reducePow, Nat.zero_add, eq_self, Nat.add_zero, Bool.and_true, Bool.true_and, Bool.and_self, implies_true, and_true, true_and, and_self, not_true_eq_false, not_false_eq_true, true_or, or_true, Function.comp, c1, c2, c3]
  generalize hL : loopM _ _ _ = o
  have ho := loopM_enc PyData.int hL (fun x => .bool true) (fun x hx => by
    have := hb x hx
    have b := ok_between m x 0 d.top
    simp only [decide_eq_true this.1, decide_eq_true this.2, Bool.and_self] at b
    simp only [runF, execs, exec, ev, evs, evw, evc, eva, evI, evO, asB, varOf, viewR, borR, putB, putAll, isOB, bindT, setAll, setV_eq, setO_eq, wipeR_eq, wipeR, backR, frO_some, frB_no, frB_val, fwO_some, fwB_no, fwB_val, fwB_own, st_20, st_21, it_21, it_2, it_3, it_4, enc_it0, enc_it1, enc_it2, enc_it3, enc_it4, tie_eq_high, tie_eq_low, p_add, p_addT, p_addL, p_sub, p_neg, p_Lt, p_LtE, p_Gt, p_GtE, c_Lt, c_LtE, c_Gt, c_GtE, b_tf, b_tt, b_ff, b_ft, n_f, n_t, p_itemL, p_itemT, p_sl11L, p_sl11T, p_sl10L, p_sl10T, p_sl01L, p_sl01T, p_lenL, p_lenT, p_sumL, p_sumT, p_tupleL, p_tupleT, p_listL, p_listT, p_abs, p_min2, p_max2, p_min, p_max, p_all, p_any, p_isi, p_eqI, p_neI, isiD, isND, item0, intsOf_map, boolsOf_map, List.getElem?_cons_zero, List.getElem?_cons_succ, List.getElem?_nil, List.set_cons_zero, List.set_cons_succ, List.length_cons, List.length_nil, List.length_append, List.length_map, List.length_range, List.map_cons, List.map_nil, List.cons_append, List.nil_append, List.append_nil, List.replicate_succ, List.replicate_zero, List.take_succ_cons, List.take_zero, Option.map_some, Option.map_none, Option.bind_some, Option.bind_none, Option.getD_some, Option.toList, if_true, if_false, ite_true, ite_false, reduceIte, Bool.false_eq_true, Bool.true_eq_false, Bool.not_true, Bool.not_false, decide_true, decide_false, decide_eq_true_eq, Nat.reduceAdd, Nat.reduceSub, Nat.reduceLeDiff, Nat.zero_le, Int.cast_ofNat_Int, Nat.reduceEqDiff, Nat.reduceMul, Nat.reducePow, Int.reduceAdd, Int.reduceSub, Int.reduceMul, Int.reduceNeg, Int.reduceLT, Int.reduceEq, Int.reduceLE, Int.reduceToNat, Int.reduceDiv, Int.reduceMod, Int.reducePow, Nat.zero_add, eq_self, Nat.add_zero, Bool.and_true, Bool.true_and, Bool.and_self, implies_true, and_true, true_and, and_self, not_true_eq_false, not_false_eq_true, true_or, or_true, Function.comp, b])
  subst ho
  have ea : ((d.lv.map fun x => PyData.bool true).map fun x => x) = (List.replicate d.lv.length true).map .bool := by
    rw [List.map_id', List.map_replicate, ← List.map_const']
  rw [List.map_id'] at ea
  have eall : (List.replicate d.lv.length true).all id = true := by simp
  simp only [runF, execs, exec, ev, evs, evw, evc, eva, evI, evO, asB, varOf, viewR, borR, putB, putAll, isOB, bindT, setAll, setV_eq, setO_eq, wipeR_eq, wipeR, backR, frO_some, frB_no, frB_val, fwO_some, fwB_no, fwB_val, fwB_own, st_20, st_21, it_21, it_2, it_3, it_4, enc_it0, enc_it1, enc_it2, enc_it3, enc_it4, tie_eq_high, tie_eq_low, p_add, p_addT, p_addL, p_sub, p_neg, p_Lt, p_LtE, p_Gt, p_GtE, c_Lt, c_LtE, c_Gt, c_GtE, b_tf, b_tt, b_ff, b_ft, n_f, n_t, p_itemL, p_itemT, p_sl11L, p_sl11T, p_sl10L, p_sl10T, p_sl01L, p_sl01T, p_lenL, p_lenT, p_sumL, p_sumT, p_tupleL, p_tupleT, p_listL, p_listT, p_abs, p_min2, p_max2, p_min, p_max, p_all, p_any, p_isi, p_eqI, p_neI, isiD, isND, item0, intsOf_map, boolsOf_map, List.getElem?_cons_zero, List.getElem?_cons_succ, List.getElem?_nil, List.set_cons_zero, List.set_cons_succ, List.length_cons, List.length_nil, List.length_append, List.length_map, List.length_range, List.map_cons, List.map_nil, List.cons_append, List.nil_append, List.append_nil, List.replicate_succ, List.replicate_zero, List.take_succ_cons, List.take_zero, Option.map_some, Option.map_none, Option.bind_some, Option.bind_none, Option.getD_some, Option.toList, if_true, if_false, ite_true, ite_false, reduceIte, Bool.false_eq_true, Bool.true_eq_false, Bool.not_true, Bool.not_false, decide_true, decide_false, decide_eq_true_eq, Nat.reduceAdd, Nat.reduceSub, Nat.reduceLeDiff, Nat.zero_le, Int.cast_ofNat_Int, Nat.reduceEqDiff, Nat.reduceMul, Nat.reducePow, Int.reduceAdd, Int.reduceSub, Int.reduceMul, Int.reduceNeg, Int.reduceLT, Int.reduceEq, Int.reduceLE, Int.reduceToNat, Int.reduceDiv, Int.reduceMod, Int.reducePow, Nat.zero_add, eq_self, Nat.add_zero, Bool.and_true, Bool.true_and, Bool.and_self, implies_true, and_true, true_and, and_self, not_true_eq_false, not_false_eq_true, true_or, or_true, Function.comp, ea, eall, hfirst, hlast]
  have ecut : cutD (d.lv.map PyData.int) (some 1) none = (d.lv.map PyData.int).drop 1 := cutD_drop (i := 1)
  have ez : zipD (d.lv.map PyData.int) ((d.lv.map PyData.int).drop 1) = (d.lv.zip (d.lv.drop 1)).map fun p => .tuple [.int p.1, .int p.2] := by
    unfold zipD
    rw [← List.map_drop, List.zip_map, List.map_map]
    rfl
  have el : (d.lv.zip (d.lv.drop 1)).length ≤ 16777216 := by rw [List.length_zip]; omega
  simp only [runF, execs, exec, ev, evs, evw, evc, eva, evI, evO, asB, varOf, viewR, borR, putB, putAll, isOB, bindT, setAll, setV_eq, setO_eq, wipeR_eq, wipeR, backR, frO_some, frB_no, frB_val, fwO_some, fwB_no, fwB_val, fwB_own, st_20, st_21, it_21, it_2, it_3, it_4, enc_it0, enc_it1, enc_it2, enc_it3, enc_it4, tie_eq_high, tie_eq_low, p_add, p_addT, p_addL, p_sub, p_neg, p_Lt, p_LtE, p_Gt, p_GtE, c_Lt, c_LtE, c_Gt, c_GtE, b_tf, b_tt, b_ff, b_ft, n_f, n_t, p_itemL, p_itemT, p_sl11L, p_sl11T, p_sl10L, p_sl10T, p_sl01L, p_sl01T, p_lenL, p_lenT, p_sumL, p_sumT, p_tupleL, p_tupleT, p_listL, p_listT, p_abs, p_min2, p_max2, p_min, p_max, p_all, p_any, p_isi, p_eqI, p_neI, isiD, isND, item0, intsOf_map, boolsOf_map, List.getElem?_cons_zero, List.getElem?_cons_succ, List.getElem?_nil, List.set_cons_zero, List.set_cons_succ, List.length_cons, List.length_nil, List.length_append, List.length_map, List.length_range, List.map_cons, List.map_nil, List.cons_append, List.nil_append, List.append_nil, List.replicate_succ, List.replicate_zero, List.take_succ_cons, List.take_zero, Option.map_some, Option.map_none, Option.bind_some, Option.bind_none, Option.getD_some, Option.toList, if_true, if_false, ite_true, ite_false, reduceIte, Bool.false_eq_true, Bool.true_eq_false, Bool.not_true, Bool.not_false, decide_true, decide_false, decide_eq_true_eq, Nat.reduceAdd, Nat.reduceSub, Nat.reduceLeDiff, Nat.zero_le, Int.cast_ofNat_Int, Nat.reduceEqDiff, Nat.reduceMul, Nat.reducePow, Int.reduceAdd, Int.reduceSub, Int.reduceMul, Int.reduceNeg, Int.reduceLT, Int.reduceEq, Int.reduceLE, Int.reduceToNat, Int.reduceDiv, Int.reduceMod, Int.reducePow, Nat.zero_add, eq_self, Nat.add_zero, Bool.and_true, Bool.true_and, Bool.and_self, implies_true, and_true, true_and, and_self, not_true_eq_false, not_false_eq_true, true_or, or_true, Function.comp, ecut, ez, el, hfirst, hlast]
  generalize hL2 : loopM _ _ _ = o
  have hz : ∀ p ∈ d.lv.zip (d.lv.drop 1), p.1 < p.2 := pair_zip h.inc
  have ho := loopM_enc (fun p : Int × Int => PyData.tuple [.int p.1, .int p.2]) hL2 (fun x => .bool true) (fun x hx => by
    have := hz x hx
    simp only [runF, execs, exec, ev, evs, evw, evc, eva, evI, evO, asB, varOf, viewR, borR, putB, putAll, isOB, bindT, setAll, setV_eq, setO_eq, wipeR_eq, wipeR, backR, frO_some, frB_no, frB_val, fwO_some, fwB_no, fwB_val, fwB_own, st_20, st_21, it_21, it_2, it_3, it_4, enc_it0, enc_it1, enc_it2, enc_it3, enc_it4, tie_eq_high, tie_eq_low, p_add, p_addT, p_addL, p_sub, p_neg, p_Lt, p_LtE, p_Gt, p_GtE, c_Lt, c_LtE, c_Gt, c_GtE, b_tf, b_tt, b_ff, b_ft, n_f, n_t, p_itemL, p_itemT, p_sl11L, p_sl11T, p_sl10L, p_sl10T, p_sl01L, p_sl01T, p_lenL, p_lenT, p_sumL, p_sumT, p_tupleL, p_tupleT, p_listL, p_listT, p_abs, p_min2, p_max2, p_min, p_max, p_all, p_any, p_isi, p_eqI, p_neI, isiD, isND, item0, intsOf_map, boolsOf_map, List.getElem?_cons_zero, List.getElem?_cons_succ, List.getElem?_nil, List.set_cons_zero, List.set_cons_succ, List.length_cons, List.length_nil, List.length_append, List.length_map, List.length_range, List.map_cons, List.map_nil, List.cons_append, List.nil_append, List.append_nil, List.replicate_succ, List.replicate_zero, List.take_succ_cons, List.take_zero, Option.map_some, Option.map_none, Option.bind_some, Option.bind_none, Option.getD_some, Option.toList, if_true, if_false, ite_true, ite_false, reduceIte, Bool.false_eq_true, Bool.true_eq_false, Bool.not_true, Bool.not_false, decide_true, decide_false, decide_eq_true_eq, Nat.reduceAdd, Nat.reduceSub, Nat.reduceLeDiff, Nat.zero_le, Int.cast_ofNat_Int, Nat.reduceEqDiff, Nat.reduceMul, Nat.reducePow, Int.reduceAdd, Int.reduceSub, Int.reduceMul, Int.reduceNeg, Int.reduceLT, Int.reduceEq, Int.reduceLE, Int.reduceToNat, Int.reduceDiv, Int.reduceMod, Int.reducePow, Nat.zero_add, eq_self, Nat.add_zero, Bool.and_true, Bool.true_and, Bool.and_self, implies_true, and_true, true_and, and_self, not_true_eq_false, not_false_eq_true, true_or, or_true, Function.comp, this])
  subst ho
  have ea : ((d.lv.zip (d.lv.drop 1)).map fun x => PyData.bool true) = (List.replicate (d.lv.zip (d.lv.drop 1)).length true).map .bool := by
    rw [List.map_replicate, ← List.map_const']
  have eall : (List.replicate (d.lv.zip (d.lv.drop 1)).length true).all id = true := by simp
  simp only [runF, execs, exec, ev, evs, evw, evc, eva, evI, evO, asB, varOf, viewR, borR, putB, putAll, isOB, bindT, setAll, setV_eq, setO_eq, wipeR_eq, wipeR, backR, frO_some, frB_no, frB_val, fwO_some, fwB_no, fwB_val, fwB_own, st_20, st_21, it_21, it_2, it_3, it_4, enc_it0, enc_it1, enc_it2, enc_it3, enc_it4, tie_eq_high, tie_eq_low, p_add, p_addT, p_addL, p_sub, p_neg, p_Lt, p_LtE, p_Gt, p_GtE, c_Lt, c_LtE, c_Gt, c_GtE, b_tf, b_tt, b_ff, b_ft, n_f, n_t, p_itemL, p_itemT, p_sl11L, p_sl11T, p_sl10L, p_sl10T, p_sl01L, p_sl01T, p_lenL, p_lenT, p_sumL, p_sumT, p_tupleL, p_tupleT, p_listL, p_listT, p_abs, p_min2, p_max2, p_min, p_max, p_all, p_any, p_isi, p_eqI, p_neI, isiD, isND, item0, intsOf_map, boolsOf_map, List.getElem?_cons_zero, List.getElem?_cons_succ, List.getElem?_nil, List.set_cons_zero, List.set_cons_succ, List.length_cons, List.length_nil, List.length_append, List.length_map, List.length_range, List.map_cons, List.map_nil, List.cons_append, List.nil_append, List.append_nil, List.replicate_succ, List.replicate_zero, List.take_succ_cons, List.take_zero, Option.map_some, Option.map_none, Option.bind_some, Option.bind_none, Option.getD_some, Option.toList, if_true, if_false, ite_true, ite_false, reduceIte, Bool.false_eq_true, Bool.true_eq_false, Bool.not_true, Bool.not_false, decide_true, decide_false, decide_eq_true_eq, Nat.reduceAdd, Nat.reduceSub, Nat.reduceLeDiff, Nat.zero_le, Int.cast_ofNat_Int, Nat.reduceEqDiff, Nat.reduceMul, Nat.reducePow, Int.reduceAdd, Int.reduceSub, Int.reduceMul, Int.reduceNeg, Int.reduceLT, Int.reduceEq, Int.reduceLE, Int.reduceToNat, Int.reduceDiv, Int.reduceMod, Int.reducePow, Nat.zero_add, eq_self, Nat.add_zero, Bool.and_true, Bool.true_and, Bool.and_self, implies_true, and_true, true_and, and_self, not_true_eq_false, not_false_eq_true, true_or, or_true, Function.comp, ea, eall]
theorem ok_shares (m : Nat) (d : Dit) (h : d.Ok) : Ph (m + 2) "are_shares" [.val (.tuple (d.sh.map .int)), .val (.int d.dv)] = some ⟨.bool true, false, [.val (.tuple (d.sh.map .int)), .val (.int d.dv)]⟩ := by
  rw [L_are_shares]
  have h2 := h.s1
  have h6 := h.s2
  have hb := h.sb
  have hs := h.ss
  have c1 : (1 : Int) ≤ (d.sh.length : Int) := by omega
  have c2 : (d.sh.length : Int) ≤ 2 := by omega
  have c3 : d.sh.length ≤ 16777216 := by omega
  simp only [i_are_shares, runF, execs, exec, ev, evs, evw, evc, eva, evI, evO, asB, varOf, viewR, borR, putB, putAll, isOB, bindT, setAll, setV_eq, setO_eq, wipeR_eq, wipeR, backR, frO_some, frB_no, frB_val, fwO_some, fwB_no, fwB_val, fwB_own, st_20, st_21, it_21, it_2, it_3, it_4, enc_it0, enc_it1, enc_it2, enc_it3, enc_it4, tie_eq_high, tie_eq_low, p_add, p_addT, p_addL, p_sub, p_neg, p_Lt, p_LtE, p_Gt, p_GtE, c_Lt, c_LtE, c_Gt, c_GtE, b_tf, b_tt, b_ff, b_ft, n_f, n_t, p_itemL, p_itemT, p_sl11L, p_sl11T, p_sl10L, p_sl10T, p_sl01L, p_sl01T, p_lenL, p_lenT, p_sumL, p_sumT, p_tupleL, p_tupleT, p_listL, p_listT, p_abs, p_min2, p_max2, p_min, p_max, p_all, p_any, p_isi, p_eqI, p_neI, isiD, isND, item0, intsOf_map, boolsOf_map, List.getElem?_cons_zero, List.getElem?_cons_succ, List.getElem?_nil, List.set_cons_zero, List.set_cons_succ, List.length_cons, List.length_nil, List.length_append, List.length_map, List.length_range, List.map_cons, List.map_nil, List.cons_append, List.nil_append, List.append_nil, List.replicate_succ, List.replicate_zero, List.take_succ_cons, List.take_zero, Option.map_some, Option.map_none, Option.bind_some, Option.bind_none, Option.getD_some, Option.toList, if_true, if_false, ite_true, ite_false, reduceIte, Bool.false_eq_true, Bool.true_eq_false, Bool.not_true, Bool.not_false, decide_true, decide_false, decide_eq_true_eq, Nat.reduceAdd, Nat.reduceSub, Nat.reduceLeDiff, Nat.zero_le, Int.cast_ofNat_Int, Nat.reduceEqDiff, Nat.reduceMul, Nat.reducePow, Int.reduceAdd, Int.reduceSub, Int.reduceMul, Int.reduceNeg, Int.reduceLT, Int.reduceEq, Int.reduceLE, Int.reduceToNat, Int.reduceDiv, Int.reduceMod, Int.reducePow, Nat.zero_add, eq_self, Nat.add_zero, Bool.and_true, Bool.true_and, Bool.and_self, implies_true, and_true, true_and, and_self, not_true_eq_false, not_false_eq_true, true_or, or_true, Function.comp, c1, c2, c3]
  generalize hL : loopM _ _ _ = o
  have ho := loopM_enc PyData.int hL (fun x => .bool true) (fun x hx => by
    have := hb x hx
    have b := ok_between m x 0 d.dv
    simp only [decide_eq_true this.1, decide_eq_true this.2, Bool.and_self] at b
    simp only [runF, execs, exec, ev, evs, evw, evc, eva, evI, evO, asB, varOf, viewR, borR, putB, putAll, isOB, bindT, setAll, setV_eq, setO_eq, wipeR_eq, wipeR, backR, frO_some, frB_no, frB_val, fwO_some, fwB_no, fwB_val, fwB_own, st_20, st_21, it_21, it_2, it_3, it_4, enc_it0, enc_it1, enc_it2, enc_it3, enc_it4, tie_eq_high, tie_eq_low, p_add, p_addT, p_addL, p_sub, p_neg, p_Lt, p_LtE, p_Gt, p_GtE, c_Lt, c_LtE, c_Gt, c_GtE, b_tf, b_tt, b_ff, b_ft, n_f, n_t, p_itemL, p_itemT, p_sl11L, p_sl11T, p_sl10L, p_sl10T, p_sl01L, p_sl01T, p_lenL, p_lenT, p_sumL, p_sumT, p_tupleL, p_tupleT, p_listL, p_listT, p_abs, p_min2, p_max2, p_min, p_max, p_all, p_any, p_isi, p_eqI, p_neI, isiD, isND, item0, intsOf_map, boolsOf_map, List.getElem?_cons_zero, List.getElem?_cons_succ, List.getElem?_nil, List.set_cons_zero, List.set_cons_succ, List.length_cons, List.length_nil, List.length_append, List.length_map, List.length_range, List.map_cons, List.map_nil, List.cons_append, List.nil_append, List.append_nil, List.replicate_succ, List.replicate_zero, List.take_succ_cons, List.take_zero, Option.map_some, Option.map_none, Option.bind_some, Option.bind_none, Option.getD_some, Option.toList, if_true, if_false, ite_true, ite_false, reduceIte, Bool.false_eq_true, Bool.true_eq_false, Bool.not_true, Bool.not_false, decide_true, decide_false, decide_eq_true_eq, Nat.reduceAdd, Nat.reduceSub, Nat.reduceLeDiff, Nat.zero_le, Int.cast_ofNat_Int, Nat.reduceEqDiff, Nat.reduceMul, Nat.reducePow, Int.reduceAdd, Int.reduceSub, Int.reduceMul, Int.reduceNeg, Int.reduceLT, Int.reduceEq, Int.reduceLE, Int.reduceToNat, Int.reduceDiv, Int.reduceMod, Int.reducePow, Nat.zero_add, eq_self, Nat.add_zero, Bool.and_true, Bool.true_and, Bool.and_self, implies_true, and_true, true_and, and_self, not_true_eq_false, not_false_eq_true, true_or, or_true, Function.comp, b])
  subst ho
  have ea : (d.sh.map fun x => PyData.bool true) = (List.replicate d.sh.length true).map .bool := by
    rw [List.map_replicate, ← List.map_const']
  have eall : (List.replicate d.sh.length true).all id = true := by simp
  simp only [runF, execs, exec, ev, evs, evw, evc, eva, evI, evO, asB, varOf, viewR, borR, putB, putAll, isOB, bindT, setAll, setV_eq, setO_eq, wipeR_eq, wipeR, backR, frO_some, frB_no, frB_val, fwO_some, fwB_no, fwB_val, fwB_own, st_20, st_21, it_21, it_2, it_3, it_4, enc_it0, enc_it1, enc_it2, enc_it3, enc_it4, tie_eq_high, tie_eq_low, p_add, p_addT, p_addL, p_sub, p_neg, p_Lt, p_LtE, p_Gt, p_GtE, c_Lt, c_LtE, c_Gt, c_GtE, b_tf, b_tt, b_ff, b_ft, n_f, n_t, p_itemL, p_itemT, p_sl11L, p_sl11T, p_sl10L, p_sl10T, p_sl01L, p_sl01T, p_lenL, p_lenT, p_sumL, p_sumT, p_tupleL, p_tupleT, p_listL, p_listT, p_abs, p_min2, p_max2, p_min, p_max, p_all, p_any, p_isi, p_eqI, p_neI, isiD, isND, item0, intsOf_map, boolsOf_map, List.getElem?_cons_zero, List.getElem?_cons_succ, List.getElem?_nil, List.set_cons_zero, List.set_cons_succ, List.length_cons, List.length_nil, List.length_append, List.length_map, List.length_range, List.map_cons, List.map_nil, List.cons_append, List.nil_append, List.append_nil, List.replicate_succ, List.replicate_zero, List.take_succ_cons, List.take_zero, Option.map_some, Option.map_none, Option.bind_some, Option.bind_none, Option.getD_some, Option.toList, if_true, if_false, ite_true, ite_false, reduceIte, Bool.false_eq_true, Bool.true_eq_false, Bool.not_true, Bool.not_false, decide_true, decide_false, decide_eq_true_eq, Nat.reduceAdd, Nat.reduceSub, Nat.reduceLeDiff, Nat.zero_le, Int.cast_ofNat_Int, Nat.reduceEqDiff, Nat.reduceMul, Nat.reducePow, Int.reduceAdd, Int.reduceSub, Int.reduceMul, Int.reduceNeg, Int.reduceLT, Int.reduceEq, Int.reduceLE, Int.reduceToNat, Int.reduceDiv, Int.reduceMod, Int.reducePow, Nat.zero_add, eq_self, Nat.add_zero, Bool.and_true, Bool.true_and, Bool.and_self, implies_true, and_true, true_and, and_self, not_true_eq_false, not_false_eq_true, true_or, or_true, Function.comp, ea, eall, hs]
theorem ok_is_dither (m : Nat) (d : Dit) (h : d.Ok) : Ph (m + 3) "is_dither" [.val d.enc] = some ⟨.bool true, false, [.val d.enc]⟩ := by
  rw [L_is_dither]
  have b1 := ok_between (m + 1) d.top 1 8
  have b2 := ok_between (m + 1) d.dv 1 8
  simp only [decide_eq_true h.t1, decide_eq_true h.t8, Bool.and_self] at b1
  simp only [decide_eq_true h.d1, decide_eq_true h.d8, Bool.and_self] at b2
  have b3 := ok_levels m d h
  have b4 := ok_shares m d h
  have b5 := tie_in d.hi
  have b6 : isiD .str (.str (tieS d.hi)) = true := rfl
  simp only [i_is_dither, Dit.enc, runF, execs, exec, ev, evs, evw, evc, eva, evI, evO, asB, varOf, viewR, borR, putB, putAll, isOB, bindT, setAll, setV_eq, setO_eq, wipeR_eq, wipeR, backR, frO_some, frB_no, frB_val, fwO_some, fwB_no, fwB_val, fwB_own, st_20, st_21, it_21, it_2, it_3, it_4, enc_it0, enc_it1, enc_it2, enc_it3, enc_it4, tie_eq_high, tie_eq_low, p_add, p_addT, p_addL, p_sub, p_neg, p_Lt, p_LtE, p_Gt, p_GtE, c_Lt, c_LtE, c_Gt, c_GtE, b_tf, b_tt, b_ff, b_ft, n_f, n_t, p_itemL, p_itemT, p_sl11L, p_sl11T, p_sl10L, p_sl10T, p_sl01L, p_sl01T, p_lenL, p_lenT, p_sumL, p_sumT, p_tupleL, p_tupleT, p_listL, p_listT, p_abs, p_min2, p_max2, p_min, p_max, p_all, p_any, p_isi, p_eqI, p_neI, isiD, isND, item0, intsOf_map, boolsOf_map, List.getElem?_cons_zero, List.getElem?_cons_succ, List.getElem?_nil, List.set_cons_zero, List.set_cons_succ, List.length_cons, List.length_nil, List.length_append, List.length_map, List.length_range, List.map_cons, List.map_nil, List.cons_append, List.nil_append, List.append_nil, List.replicate_succ, List.replicate_zero, List.take_succ_cons, List.take_zero, Option.map_some, Option.map_none, Option.bind_some, Option.bind_none, Option.getD_some, Option.toList, if_true, if_false, ite_true, ite_false, reduceIte, Bool.false_eq_true, Bool.true_eq_false, Bool.not_true, Bool.not_false, decide_true, decide_false, decide_eq_true_eq, Nat.reduceAdd, Nat.reduceSub, Nat.reduceLeDiff, Nat.zero_le, Int.cast_ofNat_Int, Nat.reduceEqDiff, Nat.reduceMul, Nat.reducePow, Int.reduceAdd, Int.reduceSub, Int.reduceMul, Int.reduceNeg, Int.reduceLT, Int.reduceEq, Int.reduceLE, Int.reduceToNat, Int.reduceDiv, Int.reduceMod, Int.reducePow, Nat.zero_add, eq_self, Nat.add_zero, Bool.and_true, Bool.true_and, Bool.and_self, implies_true, and_true, true_and, and_self, not_true_eq_false, not_false_eq_true, true_or, or_true, Function.comp, b1, b2, b3, b4, b5, b6]
theorem ok_need_dither (m : Nat) (d : Dit) (h : d.Ok) : Ph (m + 4) "need_dither" [.val d.enc] = some ⟨.none, false, [.val d.enc]⟩ := by
  rw [L_need_dither]
  simp only [i_need_dither, runF, execs, exec, ev, evs, evw, evc, eva, evI, evO, asB, varOf, viewR, borR, putB, putAll, isOB, bindT, setAll, setV_eq, setO_eq, wipeR_eq, wipeR, backR, frO_some, frB_no, frB_val, fwO_some, fwB_no, fwB_val, fwB_own, st_20, st_21, it_21, it_2, it_3, it_4, enc_it0, enc_it1, enc_it2, enc_it3, enc_it4, tie_eq_high, tie_eq_low, p_add, p_addT, p_addL, p_sub, p_neg, p_Lt, p_LtE, p_Gt, p_GtE, c_Lt, c_LtE, c_Gt, c_GtE, b_tf, b_tt, b_ff, b_ft, n_f, n_t, p_itemL, p_itemT, p_sl11L, p_sl11T, p_sl10L, p_sl10T, p_sl01L, p_sl01T, p_lenL, p_lenT, p_sumL, p_sumT, p_tupleL, p_tupleT, p_listL, p_listT, p_abs, p_min2, p_max2, p_min, p_max, p_all, p_any, p_isi, p_eqI, p_neI, isiD, isND, item0, intsOf_map, boolsOf_map, List.getElem?_cons_zero, List.getElem?_cons_succ, List.getElem?_nil, List.set_cons_zero, List.set_cons_succ, List.length_cons, List.length_nil, List.length_append, List.length_map, List.length_range, List.map_cons, List.map_nil, List.cons_append, List.nil_append, List.append_nil, List.replicate_succ, List.replicate_zero, List.take_succ_cons, List.take_zero, Option.map_some, Option.map_none, Option.bind_some, Option.bind_none, Option.getD_some, Option.toList, if_true, if_false, ite_true, ite_false, reduceIte, Bool.false_eq_true, Bool.true_eq_false, Bool.not_true, Bool.not_false, decide_true, decide_false, decide_eq_true_eq, Nat.reduceAdd, Nat.reduceSub, Nat.reduceLeDiff, Nat.zero_le, Int.cast_ofNat_Int, Nat.reduceEqDiff, Nat.reduceMul, Nat.reducePow, Int.reduceAdd, Int.reduceSub, Int.reduceMul, Int.reduceNeg, Int.reduceLT, Int.reduceEq, Int.reduceLE, Int.reduceToNat, Int.reduceDiv, Int.reduceMod, Int.reducePow, Nat.zero_add, eq_self, Nat.add_zero, Bool.and_true, Bool.true_and, Bool.and_self, implies_true, and_true, true_and, and_self, not_true_eq_false, not_false_eq_true, true_or, or_true, Function.comp, ok_is_dither m d h]
theorem ok_exact (m : Nat) (d : Dit) : Ph (m + 1) "exact" [.val d.enc] = some ⟨.bool (decide (d.sh.sum = d.dv)), false, [.val d.enc]⟩ := by
  rw [L_exact]
  simp only [i_exact, runF, execs, exec, ev, evs, evw, evc, eva, evI, evO, asB, varOf, viewR, borR, putB, putAll, isOB, bindT, setAll, setV_eq, setO_eq, wipeR_eq, wipeR, backR, frO_some, frB_no, frB_val, fwO_some, fwB_no, fwB_val, fwB_own, st_20, st_21, it_21, it_2, it_3, it_4, enc_it0, enc_it1, enc_it2, enc_it3, enc_it4, tie_eq_high, tie_eq_low, p_add, p_addT, p_addL, p_sub, p_neg, p_Lt, p_LtE, p_Gt, p_GtE, c_Lt, c_LtE, c_Gt, c_GtE, b_tf, b_tt, b_ff, b_ft, n_f, n_t, p_itemL, p_itemT, p_sl11L, p_sl11T, p_sl10L, p_sl10T, p_sl01L, p_sl01T, p_lenL, p_lenT, p_sumL, p_sumT, p_tupleL, p_tupleT, p_listL, p_listT, p_abs, p_min2, p_max2, p_min, p_max, p_all, p_any, p_isi, p_eqI, p_neI, isiD, isND, item0, intsOf_map, boolsOf_map, List.getElem?_cons_zero, List.getElem?_cons_succ, List.getElem?_nil, List.set_cons_zero, List.set_cons_succ, List.length_cons, List.length_nil, List.length_append, List.length_map, List.length_range, List.map_cons, List.map_nil, List.cons_append, List.nil_append, List.append_nil, List.replicate_succ, List.replicate_zero, List.take_succ_cons, List.take_zero, Option.map_some, Option.map_none, Option.bind_some, Option.bind_none, Option.getD_some, Option.toList, if_true, if_false, ite_true, ite_false, reduceIte, Bool.false_eq_true, Bool.true_eq_false, Bool.not_true, Bool.not_false, decide_true, decide_false, decide_eq_true_eq, Nat.reduceAdd, Nat.reduceSub, Nat.reduceLeDiff, Nat.zero_le, Int.cast_ofNat_Int, Nat.reduceEqDiff, Nat.reduceMul, Nat.reducePow, Int.reduceAdd, Int.reduceSub, Int.reduceMul, Int.reduceNeg, Int.reduceLT, Int.reduceEq, Int.reduceLE, Int.reduceToNat, Int.reduceDiv, Int.reduceMod, Int.reducePow, Nat.zero_add, eq_self, Nat.add_zero, Bool.and_true, Bool.true_and, Bool.and_self, implies_true, and_true, true_and, and_self, not_true_eq_false, not_false_eq_true, true_or, or_true, Function.comp]
/-! ### data of all kinds -/
def nice : Nat → PyData → Bool
  | _, .none | _, .bool _ | _, .int _ => true
  | _, .str x => PyData.strOk x
  | n + 1, .list xs | n + 1, .tuple xs => decide (xs.length ≤ 1000) && xs.all (nice n)
  | _, _ => false
theorem nice_lay : ∀ (n : Nat) (d : PyData), nice n d = true → lay n d = true
  | n, .none, _ => by cases n <;> rfl
  | n, .bool _, _ => by cases n <;> rfl
  | n, .int _, _ => by cases n <;> rfl
  | n, .str x, h => by cases n <;> exact h
  | 0, .list _, h => by cases h
  | 0, .tuple _, h => by cases h
  | n + 1, .list xs, h => by
    have h2 : (decide (xs.length ≤ 1000) && xs.all (nice n)) = true := h
    rw [Bool.and_eq_true, List.all_eq_true] at h2
    show xs.all (lay n) = true
    rw [List.all_eq_true]
    exact fun x hx => nice_lay n x (h2.2 x hx)
  | n + 1, .tuple xs, h => by
    have h2 : (decide (xs.length ≤ 1000) && xs.all (nice n)) = true := h
    rw [Bool.and_eq_true, List.all_eq_true] at h2
    show xs.all (lay n) = true
    rw [List.all_eq_true]
    exact fun x hx => nice_lay n x (h2.2 x hx)
  | 0, .dict _, h => by cases h
  | _ + 1, .dict _, h => by cases h
theorem nice_up : ∀ (n : Nat) (d : PyData), nice n d = true → nice (n + 1) d = true
  | n, .none, _ => rfl
  | n, .bool _, _ => rfl
  | n, .int _, _ => rfl
  | n, .str x, h => by cases n <;> exact h
  | 0, .list _, h => by cases h
  | 0, .tuple _, h => by cases h
  | n + 1, .list xs, h => by
    have h2 : (decide (xs.length ≤ 1000) && xs.all (nice n)) = true := h
    rw [Bool.and_eq_true, List.all_eq_true] at h2
    show (decide (xs.length ≤ 1000) && xs.all (nice (n + 1))) = true
    rw [Bool.and_eq_true, List.all_eq_true]
    exact ⟨h2.1, fun x hx => nice_up n x (h2.2 x hx)⟩
  | n + 1, .tuple xs, h => by
    have h2 : (decide (xs.length ≤ 1000) && xs.all (nice n)) = true := h
    rw [Bool.and_eq_true, List.all_eq_true] at h2
    show (decide (xs.length ≤ 1000) && xs.all (nice (n + 1))) = true
    rw [Bool.and_eq_true, List.all_eq_true]
    exact ⟨h2.1, fun x hx => nice_up n x (h2.2 x hx)⟩
  | 0, .dict _, h => by cases h
  | _ + 1, .dict _, h => by cases h
theorem nice_mono {n m : Nat} {d : PyData} (h : nice n d = true) (k : n ≤ m) : nice m d = true := by
  induction k with
  | refl => exact h
  | step _ ih => exact nice_up _ _ ih
theorem nice_tuple {n : Nat} {xs : List PyData} : nice (n + 1) (.tuple xs) = true ↔ xs.length ≤ 1000 ∧ ∀ x ∈ xs, nice n x = true := by
  show (decide (xs.length ≤ 1000) && xs.all (nice n)) = true ↔ _
  rw [Bool.and_eq_true, List.all_eq_true, decide_eq_true_eq]
theorem nice_list {n : Nat} {xs : List PyData} : nice (n + 1) (.list xs) = true ↔ xs.length ≤ 1000 ∧ ∀ x ∈ xs, nice n x = true := by
  show (decide (xs.length ≤ 1000) && xs.all (nice n)) = true ↔ _
  rw [Bool.and_eq_true, List.all_eq_true, decide_eq_true_eq]
/-- what may be taken apart -/
def Part : Nat → PyData → Prop
  | _, .int _ => True
  | _, .str s => PyData.strOk s = true
  | k + 1, .tuple xs => 0 < xs.length ∧ xs.length ≤ 10 ∧ ∀ x ∈ xs, Part k x
  | _, _ => False
theorem part_nice : ∀ (k : Nat) (v : PyData), Part k v → nice k v = true
  | k, .int _, _ => by cases k <;> rfl
  | k, .str s, h => by cases k <;> exact h
  | k + 1, .tuple xs, h => nice_tuple.mpr ⟨Nat.le_trans h.2.1 (by decide), fun x hx => part_nice k x (h.2.2 x hx)⟩
  | 0, .tuple _, h => by cases h
  | 0, .none, h => by cases h
  | 0, .bool _, h => by cases h
  | 0, .list _, h => by cases h
  | 0, .dict _, h => by cases h
  | _ + 1, .none, h => by cases h
  | _ + 1, .bool _, h => by cases h
  | _ + 1, .list _, h => by cases h
  | _ + 1, .dict _, h => by cases h
theorem mem_cut {xs : List PyData} {lo hi : Option Int} {x : PyData} (h : x ∈ cutD xs lo hi) : x ∈ xs := List.mem_of_mem_drop (List.mem_of_mem_take h)
theorem len_cut {xs : List PyData} {lo hi : Option Int} : (cutD xs lo hi).length ≤ xs.length := by
  unfold cutD
  rw [List.length_take, List.length_drop]
  omega
theorem dit_part (d : Dit) (h : d.Ok) : Part 2 d.enc := by
  have h2 := h.l2
  have h6 := h.l6
  have s1 := h.s1
  have s2 := h.s2
  refine ⟨by simp, by simp, fun x hx => ?_⟩
  simp only [List.mem_cons, List.not_mem_nil, or_false] at hx
  rcases hx with rfl | rfl | rfl | rfl | rfl
  · trivial
  · refine ⟨by rw [List.length_map]; omega, by rw [List.length_map]; omega, fun x hx => ?_⟩
    obtain ⟨z, _, rfl⟩ := List.mem_map.mp hx
    trivial
  · refine ⟨by rw [List.length_map]; omega, by rw [List.length_map]; omega, fun x hx => ?_⟩
    obtain ⟨z, _, rfl⟩ := List.mem_map.mp hx
    trivial
  · trivial
  · exact flat_tie d.hi
theorem eqv_bool (a b : Bool) : PyData.eqv (.bool a) (.bool b) = decide (a = b) := by
  unfold PyData.eqv
  cases a <;> cases b <;> rfl
theorem p_neB {a b : Bool} : prD (.cmp .NotEq) [.bool a, .bool b] = some (.bool (!decide (a = b))) := by rw [p_ne, if_pos (by rfl), eqv_bool]
theorem eqvAll_no (x : PyData) (xs : List PyData) : PyData.eqvAll (x :: xs) [] = false := by unfold PyData.eqvAll; rfl
theorem eqvAll_on (x : PyData) (xs : List PyData) : PyData.eqvAll [] (x :: xs) = false := by unfold PyData.eqvAll; rfl
theorem tup_ne_nil {n : Nat} {xs : List PyData} (h : nice n (.tuple xs) = true) (hn : n ≤ 9) (h0 : 0 < xs.length) : prD (.cmp .NotEq) [.tuple xs, .tuple []] = some (.bool true) := by
  have l1 : lay 9 (.tuple xs) = true := nice_lay _ _ (nice_mono h hn)
  rw [p_ne, l1, if_pos (by rfl), eqv_tuple]
  cases xs with
  | nil => simp at h0
  | cons x xs => rw [eqvAll_no]; rfl
theorem some_nice : ∀ x ∈ [PyData.none, .bool true, .bool false, .int 0, .int 1, .int 8, .int 9, .int (-1), .str "", .str "low", .str "High", .tuple [], .list [], .tuple [.int 0], .list [.int 0, .int 4], .tuple [.int 1, .int 1, .int 1]], nice 2 x = true := by decide +kernel
def headB : IS := match i__law_parted.body with
  | .c h _ => h
  | .n => .pass
def tailB : ISs := match i__law_parted.body with
  | .c _ r => r
  | .n => .n
theorem parted_body : i__law_parted.body = .c headB tailB := rfl
theorem ok_tailB (k m : Nat) {a b : Int} (v : PyData) (hv : Part k v) (hs : Src a b) : ∃ a' b' y s4, Src a' b' ∧ nice (k + 3) y = true ∧ execs (Ph (m + 2)) fuel tailB [.bor (srcD a b), .val v, .no, .no, .no] = some (.rt y false [.bor (srcD a' b'), .val v, .no, .no, s4]) := by
  obtain ⟨a1, b1, r1, s1, p1, q1, e1⟩ := ok_draw (m + 1) 3 hs (by decide) (by decide)
  by_cases h1 : r1 = 0
  · subst h1
    obtain ⟨a2, b2, y, s2, my, e2⟩ := ok_choice m [PyData.none, .bool true, .bool false, .int 0, .int 1, .int 8, .int 9, .int (-1), .str "", .str "low", .str "High", .tuple [], .list [], .tuple [.int 0], .list [.int 0, .int 4], .tuple [.int 1, .int 1, .int 1]] s1 (by decide) (by decide)
    refine ⟨a2, b2, y, .val (.list [PyData.none, .bool true, .bool false, .int 0, .int 1, .int 8, .int 9, .int (-1), .str "", .str "low", .str "High", .tuple [], .list [], .tuple [.int 0], .list [.int 0, .int 4], .tuple [.int 1, .int 1, .int 1]]), s2, nice_mono (some_nice y my) (by omega), ?_⟩
    simp only [tailB, i__law_parted, runF, execs, exec, ev, evs, evw, evc, eva, evI, evO, asB, varOf, viewR, borR, putB, putAll, isOB, bindT, setAll, setV_eq, setO_eq, wipeR_eq, wipeR, backR, frO_some, frB_no, frB_val, fwO_some, fwB_no, fwB_val, fwB_own, st_20, st_21, it_21, it_2, it_3, it_4, enc_it0, enc_it1, enc_it2, enc_it3, enc_it4, tie_eq_high, tie_eq_low, p_add, p_addT, p_addL, p_sub, p_neg, p_Lt, p_LtE, p_Gt, p_GtE, c_Lt, c_LtE, c_Gt, c_GtE, b_tf, b_tt, b_ff, b_ft, n_f, n_t, p_itemL, p_itemT, p_sl11L, p_sl11T, p_sl10L, p_sl10T, p_sl01L, p_sl01T, p_lenL, p_lenT, p_sumL, p_sumT, p_tupleL, p_tupleT, p_listL, p_listT, p_abs, p_min2, p_max2, p_min, p_max, p_all, p_any, p_isi, p_eqI, p_neI, isiD, isND, item0, intsOf_map, boolsOf_map, List.getElem?_cons_zero, List.getElem?_cons_succ, List.getElem?_nil, List.set_cons_zero, List.set_cons_succ, List.length_cons, List.length_nil, List.length_append, List.length_map, List.length_range, List.map_cons, List.map_nil, List.cons_append, List.nil_append, List.append_nil, List.replicate_succ, List.replicate_zero, List.take_succ_cons, List.take_zero, Option.map_some, Option.map_none, Option.bind_some, Option.bind_none, Option.getD_some, Option.toList, if_true, if_false, ite_true, ite_false, reduceIte, Bool.false_eq_true, Bool.true_eq_false, Bool.not_true, Bool.not_false, decide_true, decide_false, decide_eq_true_eq, Nat.reduceAdd, Nat.reduceSub, Nat.reduceLeDiff, Nat.zero_le, Int.cast_ofNat_Int, Nat.reduceEqDiff, Nat.reduceMul, Nat.reducePow, Int.reduceAdd, Int.reduceSub, Int.reduceMul, Int.reduceNeg, Int.reduceLT, Int.reduceEq, Int.reduceLE, Int.reduceToNat, Int.reduceDiv, Int.reduceMod, Int.reducePow, Nat.zero_add, eq_self, Nat.add_zero, Bool.and_true, Bool.true_and, Bool.and_self, implies_true, and_true, true_and, and_self, not_true_eq_false, not_false_eq_true, true_or, or_true, Function.comp, e1, e2]
  · cases v with
    | int i =>
      obtain ⟨a2, b2, y, s2, my, e2⟩ := ok_choice m [.int (i + 1), .int (i - 1), .int (0 - i)] s1 (by simp) (by simp)
      refine ⟨a2, b2, y, .no, s2, ?_, ?_⟩
      · simp only [List.mem_cons, List.not_mem_nil, or_false] at my
        rcases my with rfl | rfl | rfl <;> rfl
      · simp only [tailB, i__law_parted, runF, execs, exec, ev, evs, evw, evc, eva, evI, evO, asB, varOf, viewR, borR, putB, putAll, isOB, bindT, setAll, setV_eq, setO_eq, wipeR_eq, wipeR, backR, frO_some, frB_no, frB_val, fwO_some, fwB_no, fwB_val, fwB_own, st_20, st_21, it_21, it_2, it_3, it_4, enc_it0, enc_it1, enc_it2, enc_it3, enc_it4, tie_eq_high, tie_eq_low, p_add, p_addT, p_addL, p_sub, p_neg, p_Lt, p_LtE, p_Gt, p_GtE, c_Lt, c_LtE, c_Gt, c_GtE, b_tf, b_tt, b_ff, b_ft, n_f, n_t, p_itemL, p_itemT, p_sl11L, p_sl11T, p_sl10L, p_sl10T, p_sl01L, p_sl01T, p_lenL, p_lenT, p_sumL, p_sumT, p_tupleL, p_tupleT, p_listL, p_listT, p_abs, p_min2, p_max2, p_min, p_max, p_all, p_any, p_isi, p_eqI, p_neI, isiD, isND, item0, intsOf_map, boolsOf_map, List.getElem?_cons_zero, List.getElem?_cons_succ, List.getElem?_nil, List.set_cons_zero, List.set_cons_succ, List.length_cons, List.length_nil, List.length_append, List.length_map, List.length_range, List.map_cons, List.map_nil, List.cons_append, List.nil_append, List.append_nil, List.replicate_succ, List.replicate_zero, List.take_succ_cons, List.take_zero, Option.map_some, Option.map_none, Option.bind_some, Option.bind_none, Option.getD_some, Option.toList, if_true, if_false, ite_true, ite_false, reduceIte, Bool.false_eq_true, Bool.true_eq_false, Bool.not_true, Bool.not_false, decide_true, decide_false, decide_eq_true_eq, Nat.reduceAdd, Nat.reduceSub, Nat.reduceLeDiff, Nat.zero_le, Int.cast_ofNat_Int, Nat.reduceEqDiff, Nat.reduceMul, Nat.reducePow, Int.reduceAdd, Int.reduceSub, Int.reduceMul, Int.reduceNeg, Int.reduceLT, Int.reduceEq, Int.reduceLE, Int.reduceToNat, Int.reduceDiv, Int.reduceMod, Int.reducePow, Nat.zero_add, eq_self, Nat.add_zero, Bool.and_true, Bool.true_and, Bool.and_self, implies_true, and_true, true_and, and_self, not_true_eq_false, not_false_eq_true, true_or, or_true, Function.comp, e1, h1, e2]
    | str x =>
      refine ⟨a1, b1, .list [.str x], .no, s1, ?_, ?_⟩
      · refine nice_list.mpr ⟨by simp, fun y hy => ?_⟩
        rw [List.mem_singleton.mp hy]
        exact nice_mono (part_nice k _ hv) (by omega)
      · simp only [tailB, i__law_parted, runF, execs, exec, ev, evs, evw, evc, eva, evI, evO, asB, varOf, viewR, borR, putB, putAll, isOB, bindT, setAll, setV_eq, setO_eq, wipeR_eq, wipeR, backR, frO_some, frB_no, frB_val, fwO_some, fwB_no, fwB_val, fwB_own, st_20, st_21, it_21, it_2, it_3, it_4, enc_it0, enc_it1, enc_it2, enc_it3, enc_it4, tie_eq_high, tie_eq_low, p_add, p_addT, p_addL, p_sub, p_neg, p_Lt, p_LtE, p_Gt, p_GtE, c_Lt, c_LtE, c_Gt, c_GtE, b_tf, b_tt, b_ff, b_ft, n_f, n_t, p_itemL, p_itemT, p_sl11L, p_sl11T, p_sl10L, p_sl10T, p_sl01L, p_sl01T, p_lenL, p_lenT, p_sumL, p_sumT, p_tupleL, p_tupleT, p_listL, p_listT, p_abs, p_min2, p_max2, p_min, p_max, p_all, p_any, p_isi, p_eqI, p_neI, isiD, isND, item0, intsOf_map, boolsOf_map, List.getElem?_cons_zero, List.getElem?_cons_succ, List.getElem?_nil, List.set_cons_zero, List.set_cons_succ, List.length_cons, List.length_nil, List.length_append, List.length_map, List.length_range, List.map_cons, List.map_nil, List.cons_append, List.nil_append, List.append_nil, List.replicate_succ, List.replicate_zero, List.take_succ_cons, List.take_zero, Option.map_some, Option.map_none, Option.bind_some, Option.bind_none, Option.getD_some, Option.toList, if_true, if_false, ite_true, ite_false, reduceIte, Bool.false_eq_true, Bool.true_eq_false, Bool.not_true, Bool.not_false, decide_true, decide_false, decide_eq_true_eq, Nat.reduceAdd, Nat.reduceSub, Nat.reduceLeDiff, Nat.zero_le, Int.cast_ofNat_Int, Nat.reduceEqDiff, Nat.reduceMul, Nat.reducePow, Int.reduceAdd, Int.reduceSub, Int.reduceMul, Int.reduceNeg, Int.reduceLT, Int.reduceEq, Int.reduceLE, Int.reduceToNat, Int.reduceDiv, Int.reduceMod, Int.reducePow, Nat.zero_add, eq_self, Nat.add_zero, Bool.and_true, Bool.true_and, Bool.and_self, implies_true, and_true, true_and, and_self, not_true_eq_false, not_false_eq_true, true_or, or_true, Function.comp, e1, h1]
    | tuple xs =>
      refine ⟨a1, b1, .list xs, .no, s1, ?_, ?_⟩
      · have := part_nice k _ hv
        cases k with
        | zero => cases hv
        | succ k => exact nice_list.mpr ⟨(nice_tuple.mp this).1, fun y hy => nice_mono ((nice_tuple.mp this).2 y hy) (by omega)⟩
      · simp only [tailB, i__law_parted, runF, execs, exec, ev, evs, evw, evc, eva, evI, evO, asB, varOf, viewR, borR, putB, putAll, isOB, bindT, setAll, setV_eq, setO_eq, wipeR_eq, wipeR, backR, frO_some, frB_no, frB_val, fwO_some, fwB_no, fwB_val, fwB_own, st_20, st_21, it_21, it_2, it_3, it_4, enc_it0, enc_it1, enc_it2, enc_it3, enc_it4, tie_eq_high, tie_eq_low, p_add, p_addT, p_addL, p_sub, p_neg, p_Lt, p_LtE, p_Gt, p_GtE, c_Lt, c_LtE, c_Gt, c_GtE, b_tf, b_tt, b_ff, b_ft, n_f, n_t, p_itemL, p_itemT, p_sl11L, p_sl11T, p_sl10L, p_sl10T, p_sl01L, p_sl01T, p_lenL, p_lenT, p_sumL, p_sumT, p_tupleL, p_tupleT, p_listL, p_listT, p_abs, p_min2, p_max2, p_min, p_max, p_all, p_any, p_isi, p_eqI, p_neI, isiD, isND, item0, intsOf_map, boolsOf_map, List.getElem?_cons_zero, List.getElem?_cons_succ, List.getElem?_nil, List.set_cons_zero, List.set_cons_succ, List.length_cons, List.length_nil, List.length_append, List.length_map, List.length_range, List.map_cons, List.map_nil, List.cons_append, List.nil_append, List.append_nil, List.replicate_succ, List.replicate_zero, List.take_succ_cons, List.take_zero, Option.map_some, Option.map_none, Option.bind_some, Option.bind_none, Option.getD_some, Option.toList, if_true, if_false, ite_true, ite_false, reduceIte, Bool.false_eq_true, Bool.true_eq_false, Bool.not_true, Bool.not_false, decide_true, decide_false, decide_eq_true_eq, Nat.reduceAdd, Nat.reduceSub, Nat.reduceLeDiff, Nat.zero_le, Int.cast_ofNat_Int, Nat.reduceEqDiff, Nat.reduceMul, Nat.reducePow, Int.reduceAdd, Int.reduceSub, Int.reduceMul, Int.reduceNeg, Int.reduceLT, Int.reduceEq, Int.reduceLE, Int.reduceToNat, Int.reduceDiv, Int.reduceMod, Int.reducePow, Nat.zero_add, eq_self, Nat.add_zero, Bool.and_true, Bool.true_and, Bool.and_self, implies_true, and_true, true_and, and_self, not_true_eq_false, not_false_eq_true, true_or, or_true, Function.comp, e1, h1]
    | none => cases k <;> cases hv
    | bool _ => cases k <;> cases hv
    | list _ => cases k <;> cases hv
    | dict _ => cases k <;> cases hv
theorem ok_parted : ∀ (k m : Nat) {a b : Int} (v : PyData), Part k v → Src a b → k ≤ 3 → ∃ a' b' y, Src a' b' ∧ nice (k + 3) y = true ∧ Ph (m + 3 + k) "_law_parted" [.bor (srcD a b), .val v] = some ⟨y, false, [.bor (srcD a' b'), .val v]⟩ := by
  have fin : ∀ (k m : Nat) {a b a1 b1 : Int} (v : PyData), Part k v → Src a1 b1 → exec (Ph (m + 2)) fuel headB [.bor (srcD a b), .val v, .no, .no, .no] = some (.nx [.bor (srcD a1 b1), .val v, .no, .no, .no]) → ∃ a' b' y, Src a' b' ∧ nice (k + 3) y = true ∧ Ph (m + 3) "_law_parted" [.bor (srcD a b), .val v] = some ⟨y, false, [.bor (srcD a' b'), .val v]⟩ := by
    intro k m a b a1 b1 v hv hs e
    obtain ⟨a', b', y, s4, h1, h2, h3⟩ := ok_tailB k m v hv hs
    refine ⟨a', b', y, h1, h2, ?_⟩
    rw [L__law_parted]
    show (match execs (Ph (m + 2)) fuel (.c headB tailB) [.bor (srcD a b), .val v, .no, .no, .no] with | some (.nx ρ) => some (⟨.none, false, ρ.take 2⟩ : Res) | some (.rt d f ρ) => some ⟨d, f, ρ.take 2⟩ | _ => none) = _
    unfold execs
    rw [e]
    dsimp only
    rw [h3]
    rfl
  intro k
  induction k with
  | zero =>
    intro m a b v hv hs _
    rw [show m + 3 + 0 = m + 3 from rfl]
    cases v with
    | int i => exact fin 0 m _ hv hs (by simp only [headB, i__law_parted, runF, execs, exec, ev, evs, evw, evc, eva, evI, evO, asB, varOf, viewR, borR, putB, putAll, isOB, bindT, setAll, setV_eq, setO_eq, wipeR_eq, wipeR, backR, frO_some, frB_no, frB_val, fwO_some, fwB_no, fwB_val, fwB_own, st_20, st_21, it_21, it_2, it_3, it_4, enc_it0, enc_it1, enc_it2, enc_it3, enc_it4, tie_eq_high, tie_eq_low, p_add, p_addT, p_addL, p_sub, p_neg, p_Lt, p_LtE, p_Gt, p_GtE, c_Lt, c_LtE, c_Gt, c_GtE, b_tf, b_tt, b_ff, b_ft, n_f, n_t, p_itemL, p_itemT, p_sl11L, p_sl11T, p_sl10L, p_sl10T, p_sl01L, p_sl01T, p_lenL, p_lenT, p_sumL, p_sumT, p_tupleL, p_tupleT, p_listL, p_listT, p_abs, p_min2, p_max2, p_min, p_max, p_all, p_any, p_isi, p_eqI, p_neI, isiD, isND, item0, intsOf_map, boolsOf_map, List.getElem?_cons_zero, List.getElem?_cons_succ, List.getElem?_nil, List.set_cons_zero, List.set_cons_succ, List.length_cons, List.length_nil, List.length_append, List.length_map, List.length_range, List.map_cons, List.map_nil, List.cons_append, List.nil_append, List.append_nil, List.replicate_succ, List.replicate_zero, List.take_succ_cons, List.take_zero, Option.map_some, Option.map_none, Option.bind_some, Option.bind_none, Option.getD_some, Option.toList, if_true, if_false, ite_true, ite_false, reduceIte, Bool.false_eq_true, Bool.true_eq_false, Bool.not_true, Bool.not_false, decide_true, decide_false, decide_eq_true_eq, Nat.reduceAdd, Nat.reduceSub, Nat.reduceLeDiff, Nat.zero_le, Int.cast_ofNat_Int, Nat.reduceEqDiff, Nat.reduceMul, Nat.reducePow, Int.reduceAdd, Int.reduceSub, Int.reduceMul, Int.reduceNeg, Int.reduceLT, Int.reduceEq, Int.reduceLE, Int.reduceToNat, Int.reduceDiv, Int.reduceMod, Int.reducePow, Nat.zero_add, eq_self, Nat.add_zero, Bool.and_true, Bool.true_and, Bool.and_self, implies_true, and_true, true_and, and_self, not_true_eq_false, not_false_eq_true, true_or, or_true, Function.comp])
    | str x => exact fin 0 m _ hv hs (by simp only [headB, i__law_parted, runF, execs, exec, ev, evs, evw, evc, eva, evI, evO, asB, varOf, viewR, borR, putB, putAll, isOB, bindT, setAll, setV_eq, setO_eq, wipeR_eq, wipeR, backR, frO_some, frB_no, frB_val, fwO_some, fwB_no, fwB_val, fwB_own, st_20, st_21, it_21, it_2, it_3, it_4, enc_it0, enc_it1, enc_it2, enc_it3, enc_it4, tie_eq_high, tie_eq_low, p_add, p_addT, p_addL, p_sub, p_neg, p_Lt, p_LtE, p_Gt, p_GtE, c_Lt, c_LtE, c_Gt, c_GtE, b_tf, b_tt, b_ff, b_ft, n_f, n_t, p_itemL, p_itemT, p_sl11L, p_sl11T, p_sl10L, p_sl10T, p_sl01L, p_sl01T, p_lenL, p_lenT, p_sumL, p_sumT, p_tupleL, p_tupleT, p_listL, p_listT, p_abs, p_min2, p_max2, p_min, p_max, p_all, p_any, p_isi, p_eqI, p_neI, isiD, isND, item0, intsOf_map, boolsOf_map, List.getElem?_cons_zero, List.getElem?_cons_succ, List.getElem?_nil, List.set_cons_zero, List.set_cons_succ, List.length_cons, List.length_nil, List.length_append, List.length_map, List.length_range, List.map_cons, List.map_nil, List.cons_append, List.nil_append, List.append_nil, List.replicate_succ, List.replicate_zero, List.take_succ_cons, List.take_zero, Option.map_some, Option.map_none, Option.bind_some, Option.bind_none, Option.getD_some, Option.toList, if_true, if_false, ite_true, ite_false, reduceIte, Bool.false_eq_true, Bool.true_eq_false, Bool.not_true, Bool.not_false, decide_true, decide_false, decide_eq_true_eq, Nat.reduceAdd, Nat.reduceSub, Nat.reduceLeDiff, Nat.zero_le, Int.cast_ofNat_Int, Nat.reduceEqDiff, Nat.reduceMul, Nat.reducePow, Int.reduceAdd, Int.reduceSub, Int.reduceMul, Int.reduceNeg, Int.reduceLT, Int.reduceEq, Int.reduceLE, Int.reduceToNat, Int.reduceDiv, Int.reduceMod, Int.reducePow, Nat.zero_add, eq_self, Nat.add_zero, Bool.and_true, Bool.true_and, Bool.and_self, implies_true, and_true, true_and, and_self, not_true_eq_false, not_false_eq_true, true_or, or_true, Function.comp])
    | tuple xs => cases hv
    | none => cases hv
    | bool _ => cases hv
    | list _ => cases hv
    | dict _ => cases hv
  | succ k ih =>
    intro m a b v hv hs hk
    rw [show m + 3 + (k + 1) = m + (k + 1) + 3 by omega]
    cases v with
    | int i => exact fin (k + 1) (m + (k + 1)) _ hv hs (by simp only [headB, i__law_parted, runF, execs, exec, ev, evs, evw, evc, eva, evI, evO, asB, varOf, viewR, borR, putB, putAll, isOB, bindT, setAll, setV_eq, setO_eq, wipeR_eq, wipeR, backR, frO_some, frB_no, frB_val, fwO_some, fwB_no, fwB_val, fwB_own, st_20, st_21, it_21, it_2, it_3, it_4, enc_it0, enc_it1, enc_it2, enc_it3, enc_it4, tie_eq_high, tie_eq_low, p_add, p_addT, p_addL, p_sub, p_neg, p_Lt, p_LtE, p_Gt, p_GtE, c_Lt, c_LtE, c_Gt, c_GtE, b_tf, b_tt, b_ff, b_ft, n_f, n_t, p_itemL, p_itemT, p_sl11L, p_sl11T, p_sl10L, p_sl10T, p_sl01L, p_sl01T, p_lenL, p_lenT, p_sumL, p_sumT, p_tupleL, p_tupleT, p_listL, p_listT, p_abs, p_min2, p_max2, p_min, p_max, p_all, p_any, p_isi, p_eqI, p_neI, isiD, isND, item0, intsOf_map, boolsOf_map, List.getElem?_cons_zero, List.getElem?_cons_succ, List.getElem?_nil, List.set_cons_zero, List.set_cons_succ, List.length_cons, List.length_nil, List.length_append, List.length_map, List.length_range, List.map_cons, List.map_nil, List.cons_append, List.nil_append, List.append_nil, List.replicate_succ, List.replicate_zero, List.take_succ_cons, List.take_zero, Option.map_some, Option.map_none, Option.bind_some, Option.bind_none, Option.getD_some, Option.toList, if_true, if_false, ite_true, ite_false, reduceIte, Bool.false_eq_true, Bool.true_eq_false, Bool.not_true, Bool.not_false, decide_true, decide_false, decide_eq_true_eq, Nat.reduceAdd, Nat.reduceSub, Nat.reduceLeDiff, Nat.zero_le, Int.cast_ofNat_Int, Nat.reduceEqDiff, Nat.reduceMul, Nat.reducePow, Int.reduceAdd, Int.reduceSub, Int.reduceMul, Int.reduceNeg, Int.reduceLT, Int.reduceEq, Int.reduceLE, Int.reduceToNat, Int.reduceDiv, Int.reduceMod, Int.reducePow, Nat.zero_add, eq_self, Nat.add_zero, Bool.and_true, Bool.true_and, Bool.and_self, implies_true, and_true, true_and, and_self, not_true_eq_false, not_false_eq_true, true_or, or_true, Function.comp])
    | str x => exact fin (k + 1) (m + (k + 1)) _ hv hs (by simp only [headB, i__law_parted, runF, execs, exec, ev, evs, evw, evc, eva, evI, evO, asB, varOf, viewR, borR, putB, putAll, isOB, bindT, setAll, setV_eq, setO_eq, wipeR_eq, wipeR, backR, frO_some, frB_no, frB_val, fwO_some, fwB_no, fwB_val, fwB_own, st_20, st_21, it_21, it_2, it_3, it_4, enc_it0, enc_it1, enc_it2, enc_it3, enc_it4, tie_eq_high, tie_eq_low, p_add, p_addT, p_addL, p_sub, p_neg, p_Lt, p_LtE, p_Gt, p_GtE, c_Lt, c_LtE, c_Gt, c_GtE, b_tf, b_tt, b_ff, b_ft, n_f, n_t, p_itemL, p_itemT, p_sl11L, p_sl11T, p_sl10L, p_sl10T, p_sl01L, p_sl01T, p_lenL, p_lenT, p_sumL, p_sumT, p_tupleL, p_tupleT, p_listL, p_listT, p_abs, p_min2, p_max2, p_min, p_max, p_all, p_any, p_isi, p_eqI, p_neI, isiD, isND, item0, intsOf_map, boolsOf_map, List.getElem?_cons_zero, List.getElem?_cons_succ, List.getElem?_nil, List.set_cons_zero, List.set_cons_succ, List.length_cons, List.length_nil, List.length_append, List.length_map, List.length_range, List.map_cons, List.map_nil, List.cons_append, List.nil_append, List.append_nil, List.replicate_succ, List.replicate_zero, List.take_succ_cons, List.take_zero, Option.map_some, Option.map_none, Option.bind_some, Option.bind_none, Option.getD_some, Option.toList, if_true, if_false, ite_true, ite_false, reduceIte, Bool.false_eq_true, Bool.true_eq_false, Bool.not_true, Bool.not_false, decide_true, decide_false, decide_eq_true_eq, Nat.reduceAdd, Nat.reduceSub, Nat.reduceLeDiff, Nat.zero_le, Int.cast_ofNat_Int, Nat.reduceEqDiff, Nat.reduceMul, Nat.reducePow, Int.reduceAdd, Int.reduceSub, Int.reduceMul, Int.reduceNeg, Int.reduceLT, Int.reduceEq, Int.reduceLE, Int.reduceToNat, Int.reduceDiv, Int.reduceMod, Int.reducePow, Nat.zero_add, eq_self, Nat.add_zero, Bool.and_true, Bool.true_and, Bool.and_self, implies_true, and_true, true_and, and_self, not_true_eq_false, not_false_eq_true, true_or, or_true, Function.comp])
    | none => cases hv
    | bool _ => cases hv
    | list _ => cases hv
    | dict _ => cases hv
    | tuple xs =>
      have hn := part_nice (k + 1) _ hv
      have ht := tup_ne_nil hn (by omega) hv.1
      have hx0 := hv.1
      have hx10 := hv.2.1
      obtain ⟨a1, b1, r1, s1, p1, q1, e1⟩ := ok_draw (m + k + 2) 5 hs (by decide) (by decide)
      by_cases h1 : 0 < r1
      · obtain ⟨a2, b2, r2, s2, p2, q2, e2⟩ := ok_draw (m + k + 2) (xs.length : Int) s1 (by omega) (by omega)
        obtain ⟨a3, b3, r3, s3, p3, q3, e3⟩ := ok_draw (m + k + 2) 9 s2 (by decide) (by decide)
        have hl : r2.toNat < xs.length := by omega
        have hx : xs[r2.toNat]? = some xs[r2.toNat] := List.getElem?_eq_getElem hl
        have hcut : ∀ (lo hi : Option Int), (cutD xs lo hi).length ≤ xs.length := fun lo hi => len_cut
        have nel : ∀ {lo hi : Option Int} {x : PyData}, x ∈ cutD xs lo hi → nice (k + 3) x = true := fun h => nice_mono ((nice_tuple.mp hn).2 _ (mem_cut h)) (by omega)
        by_cases h3 : r3 = 0
        · subst h3
          refine ⟨a3, b3, .tuple (cutD xs none (some r2) ++ cutD xs (some (r2 + 1)) none), s3, ?_, ?_⟩
          · have c1 := hcut none (some r2)
            have c2 := hcut (some (r2 + 1)) none
            refine nice_tuple.mpr ⟨by rw [List.length_append]; omega, fun x hx => ?_⟩
            rcases List.mem_append.mp hx with h | h <;> exact nel h
          · have c1 := hcut none (some r2)
            have c2 := hcut (some (r2 + 1)) none
            have c3 : (cutD xs none (some r2)).length + (cutD xs (some (r2 + 1)) none).length ≤ 16777216 := by omega
            rw [show m + (k + 1) + 3 = (m + k + 3) + 1 by omega]
            rw [L__law_parted]
            simp only [i__law_parted, runF, execs, exec, ev, evs, evw, evc, eva, evI, evO, asB, varOf, viewR, borR, putB, putAll, isOB, bindT, setAll, setV_eq, setO_eq, wipeR_eq, wipeR, backR, frO_some, frB_no, frB_val, fwO_some, fwB_no, fwB_val, fwB_own, st_20, st_21, it_21, it_2, it_3, it_4, enc_it0, enc_it1, enc_it2, enc_it3, enc_it4, tie_eq_high, tie_eq_low, p_add, p_addT, p_addL, p_sub, p_neg, p_Lt, p_LtE, p_Gt, p_GtE, c_Lt, c_LtE, c_Gt, c_GtE, b_tf, b_tt, b_ff, b_ft, n_f, n_t, p_itemL, p_itemT, p_sl11L, p_sl11T, p_sl10L, p_sl10T, p_sl01L, p_sl01T, p_lenL, p_lenT, p_sumL, p_sumT, p_tupleL, p_tupleT, p_listL, p_listT, p_abs, p_min2, p_max2, p_min, p_max, p_all, p_any, p_isi, p_eqI, p_neI, isiD, isND, item0, intsOf_map, boolsOf_map, List.getElem?_cons_zero, List.getElem?_cons_succ, List.getElem?_nil, List.set_cons_zero, List.set_cons_succ, List.length_cons, List.length_nil, List.length_append, List.length_map, List.length_range, List.map_cons, List.map_nil, List.cons_append, List.nil_append, List.append_nil, List.replicate_succ, List.replicate_zero, List.take_succ_cons, List.take_zero, Option.map_some, Option.map_none, Option.bind_some, Option.bind_none, Option.getD_some, Option.toList, if_true, if_false, ite_true, ite_false, reduceIte, Bool.false_eq_true, Bool.true_eq_false, Bool.not_true, Bool.not_false, decide_true, decide_false, decide_eq_true_eq, Nat.reduceAdd, Nat.reduceSub, Nat.reduceLeDiff, Nat.zero_le, Int.cast_ofNat_Int, Nat.reduceEqDiff, Nat.reduceMul, Nat.reducePow, Int.reduceAdd, Int.reduceSub, Int.reduceMul, Int.reduceNeg, Int.reduceLT, Int.reduceEq, Int.reduceLE, Int.reduceToNat, Int.reduceDiv, Int.reduceMod, Int.reducePow, Nat.zero_add, eq_self, Nat.add_zero, Bool.and_true, Bool.true_and, Bool.and_self, implies_true, and_true, true_and, and_self, not_true_eq_false, not_false_eq_true, true_or, or_true, Function.comp, ht, e1, h1, e2, e3, c3]
        · by_cases h4 : r3 = 1
          · subst h4
            refine ⟨a3, b3, .tuple (cutD xs none (some (r2 + 1)) ++ cutD xs (some r2) none), s3, ?_, ?_⟩
            · have c1 := hcut none (some (r2 + 1))
              have c2 := hcut (some r2) none
              refine nice_tuple.mpr ⟨by rw [List.length_append]; omega, fun x hx => ?_⟩
              rcases List.mem_append.mp hx with h | h <;> exact nel h
            · have c1 := hcut none (some (r2 + 1))
              have c2 := hcut (some r2) none
              have c3 : (cutD xs none (some (r2 + 1))).length + (cutD xs (some r2) none).length ≤ 16777216 := by omega
              rw [show m + (k + 1) + 3 = (m + k + 3) + 1 by omega]
              rw [L__law_parted]
              simp only [i__law_parted, runF, execs, exec, ev, evs, evw, evc, eva, evI, evO, asB, varOf, viewR, borR, putB, putAll, isOB, bindT, setAll, setV_eq, setO_eq, wipeR_eq, wipeR, backR, frO_some, frB_no, frB_val, fwO_some, fwB_no, fwB_val, fwB_own, st_20, st_21, it_21, it_2, it_3, it_4, enc_it0, enc_it1, enc_it2, enc_it3, enc_it4, tie_eq_high, tie_eq_low, p_add, p_addT, p_addL, p_sub, p_neg, p_Lt, p_LtE, p_Gt, p_GtE, c_Lt, c_LtE, c_Gt, c_GtE, b_tf, b_tt, b_ff, b_ft, n_f, n_t, p_itemL, p_itemT, p_sl11L, p_sl11T, p_sl10L, p_sl10T, p_sl01L, p_sl01T, p_lenL, p_lenT, p_sumL, p_sumT, p_tupleL, p_tupleT, p_listL, p_listT, p_abs, p_min2, p_max2, p_min, p_max, p_all, p_any, p_isi, p_eqI, p_neI, isiD, isND, item0, intsOf_map, boolsOf_map, List.getElem?_cons_zero, List.getElem?_cons_succ, List.getElem?_nil, List.set_cons_zero, List.set_cons_succ, List.length_cons, List.length_nil, List.length_append, List.length_map, List.length_range, List.map_cons, List.map_nil, List.cons_append, List.nil_append, List.append_nil, List.replicate_succ, List.replicate_zero, List.take_succ_cons, List.take_zero, Option.map_some, Option.map_none, Option.bind_some, Option.bind_none, Option.getD_some, Option.toList, if_true, if_false, ite_true, ite_false, reduceIte, Bool.false_eq_true, Bool.true_eq_false, Bool.not_true, Bool.not_false, decide_true, decide_false, decide_eq_true_eq, Nat.reduceAdd, Nat.reduceSub, Nat.reduceLeDiff, Nat.zero_le, Int.cast_ofNat_Int, Nat.reduceEqDiff, Nat.reduceMul, Nat.reducePow, Int.reduceAdd, Int.reduceSub, Int.reduceMul, Int.reduceNeg, Int.reduceLT, Int.reduceEq, Int.reduceLE, Int.reduceToNat, Int.reduceDiv, Int.reduceMod, Int.reducePow, Nat.zero_add, eq_self, Nat.add_zero, Bool.and_true, Bool.true_and, Bool.and_self, implies_true, and_true, true_and, and_self, not_true_eq_false, not_false_eq_true, true_or, or_true, Function.comp, ht, e1, h1, e2, e3, h3, c3]
          · obtain ⟨a4, b4, y, s4, ny, e4⟩ := ih m xs[r2.toNat] (hv.2.2 _ (List.getElem_mem _)) s3 (by omega)
            rw [show m + 3 + k = m + k + 3 by omega] at e4
            refine ⟨a4, b4, .tuple ((cutD xs none (some r2) ++ [y]) ++ cutD xs (some (r2 + 1)) none), s4, ?_, ?_⟩
            · have c1 := hcut none (some r2)
              have c2 := hcut (some (r2 + 1)) none
              refine nice_tuple.mpr ⟨by simp only [List.length_append, List.length_cons, List.length_nil]; omega, fun x hx => ?_⟩
              rcases List.mem_append.mp hx with h | h
              · rcases List.mem_append.mp h with h | h
                · exact nel h
                · rw [List.mem_singleton.mp h]; exact ny
              · exact nel h
            · have c1 := hcut none (some r2)
              have c2 := hcut (some (r2 + 1)) none
              have c3 : (cutD xs none (some r2)).length + 1 ≤ 16777216 := by omega
              have c4 : (cutD xs none (some r2)).length + 1 + (cutD xs (some (r2 + 1)) none).length ≤ 16777216 := by omega
              rw [show m + (k + 1) + 3 = (m + k + 3) + 1 by omega]
              rw [L__law_parted]
              simp only [i__law_parted, runF, execs, exec, ev, evs, evw, evc, eva, evI, evO, asB, varOf, viewR, borR, putB, putAll, isOB, bindT, setAll, setV_eq, setO_eq, wipeR_eq, wipeR, backR, frO_some, frB_no, frB_val, fwO_some, fwB_no, fwB_val, fwB_own, st_20, st_21, it_21, it_2, it_3, it_4, enc_it0, enc_it1, enc_it2, enc_it3, enc_it4, tie_eq_high, tie_eq_low, p_add, p_addT, p_addL, p_sub, p_neg, p_Lt, p_LtE, p_Gt, p_GtE, c_Lt, c_LtE, c_Gt, c_GtE, b_tf, b_tt, b_ff, b_ft, n_f, n_t, p_itemL, p_itemT, p_sl11L, p_sl11T, p_sl10L, p_sl10T, p_sl01L, p_sl01T, p_lenL, p_lenT, p_sumL, p_sumT, p_tupleL, p_tupleT, p_listL, p_listT, p_abs, p_min2, p_max2, p_min, p_max, p_all, p_any, p_isi, p_eqI, p_neI, isiD, isND, item0, intsOf_map, boolsOf_map, List.getElem?_cons_zero, List.getElem?_cons_succ, List.getElem?_nil, List.set_cons_zero, List.set_cons_succ, List.length_cons, List.length_nil, List.length_append, List.length_map, List.length_range, List.map_cons, List.map_nil, List.cons_append, List.nil_append, List.append_nil, List.replicate_succ, List.replicate_zero, List.take_succ_cons, List.take_zero, Option.map_some, Option.map_none, Option.bind_some, Option.bind_none, Option.getD_some, Option.toList, if_true, if_false, ite_true, ite_false, reduceIte, Bool.false_eq_true, Bool.true_eq_false, Bool.not_true, Bool.not_false, decide_true, decide_false, decide_eq_true_eq, Nat.reduceAdd, Nat.reduceSub, Nat.reduceLeDiff, Nat.zero_le, Int.cast_ofNat_Int, Nat.reduceEqDiff, Nat.reduceMul, Nat.reducePow, Int.reduceAdd, Int.reduceSub, Int.reduceMul, Int.reduceNeg, Int.reduceLT, Int.reduceEq, Int.reduceLE, Int.reduceToNat, Int.reduceDiv, Int.reduceMod, Int.reducePow, Nat.zero_add, eq_self, Nat.add_zero, Bool.and_true, Bool.true_and, Bool.and_self, implies_true, and_true, true_and, and_self, not_true_eq_false, not_false_eq_true, true_or, or_true, Function.comp, ht, e1, h1, e2, e3, h3, h4, item_at hx p2, e4, c3, c4]
      · exact fin (k + 1) (m + (k + 1)) _ hv s1 (by
          have e1' : Ph (m + (k + 1) + 2) "_law_draw" [.bor (srcD a b), .val (.int 5)] = some ⟨.int r1, false, [.bor (srcD a1 b1), .val (.int 5)]⟩ := e1
          simp only [headB, i__law_parted, runF, execs, exec, ev, evs, evw, evc, eva, evI, evO, asB, varOf, viewR, borR, putB, putAll, isOB, bindT, setAll, setV_eq, setO_eq, wipeR_eq, wipeR, backR, frO_some, frB_no, frB_val, fwO_some, fwB_no, fwB_val, fwB_own, st_20, st_21, it_21, it_2, it_3, it_4, enc_it0, enc_it1, enc_it2, enc_it3, enc_it4, tie_eq_high, tie_eq_low, p_add, p_addT, p_addL, p_sub, p_neg, p_Lt, p_LtE, p_Gt, p_GtE, c_Lt, c_LtE, c_Gt, c_GtE, b_tf, b_tt, b_ff, b_ft, n_f, n_t, p_itemL, p_itemT, p_sl11L, p_sl11T, p_sl10L, p_sl10T, p_sl01L, p_sl01T, p_lenL, p_lenT, p_sumL, p_sumT, p_tupleL, p_tupleT, p_listL, p_listT, p_abs, p_min2, p_max2, p_min, p_max, p_all, p_any, p_isi, p_eqI, p_neI, isiD, isND, item0, intsOf_map, boolsOf_map, List.getElem?_cons_zero, List.getElem?_cons_succ, List.getElem?_nil, List.set_cons_zero, List.set_cons_succ, List.length_cons, List.length_nil, List.length_append, List.length_map, List.length_range, List.map_cons, List.map_nil, List.cons_append, List.nil_append, List.append_nil, List.replicate_succ, List.replicate_zero, List.take_succ_cons, List.take_zero, Option.map_some, Option.map_none, Option.bind_some, Option.bind_none, Option.getD_some, Option.toList, if_true, if_false, ite_true, ite_false, reduceIte, Bool.false_eq_true, Bool.true_eq_false, Bool.not_true, Bool.not_false, decide_true, decide_false, decide_eq_true_eq, Nat.reduceAdd, Nat.reduceSub, Nat.reduceLeDiff, Nat.zero_le, Int.cast_ofNat_Int, Nat.reduceEqDiff, Nat.reduceMul, Nat.reducePow, Int.reduceAdd, Int.reduceSub, Int.reduceMul, Int.reduceNeg, Int.reduceLT, Int.reduceEq, Int.reduceLE, Int.reduceToNat, Int.reduceDiv, Int.reduceMod, Int.reducePow, Nat.zero_add, eq_self, Nat.add_zero, Bool.and_true, Bool.true_and, Bool.and_self, implies_true, and_true, true_and, and_self, not_true_eq_false, not_false_eq_true, true_or, or_true, Function.comp, ht, e1', h1])
/-! ### what a dither is, for data of all kinds -/
def betwD (d : PyData) (lo hi : Int) : Bool := match d with
  | .int v => decide (lo ≤ v) && decide (v ≤ hi)
  | _ => false
def intD : PyData → Int
  | .int i => i
  | _ => 0
def incB (l : List Int) : Bool := (l.zip (l.drop 1)).all fun p => decide (p.1 < p.2)
def levD (y : PyData) (t : Int) : Bool := match y with
  | .tuple xs => decide (2 ≤ xs.length) && decide (xs.length ≤ 6) && (xs.all (betwD · 0 t) && (decide ((xs.map intD).head? = some 0) && decide ((xs.map intD).getLast? = some t) && incB (xs.map intD)))
  | _ => false
def shaD (y : PyData) (q : Int) : Bool := match y with
  | .tuple xs => decide (1 ≤ xs.length) && decide (xs.length ≤ 2) && (xs.all (betwD · 0 q) && decide ((xs.map intD).sum ≤ q))
  | _ => false
def tieD : PyData → Bool
  | .str s => decide (("low" : Str) = s) || decide (("high" : Str) = s)
  | _ => false
def dithD (y : PyData) : Bool := match y with
  | .tuple [t, lv, sh, q, tie] => betwD t 1 8 && betwD q 1 8 && levD lv (intD t) && shaD sh (intD q) && tieD tie
  | _ => false
theorem betw_int {d : PyData} {lo hi : Int} (h : betwD d lo hi = true) : ∃ v, d = .int v ∧ lo ≤ v ∧ v ≤ hi := by
  cases d <;> first | (cases h; done) | skip
  simp only [betwD, Bool.and_eq_true, decide_eq_true_eq] at h
  exact ⟨_, rfl, h.1, h.2⟩
theorem all_ints {lo hi : Int} : ∀ {xs : List PyData}, xs.all (betwD · lo hi) = true → ∃ l : List Int, xs = l.map .int ∧ xs.map intD = l ∧ ∀ x ∈ l, lo ≤ x ∧ x ≤ hi
  | [], _ => ⟨[], rfl, rfl, fun x hx => by cases hx⟩
  | x :: xs, h => by
    rw [List.all_cons, Bool.and_eq_true] at h
    obtain ⟨v, rfl, h1, h2⟩ := betw_int h.1
    obtain ⟨l, rfl, h3, h4⟩ := all_ints h.2
    refine ⟨v :: l, rfl, ?_, fun x hx => ?_⟩
    · rw [List.map_cons, h3]; rfl
    · rcases List.mem_cons.mp hx with rfl | hx
      · exact ⟨h1, h2⟩
      · exact h4 x hx
theorem loopM_map {f : PyData → Rho → Option (Option PyData × Rho)} {ds : List PyData} {ρ : Rho} {o : Option (List PyData × Rho)} (e : loopM f ds ρ = o) (g : PyData → PyData) (h : ∀ a ∈ ds, f a ρ = some (some (g a), ρ)) : o = some (ds.map g, ρ) :=
  loopM_enc id (l := ds) (o := o) (by rw [List.map_id]; exact e) g h
theorem loopM_filt {f : PyData → Rho → Option (Option PyData × Rho)} {ds : List PyData} {ρ : Rho} {o : Option (List PyData × Rho)} (e : loopM f ds ρ = o) (p : PyData → Bool) (h : ∀ a ∈ ds, f a ρ = some (if p a = true then some a else none, ρ)) : o = some (ds.filter p, ρ) := by
  have := loopM_filter id (l := ds) (o := o) (by rw [List.map_id]; exact e) p id h
  rw [List.map_id] at this
  exact this
theorem ok_betweenD (m : Nat) (d : PyData) (lo hi : Int) : Ph (m + 1) "is_between" [.val d, .val (.int lo), .val (.int hi)] = some ⟨.bool (betwD d lo hi), false, [.val d, .val (.int lo), .val (.int hi)]⟩ := by
  rw [L_is_between]
  cases d with
  | int v => by_cases h : lo ≤ v <;> simp only [i_is_between, runF, execs, exec, ev, evs, evw, evc, eva, evI, evO, asB, varOf, viewR, borR, putB, putAll, isOB, bindT, setAll, setV_eq, setO_eq, wipeR_eq, wipeR, backR, frO_some, frB_no, frB_val, fwO_some, fwB_no, fwB_val, fwB_own, st_20, st_21, it_21, it_2, it_3, it_4, enc_it0, enc_it1, enc_it2, enc_it3, enc_it4, tie_eq_high, tie_eq_low, p_add, p_addT, p_addL, p_sub, p_neg, p_Lt, p_LtE, p_Gt, p_GtE, c_Lt, c_LtE, c_Gt, c_GtE, b_tf, b_tt, b_ff, b_ft, n_f, n_t, p_itemL, p_itemT, p_sl11L, p_sl11T, p_sl10L, p_sl10T, p_sl01L, p_sl01T, p_lenL, p_lenT, p_sumL, p_sumT, p_tupleL, p_tupleT, p_listL, p_listT, p_abs, p_min2, p_max2, p_min, p_max, p_all, p_any, p_isi, p_eqI, p_neI, isiD, isND, item0, intsOf_map, boolsOf_map, List.getElem?_cons_zero, List.getElem?_cons_succ, List.getElem?_nil, List.set_cons_zero, List.set_cons_succ, List.length_cons, List.length_nil, List.length_append, List.length_map, List.length_range, List.map_cons, List.map_nil, List.cons_append, List.nil_append, List.append_nil, List.replicate_succ, List.replicate_zero, List.take_succ_cons, List.take_zero, Option.map_some, Option.map_none, Option.bind_some, Option.bind_none, Option.getD_some, Option.toList, if_true, if_false, ite_true, ite_false, reduceIte, Bool.false_eq_true, Bool.true_eq_false, Bool.not_true, Bool.not_false, decide_true, decide_false, decide_eq_true_eq, Nat.reduceAdd, Nat.reduceSub, Nat.reduceLeDiff, Nat.zero_le, Int.cast_ofNat_Int, Nat.reduceEqDiff, Nat.reduceMul, Nat.reducePow, Int.reduceAdd, Int.reduceSub, Int.reduceMul, Int.reduceNeg, Int.reduceLT, Int.reduceEq, Int.reduceLE, Int.reduceToNat, Int.reduceDiv, Int.reduceMod, Int.reducePow, Nat.zero_add, eq_self, Nat.add_zero, Bool.and_true, Bool.true_and, Bool.and_self, implies_true, and_true, true_and, and_self, not_true_eq_false, not_false_eq_true, true_or, or_true, Function.comp, h, betwD, Bool.false_and]
  | none => simp only [i_is_between, runF, execs, exec, ev, evs, evw, evc, eva, evI, evO, asB, varOf, viewR, borR, putB, putAll, isOB, bindT, setAll, setV_eq, setO_eq, wipeR_eq, wipeR, backR, frO_some, frB_no, frB_val, fwO_some, fwB_no, fwB_val, fwB_own, st_20, st_21, it_21, it_2, it_3, it_4, enc_it0, enc_it1, enc_it2, enc_it3, enc_it4, tie_eq_high, tie_eq_low, p_add, p_addT, p_addL, p_sub, p_neg, p_Lt, p_LtE, p_Gt, p_GtE, c_Lt, c_LtE, c_Gt, c_GtE, b_tf, b_tt, b_ff, b_ft, n_f, n_t, p_itemL, p_itemT, p_sl11L, p_sl11T, p_sl10L, p_sl10T, p_sl01L, p_sl01T, p_lenL, p_lenT, p_sumL, p_sumT, p_tupleL, p_tupleT, p_listL, p_listT, p_abs, p_min2, p_max2, p_min, p_max, p_all, p_any, p_isi, p_eqI, p_neI, isiD, isND, item0, intsOf_map, boolsOf_map, List.getElem?_cons_zero, List.getElem?_cons_succ, List.getElem?_nil, List.set_cons_zero, List.set_cons_succ, List.length_cons, List.length_nil, List.length_append, List.length_map, List.length_range, List.map_cons, List.map_nil, List.cons_append, List.nil_append, List.append_nil, List.replicate_succ, List.replicate_zero, List.take_succ_cons, List.take_zero, Option.map_some, Option.map_none, Option.bind_some, Option.bind_none, Option.getD_some, Option.toList, if_true, if_false, ite_true, ite_false, reduceIte, Bool.false_eq_true, Bool.true_eq_false, Bool.not_true, Bool.not_false, decide_true, decide_false, decide_eq_true_eq, Nat.reduceAdd, Nat.reduceSub, Nat.reduceLeDiff, Nat.zero_le, Int.cast_ofNat_Int, Nat.reduceEqDiff, Nat.reduceMul, Nat.reducePow, Int.reduceAdd, Int.reduceSub, Int.reduceMul, Int.reduceNeg, Int.reduceLT, Int.reduceEq, Int.reduceLE, Int.reduceToNat, Int.reduceDiv, Int.reduceMod, Int.reducePow, Nat.zero_add, eq_self, Nat.add_zero, Bool.and_true, Bool.true_and, Bool.and_self, implies_true, and_true, true_and, and_self, not_true_eq_false, not_false_eq_true, true_or, or_true, Function.comp, betwD]
  | bool _ => simp only [i_is_between, runF, execs, exec, ev, evs, evw, evc, eva, evI, evO, asB, varOf, viewR, borR, putB, putAll, isOB, bindT, setAll, setV_eq, setO_eq, wipeR_eq, wipeR, backR, frO_some, frB_no, frB_val, fwO_some, fwB_no, fwB_val, fwB_own, st_20, st_21, it_21, it_2, it_3, it_4, enc_it0, enc_it1, enc_it2, enc_it3, enc_it4, tie_eq_high, tie_eq_low, p_add, p_addT, p_addL, p_sub, p_neg, p_Lt, p_LtE, p_Gt, p_GtE, c_Lt, c_LtE, c_Gt, c_GtE, b_tf, b_tt, b_ff, b_ft, n_f, n_t, p_itemL, p_itemT, p_sl11L, p_sl11T, p_sl10L, p_sl10T, p_sl01L, p_sl01T, p_lenL, p_lenT, p_sumL, p_sumT, p_tupleL, p_tupleT, p_listL, p_listT, p_abs, p_min2, p_max2, p_min, p_max, p_all, p_any, p_isi, p_eqI, p_neI, isiD, isND, item0, intsOf_map, boolsOf_map, List.getElem?_cons_zero, List.getElem?_cons_succ, List.getElem?_nil, List.set_cons_zero, List.set_cons_succ, List.length_cons, List.length_nil, List.length_append, List.length_map, List.length_range, List.map_cons, List.map_nil, List.cons_append, List.nil_append, List.append_nil, List.replicate_succ, List.replicate_zero, List.take_succ_cons, List.take_zero, Option.map_some, Option.map_none, Option.bind_some, Option.bind_none, Option.getD_some, Option.toList, if_true, if_false, ite_true, ite_false, reduceIte, Bool.false_eq_true, Bool.true_eq_false, Bool.not_true, Bool.not_false, decide_true, decide_false, decide_eq_true_eq, Nat.reduceAdd, Nat.reduceSub, Nat.reduceLeDiff, Nat.zero_le, Int.cast_ofNat_Int, Nat.reduceEqDiff, Nat.reduceMul, Nat.reducePow, Int.reduceAdd, Int.reduceSub, Int.reduceMul, Int.reduceNeg, Int.reduceLT, Int.reduceEq, Int.reduceLE, Int.reduceToNat, Int.reduceDiv, Int.reduceMod, Int.reducePow, Nat.zero_add, eq_self, Nat.add_zero, Bool.and_true, Bool.true_and, Bool.and_self, implies_true, and_true, true_and, and_self, not_true_eq_false, not_false_eq_true, true_or, or_true, Function.comp, betwD]
  | str _ => simp only [i_is_between, runF, execs, exec, ev, evs, evw, evc, eva, evI, evO, asB, varOf, viewR, borR, putB, putAll, isOB, bindT, setAll, setV_eq, setO_eq, wipeR_eq, wipeR, backR, frO_some, frB_no, frB_val, fwO_some, fwB_no, fwB_val, fwB_own, st_20, st_21, it_21, it_2, it_3, it_4, enc_it0, enc_it1, enc_it2, enc_it3, enc_it4, tie_eq_high, tie_eq_low, p_add, p_addT, p_addL, p_sub, p_neg, p_Lt, p_LtE, p_Gt, p_GtE, c_Lt, c_LtE, c_Gt, c_GtE, b_tf, b_tt, b_ff, b_ft, n_f, n_t, p_itemL, p_itemT, p_sl11L, p_sl11T, p_sl10L, p_sl10T, p_sl01L, p_sl01T, p_lenL, p_lenT, p_sumL, p_sumT, p_tupleL, p_tupleT, p_listL, p_listT, p_abs, p_min2, p_max2, p_min, p_max, p_all, p_any, p_isi, p_eqI, p_neI, isiD, isND, item0, intsOf_map, boolsOf_map, List.getElem?_cons_zero, List.getElem?_cons_succ, List.getElem?_nil, List.set_cons_zero, List.set_cons_succ, List.length_cons, List.length_nil, List.length_append, List.length_map, List.length_range, List.map_cons, List.map_nil, List.cons_append, List.nil_append, List.append_nil, List.replicate_succ, List.replicate_zero, List.take_succ_cons, List.take_zero, Option.map_some, Option.map_none, Option.bind_some, Option.bind_none, Option.getD_some, Option.toList, if_true, if_false, ite_true, ite_false, reduceIte, Bool.false_eq_true, Bool.true_eq_false, Bool.not_true, Bool.not_false, decide_true, decide_false, decide_eq_true_eq, Nat.reduceAdd, Nat.reduceSub, Nat.reduceLeDiff, Nat.zero_le, Int.cast_ofNat_Int, Nat.reduceEqDiff, Nat.reduceMul, Nat.reducePow, Int.reduceAdd, Int.reduceSub, Int.reduceMul, Int.reduceNeg, Int.reduceLT, Int.reduceEq, Int.reduceLE, Int.reduceToNat, Int.reduceDiv, Int.reduceMod, Int.reducePow, Nat.zero_add, eq_self, Nat.add_zero, Bool.and_true, Bool.true_and, Bool.and_self, implies_true, and_true, true_and, and_self, not_true_eq_false, not_false_eq_true, true_or, or_true, Function.comp, betwD]
  | list _ => simp only [i_is_between, runF, execs, exec, ev, evs, evw, evc, eva, evI, evO, asB, varOf, viewR, borR, putB, putAll, isOB, bindT, setAll, setV_eq, setO_eq, wipeR_eq, wipeR, backR, frO_some, frB_no, frB_val, fwO_some, fwB_no, fwB_val, fwB_own, st_20, st_21, it_21, it_2, it_3, it_4, enc_it0, enc_it1, enc_it2, enc_it3, enc_it4, tie_eq_high, tie_eq_low, p_add, p_addT, p_addL, p_sub, p_neg, p_Lt, p_LtE, p_Gt, p_GtE, c_Lt, c_LtE, c_Gt, c_GtE, b_tf, b_tt, b_ff, b_ft, n_f, n_t, p_itemL, p_itemT, p_sl11L, p_sl11T, p_sl10L, p_sl10T, p_sl01L, p_sl01T, p_lenL, p_lenT, p_sumL, p_sumT, p_tupleL, p_tupleT, p_listL, p_listT, p_abs, p_min2, p_max2, p_min, p_max, p_all, p_any, p_isi, p_eqI, p_neI, isiD, isND, item0, intsOf_map, boolsOf_map, List.getElem?_cons_zero, List.getElem?_cons_succ, List.getElem?_nil, List.set_cons_zero, List.set_cons_succ, List.length_cons, List.length_nil, List.length_append, List.length_map, List.length_range, List.map_cons, List.map_nil, List.cons_append, List.nil_append, List.append_nil, List.replicate_succ, List.replicate_zero, List.take_succ_cons, List.take_zero, Option.map_some, Option.map_none, Option.bind_some, Option.bind_none, Option.getD_some, Option.toList, if_true, if_false, ite_true, ite_false, reduceIte, Bool.false_eq_true, Bool.true_eq_false, Bool.not_true, Bool.not_false, decide_true, decide_false, decide_eq_true_eq, Nat.reduceAdd, Nat.reduceSub, Nat.reduceLeDiff, Nat.zero_le, Int.cast_ofNat_Int, Nat.reduceEqDiff, Nat.reduceMul, Nat.reducePow, Int.reduceAdd, Int.reduceSub, Int.reduceMul, Int.reduceNeg, Int.reduceLT, Int.reduceEq, Int.reduceLE, Int.reduceToNat, Int.reduceDiv, Int.reduceMod, Int.reducePow, Nat.zero_add, eq_self, Nat.add_zero, Bool.and_true, Bool.true_and, Bool.and_self, implies_true, and_true, true_and, and_self, not_true_eq_false, not_false_eq_true, true_or, or_true, Function.comp, betwD]
  | tuple _ => simp only [i_is_between, runF, execs, exec, ev, evs, evw, evc, eva, evI, evO, asB, varOf, viewR, borR, putB, putAll, isOB, bindT, setAll, setV_eq, setO_eq, wipeR_eq, wipeR, backR, frO_some, frB_no, frB_val, fwO_some, fwB_no, fwB_val, fwB_own, st_20, st_21, it_21, it_2, it_3, it_4, enc_it0, enc_it1, enc_it2, enc_it3, enc_it4, tie_eq_high, tie_eq_low, p_add, p_addT, p_addL, p_sub, p_neg, p_Lt, p_LtE, p_Gt, p_GtE, c_Lt, c_LtE, c_Gt, c_GtE, b_tf, b_tt, b_ff, b_ft, n_f, n_t, p_itemL, p_itemT, p_sl11L, p_sl11T, p_sl10L, p_sl10T, p_sl01L, p_sl01T, p_lenL, p_lenT, p_sumL, p_sumT, p_tupleL, p_tupleT, p_listL, p_listT, p_abs, p_min2, p_max2, p_min, p_max, p_all, p_any, p_isi, p_eqI, p_neI, isiD, isND, item0, intsOf_map, boolsOf_map, List.getElem?_cons_zero, List.getElem?_cons_succ, List.getElem?_nil, List.set_cons_zero, List.set_cons_succ, List.length_cons, List.length_nil, List.length_append, List.length_map, List.length_range, List.map_cons, List.map_nil, List.cons_append, List.nil_append, List.append_nil, List.replicate_succ, List.replicate_zero, List.take_succ_cons, List.take_zero, Option.map_some, Option.map_none, Option.bind_some, Option.bind_none, Option.getD_some, Option.toList, if_true, if_false, ite_true, ite_false, reduceIte, Bool.false_eq_true, Bool.true_eq_false, Bool.not_true, Bool.not_false, decide_true, decide_false, decide_eq_true_eq, Nat.reduceAdd, Nat.reduceSub, Nat.reduceLeDiff, Nat.zero_le, Int.cast_ofNat_Int, Nat.reduceEqDiff, Nat.reduceMul, Nat.reducePow, Int.reduceAdd, Int.reduceSub, Int.reduceMul, Int.reduceNeg, Int.reduceLT, Int.reduceEq, Int.reduceLE, Int.reduceToNat, Int.reduceDiv, Int.reduceMod, Int.reducePow, Nat.zero_add, eq_self, Nat.add_zero, Bool.and_true, Bool.true_and, Bool.and_self, implies_true, and_true, true_and, and_self, not_true_eq_false, not_false_eq_true, true_or, or_true, Function.comp, betwD]
  | dict _ => simp only [i_is_between, runF, execs, exec, ev, evs, evw, evc, eva, evI, evO, asB, varOf, viewR, borR, putB, putAll, isOB, bindT, setAll, setV_eq, setO_eq, wipeR_eq, wipeR, backR, frO_some, frB_no, frB_val, fwO_some, fwB_no, fwB_val, fwB_own, st_20, st_21, it_21, it_2, it_3, it_4, enc_it0, enc_it1, enc_it2, enc_it3, enc_it4, tie_eq_high, tie_eq_low, p_add, p_addT, p_addL, p_sub, p_neg, p_Lt, p_LtE, p_Gt, p_GtE, c_Lt, c_LtE, c_Gt, c_GtE, b_tf, b_tt, b_ff, b_ft, n_f, n_t, p_itemL, p_itemT, p_sl11L, p_sl11T, p_sl10L, p_sl10T, p_sl01L, p_sl01T, p_lenL, p_lenT, p_sumL, p_sumT, p_tupleL, p_tupleT, p_listL, p_listT, p_abs, p_min2, p_max2, p_min, p_max, p_all, p_any, p_isi, p_eqI, p_neI, isiD, isND, item0, intsOf_map, boolsOf_map, List.getElem?_cons_zero, List.getElem?_cons_succ, List.getElem?_nil, List.set_cons_zero, List.set_cons_succ, List.length_cons, List.length_nil, List.length_append, List.length_map, List.length_range, List.map_cons, List.map_nil, List.cons_append, List.nil_append, List.append_nil, List.replicate_succ, List.replicate_zero, List.take_succ_cons, List.take_zero, Option.map_some, Option.map_none, Option.bind_some, Option.bind_none, Option.getD_some, Option.toList, if_true, if_false, ite_true, ite_false, reduceIte, Bool.false_eq_true, Bool.true_eq_false, Bool.not_true, Bool.not_false, decide_true, decide_false, decide_eq_true_eq, Nat.reduceAdd, Nat.reduceSub, Nat.reduceLeDiff, Nat.zero_le, Int.cast_ofNat_Int, Nat.reduceEqDiff, Nat.reduceMul, Nat.reducePow, Int.reduceAdd, Int.reduceSub, Int.reduceMul, Int.reduceNeg, Int.reduceLT, Int.reduceEq, Int.reduceLE, Int.reduceToNat, Int.reduceDiv, Int.reduceMod, Int.reducePow, Nat.zero_add, eq_self, Nat.add_zero, Bool.and_true, Bool.true_and, Bool.and_self, implies_true, and_true, true_and, and_self, not_true_eq_false, not_false_eq_true, true_or, or_true, Function.comp, betwD]
theorem ok_lbetweenD (m : Nat) (d : PyData) (lo hi : Int) : Ph (m + 1) "_law_is_between" [.val d, .val (.int lo), .val (.int hi)] = some ⟨.bool (betwD d lo hi), false, [.val d, .val (.int lo), .val (.int hi)]⟩ := by
  rw [L__law_is_between]
  cases d with
  | int v => by_cases h : lo ≤ v <;> simp only [i__law_is_between, runF, execs, exec, ev, evs, evw, evc, eva, evI, evO, asB, varOf, viewR, borR, putB, putAll, isOB, bindT, setAll, setV_eq, setO_eq, wipeR_eq, wipeR, backR, frO_some, frB_no, frB_val, fwO_some, fwB_no, fwB_val, fwB_own, st_20, st_21, it_21, it_2, it_3, it_4, enc_it0, enc_it1, enc_it2, enc_it3, enc_it4, tie_eq_high, tie_eq_low, p_add, p_addT, p_addL, p_sub, p_neg, p_Lt, p_LtE, p_Gt, p_GtE, c_Lt, c_LtE, c_Gt, c_GtE, b_tf, b_tt, b_ff, b_ft, n_f, n_t, p_itemL, p_itemT, p_sl11L, p_sl11T, p_sl10L, p_sl10T, p_sl01L, p_sl01T, p_lenL, p_lenT, p_sumL, p_sumT, p_tupleL, p_tupleT, p_listL, p_listT, p_abs, p_min2, p_max2, p_min, p_max, p_all, p_any, p_isi, p_eqI, p_neI, isiD, isND, item0, intsOf_map, boolsOf_map, List.getElem?_cons_zero, List.getElem?_cons_succ, List.getElem?_nil, List.set_cons_zero, List.set_cons_succ, List.length_cons, List.length_nil, List.length_append, List.length_map, List.length_range, List.map_cons, List.map_nil, List.cons_append, List.nil_append, List.append_nil, List.replicate_succ, List.replicate_zero, List.take_succ_cons, List.take_zero, Option.map_some, Option.map_none, Option.bind_some, Option.bind_none, Option.getD_some, Option.toList, if_true, if_false, ite_true, ite_false, reduceIte, Bool.false_eq_true, Bool.true_eq_false, Bool.not_true, Bool.not_false, decide_true, decide_false, decide_eq_true_eq, Nat.reduceAdd, Nat.reduceSub, Nat.reduceLeDiff, Nat.zero_le, Int.cast_ofNat_Int, Nat.reduceEqDiff, Nat.reduceMul, Nat.reducePow, Int.reduceAdd, Int.reduceSub, Int.reduceMul, Int.reduceNeg, Int.reduceLT, Int.reduceEq, Int.reduceLE, Int.reduceToNat, Int.reduceDiv, Int.reduceMod, Int.reducePow, Nat.zero_add, eq_self, Nat.add_zero, Bool.and_true, Bool.true_and, Bool.and_self, implies_true, and_true, true_and, and_self, not_true_eq_false, not_false_eq_true, true_or, or_true, Function.comp, h, betwD, Bool.false_and]
  | none => simp only [i__law_is_between, runF, execs, exec, ev, evs, evw, evc, eva, evI, evO, asB, varOf, viewR, borR, putB, putAll, isOB, bindT, setAll, setV_eq, setO_eq, wipeR_eq, wipeR, backR, frO_some, frB_no, frB_val, fwO_some, fwB_no, fwB_val, fwB_own, st_20, st_21, it_21, it_2, it_3, it_4, enc_it0, enc_it1, enc_it2, enc_it3, enc_it4, tie_eq_high, tie_eq_low, p_add, p_addT, p_addL, p_sub, p_neg, p_Lt, p_LtE, p_Gt, p_GtE, c_Lt, c_LtE, c_Gt, c_GtE, b_tf, b_tt, b_ff, b_ft, n_f, n_t, p_itemL, p_itemT, p_sl11L, p_sl11T, p_sl10L, p_sl10T, p_sl01L, p_sl01T, p_lenL, p_lenT, p_sumL, p_sumT, p_tupleL, p_tupleT, p_listL, p_listT, p_abs, p_min2, p_max2, p_min, p_max, p_all, p_any, p_isi, p_eqI, p_neI, isiD, isND, item0, intsOf_map, boolsOf_map, List.getElem?_cons_zero, List.getElem?_cons_succ, List.getElem?_nil, List.set_cons_zero, List.set_cons_succ, List.length_cons, List.length_nil, List.length_append, List.length_map, List.length_range, List.map_cons, List.map_nil, List.cons_append, List.nil_append, List.append_nil, List.replicate_succ, List.replicate_zero, List.take_succ_cons, List.take_zero, Option.map_some, Option.map_none, Option.bind_some, Option.bind_none, Option.getD_some, Option.toList, if_true, if_false, ite_true, ite_false, reduceIte, Bool.false_eq_true, Bool.true_eq_false, Bool.not_true, Bool.not_false, decide_true, decide_false, decide_eq_true_eq, Nat.reduceAdd, Nat.reduceSub, Nat.reduceLeDiff, Nat.zero_le, Int.cast_ofNat_Int, Nat.reduceEqDiff, Nat.reduceMul, Nat.reducePow, Int.reduceAdd, Int.reduceSub, Int.reduceMul, Int.reduceNeg, Int.reduceLT, Int.reduceEq, Int.reduceLE, Int.reduceToNat, Int.reduceDiv, Int.reduceMod, Int.reducePow, Nat.zero_add, eq_self, Nat.add_zero, Bool.and_true, Bool.true_and, Bool.and_self, implies_true, and_true, true_and, and_self, not_true_eq_false, not_false_eq_true, true_or, or_true, Function.comp, betwD]
  | bool _ => simp only [i__law_is_between, runF, execs, exec, ev, evs, evw, evc, eva, evI, evO, asB, varOf, viewR, borR, putB, putAll, isOB, bindT, setAll, setV_eq, setO_eq, wipeR_eq, wipeR, backR, frO_some, frB_no, frB_val, fwO_some, fwB_no, fwB_val, fwB_own, st_20, st_21, it_21, it_2, it_3, it_4, enc_it0, enc_it1, enc_it2, enc_it3, enc_it4, tie_eq_high, tie_eq_low, p_add, p_addT, p_addL, p_sub, p_neg, p_Lt, p_LtE, p_Gt, p_GtE, c_Lt, c_LtE, c_Gt, c_GtE, b_tf, b_tt, b_ff, b_ft, n_f, n_t, p_itemL, p_itemT, p_sl11L, p_sl11T, p_sl10L, p_sl10T, p_sl01L, p_sl01T, p_lenL, p_lenT, p_sumL, p_sumT, p_tupleL, p_tupleT, p_listL, p_listT, p_abs, p_min2, p_max2, p_min, p_max, p_all, p_any, p_isi, p_eqI, p_neI, isiD, isND, item0, intsOf_map, boolsOf_map, List.getElem?_cons_zero, List.getElem?_cons_succ, List.getElem?_nil, List.set_cons_zero, List.set_cons_succ, List.length_cons, List.length_nil, List.length_append, List.length_map, List.length_range, List.map_cons, List.map_nil, List.cons_append, List.nil_append, List.append_nil, List.replicate_succ, List.replicate_zero, List.take_succ_cons, List.take_zero, Option.map_some, Option.map_none, Option.bind_some, Option.bind_none, Option.getD_some, Option.toList, if_true, if_false, ite_true, ite_false, reduceIte, Bool.false_eq_true, Bool.true_eq_false, Bool.not_true, Bool.not_false, decide_true, decide_false, decide_eq_true_eq, Nat.reduceAdd, Nat.reduceSub, Nat.reduceLeDiff, Nat.zero_le, Int.cast_ofNat_Int, Nat.reduceEqDiff, Nat.reduceMul, Nat.reducePow, Int.reduceAdd, Int.reduceSub, Int.reduceMul, Int.reduceNeg, Int.reduceLT, Int.reduceEq, Int.reduceLE, Int.reduceToNat, Int.reduceDiv, Int.reduceMod, Int.reducePow, Nat.zero_add, eq_self, Nat.add_zero, Bool.and_true, Bool.true_and, Bool.and_self, implies_true, and_true, true_and, and_self, not_true_eq_false, not_false_eq_true, true_or, or_true, Function.comp, betwD]
  | str _ => simp only [i__law_is_between, runF, execs, exec, ev, evs, evw, evc, eva, evI, evO, asB, varOf, viewR, borR, putB, putAll, isOB, bindT, setAll, setV_eq, setO_eq, wipeR_eq, wipeR, backR, frO_some, frB_no, frB_val, fwO_some, fwB_no, fwB_val, fwB_own, st_20, st_21, it_21, it_2, it_3, it_4, enc_it0, enc_it1, enc_it2, enc_it3, enc_it4, tie_eq_high, tie_eq_low, p_add, p_addT, p_addL, p_sub, p_neg, p_Lt, p_LtE, p_Gt, p_GtE, c_Lt, c_LtE, c_Gt, c_GtE, b_tf, b_tt, b_ff, b_ft, n_f, n_t, p_itemL, p_itemT, p_sl11L, p_sl11T, p_sl10L, p_sl10T, p_sl01L, p_sl01T, p_lenL, p_lenT, p_sumL, p_sumT, p_tupleL, p_tupleT, p_listL, p_listT, p_abs, p_min2, p_max2, p_min, p_max, p_all, p_any, p_isi, p_eqI, p_neI, isiD, isND, item0, intsOf_map, boolsOf_map, List.getElem?_cons_zero, List.getElem?_cons_succ, List.getElem?_nil, List.set_cons_zero, List.set_cons_succ, List.length_cons, List.length_nil, List.length_append, List.length_map, List.length_range, List.map_cons, List.map_nil, List.cons_append, List.nil_append, List.append_nil, List.replicate_succ, List.replicate_zero, List.take_succ_cons, List.take_zero, Option.map_some, Option.map_none, Option.bind_some, Option.bind_none, Option.getD_some, Option.toList, if_true, if_false, ite_true, ite_false, reduceIte, Bool.false_eq_true, Bool.true_eq_false, Bool.not_true, Bool.not_false, decide_true, decide_false, decide_eq_true_eq, Nat.reduceAdd, Nat.reduceSub, Nat.reduceLeDiff, Nat.zero_le, Int.cast_ofNat_Int, Nat.reduceEqDiff, Nat.reduceMul, Nat.reducePow, Int.reduceAdd, Int.reduceSub, Int.reduceMul, Int.reduceNeg, Int.reduceLT, Int.reduceEq, Int.reduceLE, Int.reduceToNat, Int.reduceDiv, Int.reduceMod, Int.reducePow, Nat.zero_add, eq_self, Nat.add_zero, Bool.and_true, Bool.true_and, Bool.and_self, implies_true, and_true, true_and, and_self, not_true_eq_false, not_false_eq_true, true_or, or_true, Function.comp, betwD]
  | list _ => simp only [i__law_is_between, runF, execs, exec, ev, evs, evw, evc, eva, evI, evO, asB, varOf, viewR, borR, putB, putAll, isOB, bindT, setAll, setV_eq, setO_eq, wipeR_eq, wipeR, backR, frO_some, frB_no, frB_val, fwO_some, fwB_no, fwB_val, fwB_own, st_20, st_21, it_21, it_2, it_3, it_4, enc_it0, enc_it1, enc_it2, enc_it3, enc_it4, tie_eq_high, tie_eq_low, p_add, p_addT, p_addL, p_sub, p_neg, p_Lt, p_LtE, p_Gt, p_GtE, c_Lt, c_LtE, c_Gt, c_GtE, b_tf, b_tt, b_ff, b_ft, n_f, n_t, p_itemL, p_itemT, p_sl11L, p_sl11T, p_sl10L, p_sl10T, p_sl01L, p_sl01T, p_lenL, p_lenT, p_sumL, p_sumT, p_tupleL, p_tupleT, p_listL, p_listT, p_abs, p_min2, p_max2, p_min, p_max, p_all, p_any, p_isi, p_eqI, p_neI, isiD, isND, item0, intsOf_map, boolsOf_map, List.getElem?_cons_zero, List.getElem?_cons_succ, List.getElem?_nil, List.set_cons_zero, List.set_cons_succ, List.length_cons, List.length_nil, List.length_append, List.length_map, List.length_range, List.map_cons, List.map_nil, List.cons_append, List.nil_append, List.append_nil, List.replicate_succ, List.replicate_zero, List.take_succ_cons, List.take_zero, Option.map_some, Option.map_none, Option.bind_some, Option.bind_none, Option.getD_some, Option.toList, if_true, if_false, ite_true, ite_false, reduceIte, Bool.false_eq_true, Bool.true_eq_false, Bool.not_true, Bool.not_false, decide_true, decide_false, decide_eq_true_eq, Nat.reduceAdd, Nat.reduceSub, Nat.reduceLeDiff, Nat.zero_le, Int.cast_ofNat_Int, Nat.reduceEqDiff, Nat.reduceMul, Nat.reducePow, Int.reduceAdd, Int.reduceSub, Int.reduceMul, Int.reduceNeg, Int.reduceLT, Int.reduceEq, Int.reduceLE, Int.reduceToNat, Int.reduceDiv, Int.reduceMod, Int.reducePow, Nat.zero_add, eq_self, Nat.add_zero, Bool.and_true, Bool.true_and, Bool.and_self, implies_true, and_true, true_and, and_self, not_true_eq_false, not_false_eq_true, true_or, or_true, Function.comp, betwD]
  | tuple _ => simp only [i__law_is_between, runF, execs, exec, ev, evs, evw, evc, eva, evI, evO, asB, varOf, viewR, borR, putB, putAll, isOB, bindT, setAll, setV_eq, setO_eq, wipeR_eq, wipeR, backR, frO_some, frB_no, frB_val, fwO_some, fwB_no, fwB_val, fwB_own, st_20, st_21, it_21, it_2, it_3, it_4, enc_it0, enc_it1, enc_it2, enc_it3, enc_it4, tie_eq_high, tie_eq_low, p_add, p_addT, p_addL, p_sub, p_neg, p_Lt, p_LtE, p_Gt, p_GtE, c_Lt, c_LtE, c_Gt, c_GtE, b_tf, b_tt, b_ff, b_ft, n_f, n_t, p_itemL, p_itemT, p_sl11L, p_sl11T, p_sl10L, p_sl10T, p_sl01L, p_sl01T, p_lenL, p_lenT, p_sumL, p_sumT, p_tupleL, p_tupleT, p_listL, p_listT, p_abs, p_min2, p_max2, p_min, p_max, p_all, p_any, p_isi, p_eqI, p_neI, isiD, isND, item0, intsOf_map, boolsOf_map, List.getElem?_cons_zero, List.getElem?_cons_succ, List.getElem?_nil, List.set_cons_zero, List.set_cons_succ, List.length_cons, List.length_nil, List.length_append, List.length_map, List.length_range, List.map_cons, List.map_nil, List.cons_append, List.nil_append, List.append_nil, List.replicate_succ, List.replicate_zero, List.take_succ_cons, List.take_zero, Option.map_some, Option.map_none, Option.bind_some, Option.bind_none, Option.getD_some, Option.toList, if_true, if_false, ite_true, ite_false, reduceIte, Bool.false_eq_true, Bool.true_eq_false, Bool.not_true, Bool.not_false, decide_true, decide_false, decide_eq_true_eq, Nat.reduceAdd, Nat.reduceSub, Nat.reduceLeDiff, Nat.zero_le, Int.cast_ofNat_Int, Nat.reduceEqDiff, Nat.reduceMul, Nat.reducePow, Int.reduceAdd, Int.reduceSub, Int.reduceMul, Int.reduceNeg, Int.reduceLT, Int.reduceEq, Int.reduceLE, Int.reduceToNat, Int.reduceDiv, Int.reduceMod, Int.reducePow, Nat.zero_add, eq_self, Nat.add_zero, Bool.and_true, Bool.true_and, Bool.and_self, implies_true, and_true, true_and, and_self, not_true_eq_false, not_false_eq_true, true_or, or_true, Function.comp, betwD]
  | dict _ => simp only [i__law_is_between, runF, execs, exec, ev, evs, evw, evc, eva, evI, evO, asB, varOf, viewR, borR, putB, putAll, isOB, bindT, setAll, setV_eq, setO_eq, wipeR_eq, wipeR, backR, frO_some, frB_no, frB_val, fwO_some, fwB_no, fwB_val, fwB_own, st_20, st_21, it_21, it_2, it_3, it_4, enc_it0, enc_it1, enc_it2, enc_it3, enc_it4, tie_eq_high, tie_eq_low, p_add, p_addT, p_addL, p_sub, p_neg, p_Lt, p_LtE, p_Gt, p_GtE, c_Lt, c_LtE, c_Gt, c_GtE, b_tf, b_tt, b_ff, b_ft, n_f, n_t, p_itemL, p_itemT, p_sl11L, p_sl11T, p_sl10L, p_sl10T, p_sl01L, p_sl01T, p_lenL, p_lenT, p_sumL, p_sumT, p_tupleL, p_tupleT, p_listL, p_listT, p_abs, p_min2, p_max2, p_min, p_max, p_all, p_any, p_isi, p_eqI, p_neI, isiD, isND, item0, intsOf_map, boolsOf_map, List.getElem?_cons_zero, List.getElem?_cons_succ, List.getElem?_nil, List.set_cons_zero, List.set_cons_succ, List.length_cons, List.length_nil, List.length_append, List.length_map, List.length_range, List.map_cons, List.map_nil, List.cons_append, List.nil_append, List.append_nil, List.replicate_succ, List.replicate_zero, List.take_succ_cons, List.take_zero, Option.map_some, Option.map_none, Option.bind_some, Option.bind_none, Option.getD_some, Option.toList, if_true, if_false, ite_true, ite_false, reduceIte, Bool.false_eq_true, Bool.true_eq_false, Bool.not_true, Bool.not_false, decide_true, decide_false, decide_eq_true_eq, Nat.reduceAdd, Nat.reduceSub, Nat.reduceLeDiff, Nat.zero_le, Int.cast_ofNat_Int, Nat.reduceEqDiff, Nat.reduceMul, Nat.reducePow, Int.reduceAdd, Int.reduceSub, Int.reduceMul, Int.reduceNeg, Int.reduceLT, Int.reduceEq, Int.reduceLE, Int.reduceToNat, Int.reduceDiv, Int.reduceMod, Int.reducePow, Nat.zero_add, eq_self, Nat.add_zero, Bool.and_true, Bool.true_and, Bool.and_self, implies_true, and_true, true_and, and_self, not_true_eq_false, not_false_eq_true, true_or, or_true, Function.comp, betwD]
theorem bools_all (p : PyData → Bool) (xs : List PyData) : (boolsOf (xs.map fun x => .bool (p x))).map (fun l => PyData.bool (l.all id)) = some (.bool (xs.all p)) := by
  have : (xs.map fun x => PyData.bool (p x)) = (xs.map p).map .bool := by rw [List.map_map]; rfl
  rw [this, boolsOf_map]
  simp [List.all_map]
theorem ok_levelsD (m : Nat) (y : PyData) (n : Nat) (hn : nice n y = true) (t : Int) : Ph (m + 2) "are_levels" [.val y, .val (.int t)] = some ⟨.bool (levD y t), false, [.val y, .val (.int t)]⟩ := by
  rw [L_are_levels]
  cases y with
  | none => simp only [i_are_levels, runF, execs, exec, ev, evs, evw, evc, eva, evI, evO, asB, varOf, viewR, borR, putB, putAll, isOB, bindT, setAll, setV_eq, setO_eq, wipeR_eq, wipeR, backR, frO_some, frB_no, frB_val, fwO_some, fwB_no, fwB_val, fwB_own, st_20, st_21, it_21, it_2, it_3, it_4, enc_it0, enc_it1, enc_it2, enc_it3, enc_it4, tie_eq_high, tie_eq_low, p_add, p_addT, p_addL, p_sub, p_neg, p_Lt, p_LtE, p_Gt, p_GtE, c_Lt, c_LtE, c_Gt, c_GtE, b_tf, b_tt, b_ff, b_ft, n_f, n_t, p_itemL, p_itemT, p_sl11L, p_sl11T, p_sl10L, p_sl10T, p_sl01L, p_sl01T, p_lenL, p_lenT, p_sumL, p_sumT, p_tupleL, p_tupleT, p_listL, p_listT, p_abs, p_min2, p_max2, p_min, p_max, p_all, p_any, p_isi, p_eqI, p_neI, isiD, isND, item0, intsOf_map, boolsOf_map, List.getElem?_cons_zero, List.getElem?_cons_succ, List.getElem?_nil, List.set_cons_zero, List.set_cons_succ, List.length_cons, List.length_nil, List.length_append, List.length_map, List.length_range, List.map_cons, List.map_nil, List.cons_append, List.nil_append, List.append_nil, List.replicate_succ, List.replicate_zero, List.take_succ_cons, List.take_zero, Option.map_some, Option.map_none, Option.bind_some, Option.bind_none, Option.getD_some, Option.toList, if_true, if_false, ite_true, ite_false, reduceIte, Bool.false_eq_true, Bool.true_eq_false, Bool.not_true, Bool.not_false, decide_true, decide_false, decide_eq_true_eq, Nat.reduceAdd, Nat.reduceSub, Nat.reduceLeDiff, Nat.zero_le, Int.cast_ofNat_Int, Nat.reduceEqDiff, Nat.reduceMul, Nat.reducePow, Int.reduceAdd, Int.reduceSub, Int.reduceMul, Int.reduceNeg, Int.reduceLT, Int.reduceEq, Int.reduceLE, Int.reduceToNat, Int.reduceDiv, Int.reduceMod, Int.reducePow, Nat.zero_add, eq_self, Nat.add_zero, Bool.and_true, Bool.true_and, Bool.and_self, implies_true, and_true, true_and, and_self, not_true_eq_false, not_false_eq_true, true_or, or_true, Function.comp, levD]
  | bool _ => simp only [i_are_levels, runF, execs, exec, ev, evs, evw, evc, eva, evI, evO, asB, varOf, viewR, borR, putB, putAll, isOB, bindT, setAll, setV_eq, setO_eq, wipeR_eq, wipeR, backR, frO_some, frB_no, frB_val, fwO_some, fwB_no, fwB_val, fwB_own, st_20, st_21, it_21, it_2, it_3, it_4, enc_it0, enc_it1, enc_it2, enc_it3, enc_it4, tie_eq_high, tie_eq_low, p_add, p_addT, p_addL, p_sub, p_neg, p_Lt, p_LtE, p_Gt, p_GtE, c_Lt, c_LtE, c_Gt, c_GtE, b_tf, b_tt, b_ff, b_ft, n_f, n_t, p_itemL, p_itemT, p_sl11L, p_sl11T, p_sl10L, p_sl10T, p_sl01L, p_sl01T, p_lenL, p_lenT, p_sumL, p_sumT, p_tupleL, p_tupleT, p_listL, p_listT, p_abs, p_min2, p_max2, p_min, p_max, p_all, p_any, p_isi, p_eqI, p_neI, isiD, isND, item0, intsOf_map, boolsOf_map, List.getElem?_cons_zero, List.getElem?_cons_succ, List.getElem?_nil, List.set_cons_zero, List.set_cons_succ, List.length_cons, List.length_nil, List.length_append, List.length_map, List.length_range, List.map_cons, List.map_nil, List.cons_append, List.nil_append, List.append_nil, List.replicate_succ, List.replicate_zero, List.take_succ_cons, List.take_zero, Option.map_some, Option.map_none, Option.bind_some, Option.bind_none, Option.getD_some, Option.toList, if_true, if_false, ite_true, ite_false, reduceIte, Bool.false_eq_true, Bool.true_eq_false, Bool.not_true, Bool.not_false, decide_true, decide_false, decide_eq_true_eq, Nat.reduceAdd, Nat.reduceSub, Nat.reduceLeDiff, Nat.zero_le, Int.cast_ofNat_Int, Nat.reduceEqDiff, Nat.reduceMul, Nat.reducePow, Int.reduceAdd, Int.reduceSub, Int.reduceMul, Int.reduceNeg, Int.reduceLT, Int.reduceEq, Int.reduceLE, Int.reduceToNat, Int.reduceDiv, Int.reduceMod, Int.reducePow, Nat.zero_add, eq_self, Nat.add_zero, Bool.and_true, Bool.true_and, Bool.and_self, implies_true, and_true, true_and, and_self, not_true_eq_false, not_false_eq_true, true_or, or_true, Function.comp, levD]
  | int _ => simp only [i_are_levels, runF, execs, exec, ev, evs, evw, evc, eva, evI, evO, asB, varOf, viewR, borR, putB, putAll, isOB, bindT, setAll, setV_eq, setO_eq, wipeR_eq, wipeR, backR, frO_some, frB_no, frB_val, fwO_some, fwB_no, fwB_val, fwB_own, st_20, st_21, it_21, it_2, it_3, it_4, enc_it0, enc_it1, enc_it2, enc_it3, enc_it4, tie_eq_high, tie_eq_low, p_add, p_addT, p_addL, p_sub, p_neg, p_Lt, p_LtE, p_Gt, p_GtE, c_Lt, c_LtE, c_Gt, c_GtE, b_tf, b_tt, b_ff, b_ft, n_f, n_t, p_itemL, p_itemT, p_sl11L, p_sl11T, p_sl10L, p_sl10T, p_sl01L, p_sl01T, p_lenL, p_lenT, p_sumL, p_sumT, p_tupleL, p_tupleT, p_listL, p_listT, p_abs, p_min2, p_max2, p_min, p_max, p_all, p_any, p_isi, p_eqI, p_neI, isiD, isND, item0, intsOf_map, boolsOf_map, List.getElem?_cons_zero, List.getElem?_cons_succ, List.getElem?_nil, List.set_cons_zero, List.set_cons_succ, List.length_cons, List.length_nil, List.length_append, List.length_map, List.length_range, List.map_cons, List.map_nil, List.cons_append, List.nil_append, List.append_nil, List.replicate_succ, List.replicate_zero, List.take_succ_cons, List.take_zero, Option.map_some, Option.map_none, Option.bind_some, Option.bind_none, Option.getD_some, Option.toList, if_true, if_false, ite_true, ite_false, reduceIte, Bool.false_eq_true, Bool.true_eq_false, Bool.not_true, Bool.not_false, decide_true, decide_false, decide_eq_true_eq, Nat.reduceAdd, Nat.reduceSub, Nat.reduceLeDiff, Nat.zero_le, Int.cast_ofNat_Int, Nat.reduceEqDiff, Nat.reduceMul, Nat.reducePow, Int.reduceAdd, Int.reduceSub, Int.reduceMul, Int.reduceNeg, Int.reduceLT, Int.reduceEq, Int.reduceLE, Int.reduceToNat, Int.reduceDiv, Int.reduceMod, Int.reducePow, Nat.zero_add, eq_self, Nat.add_zero, Bool.and_true, Bool.true_and, Bool.and_self, implies_true, and_true, true_and, and_self, not_true_eq_false, not_false_eq_true, true_or, or_true, Function.comp, levD]
  | str _ => simp only [i_are_levels, runF, execs, exec, ev, evs, evw, evc, eva, evI, evO, asB, varOf, viewR, borR, putB, putAll, isOB, bindT, setAll, setV_eq, setO_eq, wipeR_eq, wipeR, backR, frO_some, frB_no, frB_val, fwO_some, fwB_no, fwB_val, fwB_own, st_20, st_21, it_21, it_2, it_3, it_4, enc_it0, enc_it1, enc_it2, enc_it3, enc_it4, tie_eq_high, tie_eq_low, p_add, p_addT, p_addL, p_sub, p_neg, p_Lt, p_LtE, p_Gt, p_GtE, c_Lt, c_LtE, c_Gt, c_GtE, b_tf, b_tt, b_ff, b_ft, n_f, n_t, p_itemL, p_itemT, p_sl11L, p_sl11T, p_sl10L, p_sl10T, p_sl01L, p_sl01T, p_lenL, p_lenT, p_sumL, p_sumT, p_tupleL, p_tupleT, p_listL, p_listT, p_abs, p_min2, p_max2, p_min, p_max, p_all, p_any, p_isi, p_eqI, p_neI, isiD, isND, item0, intsOf_map, boolsOf_map, List.getElem?_cons_zero, List.getElem?_cons_succ, List.getElem?_nil, List.set_cons_zero, List.set_cons_succ, List.length_cons, List.length_nil, List.length_append, List.length_map, List.length_range, List.map_cons, List.map_nil, List.cons_append, List.nil_append, List.append_nil, List.replicate_succ, List.replicate_zero, List.take_succ_cons, List.take_zero, Option.map_some, Option.map_none, Option.bind_some, Option.bind_none, Option.getD_some, Option.toList, if_true, if_false, ite_true, ite_false, reduceIte, Bool.false_eq_true, Bool.true_eq_false, Bool.not_true, Bool.not_false, decide_true, decide_false, decide_eq_true_eq, Nat.reduceAdd, Nat.reduceSub, Nat.reduceLeDiff, Nat.zero_le, Int.cast_ofNat_Int, Nat.reduceEqDiff, Nat.reduceMul, Nat.reducePow, Int.reduceAdd, Int.reduceSub, Int.reduceMul, Int.reduceNeg, Int.reduceLT, Int.reduceEq, Int.reduceLE, Int.reduceToNat, Int.reduceDiv, Int.reduceMod, Int.reducePow, Nat.zero_add, eq_self, Nat.add_zero, Bool.and_true, Bool.true_and, Bool.and_self, implies_true, and_true, true_and, and_self, not_true_eq_false, not_false_eq_true, true_or, or_true, Function.comp, levD]
  | list _ => simp only [i_are_levels, runF, execs, exec, ev, evs, evw, evc, eva, evI, evO, asB, varOf, viewR, borR, putB, putAll, isOB, bindT, setAll, setV_eq, setO_eq, wipeR_eq, wipeR, backR, frO_some, frB_no, frB_val, fwO_some, fwB_no, fwB_val, fwB_own, st_20, st_21, it_21, it_2, it_3, it_4, enc_it0, enc_it1, enc_it2, enc_it3, enc_it4, tie_eq_high, tie_eq_low, p_add, p_addT, p_addL, p_sub, p_neg, p_Lt, p_LtE, p_Gt, p_GtE, c_Lt, c_LtE, c_Gt, c_GtE, b_tf, b_tt, b_ff, b_ft, n_f, n_t, p_itemL, p_itemT, p_sl11L, p_sl11T, p_sl10L, p_sl10T, p_sl01L, p_sl01T, p_lenL, p_lenT, p_sumL, p_sumT, p_tupleL, p_tupleT, p_listL, p_listT, p_abs, p_min2, p_max2, p_min, p_max, p_all, p_any, p_isi, p_eqI, p_neI, isiD, isND, item0, intsOf_map, boolsOf_map, List.getElem?_cons_zero, List.getElem?_cons_succ, List.getElem?_nil, List.set_cons_zero, List.set_cons_succ, List.length_cons, List.length_nil, List.length_append, List.length_map, List.length_range, List.map_cons, List.map_nil, List.cons_append, List.nil_append, List.append_nil, List.replicate_succ, List.replicate_zero, List.take_succ_cons, List.take_zero, Option.map_some, Option.map_none, Option.bind_some, Option.bind_none, Option.getD_some, Option.toList, if_true, if_false, ite_true, ite_false, reduceIte, Bool.false_eq_true, Bool.true_eq_false, Bool.not_true, Bool.not_false, decide_true, decide_false, decide_eq_true_eq, Nat.reduceAdd, Nat.reduceSub, Nat.reduceLeDiff, Nat.zero_le, Int.cast_ofNat_Int, Nat.reduceEqDiff, Nat.reduceMul, Nat.reducePow, Int.reduceAdd, Int.reduceSub, Int.reduceMul, Int.reduceNeg, Int.reduceLT, Int.reduceEq, Int.reduceLE, Int.reduceToNat, Int.reduceDiv, Int.reduceMod, Int.reducePow, Nat.zero_add, eq_self, Nat.add_zero, Bool.and_true, Bool.true_and, Bool.and_self, implies_true, and_true, true_and, and_self, not_true_eq_false, not_false_eq_true, true_or, or_true, Function.comp, levD]
  | dict _ => simp only [i_are_levels, runF, execs, exec, ev, evs, evw, evc, eva, evI, evO, asB, varOf, viewR, borR, putB, putAll, isOB, bindT, setAll, setV_eq, setO_eq, wipeR_eq, wipeR, backR, frO_some, frB_no, frB_val, fwO_some, fwB_no, fwB_val, fwB_own, st_20, st_21, it_21, it_2, it_3, it_4, enc_it0, enc_it1, enc_it2, enc_it3, enc_it4, tie_eq_high, tie_eq_low, p_add, p_addT, p_addL, p_sub, p_neg, p_Lt, p_LtE, p_Gt, p_GtE, c_Lt, c_LtE, c_Gt, c_GtE, b_tf, b_tt, b_ff, b_ft, n_f, n_t, p_itemL, p_itemT, p_sl11L, p_sl11T, p_sl10L, p_sl10T, p_sl01L, p_sl01T, p_lenL, p_lenT, p_sumL, p_sumT, p_tupleL, p_tupleT, p_listL, p_listT, p_abs, p_min2, p_max2, p_min, p_max, p_all, p_any, p_isi, p_eqI, p_neI, isiD, isND, item0, intsOf_map, boolsOf_map, List.getElem?_cons_zero, List.getElem?_cons_succ, List.getElem?_nil, List.set_cons_zero, List.set_cons_succ, List.length_cons, List.length_nil, List.length_append, List.length_map, List.length_range, List.map_cons, List.map_nil, List.cons_append, List.nil_append, List.append_nil, List.replicate_succ, List.replicate_zero, List.take_succ_cons, List.take_zero, Option.map_some, Option.map_none, Option.bind_some, Option.bind_none, Option.getD_some, Option.toList, if_true, if_false, ite_true, ite_false, reduceIte, Bool.false_eq_true, Bool.true_eq_false, Bool.not_true, Bool.not_false, decide_true, decide_false, decide_eq_true_eq, Nat.reduceAdd, Nat.reduceSub, Nat.reduceLeDiff, Nat.zero_le, Int.cast_ofNat_Int, Nat.reduceEqDiff, Nat.reduceMul, Nat.reducePow, Int.reduceAdd, Int.reduceSub, Int.reduceMul, Int.reduceNeg, Int.reduceLT, Int.reduceEq, Int.reduceLE, Int.reduceToNat, Int.reduceDiv, Int.reduceMod, Int.reducePow, Nat.zero_add, eq_self, Nat.add_zero, Bool.and_true, Bool.true_and, Bool.and_self, implies_true, and_true, true_and, and_self, not_true_eq_false, not_false_eq_true, true_or, or_true, Function.comp, levD]
  | tuple xs =>
    by_cases c1 : 2 ≤ xs.length
    · by_cases c2 : xs.length ≤ 6
      · have d1 : (2 : Int) ≤ (xs.length : Int) := by omega
        have d2 : (xs.length : Int) ≤ 6 := by omega
        have d3 : xs.length ≤ 16777216 := by omega
        simp only [i_are_levels, runF, execs, exec, ev, evs, evw, evc, eva, evI, evO, asB, varOf, viewR, borR, putB, putAll, isOB, bindT, setAll, setV_eq, setO_eq, wipeR_eq, wipeR, backR, frO_some, frB_no, frB_val, fwO_some, fwB_no, fwB_val, fwB_own, st_20, st_21, it_21, it_2, it_3, it_4, enc_it0, enc_it1, enc_it2, enc_it3, enc_it4, tie_eq_high, tie_eq_low, p_add, p_addT, p_addL, p_sub, p_neg, p_Lt, p_LtE, p_Gt, p_GtE, c_Lt, c_LtE, c_Gt, c_GtE, b_tf, b_tt, b_ff, b_ft, n_f, n_t, p_itemL, p_itemT, p_sl11L, p_sl11T, p_sl10L, p_sl10T, p_sl01L, p_sl01T, p_lenL, p_lenT, p_sumL, p_sumT, p_tupleL, p_tupleT, p_listL, p_listT, p_abs, p_min2, p_max2, p_min, p_max, p_all, p_any, p_isi, p_eqI, p_neI, isiD, isND, item0, intsOf_map, boolsOf_map, List.getElem?_cons_zero, List.getElem?_cons_succ, List.getElem?_nil, List.set_cons_zero, List.set_cons_succ, List.length_cons, List.length_nil, List.length_append, List.length_map, List.length_range, List.map_cons, List.map_nil, List.cons_append, List.nil_append, List.append_nil, List.replicate_succ, List.replicate_zero, List.take_succ_cons, List.take_zero, Option.map_some, Option.map_none, Option.bind_some, Option.bind_none, Option.getD_some, Option.toList, if_true, if_false, ite_true, ite_false, reduceIte, Bool.false_eq_true, Bool.true_eq_false, Bool.not_true, Bool.not_false, decide_true, decide_false, decide_eq_true_eq, Nat.reduceAdd, Nat.reduceSub, Nat.reduceLeDiff, Nat.zero_le, Int.cast_ofNat_Int, Nat.reduceEqDiff, Nat.reduceMul, Nat.reducePow, Int.reduceAdd, Int.reduceSub, Int.reduceMul, Int.reduceNeg, Int.reduceLT, Int.reduceEq, Int.reduceLE, Int.reduceToNat, Int.reduceDiv, Int.reduceMod, Int.reducePow, Nat.zero_add, eq_self, Nat.add_zero, Bool.and_true, Bool.true_and, Bool.and_self, implies_true, and_true, true_and, and_self, not_true_eq_false, not_false_eq_true, true_or, or_true, Function.comp, d1, d2, d3]
        generalize hL : loopM _ _ _ = o
        have ho := loopM_map hL (fun x => .bool (betwD x 0 t)) (fun x hx => by simp only [runF, execs, exec, ev, evs, evw, evc, eva, evI, evO, asB, varOf, viewR, borR, putB, putAll, isOB, bindT, setAll, setV_eq, setO_eq, wipeR_eq, wipeR, backR, frO_some, frB_no, frB_val, fwO_some, fwB_no, fwB_val, fwB_own, st_20, st_21, it_21, it_2, it_3, it_4, enc_it0, enc_it1, enc_it2, enc_it3, enc_it4, tie_eq_high, tie_eq_low, p_add, p_addT, p_addL, p_sub, p_neg, p_Lt, p_LtE, p_Gt, p_GtE, c_Lt, c_LtE, c_Gt, c_GtE, b_tf, b_tt, b_ff, b_ft, n_f, n_t, p_itemL, p_itemT, p_sl11L, p_sl11T, p_sl10L, p_sl10T, p_sl01L, p_sl01T, p_lenL, p_lenT, p_sumL, p_sumT, p_tupleL, p_tupleT, p_listL, p_listT, p_abs, p_min2, p_max2, p_min, p_max, p_all, p_any, p_isi, p_eqI, p_neI, isiD, isND, item0, intsOf_map, boolsOf_map, List.getElem?_cons_zero, List.getElem?_cons_succ, List.getElem?_nil, List.set_cons_zero, List.set_cons_succ, List.length_cons, List.length_nil, List.length_append, List.length_map, List.length_range, List.map_cons, List.map_nil, List.cons_append, List.nil_append, List.append_nil, List.replicate_succ, List.replicate_zero, List.take_succ_cons, List.take_zero, Option.map_some, Option.map_none, Option.bind_some, Option.bind_none, Option.getD_some, Option.toList, if_true, if_false, ite_true, ite_false, reduceIte, Bool.false_eq_true, Bool.true_eq_false, Bool.not_true, Bool.not_false, decide_true, decide_false, decide_eq_true_eq, Nat.reduceAdd, Nat.reduceSub, Nat.reduceLeDiff, Nat.zero_le, Int.cast_ofNat_Int, Nat.reduceEqDiff, Nat.reduceMul, Nat.reducePow, Int.reduceAdd, Int.reduceSub, Int.reduceMul, Int.reduceNeg, Int.reduceLT, Int.reduceEq, Int.reduceLE, Int.reduceToNat, Int.reduceDiv, Int.reduceMod, Int.reducePow, Nat.zero_add, eq_self, Nat.add_zero, Bool.and_true, Bool.true_and, Bool.and_self, implies_true, and_true, true_and, and_self, not_true_eq_false, not_false_eq_true, true_or, or_true, Function.comp, ok_betweenD])
        subst ho
        simp only [runF, execs, exec, ev, evs, evw, evc, eva, evI, evO, asB, varOf, viewR, borR, putB, putAll, isOB, bindT, setAll, setV_eq, setO_eq, wipeR_eq, wipeR, backR, frO_some, frB_no, frB_val, fwO_some, fwB_no, fwB_val, fwB_own, st_20, st_21, it_21, it_2, it_3, it_4, enc_it0, enc_it1, enc_it2, enc_it3, enc_it4, tie_eq_high, tie_eq_low, p_add, p_addT, p_addL, p_sub, p_neg, p_Lt, p_LtE, p_Gt, p_GtE, c_Lt, c_LtE, c_Gt, c_GtE, b_tf, b_tt, b_ff, b_ft, n_f, n_t, p_itemL, p_itemT, p_sl11L, p_sl11T, p_sl10L, p_sl10T, p_sl01L, p_sl01T, p_lenL, p_lenT, p_sumL, p_sumT, p_tupleL, p_tupleT, p_listL, p_listT, p_abs, p_min2, p_max2, p_min, p_max, p_all, p_any, p_isi, p_eqI, p_neI, isiD, isND, item0, intsOf_map, boolsOf_map, List.getElem?_cons_zero, List.getElem?_cons_succ, List.getElem?_nil, List.set_cons_zero, List.set_cons_succ, List.length_cons, List.length_nil, List.length_append, List.length_map, List.length_range, List.map_cons, List.map_nil, List.cons_append, List.nil_append, List.append_nil, List.replicate_succ, List.replicate_zero, List.take_succ_cons, List.take_zero, Option.map_some, Option.map_none, Option.bind_some, Option.bind_none, Option.getD_some, Option.toList, if_true, if_false, ite_true, ite_false, reduceIte, Bool.false_eq_true, Bool.true_eq_false, Bool.not_true, Bool.not_false, decide_true, decide_false, decide_eq_true_eq, Nat.reduceAdd, Nat.reduceSub, Nat.reduceLeDiff, Nat.zero_le, Int.cast_ofNat_Int, Nat.reduceEqDiff, Nat.reduceMul, Nat.reducePow, Int.reduceAdd, Int.reduceSub, Int.reduceMul, Int.reduceNeg, Int.reduceLT, Int.reduceEq, Int.reduceLE, Int.reduceToNat, Int.reduceDiv, Int.reduceMod, Int.reducePow, Nat.zero_add, eq_self, Nat.add_zero, Bool.and_true, Bool.true_and, Bool.and_self, implies_true, and_true, true_and, and_self, not_true_eq_false, not_false_eq_true, true_or, or_true, Function.comp, bools_all]
        by_cases c3 : xs.all (betwD · 0 t) = true
        · obtain ⟨l, rfl, hl, hb⟩ := all_ints c3
          rw [List.length_map] at c1 c2
          obtain ⟨f, r, rfl⟩ : ∃ f r, l = f :: r := by
            cases l with
            | nil => simp at c1
            | cons f r => exact ⟨f, r, rfl⟩
          obtain ⟨z, hz⟩ : ∃ z, (f :: r).getLast? = some z := ⟨_, List.getLast?_eq_some_getLast (List.cons_ne_nil _ _)⟩
          have hfirst : L2.atI ((f :: r).map PyData.int) 0 = some (.int f) := item0
          have hlast : L2.atI ((f :: r).map PyData.int) (-1) = some (.int z) := item_neg (by rw [List.getLast?_map, hz]; rfl)
          have elv : levD (.tuple ((f :: r).map .int)) t = (decide (f = 0) && decide (z = t) && incB (f :: r)) := by
            simp only [levD, c3, hl, hz, List.length_map, decide_eq_true c1, decide_eq_true c2, List.head?_cons, Option.some.injEq, Bool.true_and]
          rw [elv]
          by_cases c4 : f = 0
          · by_cases c5 : z = t
            · have ecut : cutD ((f :: r).map PyData.int) (some 1) none = ((f :: r).map PyData.int).drop 1 := cutD_drop (i := 1)
              have ez : zipD ((f :: r).map PyData.int) (((f :: r).map PyData.int).drop 1) = ((f :: r).zip ((f :: r).drop 1)).map fun p => .tuple [.int p.1, .int p.2] := by
                unfold zipD
                rw [← List.map_drop, List.zip_map, List.map_map]
                rfl
              have el : ((f :: r).zip ((f :: r).drop 1)).length ≤ 16777216 := by rw [List.length_zip]; omega
              generalize hll : f :: r = l at *
              simp only [runF, execs, exec, ev, evs, evw, evc, eva, evI, evO, asB, varOf, viewR, borR, putB, putAll, isOB, bindT, setAll, setV_eq, setO_eq, wipeR_eq, wipeR, backR, frO_some, frB_no, frB_val, fwO_some, fwB_no, fwB_val, fwB_own, st_20, st_21, it_21, it_2, it_3, it_4, enc_it0, enc_it1, enc_it2, enc_it3, enc_it4, tie_eq_high, tie_eq_low, p_add, p_addT, p_addL, p_sub, p_neg, p_Lt, p_LtE, p_Gt, p_GtE, c_Lt, c_LtE, c_Gt, c_GtE, b_tf, b_tt, b_ff, b_ft, n_f, n_t, p_itemL, p_itemT, p_sl11L, p_sl11T, p_sl10L, p_sl10T, p_sl01L, p_sl01T, p_lenL, p_lenT, p_sumL, p_sumT, p_tupleL, p_tupleT, p_listL, p_listT, p_abs, p_min2, p_max2, p_min, p_max, p_all, p_any, p_isi, p_eqI, p_neI, isiD, isND, item0, intsOf_map, boolsOf_map, List.getElem?_cons_zero, List.getElem?_cons_succ, List.getElem?_nil, List.set_cons_zero, List.set_cons_succ, List.length_cons, List.length_nil, List.length_append, List.length_map, List.length_range, List.map_cons, List.map_nil, List.cons_append, List.nil_append, List.append_nil, List.replicate_succ, List.replicate_zero, List.take_succ_cons, List.take_zero, Option.map_some, Option.map_none, Option.bind_some, Option.bind_none, Option.getD_some, Option.toList, if_true, if_false, ite_true, ite_false, reduceIte, Bool.false_eq_true, Bool.true_eq_false, Bool.not_true, Bool.not_false, decide_true, decide_false, decide_eq_true_eq, Nat.reduceAdd, Nat.reduceSub, Nat.reduceLeDiff, Nat.zero_le, Int.cast_ofNat_Int, Nat.reduceEqDiff, Nat.reduceMul, Nat.reducePow, Int.reduceAdd, Int.reduceSub, Int.reduceMul, Int.reduceNeg, Int.reduceLT, Int.reduceEq, Int.reduceLE, Int.reduceToNat, Int.reduceDiv, Int.reduceMod, Int.reducePow, Nat.zero_add, eq_self, Nat.add_zero, Bool.and_true, Bool.true_and, Bool.and_self, implies_true, and_true, true_and, and_self, not_true_eq_false, not_false_eq_true, true_or, or_true, Function.comp, c3, hfirst, hlast, c4, c5, ecut, ez, el]
              generalize hL2 : loopM _ _ _ = o
              have ho := loopM_enc (fun p : Int × Int => PyData.tuple [.int p.1, .int p.2]) hL2 (fun p => .bool (decide (p.1 < p.2))) (fun p hp => by simp only [runF, execs, exec, ev, evs, evw, evc, eva, evI, evO, asB, varOf, viewR, borR, putB, putAll, isOB, bindT, setAll, setV_eq, setO_eq, wipeR_eq, wipeR, backR, frO_some, frB_no, frB_val, fwO_some, fwB_no, fwB_val, fwB_own, st_20, st_21, it_21, it_2, it_3, it_4, enc_it0, enc_it1, enc_it2, enc_it3, enc_it4, tie_eq_high, tie_eq_low, p_add, p_addT, p_addL, p_sub, p_neg, p_Lt, p_LtE, p_Gt, p_GtE, c_Lt, c_LtE, c_Gt, c_GtE, b_tf, b_tt, b_ff, b_ft, n_f, n_t, p_itemL, p_itemT, p_sl11L, p_sl11T, p_sl10L, p_sl10T, p_sl01L, p_sl01T, p_lenL, p_lenT, p_sumL, p_sumT, p_tupleL, p_tupleT, p_listL, p_listT, p_abs, p_min2, p_max2, p_min, p_max, p_all, p_any, p_isi, p_eqI, p_neI, isiD, isND, item0, intsOf_map, boolsOf_map, List.getElem?_cons_zero, List.getElem?_cons_succ, List.getElem?_nil, List.set_cons_zero, List.set_cons_succ, List.length_cons, List.length_nil, List.length_append, List.length_map, List.length_range, List.map_cons, List.map_nil, List.cons_append, List.nil_append, List.append_nil, List.replicate_succ, List.replicate_zero, List.take_succ_cons, List.take_zero, Option.map_some, Option.map_none, Option.bind_some, Option.bind_none, Option.getD_some, Option.toList, if_true, if_false, ite_true, ite_false, reduceIte, Bool.false_eq_true, Bool.true_eq_false, Bool.not_true, Bool.not_false, decide_true, decide_false, decide_eq_true_eq, Nat.reduceAdd, Nat.reduceSub, Nat.reduceLeDiff, Nat.zero_le, Int.cast_ofNat_Int, Nat.reduceEqDiff, Nat.reduceMul, Nat.reducePow, Int.reduceAdd, Int.reduceSub, Int.reduceMul, Int.reduceNeg, Int.reduceLT, Int.reduceEq, Int.reduceLE, Int.reduceToNat, Int.reduceDiv, Int.reduceMod, Int.reducePow, Nat.zero_add, eq_self, Nat.add_zero, Bool.and_true, Bool.true_and, Bool.and_self, implies_true, and_true, true_and, and_self, not_true_eq_false, not_false_eq_true, true_or, or_true, Function.comp])
              subst ho
              have ea : ((l.zip (l.drop 1)).map fun p => PyData.bool (decide (p.1 < p.2))) = ((l.zip (l.drop 1)).map fun p => decide (p.1 < p.2)).map .bool := by rw [List.map_map]; rfl
              simp only [runF, execs, exec, ev, evs, evw, evc, eva, evI, evO, asB, varOf, viewR, borR, putB, putAll, isOB, bindT, setAll, setV_eq, setO_eq, wipeR_eq, wipeR, backR, frO_some, frB_no, frB_val, fwO_some, fwB_no, fwB_val, fwB_own, st_20, st_21, it_21, it_2, it_3, it_4, enc_it0, enc_it1, enc_it2, enc_it3, enc_it4, tie_eq_high, tie_eq_low, p_add, p_addT, p_addL, p_sub, p_neg, p_Lt, p_LtE, p_Gt, p_GtE, c_Lt, c_LtE, c_Gt, c_GtE, b_tf, b_tt, b_ff, b_ft, n_f, n_t, p_itemL, p_itemT, p_sl11L, p_sl11T, p_sl10L, p_sl10T, p_sl01L, p_sl01T, p_lenL, p_lenT, p_sumL, p_sumT, p_tupleL, p_tupleT, p_listL, p_listT, p_abs, p_min2, p_max2, p_min, p_max, p_all, p_any, p_isi, p_eqI, p_neI, isiD, isND, item0, intsOf_map, boolsOf_map, List.getElem?_cons_zero, List.getElem?_cons_succ, List.getElem?_nil, List.set_cons_zero, List.set_cons_succ, List.length_cons, List.length_nil, List.length_append, List.length_map, List.length_range, List.map_cons, List.map_nil, List.cons_append, List.nil_append, List.append_nil, List.replicate_succ, List.replicate_zero, List.take_succ_cons, List.take_zero, Option.map_some, Option.map_none, Option.bind_some, Option.bind_none, Option.getD_some, Option.toList, if_true, if_false, ite_true, ite_false, reduceIte, Bool.false_eq_true, Bool.true_eq_false, Bool.not_true, Bool.not_false, decide_true, decide_false, decide_eq_true_eq, Nat.reduceAdd, Nat.reduceSub, Nat.reduceLeDiff, Nat.zero_le, Int.cast_ofNat_Int, Nat.reduceEqDiff, Nat.reduceMul, Nat.reducePow, Int.reduceAdd, Int.reduceSub, Int.reduceMul, Int.reduceNeg, Int.reduceLT, Int.reduceEq, Int.reduceLE, Int.reduceToNat, Int.reduceDiv, Int.reduceMod, Int.reducePow, Nat.zero_add, eq_self, Nat.add_zero, Bool.and_true, Bool.true_and, Bool.and_self, implies_true, and_true, true_and, and_self, not_true_eq_false, not_false_eq_true, true_or, or_true, Function.comp, ea, incB, List.all_map]
              rfl
            · generalize hll : f :: r = l at *
              simp only [runF, execs, exec, ev, evs, evw, evc, eva, evI, evO, asB, varOf, viewR, borR, putB, putAll, isOB, bindT, setAll, setV_eq, setO_eq, wipeR_eq, wipeR, backR, frO_some, frB_no, frB_val, fwO_some, fwB_no, fwB_val, fwB_own, st_20, st_21, it_21, it_2, it_3, it_4, enc_it0, enc_it1, enc_it2, enc_it3, enc_it4, tie_eq_high, tie_eq_low, p_add, p_addT, p_addL, p_sub, p_neg, p_Lt, p_LtE, p_Gt, p_GtE, c_Lt, c_LtE, c_Gt, c_GtE, b_tf, b_tt, b_ff, b_ft, n_f, n_t, p_itemL, p_itemT, p_sl11L, p_sl11T, p_sl10L, p_sl10T, p_sl01L, p_sl01T, p_lenL, p_lenT, p_sumL, p_sumT, p_tupleL, p_tupleT, p_listL, p_listT, p_abs, p_min2, p_max2, p_min, p_max, p_all, p_any, p_isi, p_eqI, p_neI, isiD, isND, item0, intsOf_map, boolsOf_map, List.getElem?_cons_zero, List.getElem?_cons_succ, List.getElem?_nil, List.set_cons_zero, List.set_cons_succ, List.length_cons, List.length_nil, List.length_append, List.length_map, List.length_range, List.map_cons, List.map_nil, List.cons_append, List.nil_append, List.append_nil, List.replicate_succ, List.replicate_zero, List.take_succ_cons, List.take_zero, Option.map_some, Option.map_none, Option.bind_some, Option.bind_none, Option.getD_some, Option.toList, if_true, if_false, ite_true, ite_false, reduceIte, Bool.false_eq_true, Bool.true_eq_false, Bool.not_true, Bool.not_false, decide_true, decide_false, decide_eq_true_eq, Nat.reduceAdd, Nat.reduceSub, Nat.reduceLeDiff, Nat.zero_le, Int.cast_ofNat_Int, Nat.reduceEqDiff, Nat.reduceMul, Nat.reducePow, Int.reduceAdd, Int.reduceSub, Int.reduceMul, Int.reduceNeg, Int.reduceLT, Int.reduceEq, Int.reduceLE, Int.reduceToNat, Int.reduceDiv, Int.reduceMod, Int.reducePow, Nat.zero_add, eq_self, Nat.add_zero, Bool.and_true, Bool.true_and, Bool.and_self, implies_true, and_true, true_and, and_self, not_true_eq_false, not_false_eq_true, true_or, or_true, Function.comp, c3, hfirst, hlast, c4, c5, Bool.false_and]
          · generalize hll : f :: r = l at *
            simp only [runF, execs, exec, ev, evs, evw, evc, eva, evI, evO, asB, varOf, viewR, borR, putB, putAll, isOB, bindT, setAll, setV_eq, setO_eq, wipeR_eq, wipeR, backR, frO_some, frB_no, frB_val, fwO_some, fwB_no, fwB_val, fwB_own, st_20, st_21, it_21, it_2, it_3, it_4, enc_it0, enc_it1, enc_it2, enc_it3, enc_it4, tie_eq_high, tie_eq_low, p_add, p_addT, p_addL, p_sub, p_neg, p_Lt, p_LtE, p_Gt, p_GtE, c_Lt, c_LtE, c_Gt, c_GtE, b_tf, b_tt, b_ff, b_ft, n_f, n_t, p_itemL, p_itemT, p_sl11L, p_sl11T, p_sl10L, p_sl10T, p_sl01L, p_sl01T, p_lenL, p_lenT, p_sumL, p_sumT, p_tupleL, p_tupleT, p_listL, p_listT, p_abs, p_min2, p_max2, p_min, p_max, p_all, p_any, p_isi, p_eqI, p_neI, isiD, isND, item0, intsOf_map, boolsOf_map, List.getElem?_cons_zero, List.getElem?_cons_succ, List.getElem?_nil, List.set_cons_zero, List.set_cons_succ, List.length_cons, List.length_nil, List.length_append, List.length_map, List.length_range, List.map_cons, List.map_nil, List.cons_append, List.nil_append, List.append_nil, List.replicate_succ, List.replicate_zero, List.take_succ_cons, List.take_zero, Option.map_some, Option.map_none, Option.bind_some, Option.bind_none, Option.getD_some, Option.toList, if_true, if_false, ite_true, ite_false, reduceIte, Bool.false_eq_true, Bool.true_eq_false, Bool.not_true, Bool.not_false, decide_true, decide_false, decide_eq_true_eq, Nat.reduceAdd, Nat.reduceSub, Nat.reduceLeDiff, Nat.zero_le, Int.cast_ofNat_Int, Nat.reduceEqDiff, Nat.reduceMul, Nat.reducePow, Int.reduceAdd, Int.reduceSub, Int.reduceMul, Int.reduceNeg, Int.reduceLT, Int.reduceEq, Int.reduceLE, Int.reduceToNat, Int.reduceDiv, Int.reduceMod, Int.reducePow, Nat.zero_add, eq_self, Nat.add_zero, Bool.and_true, Bool.true_and, Bool.and_self, implies_true, and_true, true_and, and_self, not_true_eq_false, not_false_eq_true, true_or, or_true, Function.comp, c3, hfirst, hlast, c4, Bool.false_and]
        · simp only [Bool.not_eq_true] at c3
          simp only [runF, execs, exec, ev, evs, evw, evc, eva, evI, evO, asB, varOf, viewR, borR, putB, putAll, isOB, bindT, setAll, setV_eq, setO_eq, wipeR_eq, wipeR, backR, frO_some, frB_no, frB_val, fwO_some, fwB_no, fwB_val, fwB_own, st_20, st_21, it_21, it_2, it_3, it_4, enc_it0, enc_it1, enc_it2, enc_it3, enc_it4, tie_eq_high, tie_eq_low, p_add, p_addT, p_addL, p_sub, p_neg, p_Lt, p_LtE, p_Gt, p_GtE, c_Lt, c_LtE, c_Gt, c_GtE, b_tf, b_tt, b_ff, b_ft, n_f, n_t, p_itemL, p_itemT, p_sl11L, p_sl11T, p_sl10L, p_sl10T, p_sl01L, p_sl01T, p_lenL, p_lenT, p_sumL, p_sumT, p_tupleL, p_tupleT, p_listL, p_listT, p_abs, p_min2, p_max2, p_min, p_max, p_all, p_any, p_isi, p_eqI, p_neI, isiD, isND, item0, intsOf_map, boolsOf_map, List.getElem?_cons_zero, List.getElem?_cons_succ, List.getElem?_nil, List.set_cons_zero, List.set_cons_succ, List.length_cons, List.length_nil, List.length_append, List.length_map, List.length_range, List.map_cons, List.map_nil, List.cons_append, List.nil_append, List.append_nil, List.replicate_succ, List.replicate_zero, List.take_succ_cons, List.take_zero, Option.map_some, Option.map_none, Option.bind_some, Option.bind_none, Option.getD_some, Option.toList, if_true, if_false, ite_true, ite_false, reduceIte, Bool.false_eq_true, Bool.true_eq_false, Bool.not_true, Bool.not_false, decide_true, decide_false, decide_eq_true_eq, Nat.reduceAdd, Nat.reduceSub, Nat.reduceLeDiff, Nat.zero_le, Int.cast_ofNat_Int, Nat.reduceEqDiff, Nat.reduceMul, Nat.reducePow, Int.reduceAdd, Int.reduceSub, Int.reduceMul, Int.reduceNeg, Int.reduceLT, Int.reduceEq, Int.reduceLE, Int.reduceToNat, Int.reduceDiv, Int.reduceMod, Int.reducePow, Nat.zero_add, eq_self, Nat.add_zero, Bool.and_true, Bool.true_and, Bool.and_self, implies_true, and_true, true_and, and_self, not_true_eq_false, not_false_eq_true, true_or, or_true, Function.comp, c3, levD, Bool.false_and, Bool.and_false]
      · have d1 : (2 : Int) ≤ (xs.length : Int) := by omega
        have d2 : ¬ (xs.length : Int) ≤ 6 := by omega
        simp only [i_are_levels, runF, execs, exec, ev, evs, evw, evc, eva, evI, evO, asB, varOf, viewR, borR, putB, putAll, isOB, bindT, setAll, setV_eq, setO_eq, wipeR_eq, wipeR, backR, frO_some, frB_no, frB_val, fwO_some, fwB_no, fwB_val, fwB_own, st_20, st_21, it_21, it_2, it_3, it_4, enc_it0, enc_it1, enc_it2, enc_it3, enc_it4, tie_eq_high, tie_eq_low, p_add, p_addT, p_addL, p_sub, p_neg, p_Lt, p_LtE, p_Gt, p_GtE, c_Lt, c_LtE, c_Gt, c_GtE, b_tf, b_tt, b_ff, b_ft, n_f, n_t, p_itemL, p_itemT, p_sl11L, p_sl11T, p_sl10L, p_sl10T, p_sl01L, p_sl01T, p_lenL, p_lenT, p_sumL, p_sumT, p_tupleL, p_tupleT, p_listL, p_listT, p_abs, p_min2, p_max2, p_min, p_max, p_all, p_any, p_isi, p_eqI, p_neI, isiD, isND, item0, intsOf_map, boolsOf_map, List.getElem?_cons_zero, List.getElem?_cons_succ, List.getElem?_nil, List.set_cons_zero, List.set_cons_succ, List.length_cons, List.length_nil, List.length_append, List.length_map, List.length_range, List.map_cons, List.map_nil, List.cons_append, List.nil_append, List.append_nil, List.replicate_succ, List.replicate_zero, List.take_succ_cons, List.take_zero, Option.map_some, Option.map_none, Option.bind_some, Option.bind_none, Option.getD_some, Option.toList, if_true, if_false, ite_true, ite_false, reduceIte, Bool.false_eq_true, Bool.true_eq_false, Bool.not_true, Bool.not_false, decide_true, decide_false, decide_eq_true_eq, Nat.reduceAdd, Nat.reduceSub, Nat.reduceLeDiff, Nat.zero_le, Int.cast_ofNat_Int, Nat.reduceEqDiff, Nat.reduceMul, Nat.reducePow, Int.reduceAdd, Int.reduceSub, Int.reduceMul, Int.reduceNeg, Int.reduceLT, Int.reduceEq, Int.reduceLE, Int.reduceToNat, Int.reduceDiv, Int.reduceMod, Int.reducePow, Nat.zero_add, eq_self, Nat.add_zero, Bool.and_true, Bool.true_and, Bool.and_self, implies_true, and_true, true_and, and_self, not_true_eq_false, not_false_eq_true, true_or, or_true, Function.comp, levD, d1, d2, c2, Bool.and_false, Bool.false_and]
    · have d1 : ¬ (2 : Int) ≤ (xs.length : Int) := by omega
      simp only [i_are_levels, runF, execs, exec, ev, evs, evw, evc, eva, evI, evO, asB, varOf, viewR, borR, putB, putAll, isOB, bindT, setAll, setV_eq, setO_eq, wipeR_eq, wipeR, backR, frO_some, frB_no, frB_val, fwO_some, fwB_no, fwB_val, fwB_own, st_20, st_21, it_21, it_2, it_3, it_4, enc_it0, enc_it1, enc_it2, enc_it3, enc_it4, tie_eq_high, tie_eq_low, p_add, p_addT, p_addL, p_sub, p_neg, p_Lt, p_LtE, p_Gt, p_GtE, c_Lt, c_LtE, c_Gt, c_GtE, b_tf, b_tt, b_ff, b_ft, n_f, n_t, p_itemL, p_itemT, p_sl11L, p_sl11T, p_sl10L, p_sl10T, p_sl01L, p_sl01T, p_lenL, p_lenT, p_sumL, p_sumT, p_tupleL, p_tupleT, p_listL, p_listT, p_abs, p_min2, p_max2, p_min, p_max, p_all, p_any, p_isi, p_eqI, p_neI, isiD, isND, item0, intsOf_map, boolsOf_map, List.getElem?_cons_zero, List.getElem?_cons_succ, List.getElem?_nil, List.set_cons_zero, List.set_cons_succ, List.length_cons, List.length_nil, List.length_append, List.length_map, List.length_range, List.map_cons, List.map_nil, List.cons_append, List.nil_append, List.append_nil, List.replicate_succ, List.replicate_zero, List.take_succ_cons, List.take_zero, Option.map_some, Option.map_none, Option.bind_some, Option.bind_none, Option.getD_some, Option.toList, if_true, if_false, ite_true, ite_false, reduceIte, Bool.false_eq_true, Bool.true_eq_false, Bool.not_true, Bool.not_false, decide_true, decide_false, decide_eq_true_eq, Nat.reduceAdd, Nat.reduceSub, Nat.reduceLeDiff, Nat.zero_le, Int.cast_ofNat_Int, Nat.reduceEqDiff, Nat.reduceMul, Nat.reducePow, Int.reduceAdd, Int.reduceSub, Int.reduceMul, Int.reduceNeg, Int.reduceLT, Int.reduceEq, Int.reduceLE, Int.reduceToNat, Int.reduceDiv, Int.reduceMod, Int.reducePow, Nat.zero_add, eq_self, Nat.add_zero, Bool.and_true, Bool.true_and, Bool.and_self, implies_true, and_true, true_and, and_self, not_true_eq_false, not_false_eq_true, true_or, or_true, Function.comp, levD, d1, c1, Bool.and_false, Bool.false_and]
theorem ok_sharesD (m : Nat) (y : PyData) (t : Int) : Ph (m + 2) "are_shares" [.val y, .val (.int t)] = some ⟨.bool (shaD y t), false, [.val y, .val (.int t)]⟩ := by
  rw [L_are_shares]
  cases y with
  | none => simp only [i_are_shares, runF, execs, exec, ev, evs, evw, evc, eva, evI, evO, asB, varOf, viewR, borR, putB, putAll, isOB, bindT, setAll, setV_eq, setO_eq, wipeR_eq, wipeR, backR, frO_some, frB_no, frB_val, fwO_some, fwB_no, fwB_val, fwB_own, st_20, st_21, it_21, it_2, it_3, it_4, enc_it0, enc_it1, enc_it2, enc_it3, enc_it4, tie_eq_high, tie_eq_low, p_add, p_addT, p_addL, p_sub, p_neg, p_Lt, p_LtE, p_Gt, p_GtE, c_Lt, c_LtE, c_Gt, c_GtE, b_tf, b_tt, b_ff, b_ft, n_f, n_t, p_itemL, p_itemT, p_sl11L, p_sl11T, p_sl10L, p_sl10T, p_sl01L, p_sl01T, p_lenL, p_lenT, p_sumL, p_sumT, p_tupleL, p_tupleT, p_listL, p_listT, p_abs, p_min2, p_max2, p_min, p_max, p_all, p_any, p_isi, p_eqI, p_neI, isiD, isND, item0, intsOf_map, boolsOf_map, List.getElem?_cons_zero, List.getElem?_cons_succ, List.getElem?_nil, List.set_cons_zero, List.set_cons_succ, List.length_cons, List.length_nil, List.length_append, List.length_map, List.length_range, List.map_cons, List.map_nil, List.cons_append, List.nil_append, List.append_nil, List.replicate_succ, List.replicate_zero, List.take_succ_cons, List.take_zero, Option.map_some, Option.map_none, Option.bind_some, Option.bind_none, Option.getD_some, Option.toList, if_true, if_false, ite_true, ite_false, reduceIte, Bool.false_eq_true, Bool.true_eq_false, Bool.not_true, Bool.not_false, decide_true, decide_false, decide_eq_true_eq, Nat.reduceAdd, Nat.reduceSub, Nat.reduceLeDiff, Nat.zero_le, Int.cast_ofNat_Int, Nat.reduceEqDiff, Nat.reduceMul, Nat.reducePow, Int.reduceAdd, Int.reduceSub, Int.reduceMul, Int.reduceNeg, Int.reduceLT, Int.reduceEq, Int.reduceLE, Int.reduceToNat, Int.reduceDiv, Int.reduceMod, Int.reducePow, Nat.zero_add, eq_self, Nat.add_zero, Bool.and_true, Bool.true_and, Bool.and_self, implies_true, and_true, true_and, and_self, not_true_eq_false, not_false_eq_true, true_or, or_true, Function.comp, shaD]
  | bool _ => simp only [i_are_shares, runF, execs, exec, ev, evs, evw, evc, eva, evI, evO, asB, varOf, viewR, borR, putB, putAll, isOB, bindT, setAll, setV_eq, setO_eq, wipeR_eq, wipeR, backR, frO_some, frB_no, frB_val, fwO_some, fwB_no, fwB_val, fwB_own, st_20, st_21, it_21, it_2, it_3, it_4, enc_it0, enc_it1, enc_it2, enc_it3, enc_it4, tie_eq_high, tie_eq_low, p_add, p_addT, p_addL, p_sub, p_neg, p_Lt, p_LtE, p_Gt, p_GtE, c_Lt, c_LtE, c_Gt, c_GtE, b_tf, b_tt, b_ff, b_ft, n_f, n_t, p_itemL, p_itemT, p_sl11L, p_sl11T, p_sl10L, p_sl10T, p_sl01L, p_sl01T, p_lenL, p_lenT, p_sumL, p_sumT, p_tupleL, p_tupleT, p_listL, p_listT, p_abs, p_min2, p_max2, p_min, p_max, p_all, p_any, p_isi, p_eqI, p_neI, isiD, isND, item0, intsOf_map, boolsOf_map, List.getElem?_cons_zero, List.getElem?_cons_succ, List.getElem?_nil, List.set_cons_zero, List.set_cons_succ, List.length_cons, List.length_nil, List.length_append, List.length_map, List.length_range, List.map_cons, List.map_nil, List.cons_append, List.nil_append, List.append_nil, List.replicate_succ, List.replicate_zero, List.take_succ_cons, List.take_zero, Option.map_some, Option.map_none, Option.bind_some, Option.bind_none, Option.getD_some, Option.toList, if_true, if_false, ite_true, ite_false, reduceIte, Bool.false_eq_true, Bool.true_eq_false, Bool.not_true, Bool.not_false, decide_true, decide_false, decide_eq_true_eq, Nat.reduceAdd, Nat.reduceSub, Nat.reduceLeDiff, Nat.zero_le, Int.cast_ofNat_Int, Nat.reduceEqDiff, Nat.reduceMul, Nat.reducePow, Int.reduceAdd, Int.reduceSub, Int.reduceMul, Int.reduceNeg, Int.reduceLT, Int.reduceEq, Int.reduceLE, Int.reduceToNat, Int.reduceDiv, Int.reduceMod, Int.reducePow, Nat.zero_add, eq_self, Nat.add_zero, Bool.and_true, Bool.true_and, Bool.and_self, implies_true, and_true, true_and, and_self, not_true_eq_false, not_false_eq_true, true_or, or_true, Function.comp, shaD]
  | int _ => simp only [i_are_shares, runF, execs, exec, ev, evs, evw, evc, eva, evI, evO, asB, varOf, viewR, borR, putB, putAll, isOB, bindT, setAll, setV_eq, setO_eq, wipeR_eq, wipeR, backR, frO_some, frB_no, frB_val, fwO_some, fwB_no, fwB_val, fwB_own, st_20, st_21, it_21, it_2, it_3, it_4, enc_it0, enc_it1, enc_it2, enc_it3, enc_it4, tie_eq_high, tie_eq_low, p_add, p_addT, p_addL, p_sub, p_neg, p_Lt, p_LtE, p_Gt, p_GtE, c_Lt, c_LtE, c_Gt, c_GtE, b_tf, b_tt, b_ff, b_ft, n_f, n_t, p_itemL, p_itemT, p_sl11L, p_sl11T, p_sl10L, p_sl10T, p_sl01L, p_sl01T, p_lenL, p_lenT, p_sumL, p_sumT, p_tupleL, p_tupleT, p_listL, p_listT, p_abs, p_min2, p_max2, p_min, p_max, p_all, p_any, p_isi, p_eqI, p_neI, isiD, isND, item0, intsOf_map, boolsOf_map, List.getElem?_cons_zero, List.getElem?_cons_succ, List.getElem?_nil, List.set_cons_zero, List.set_cons_succ, List.length_cons, List.length_nil, List.length_append, List.length_map, List.length_range, List.map_cons, List.map_nil, List.cons_append, List.nil_append, List.append_nil, List.replicate_succ, List.replicate_zero, List.take_succ_cons, List.take_zero, Option.map_some, Option.map_none, Option.bind_some, Option.bind_none, Option.getD_some, Option.toList, if_true, if_false, ite_true, ite_false, reduceIte, Bool.false_eq_true, Bool.true_eq_false, Bool.not_true, Bool.not_false, decide_true, decide_false, decide_eq_true_eq, Nat.reduceAdd, Nat.reduceSub, Nat.reduceLeDiff, Nat.zero_le, Int.cast_ofNat_Int, Nat.reduceEqDiff, Nat.reduceMul, Nat.reducePow, Int.reduceAdd, Int.reduceSub, Int.reduceMul, Int.reduceNeg, Int.reduceLT, Int.reduceEq, Int.reduceLE, Int.reduceToNat, Int.reduceDiv, Int.reduceMod, Int.reducePow, Nat.zero_add, eq_self, Nat.add_zero, Bool.and_true, Bool.true_and, Bool.and_self, implies_true, and_true, true_and, and_self, not_true_eq_false, not_false_eq_true, true_or, or_true, Function.comp, shaD]
  | str _ => simp only [i_are_shares, runF, execs, exec, ev, evs, evw, evc, eva, evI, evO, asB, varOf, viewR, borR, putB, putAll, isOB, bindT, setAll, setV_eq, setO_eq, wipeR_eq, wipeR, backR, frO_some, frB_no, frB_val, fwO_some, fwB_no, fwB_val, fwB_own, st_20, st_21, it_21, it_2, it_3, it_4, enc_it0, enc_it1, enc_it2, enc_it3, enc_it4, tie_eq_high, tie_eq_low, p_add, p_addT, p_addL, p_sub, p_neg, p_Lt, p_LtE, p_Gt, p_GtE, c_Lt, c_LtE, c_Gt, c_GtE, b_tf, b_tt, b_ff, b_ft, n_f, n_t, p_itemL, p_itemT, p_sl11L, p_sl11T, p_sl10L, p_sl10T, p_sl01L, p_sl01T, p_lenL, p_lenT, p_sumL, p_sumT, p_tupleL, p_tupleT, p_listL, p_listT, p_abs, p_min2, p_max2, p_min, p_max, p_all, p_any, p_isi, p_eqI, p_neI, isiD, isND, item0, intsOf_map, boolsOf_map, List.getElem?_cons_zero, List.getElem?_cons_succ, List.getElem?_nil, List.set_cons_zero, List.set_cons_succ, List.length_cons, List.length_nil, List.length_append, List.length_map, List.length_range, List.map_cons, List.map_nil, List.cons_append, List.nil_append, List.append_nil, List.replicate_succ, List.replicate_zero, List.take_succ_cons, List.take_zero, Option.map_some, Option.map_none, Option.bind_some, Option.bind_none, Option.getD_some, Option.toList, if_true, if_false, ite_true, ite_false, reduceIte, Bool.false_eq_true, Bool.true_eq_false, Bool.not_true, Bool.not_false, decide_true, decide_false, decide_eq_true_eq, Nat.reduceAdd, Nat.reduceSub, Nat.reduceLeDiff, Nat.zero_le, Int.cast_ofNat_Int, Nat.reduceEqDiff, Nat.reduceMul, Nat.reducePow, Int.reduceAdd, Int.reduceSub, Int.reduceMul, Int.reduceNeg, Int.reduceLT, Int.reduceEq, Int.reduceLE, Int.reduceToNat, Int.reduceDiv, Int.reduceMod, Int.reducePow, Nat.zero_add, eq_self, Nat.add_zero, Bool.and_true, Bool.true_and, Bool.and_self, implies_true, and_true, true_and, and_self, not_true_eq_false, not_false_eq_true, true_or, or_true, Function.comp, shaD]
  | list _ => simp only [i_are_shares, runF, execs, exec, ev, evs, evw, evc, eva, evI, evO, asB, varOf, viewR, borR, putB, putAll, isOB, bindT, setAll, setV_eq, setO_eq, wipeR_eq, wipeR, backR, frO_some, frB_no, frB_val, fwO_some, fwB_no, fwB_val, fwB_own, st_20, st_21, it_21, it_2, it_3, it_4, enc_it0, enc_it1, enc_it2, enc_it3, enc_it4, tie_eq_high, tie_eq_low, p_add, p_addT, p_addL, p_sub, p_neg, p_Lt, p_LtE, p_Gt, p_GtE, c_Lt, c_LtE, c_Gt, c_GtE, b_tf, b_tt, b_ff, b_ft, n_f, n_t, p_itemL, p_itemT, p_sl11L, p_sl11T, p_sl10L, p_sl10T, p_sl01L, p_sl01T, p_lenL, p_lenT, p_sumL, p_sumT, p_tupleL, p_tupleT, p_listL, p_listT, p_abs, p_min2, p_max2, p_min, p_max, p_all, p_any, p_isi, p_eqI, p_neI, isiD, isND, item0, intsOf_map, boolsOf_map, List.getElem?_cons_zero, List.getElem?_cons_succ, List.getElem?_nil, List.set_cons_zero, List.set_cons_succ, List.length_cons, List.length_nil, List.length_append, List.length_map, List.length_range, List.map_cons, List.map_nil, List.cons_append, List.nil_append, List.append_nil, List.replicate_succ, List.replicate_zero, List.take_succ_cons, List.take_zero, Option.map_some, Option.map_none, Option.bind_some, Option.bind_none, Option.getD_some, Option.toList, if_true, if_false, ite_true, ite_false, reduceIte, Bool.false_eq_true, Bool.true_eq_false, Bool.not_true, Bool.not_false, decide_true, decide_false, decide_eq_true_eq, Nat.reduceAdd, Nat.reduceSub, Nat.reduceLeDiff, Nat.zero_le, Int.cast_ofNat_Int, Nat.reduceEqDiff, Nat.reduceMul, Nat.reducePow, Int.reduceAdd, Int.reduceSub, Int.reduceMul, Int.reduceNeg, Int.reduceLT, Int.reduceEq, Int.reduceLE, Int.reduceToNat, Int.reduceDiv, Int.reduceMod, Int.reducePow, Nat.zero_add, eq_self, Nat.add_zero, Bool.and_true, Bool.true_and, Bool.and_self, implies_true, and_true, true_and, and_self, not_true_eq_false, not_false_eq_true, true_or, or_true, Function.comp, shaD]
  | dict _ => simp only [i_are_shares, runF, execs, exec, ev, evs, evw, evc, eva, evI, evO, asB, varOf, viewR, borR, putB, putAll, isOB, bindT, setAll, setV_eq, setO_eq, wipeR_eq, wipeR, backR, frO_some, frB_no, frB_val, fwO_some, fwB_no, fwB_val, fwB_own, st_20, st_21, it_21, it_2, it_3, it_4, enc_it0, enc_it1, enc_it2, enc_it3, enc_it4, tie_eq_high, tie_eq_low, p_add, p_addT, p_addL, p_sub, p_neg, p_Lt, p_LtE, p_Gt, p_GtE, c_Lt, c_LtE, c_Gt, c_GtE, b_tf, b_tt, b_ff, b_ft, n_f, n_t, p_itemL, p_itemT, p_sl11L, p_sl11T, p_sl10L, p_sl10T, p_sl01L, p_sl01T, p_lenL, p_lenT, p_sumL, p_sumT, p_tupleL, p_tupleT, p_listL, p_listT, p_abs, p_min2, p_max2, p_min, p_max, p_all, p_any, p_isi, p_eqI, p_neI, isiD, isND, item0, intsOf_map, boolsOf_map, List.getElem?_cons_zero, List.getElem?_cons_succ, List.getElem?_nil, List.set_cons_zero, List.set_cons_succ, List.length_cons, List.length_nil, List.length_append, List.length_map, List.length_range, List.map_cons, List.map_nil, List.cons_append, List.nil_append, List.append_nil, List.replicate_succ, List.replicate_zero, List.take_succ_cons, List.take_zero, Option.map_some, Option.map_none, Option.bind_some, Option.bind_none, Option.getD_some, Option.toList, if_true, if_false, ite_true, ite_false, reduceIte, Bool.false_eq_true, Bool.true_eq_false, Bool.not_true, Bool.not_false, decide_true, decide_false, decide_eq_true_eq, Nat.reduceAdd, Nat.reduceSub, Nat.reduceLeDiff, Nat.zero_le, Int.cast_ofNat_Int, Nat.reduceEqDiff, Nat.reduceMul, Nat.reducePow, Int.reduceAdd, Int.reduceSub, Int.reduceMul, Int.reduceNeg, Int.reduceLT, Int.reduceEq, Int.reduceLE, Int.reduceToNat, Int.reduceDiv, Int.reduceMod, Int.reducePow, Nat.zero_add, eq_self, Nat.add_zero, Bool.and_true, Bool.true_and, Bool.and_self, implies_true, and_true, true_and, and_self, not_true_eq_false, not_false_eq_true, true_or, or_true, Function.comp, shaD]
  | tuple xs =>
    by_cases c1 : 1 ≤ xs.length
    · by_cases c2 : xs.length ≤ 2
      · have d1 : (1 : Int) ≤ (xs.length : Int) := by omega
        have d2 : (xs.length : Int) ≤ 2 := by omega
        have d3 : xs.length ≤ 16777216 := by omega
        simp only [i_are_shares, runF, execs, exec, ev, evs, evw, evc, eva, evI, evO, asB, varOf, viewR, borR, putB, putAll, isOB, bindT, setAll, setV_eq, setO_eq, wipeR_eq, wipeR, backR, frO_some, frB_no, frB_val, fwO_some, fwB_no, fwB_val, fwB_own, st_20, st_21, it_21, it_2, it_3, it_4, enc_it0, enc_it1, enc_it2, enc_it3, enc_it4, tie_eq_high, tie_eq_low, p_add, p_addT, p_addL, p_sub, p_neg, p_Lt, p_LtE, p_Gt, p_GtE, c_Lt, c_LtE, c_Gt, c_GtE, b_tf, b_tt, b_ff, b_ft, n_f, n_t, p_itemL, p_itemT, p_sl11L, p_sl11T, p_sl10L, p_sl10T, p_sl01L, p_sl01T, p_lenL, p_lenT, p_sumL, p_sumT, p_tupleL, p_tupleT, p_listL, p_listT, p_abs, p_min2, p_max2, p_min, p_max, p_all, p_any, p_isi, p_eqI, p_neI, isiD, isND, item0, intsOf_map, boolsOf_map, List.getElem?_cons_zero, List.getElem?_cons_succ, List.getElem?_nil, List.set_cons_zero, List.set_cons_succ, List.length_cons, List.length_nil, List.length_append, List.length_map, List.length_range, List.map_cons, List.map_nil, List.cons_append, List.nil_append, List.append_nil, List.replicate_succ, List.replicate_zero, List.take_succ_cons, List.take_zero, Option.map_some, Option.map_none, Option.bind_some, Option.bind_none, Option.getD_some, Option.toList, if_true, if_false, ite_true, ite_false, reduceIte, Bool.false_eq_true, Bool.true_eq_false, Bool.not_true, Bool.not_false, decide_true, decide_false, decide_eq_true_eq, Nat.reduceAdd, Nat.reduceSub, Nat.reduceLeDiff, Nat.zero_le, Int.cast_ofNat_Int, Nat.reduceEqDiff, Nat.reduceMul, Nat.reducePow, Int.reduceAdd, Int.reduceSub, Int.reduceMul, Int.reduceNeg, Int.reduceLT, Int.reduceEq, Int.reduceLE, Int.reduceToNat, Int.reduceDiv, Int.reduceMod, Int.reducePow, Nat.zero_add, eq_self, Nat.add_zero, Bool.and_true, Bool.true_and, Bool.and_self, implies_true, and_true, true_and, and_self, not_true_eq_false, not_false_eq_true, true_or, or_true, Function.comp, d1, d2, d3]
        generalize hL : loopM _ _ _ = o
        have ho := loopM_map hL (fun x => .bool (betwD x 0 t)) (fun x hx => by simp only [runF, execs, exec, ev, evs, evw, evc, eva, evI, evO, asB, varOf, viewR, borR, putB, putAll, isOB, bindT, setAll, setV_eq, setO_eq, wipeR_eq, wipeR, backR, frO_some, frB_no, frB_val, fwO_some, fwB_no, fwB_val, fwB_own, st_20, st_21, it_21, it_2, it_3, it_4, enc_it0, enc_it1, enc_it2, enc_it3, enc_it4, tie_eq_high, tie_eq_low, p_add, p_addT, p_addL, p_sub, p_neg, p_Lt, p_LtE, p_Gt, p_GtE, c_Lt, c_LtE, c_Gt, c_GtE, b_tf, b_tt, b_ff, b_ft, n_f, n_t, p_itemL, p_itemT, p_sl11L, p_sl11T, p_sl10L, p_sl10T, p_sl01L, p_sl01T, p_lenL, p_lenT, p_sumL, p_sumT, p_tupleL, p_tupleT, p_listL, p_listT, p_abs, p_min2, p_max2, p_min, p_max, p_all, p_any, p_isi, p_eqI, p_neI, isiD, isND, item0, intsOf_map, boolsOf_map, List.getElem?_cons_zero, List.getElem?_cons_succ, List.getElem?_nil, List.set_cons_zero, List.set_cons_succ, List.length_cons, List.length_nil, List.length_append, List.length_map, List.length_range, List.map_cons, List.map_nil, List.cons_append, List.nil_append, List.append_nil, List.replicate_succ, List.replicate_zero, List.take_succ_cons, List.take_zero, Option.map_some, Option.map_none, Option.bind_some, Option.bind_none, Option.getD_some, Option.toList, if_true, if_false, ite_true, ite_false, reduceIte, Bool.false_eq_true, Bool.true_eq_false, Bool.not_true, Bool.not_false, decide_true, decide_false, decide_eq_true_eq, Nat.reduceAdd, Nat.reduceSub, Nat.reduceLeDiff, Nat.zero_le, Int.cast_ofNat_Int, Nat.reduceEqDiff, Nat.reduceMul, Nat.reducePow, Int.reduceAdd, Int.reduceSub, Int.reduceMul, Int.reduceNeg, Int.reduceLT, Int.reduceEq, Int.reduceLE, Int.reduceToNat, Int.reduceDiv, Int.reduceMod, Int.reducePow, Nat.zero_add, eq_self, Nat.add_zero, Bool.and_true, Bool.true_and, Bool.and_self, implies_true, and_true, true_and, and_self, not_true_eq_false, not_false_eq_true, true_or, or_true, Function.comp, ok_betweenD])
        subst ho
        simp only [runF, execs, exec, ev, evs, evw, evc, eva, evI, evO, asB, varOf, viewR, borR, putB, putAll, isOB, bindT, setAll, setV_eq, setO_eq, wipeR_eq, wipeR, backR, frO_some, frB_no, frB_val, fwO_some, fwB_no, fwB_val, fwB_own, st_20, st_21, it_21, it_2, it_3, it_4, enc_it0, enc_it1, enc_it2, enc_it3, enc_it4, tie_eq_high, tie_eq_low, p_add, p_addT, p_addL, p_sub, p_neg, p_Lt, p_LtE, p_Gt, p_GtE, c_Lt, c_LtE, c_Gt, c_GtE, b_tf, b_tt, b_ff, b_ft, n_f, n_t, p_itemL, p_itemT, p_sl11L, p_sl11T, p_sl10L, p_sl10T, p_sl01L, p_sl01T, p_lenL, p_lenT, p_sumL, p_sumT, p_tupleL, p_tupleT, p_listL, p_listT, p_abs, p_min2, p_max2, p_min, p_max, p_all, p_any, p_isi, p_eqI, p_neI, isiD, isND, item0, intsOf_map, boolsOf_map, List.getElem?_cons_zero, List.getElem?_cons_succ, List.getElem?_nil, List.set_cons_zero, List.set_cons_succ, List.length_cons, List.length_nil, List.length_append, List.length_map, List.length_range, List.map_cons, List.map_nil, List.cons_append, List.nil_append, List.append_nil, List.replicate_succ, List.replicate_zero, List.take_succ_cons, List.take_zero, Option.map_some, Option.map_none, Option.bind_some, Option.bind_none, Option.getD_some, Option.toList, if_true, if_false, ite_true, ite_false, reduceIte, Bool.false_eq_true, Bool.true_eq_false, Bool.not_true, Bool.not_false, decide_true, decide_false, decide_eq_true_eq, Nat.reduceAdd, Nat.reduceSub, Nat.reduceLeDiff, Nat.zero_le, Int.cast_ofNat_Int, Nat.reduceEqDiff, Nat.reduceMul, Nat.reducePow, Int.reduceAdd, Int.reduceSub, Int.reduceMul, Int.reduceNeg, Int.reduceLT, Int.reduceEq, Int.reduceLE, Int.reduceToNat, Int.reduceDiv, Int.reduceMod, Int.reducePow, Nat.zero_add, eq_self, Nat.add_zero, Bool.and_true, Bool.true_and, Bool.and_self, implies_true, and_true, true_and, and_self, not_true_eq_false, not_false_eq_true, true_or, or_true, Function.comp, bools_all]
        by_cases c3 : xs.all (betwD · 0 t) = true
        · obtain ⟨l, rfl, hl, hb⟩ := all_ints c3
          rw [List.length_map] at c1 c2
          simp only [runF, execs, exec, ev, evs, evw, evc, eva, evI, evO, asB, varOf, viewR, borR, putB, putAll, isOB, bindT, setAll, setV_eq, setO_eq, wipeR_eq, wipeR, backR, frO_some, frB_no, frB_val, fwO_some, fwB_no, fwB_val, fwB_own, st_20, st_21, it_21, it_2, it_3, it_4, enc_it0, enc_it1, enc_it2, enc_it3, enc_it4, tie_eq_high, tie_eq_low, p_add, p_addT, p_addL, p_sub, p_neg, p_Lt, p_LtE, p_Gt, p_GtE, c_Lt, c_LtE, c_Gt, c_GtE, b_tf, b_tt, b_ff, b_ft, n_f, n_t, p_itemL, p_itemT, p_sl11L, p_sl11T, p_sl10L, p_sl10T, p_sl01L, p_sl01T, p_lenL, p_lenT, p_sumL, p_sumT, p_tupleL, p_tupleT, p_listL, p_listT, p_abs, p_min2, p_max2, p_min, p_max, p_all, p_any, p_isi, p_eqI, p_neI, isiD, isND, item0, intsOf_map, boolsOf_map, List.getElem?_cons_zero, List.getElem?_cons_succ, List.getElem?_nil, List.set_cons_zero, List.set_cons_succ, List.length_cons, List.length_nil, List.length_append, List.length_map, List.length_range, List.map_cons, List.map_nil, List.cons_append, List.nil_append, List.append_nil, List.replicate_succ, List.replicate_zero, List.take_succ_cons, List.take_zero, Option.map_some, Option.map_none, Option.bind_some, Option.bind_none, Option.getD_some, Option.toList, if_true, if_false, ite_true, ite_false, reduceIte, Bool.false_eq_true, Bool.true_eq_false, Bool.not_true, Bool.not_false, decide_true, decide_false, decide_eq_true_eq, Nat.reduceAdd, Nat.reduceSub, Nat.reduceLeDiff, Nat.zero_le, Int.cast_ofNat_Int, Nat.reduceEqDiff, Nat.reduceMul, Nat.reducePow, Int.reduceAdd, Int.reduceSub, Int.reduceMul, Int.reduceNeg, Int.reduceLT, Int.reduceEq, Int.reduceLE, Int.reduceToNat, Int.reduceDiv, Int.reduceMod, Int.reducePow, Nat.zero_add, eq_self, Nat.add_zero, Bool.and_true, Bool.true_and, Bool.and_self, implies_true, and_true, true_and, and_self, not_true_eq_false, not_false_eq_true, true_or, or_true, Function.comp, c3, shaD, hl, c1, c2]
        · simp only [Bool.not_eq_true] at c3
          simp only [runF, execs, exec, ev, evs, evw, evc, eva, evI, evO, asB, varOf, viewR, borR, putB, putAll, isOB, bindT, setAll, setV_eq, setO_eq, wipeR_eq, wipeR, backR, frO_some, frB_no, frB_val, fwO_some, fwB_no, fwB_val, fwB_own, st_20, st_21, it_21, it_2, it_3, it_4, enc_it0, enc_it1, enc_it2, enc_it3, enc_it4, tie_eq_high, tie_eq_low, p_add, p_addT, p_addL, p_sub, p_neg, p_Lt, p_LtE, p_Gt, p_GtE, c_Lt, c_LtE, c_Gt, c_GtE, b_tf, b_tt, b_ff, b_ft, n_f, n_t, p_itemL, p_itemT, p_sl11L, p_sl11T, p_sl10L, p_sl10T, p_sl01L, p_sl01T, p_lenL, p_lenT, p_sumL, p_sumT, p_tupleL, p_tupleT, p_listL, p_listT, p_abs, p_min2, p_max2, p_min, p_max, p_all, p_any, p_isi, p_eqI, p_neI, isiD, isND, item0, intsOf_map, boolsOf_map, List.getElem?_cons_zero, List.getElem?_cons_succ, List.getElem?_nil, List.set_cons_zero, List.set_cons_succ, List.length_cons, List.length_nil, List.length_append, List.length_map, List.length_range, List.map_cons, List.map_nil, List.cons_append, List.nil_append, List.append_nil, List.replicate_succ, List.replicate_zero, List.take_succ_cons, List.take_zero, Option.map_some, Option.map_none, Option.bind_some, Option.bind_none, Option.getD_some, Option.toList, if_true, if_false, ite_true, ite_false, reduceIte, Bool.false_eq_true, Bool.true_eq_false, Bool.not_true, Bool.not_false, decide_true, decide_false, decide_eq_true_eq, Nat.reduceAdd, Nat.reduceSub, Nat.reduceLeDiff, Nat.zero_le, Int.cast_ofNat_Int, Nat.reduceEqDiff, Nat.reduceMul, Nat.reducePow, Int.reduceAdd, Int.reduceSub, Int.reduceMul, Int.reduceNeg, Int.reduceLT, Int.reduceEq, Int.reduceLE, Int.reduceToNat, Int.reduceDiv, Int.reduceMod, Int.reducePow, Nat.zero_add, eq_self, Nat.add_zero, Bool.and_true, Bool.true_and, Bool.and_self, implies_true, and_true, true_and, and_self, not_true_eq_false, not_false_eq_true, true_or, or_true, Function.comp, c3, shaD, Bool.false_and, Bool.and_false]
      · have d1 : (1 : Int) ≤ (xs.length : Int) := by omega
        have d2 : ¬ (xs.length : Int) ≤ 2 := by omega
        simp only [i_are_shares, runF, execs, exec, ev, evs, evw, evc, eva, evI, evO, asB, varOf, viewR, borR, putB, putAll, isOB, bindT, setAll, setV_eq, setO_eq, wipeR_eq, wipeR, backR, frO_some, frB_no, frB_val, fwO_some, fwB_no, fwB_val, fwB_own, st_20, st_21, it_21, it_2, it_3, it_4, enc_it0, enc_it1, enc_it2, enc_it3, enc_it4, tie_eq_high, tie_eq_low, p_add, p_addT, p_addL, p_sub, p_neg, p_Lt, p_LtE, p_Gt, p_GtE, c_Lt, c_LtE, c_Gt, c_GtE, b_tf, b_tt, b_ff, b_ft, n_f, n_t, p_itemL, p_itemT, p_sl11L, p_sl11T, p_sl10L, p_sl10T, p_sl01L, p_sl01T, p_lenL, p_lenT, p_sumL, p_sumT, p_tupleL, p_tupleT, p_listL, p_listT, p_abs, p_min2, p_max2, p_min, p_max, p_all, p_any, p_isi, p_eqI, p_neI, isiD, isND, item0, intsOf_map, boolsOf_map, List.getElem?_cons_zero, List.getElem?_cons_succ, List.getElem?_nil, List.set_cons_zero, List.set_cons_succ, List.length_cons, List.length_nil, List.length_append, List.length_map, List.length_range, List.map_cons, List.map_nil, List.cons_append, List.nil_append, List.append_nil, List.replicate_succ, List.replicate_zero, List.take_succ_cons, List.take_zero, Option.map_some, Option.map_none, Option.bind_some, Option.bind_none, Option.getD_some, Option.toList, if_true, if_false, ite_true, ite_false, reduceIte, Bool.false_eq_true, Bool.true_eq_false, Bool.not_true, Bool.not_false, decide_true, decide_false, decide_eq_true_eq, Nat.reduceAdd, Nat.reduceSub, Nat.reduceLeDiff, Nat.zero_le, Int.cast_ofNat_Int, Nat.reduceEqDiff, Nat.reduceMul, Nat.reducePow, Int.reduceAdd, Int.reduceSub, Int.reduceMul, Int.reduceNeg, Int.reduceLT, Int.reduceEq, Int.reduceLE, Int.reduceToNat, Int.reduceDiv, Int.reduceMod, Int.reducePow, Nat.zero_add, eq_self, Nat.add_zero, Bool.and_true, Bool.true_and, Bool.and_self, implies_true, and_true, true_and, and_self, not_true_eq_false, not_false_eq_true, true_or, or_true, Function.comp, shaD, d1, d2, c2, Bool.and_false, Bool.false_and]
    · have d1 : ¬ (1 : Int) ≤ (xs.length : Int) := by omega
      simp only [i_are_shares, runF, execs, exec, ev, evs, evw, evc, eva, evI, evO, asB, varOf, viewR, borR, putB, putAll, isOB, bindT, setAll, setV_eq, setO_eq, wipeR_eq, wipeR, backR, frO_some, frB_no, frB_val, fwO_some, fwB_no, fwB_val, fwB_own, st_20, st_21, it_21, it_2, it_3, it_4, enc_it0, enc_it1, enc_it2, enc_it3, enc_it4, tie_eq_high, tie_eq_low, p_add, p_addT, p_addL, p_sub, p_neg, p_Lt, p_LtE, p_Gt, p_GtE, c_Lt, c_LtE, c_Gt, c_GtE, b_tf, b_tt, b_ff, b_ft, n_f, n_t, p_itemL, p_itemT, p_sl11L, p_sl11T, p_sl10L, p_sl10T, p_sl01L, p_sl01T, p_lenL, p_lenT, p_sumL, p_sumT, p_tupleL, p_tupleT, p_listL, p_listT, p_abs, p_min2, p_max2, p_min, p_max, p_all, p_any, p_isi, p_eqI, p_neI, isiD, isND, item0, intsOf_map, boolsOf_map, List.getElem?_cons_zero, List.getElem?_cons_succ, List.getElem?_nil, List.set_cons_zero, List.set_cons_succ, List.length_cons, List.length_nil, List.length_append, List.length_map, List.length_range, List.map_cons, List.map_nil, List.cons_append, List.nil_append, List.append_nil, List.replicate_succ, List.replicate_zero, List.take_succ_cons, List.take_zero, Option.map_some, Option.map_none, Option.bind_some, Option.bind_none, Option.getD_some, Option.toList, if_true, if_false, ite_true, ite_false, reduceIte, Bool.false_eq_true, Bool.true_eq_false, Bool.not_true, Bool.not_false, decide_true, decide_false, decide_eq_true_eq, Nat.reduceAdd, Nat.reduceSub, Nat.reduceLeDiff, Nat.zero_le, Int.cast_ofNat_Int, Nat.reduceEqDiff, Nat.reduceMul, Nat.reducePow, Int.reduceAdd, Int.reduceSub, Int.reduceMul, Int.reduceNeg, Int.reduceLT, Int.reduceEq, Int.reduceLE, Int.reduceToNat, Int.reduceDiv, Int.reduceMod, Int.reducePow, Nat.zero_add, eq_self, Nat.add_zero, Bool.and_true, Bool.true_and, Bool.and_self, implies_true, and_true, true_and, and_self, not_true_eq_false, not_false_eq_true, true_or, or_true, Function.comp, shaD, d1, c1, Bool.and_false, Bool.false_and]
theorem flat_str {n : Nat} {s : Str} (h : nice n (.str s) = true) : flat (.str s) = true := by cases n <;> exact h
theorem in_tie {n : Nat} {s : Str} (h : nice n (.str s) = true) : prD (.cmp .In) [.str s, .tuple [.str "low", .str "high"]] = some (.bool (tieD (.str s))) := by
  have e : ([PyData.str "low", .str "high"]).all flat = true := by
    simp only [List.all_cons, List.all_nil, flat_low, flat_high, Bool.and_true]
  rw [p_inT, if_pos (by rw [flat_str h, e]; rfl)]
  simp only [List.any_cons, List.any_nil, eqv_str, Bool.or_false]
  rfl
theorem in_tieL {n : Nat} {s : Str} (h : nice n (.str s) = true) : prD (.cmp .In) [.str s, .list [.str "low", .str "high"]] = some (.bool (tieD (.str s))) := by
  have e : ([PyData.str "low", .str "high"]).all (lay 9) = true := by
    have l1 : lay 9 (.str "low") = true := flat_low
    have l2 : lay 9 (.str "high") = true := flat_high
    simp only [List.all_cons, List.all_nil, l1, l2, Bool.and_true]
  have l3 : lay 9 (.str s) = true := flat_str h
  rw [p_inL, if_pos (by rw [l3, e]; rfl)]
  simp only [List.any_cons, List.any_nil, eqv_str, Bool.or_false]
  rfl
theorem len5 {xs : List PyData} (h : xs.length = 5) : ∃ a b c d e, xs = [a, b, c, d, e] := by
  match xs, h with
  | [a, b, c, d, e], _ => exact ⟨a, b, c, d, e, rfl⟩
theorem dith_no5 {xs : List PyData} (h : ¬ xs.length = 5) : dithD (.tuple xs) = false := by
  match xs, h with
  | [], _ => rfl
  | [_], _ => rfl
  | [_, _], _ => rfl
  | [_, _, _], _ => rfl
  | [_, _, _, _], _ => rfl
  | [_, _, _, _, _], h => exact absurd rfl h
  | _ :: _ :: _ :: _ :: _ :: _ :: _, _ => rfl
theorem ok_is_ditherD (m : Nat) (y : PyData) (n : Nat) (hn : nice n y = true) : Ph (m + 3) "is_dither" [.val y] = some ⟨.bool (dithD y), false, [.val y]⟩ := by
  rw [L_is_dither]
  cases y with
  | none => simp only [i_is_dither, runF, execs, exec, ev, evs, evw, evc, eva, evI, evO, asB, varOf, viewR, borR, putB, putAll, isOB, bindT, setAll, setV_eq, setO_eq, wipeR_eq, wipeR, backR, frO_some, frB_no, frB_val, fwO_some, fwB_no, fwB_val, fwB_own, st_20, st_21, it_21, it_2, it_3, it_4, enc_it0, enc_it1, enc_it2, enc_it3, enc_it4, tie_eq_high, tie_eq_low, p_add, p_addT, p_addL, p_sub, p_neg, p_Lt, p_LtE, p_Gt, p_GtE, c_Lt, c_LtE, c_Gt, c_GtE, b_tf, b_tt, b_ff, b_ft, n_f, n_t, p_itemL, p_itemT, p_sl11L, p_sl11T, p_sl10L, p_sl10T, p_sl01L, p_sl01T, p_lenL, p_lenT, p_sumL, p_sumT, p_tupleL, p_tupleT, p_listL, p_listT, p_abs, p_min2, p_max2, p_min, p_max, p_all, p_any, p_isi, p_eqI, p_neI, isiD, isND, item0, intsOf_map, boolsOf_map, List.getElem?_cons_zero, List.getElem?_cons_succ, List.getElem?_nil, List.set_cons_zero, List.set_cons_succ, List.length_cons, List.length_nil, List.length_append, List.length_map, List.length_range, List.map_cons, List.map_nil, List.cons_append, List.nil_append, List.append_nil, List.replicate_succ, List.replicate_zero, List.take_succ_cons, List.take_zero, Option.map_some, Option.map_none, Option.bind_some, Option.bind_none, Option.getD_some, Option.toList, if_true, if_false, ite_true, ite_false, reduceIte, Bool.false_eq_true, Bool.true_eq_false, Bool.not_true, Bool.not_false, decide_true, decide_false, decide_eq_true_eq, Nat.reduceAdd, Nat.reduceSub, Nat.reduceLeDiff, Nat.zero_le, Int.cast_ofNat_Int, Nat.reduceEqDiff, Nat.reduceMul, Nat.reducePow, Int.reduceAdd, Int.reduceSub, Int.reduceMul, Int.reduceNeg, Int.reduceLT, Int.reduceEq, Int.reduceLE, Int.reduceToNat, Int.reduceDiv, Int.reduceMod, Int.reducePow, Nat.zero_add, eq_self, Nat.add_zero, Bool.and_true, Bool.true_and, Bool.and_self, implies_true, and_true, true_and, and_self, not_true_eq_false, not_false_eq_true, true_or, or_true, Function.comp, dithD]
  | bool _ => simp only [i_is_dither, runF, execs, exec, ev, evs, evw, evc, eva, evI, evO, asB, varOf, viewR, borR, putB, putAll, isOB, bindT, setAll, setV_eq, setO_eq, wipeR_eq, wipeR, backR, frO_some, frB_no, frB_val, fwO_some, fwB_no, fwB_val, fwB_own, st_20, st_21, it_21, it_2, it_3, it_4, enc_it0, enc_it1, enc_it2, enc_it3, enc_it4, tie_eq_high, tie_eq_low, p_add, p_addT, p_addL, p_sub, p_neg, p_Lt, p_LtE, p_Gt, p_GtE, c_Lt, c_LtE, c_Gt, c_GtE, b_tf, b_tt, b_ff, b_ft, n_f, n_t, p_itemL, p_itemT, p_sl11L, p_sl11T, p_sl10L, p_sl10T, p_sl01L, p_sl01T, p_lenL, p_lenT, p_sumL, p_sumT, p_tupleL, p_tupleT, p_listL, p_listT, p_abs, p_min2, p_max2, p_min, p_max, p_all, p_any, p_isi, p_eqI, p_neI, isiD, isND, item0, intsOf_map, boolsOf_map, List.getElem?_cons_zero, List.getElem?_cons_succ, List.getElem?_nil, List.set_cons_zero, List.set_cons_succ, List.length_cons, List.length_nil, List.length_append, List.length_map, List.length_range, List.map_cons, List.map_nil, List.cons_append, List.nil_append, List.append_nil, List.replicate_succ, List.replicate_zero, List.take_succ_cons, List.take_zero, Option.map_some, Option.map_none, Option.bind_some, Option.bind_none, Option.getD_some, Option.toList, if_true, if_false, ite_true, ite_false, reduceIte, Bool.false_eq_true, Bool.true_eq_false, Bool.not_true, Bool.not_false, decide_true, decide_false, decide_eq_true_eq, Nat.reduceAdd, Nat.reduceSub, Nat.reduceLeDiff, Nat.zero_le, Int.cast_ofNat_Int, Nat.reduceEqDiff, Nat.reduceMul, Nat.reducePow, Int.reduceAdd, Int.reduceSub, Int.reduceMul, Int.reduceNeg, Int.reduceLT, Int.reduceEq, Int.reduceLE, Int.reduceToNat, Int.reduceDiv, Int.reduceMod, Int.reducePow, Nat.zero_add, eq_self, Nat.add_zero, Bool.and_true, Bool.true_and, Bool.and_self, implies_true, and_true, true_and, and_self, not_true_eq_false, not_false_eq_true, true_or, or_true, Function.comp, dithD]
  | int _ => simp only [i_is_dither, runF, execs, exec, ev, evs, evw, evc, eva, evI, evO, asB, varOf, viewR, borR, putB, putAll, isOB, bindT, setAll, setV_eq, setO_eq, wipeR_eq, wipeR, backR, frO_some, frB_no, frB_val, fwO_some, fwB_no, fwB_val, fwB_own, st_20, st_21, it_21, it_2, it_3, it_4, enc_it0, enc_it1, enc_it2, enc_it3, enc_it4, tie_eq_high, tie_eq_low, p_add, p_addT, p_addL, p_sub, p_neg, p_Lt, p_LtE, p_Gt, p_GtE, c_Lt, c_LtE, c_Gt, c_GtE, b_tf, b_tt, b_ff, b_ft, n_f, n_t, p_itemL, p_itemT, p_sl11L, p_sl11T, p_sl10L, p_sl10T, p_sl01L, p_sl01T, p_lenL, p_lenT, p_sumL, p_sumT, p_tupleL, p_tupleT, p_listL, p_listT, p_abs, p_min2, p_max2, p_min, p_max, p_all, p_any, p_isi, p_eqI, p_neI, isiD, isND, item0, intsOf_map, boolsOf_map, List.getElem?_cons_zero, List.getElem?_cons_succ, List.getElem?_nil, List.set_cons_zero, List.set_cons_succ, List.length_cons, List.length_nil, List.length_append, List.length_map, List.length_range, List.map_cons, List.map_nil, List.cons_append, List.nil_append, List.append_nil, List.replicate_succ, List.replicate_zero, List.take_succ_cons, List.take_zero, Option.map_some, Option.map_none, Option.bind_some, Option.bind_none, Option.getD_some, Option.toList, if_true, if_false, ite_true, ite_false, reduceIte, Bool.false_eq_true, Bool.true_eq_false, Bool.not_true, Bool.not_false, decide_true, decide_false, decide_eq_true_eq, Nat.reduceAdd, Nat.reduceSub, Nat.reduceLeDiff, Nat.zero_le, Int.cast_ofNat_Int, Nat.reduceEqDiff, Nat.reduceMul, Nat.reducePow, Int.reduceAdd, Int.reduceSub, Int.reduceMul, Int.reduceNeg, Int.reduceLT, Int.reduceEq, Int.reduceLE, Int.reduceToNat, Int.reduceDiv, Int.reduceMod, Int.reducePow, Nat.zero_add, eq_self, Nat.add_zero, Bool.and_true, Bool.true_and, Bool.and_self, implies_true, and_true, true_and, and_self, not_true_eq_false, not_false_eq_true, true_or, or_true, Function.comp, dithD]
  | str _ => simp only [i_is_dither, runF, execs, exec, ev, evs, evw, evc, eva, evI, evO, asB, varOf, viewR, borR, putB, putAll, isOB, bindT, setAll, setV_eq, setO_eq, wipeR_eq, wipeR, backR, frO_some, frB_no, frB_val, fwO_some, fwB_no, fwB_val, fwB_own, st_20, st_21, it_21, it_2, it_3, it_4, enc_it0, enc_it1, enc_it2, enc_it3, enc_it4, tie_eq_high, tie_eq_low, p_add, p_addT, p_addL, p_sub, p_neg, p_Lt, p_LtE, p_Gt, p_GtE, c_Lt, c_LtE, c_Gt, c_GtE, b_tf, b_tt, b_ff, b_ft, n_f, n_t, p_itemL, p_itemT, p_sl11L, p_sl11T, p_sl10L, p_sl10T, p_sl01L, p_sl01T, p_lenL, p_lenT, p_sumL, p_sumT, p_tupleL, p_tupleT, p_listL, p_listT, p_abs, p_min2, p_max2, p_min, p_max, p_all, p_any, p_isi, p_eqI, p_neI, isiD, isND, item0, intsOf_map, boolsOf_map, List.getElem?_cons_zero, List.getElem?_cons_succ, List.getElem?_nil, List.set_cons_zero, List.set_cons_succ, List.length_cons, List.length_nil, List.length_append, List.length_map, List.length_range, List.map_cons, List.map_nil, List.cons_append, List.nil_append, List.append_nil, List.replicate_succ, List.replicate_zero, List.take_succ_cons, List.take_zero, Option.map_some, Option.map_none, Option.bind_some, Option.bind_none, Option.getD_some, Option.toList, if_true, if_false, ite_true, ite_false, reduceIte, Bool.false_eq_true, Bool.true_eq_false, Bool.not_true, Bool.not_false, decide_true, decide_false, decide_eq_true_eq, Nat.reduceAdd, Nat.reduceSub, Nat.reduceLeDiff, Nat.zero_le, Int.cast_ofNat_Int, Nat.reduceEqDiff, Nat.reduceMul, Nat.reducePow, Int.reduceAdd, Int.reduceSub, Int.reduceMul, Int.reduceNeg, Int.reduceLT, Int.reduceEq, Int.reduceLE, Int.reduceToNat, Int.reduceDiv, Int.reduceMod, Int.reducePow, Nat.zero_add, eq_self, Nat.add_zero, Bool.and_true, Bool.true_and, Bool.and_self, implies_true, and_true, true_and, and_self, not_true_eq_false, not_false_eq_true, true_or, or_true, Function.comp, dithD]
  | list _ => simp only [i_is_dither, runF, execs, exec, ev, evs, evw, evc, eva, evI, evO, asB, varOf, viewR, borR, putB, putAll, isOB, bindT, setAll, setV_eq, setO_eq, wipeR_eq, wipeR, backR, frO_some, frB_no, frB_val, fwO_some, fwB_no, fwB_val, fwB_own, st_20, st_21, it_21, it_2, it_3, it_4, enc_it0, enc_it1, enc_it2, enc_it3, enc_it4, tie_eq_high, tie_eq_low, p_add, p_addT, p_addL, p_sub, p_neg, p_Lt, p_LtE, p_Gt, p_GtE, c_Lt, c_LtE, c_Gt, c_GtE, b_tf, b_tt, b_ff, b_ft, n_f, n_t, p_itemL, p_itemT, p_sl11L, p_sl11T, p_sl10L, p_sl10T, p_sl01L, p_sl01T, p_lenL, p_lenT, p_sumL, p_sumT, p_tupleL, p_tupleT, p_listL, p_listT, p_abs, p_min2, p_max2, p_min, p_max, p_all, p_any, p_isi, p_eqI, p_neI, isiD, isND, item0, intsOf_map, boolsOf_map, List.getElem?_cons_zero, List.getElem?_cons_succ, List.getElem?_nil, List.set_cons_zero, List.set_cons_succ, List.length_cons, List.length_nil, List.length_append, List.length_map, List.length_range, List.map_cons, List.map_nil, List.cons_append, List.nil_append, List.append_nil, List.replicate_succ, List.replicate_zero, List.take_succ_cons, List.take_zero, Option.map_some, Option.map_none, Option.bind_some, Option.bind_none, Option.getD_some, Option.toList, if_true, if_false, ite_true, ite_false, reduceIte, Bool.false_eq_true, Bool.true_eq_false, Bool.not_true, Bool.not_false, decide_true, decide_false, decide_eq_true_eq, Nat.reduceAdd, Nat.reduceSub, Nat.reduceLeDiff, Nat.zero_le, Int.cast_ofNat_Int, Nat.reduceEqDiff, Nat.reduceMul, Nat.reducePow, Int.reduceAdd, Int.reduceSub, Int.reduceMul, Int.reduceNeg, Int.reduceLT, Int.reduceEq, Int.reduceLE, Int.reduceToNat, Int.reduceDiv, Int.reduceMod, Int.reducePow, Nat.zero_add, eq_self, Nat.add_zero, Bool.and_true, Bool.true_and, Bool.and_self, implies_true, and_true, true_and, and_self, not_true_eq_false, not_false_eq_true, true_or, or_true, Function.comp, dithD]
  | dict _ => simp only [i_is_dither, runF, execs, exec, ev, evs, evw, evc, eva, evI, evO, asB, varOf, viewR, borR, putB, putAll, isOB, bindT, setAll, setV_eq, setO_eq, wipeR_eq, wipeR, backR, frO_some, frB_no, frB_val, fwO_some, fwB_no, fwB_val, fwB_own, st_20, st_21, it_21, it_2, it_3, it_4, enc_it0, enc_it1, enc_it2, enc_it3, enc_it4, tie_eq_high, tie_eq_low, p_add, p_addT, p_addL, p_sub, p_neg, p_Lt, p_LtE, p_Gt, p_GtE, c_Lt, c_LtE, c_Gt, c_GtE, b_tf, b_tt, b_ff, b_ft, n_f, n_t, p_itemL, p_itemT, p_sl11L, p_sl11T, p_sl10L, p_sl10T, p_sl01L, p_sl01T, p_lenL, p_lenT, p_sumL, p_sumT, p_tupleL, p_tupleT, p_listL, p_listT, p_abs, p_min2, p_max2, p_min, p_max, p_all, p_any, p_isi, p_eqI, p_neI, isiD, isND, item0, intsOf_map, boolsOf_map, List.getElem?_cons_zero, List.getElem?_cons_succ, List.getElem?_nil, List.set_cons_zero, List.set_cons_succ, List.length_cons, List.length_nil, List.length_append, List.length_map, List.length_range, List.map_cons, List.map_nil, List.cons_append, List.nil_append, List.append_nil, List.replicate_succ, List.replicate_zero, List.take_succ_cons, List.take_zero, Option.map_some, Option.map_none, Option.bind_some, Option.bind_none, Option.getD_some, Option.toList, if_true, if_false, ite_true, ite_false, reduceIte, Bool.false_eq_true, Bool.true_eq_false, Bool.not_true, Bool.not_false, decide_true, decide_false, decide_eq_true_eq, Nat.reduceAdd, Nat.reduceSub, Nat.reduceLeDiff, Nat.zero_le, Int.cast_ofNat_Int, Nat.reduceEqDiff, Nat.reduceMul, Nat.reducePow, Int.reduceAdd, Int.reduceSub, Int.reduceMul, Int.reduceNeg, Int.reduceLT, Int.reduceEq, Int.reduceLE, Int.reduceToNat, Int.reduceDiv, Int.reduceMod, Int.reducePow, Nat.zero_add, eq_self, Nat.add_zero, Bool.and_true, Bool.true_and, Bool.and_self, implies_true, and_true, true_and, and_self, not_true_eq_false, not_false_eq_true, true_or, or_true, Function.comp, dithD]
  | tuple xs =>
    by_cases c : xs.length = 5
    · obtain ⟨t, lv, sh, q, tie, rfl⟩ := len5 c
      cases n with
      | zero => cases hn
      | succ n =>
        have hm := (nice_tuple.mp hn).2
        have n1 := hm lv (by simp)
        have n2 := hm tie (by simp)
        have b1 := ok_betweenD (m + 1) t 1 8
        have b2 := ok_betweenD (m + 1) q 1 8
        by_cases c1 : betwD t 1 8 = true
        · obtain ⟨tv, rfl, _, _⟩ := betw_int c1
          by_cases c2 : betwD q 1 8 = true
          · obtain ⟨qv, rfl, _, _⟩ := betw_int c2
            have b3 := ok_levelsD m lv n n1 tv
            have b4 := ok_sharesD m sh qv
            have ed : dithD (.tuple [.int tv, lv, sh, .int qv, tie]) = (levD lv tv && shaD sh qv && tieD tie) := by
              simp only [dithD, c1, c2, intD, Bool.true_and]
            rw [ed]
            by_cases c3 : levD lv tv = true
            · by_cases c4 : shaD sh qv = true
              · cases tie with
                | str s => simp only [i_is_dither, runF, execs, exec, ev, evs, evw, evc, eva, evI, evO, asB, varOf, viewR, borR, putB, putAll, isOB, bindT, setAll, setV_eq, setO_eq, wipeR_eq, wipeR, backR, frO_some, frB_no, frB_val, fwO_some, fwB_no, fwB_val, fwB_own, st_20, st_21, it_21, it_2, it_3, it_4, enc_it0, enc_it1, enc_it2, enc_it3, enc_it4, tie_eq_high, tie_eq_low, p_add, p_addT, p_addL, p_sub, p_neg, p_Lt, p_LtE, p_Gt, p_GtE, c_Lt, c_LtE, c_Gt, c_GtE, b_tf, b_tt, b_ff, b_ft, n_f, n_t, p_itemL, p_itemT, p_sl11L, p_sl11T, p_sl10L, p_sl10T, p_sl01L, p_sl01T, p_lenL, p_lenT, p_sumL, p_sumT, p_tupleL, p_tupleT, p_listL, p_listT, p_abs, p_min2, p_max2, p_min, p_max, p_all, p_any, p_isi, p_eqI, p_neI, isiD, isND, item0, intsOf_map, boolsOf_map, List.getElem?_cons_zero, List.getElem?_cons_succ, List.getElem?_nil, List.set_cons_zero, List.set_cons_succ, List.length_cons, List.length_nil, List.length_append, List.length_map, List.length_range, List.map_cons, List.map_nil, List.cons_append, List.nil_append, List.append_nil, List.replicate_succ, List.replicate_zero, List.take_succ_cons, List.take_zero, Option.map_some, Option.map_none, Option.bind_some, Option.bind_none, Option.getD_some, Option.toList, if_true, if_false, ite_true, ite_false, reduceIte, Bool.false_eq_true, Bool.true_eq_false, Bool.not_true, Bool.not_false, decide_true, decide_false, decide_eq_true_eq, Nat.reduceAdd, Nat.reduceSub, Nat.reduceLeDiff, Nat.zero_le, Int.cast_ofNat_Int, Nat.reduceEqDiff, Nat.reduceMul, Nat.reducePow, Int.reduceAdd, Int.reduceSub, Int.reduceMul, Int.reduceNeg, Int.reduceLT, Int.reduceEq, Int.reduceLE, Int.reduceToNat, Int.reduceDiv, Int.reduceMod, Int.reducePow, Nat.zero_add, eq_self, Nat.add_zero, Bool.and_true, Bool.true_and, Bool.and_self, implies_true, and_true, true_and, and_self, not_true_eq_false, not_false_eq_true, true_or, or_true, Function.comp, b1, b2, b3, b4, c1, c2, c3, c4, in_tie n2]
                | none => simp only [i_is_dither, runF, execs, exec, ev, evs, evw, evc, eva, evI, evO, asB, varOf, viewR, borR, putB, putAll, isOB, bindT, setAll, setV_eq, setO_eq, wipeR_eq, wipeR, backR, frO_some, frB_no, frB_val, fwO_some, fwB_no, fwB_val, fwB_own, st_20, st_21, it_21, it_2, it_3, it_4, enc_it0, enc_it1, enc_it2, enc_it3, enc_it4, tie_eq_high, tie_eq_low, p_add, p_addT, p_addL, p_sub, p_neg, p_Lt, p_LtE, p_Gt, p_GtE, c_Lt, c_LtE, c_Gt, c_GtE, b_tf, b_tt, b_ff, b_ft, n_f, n_t, p_itemL, p_itemT, p_sl11L, p_sl11T, p_sl10L, p_sl10T, p_sl01L, p_sl01T, p_lenL, p_lenT, p_sumL, p_sumT, p_tupleL, p_tupleT, p_listL, p_listT, p_abs, p_min2, p_max2, p_min, p_max, p_all, p_any, p_isi, p_eqI, p_neI, isiD, isND, item0, intsOf_map, boolsOf_map, List.getElem?_cons_zero, List.getElem?_cons_succ, List.getElem?_nil, List.set_cons_zero, List.set_cons_succ, List.length_cons, List.length_nil, List.length_append, List.length_map, List.length_range, List.map_cons, List.map_nil, List.cons_append, List.nil_append, List.append_nil, List.replicate_succ, List.replicate_zero, List.take_succ_cons, List.take_zero, Option.map_some, Option.map_none, Option.bind_some, Option.bind_none, Option.getD_some, Option.toList, if_true, if_false, ite_true, ite_false, reduceIte, Bool.false_eq_true, Bool.true_eq_false, Bool.not_true, Bool.not_false, decide_true, decide_false, decide_eq_true_eq, Nat.reduceAdd, Nat.reduceSub, Nat.reduceLeDiff, Nat.zero_le, Int.cast_ofNat_Int, Nat.reduceEqDiff, Nat.reduceMul, Nat.reducePow, Int.reduceAdd, Int.reduceSub, Int.reduceMul, Int.reduceNeg, Int.reduceLT, Int.reduceEq, Int.reduceLE, Int.reduceToNat, Int.reduceDiv, Int.reduceMod, Int.reducePow, Nat.zero_add, eq_self, Nat.add_zero, Bool.and_true, Bool.true_and, Bool.and_self, implies_true, and_true, true_and, and_self, not_true_eq_false, not_false_eq_true, true_or, or_true, Function.comp, b1, b2, b3, b4, c1, c2, c3, c4, tieD]
                | bool _ => simp only [i_is_dither, runF, execs, exec, ev, evs, evw, evc, eva, evI, evO, asB, varOf, viewR, borR, putB, putAll, isOB, bindT, setAll, setV_eq, setO_eq, wipeR_eq, wipeR, backR, frO_some, frB_no, frB_val, fwO_some, fwB_no, fwB_val, fwB_own, st_20, st_21, it_21, it_2, it_3, it_4, enc_it0, enc_it1, enc_it2, enc_it3, enc_it4, tie_eq_high, tie_eq_low, p_add, p_addT, p_addL, p_sub, p_neg, p_Lt, p_LtE, p_Gt, p_GtE, c_Lt, c_LtE, c_Gt, c_GtE, b_tf, b_tt, b_ff, b_ft, n_f, n_t, p_itemL, p_itemT, p_sl11L, p_sl11T, p_sl10L, p_sl10T, p_sl01L, p_sl01T, p_lenL, p_lenT, p_sumL, p_sumT, p_tupleL, p_tupleT, p_listL, p_listT, p_abs, p_min2, p_max2, p_min, p_max, p_all, p_any, p_isi, p_eqI, p_neI, isiD, isND, item0, intsOf_map, boolsOf_map, List.getElem?_cons_zero, List.getElem?_cons_succ, List.getElem?_nil, List.set_cons_zero, List.set_cons_succ, List.length_cons, List.length_nil, List.length_append, List.length_map, List.length_range, List.map_cons, List.map_nil, List.cons_append, List.nil_append, List.append_nil, List.replicate_succ, List.replicate_zero, List.take_succ_cons, List.take_zero, Option.map_some, Option.map_none, Option.bind_some, Option.bind_none, Option.getD_some, Option.toList, if_true, if_false, ite_true, ite_false, reduceIte, Bool.false_eq_true, Bool.true_eq_false, Bool.not_true, Bool.not_false, decide_true, decide_false, decide_eq_true_eq, Nat.reduceAdd, Nat.reduceSub, Nat.reduceLeDiff, Nat.zero_le, Int.cast_ofNat_Int, Nat.reduceEqDiff, Nat.reduceMul, Nat.reducePow, Int.reduceAdd, Int.reduceSub, Int.reduceMul, Int.reduceNeg, Int.reduceLT, Int.reduceEq, Int.reduceLE, Int.reduceToNat, Int.reduceDiv, Int.reduceMod, Int.reducePow, Nat.zero_add, eq_self, Nat.add_zero, Bool.and_true, Bool.true_and, Bool.and_self, implies_true, and_true, true_and, and_self, not_true_eq_false, not_false_eq_true, true_or, or_true, Function.comp, b1, b2, b3, b4, c1, c2, c3, c4, tieD]
                | int _ => simp only [i_is_dither, runF, execs, exec, ev, evs, evw, evc, eva, evI, evO, asB, varOf, viewR, borR, putB, putAll, isOB, bindT, setAll, setV_eq, setO_eq, wipeR_eq, wipeR, backR, frO_some, frB_no, frB_val, fwO_some, fwB_no, fwB_val, fwB_own, st_20, st_21, it_21, it_2, it_3, it_4, enc_it0, enc_it1, enc_it2, enc_it3, enc_it4, tie_eq_high, tie_eq_low, p_add, p_addT, p_addL, p_sub, p_neg, p_Lt, p_LtE, p_Gt, p_GtE, c_Lt, c_LtE, c_Gt, c_GtE, b_tf, b_tt, b_ff, b_ft, n_f, n_t, p_itemL, p_itemT, p_sl11L, p_sl11T, p_sl10L, p_sl10T, p_sl01L, p_sl01T, p_lenL, p_lenT, p_sumL, p_sumT, p_tupleL, p_tupleT, p_listL, p_listT, p_abs, p_min2, p_max2, p_min, p_max, p_all, p_any, p_isi, p_eqI, p_neI, isiD, isND, item0, intsOf_map, boolsOf_map, List.getElem?_cons_zero, List.getElem?_cons_succ, List.getElem?_nil, List.set_cons_zero, List.set_cons_succ, List.length_cons, List.length_nil, List.length_append, List.length_map, List.length_range, List.map_cons, List.map_nil, List.cons_append, List.nil_append, List.append_nil, List.replicate_succ, List.replicate_zero, List.take_succ_cons, List.take_zero, Option.map_some, Option.map_none, Option.bind_some, Option.bind_none, Option.getD_some, Option.toList, if_true, if_false, ite_true, ite_false, reduceIte, Bool.false_eq_true, Bool.true_eq_false, Bool.not_true, Bool.not_false, decide_true, decide_false, decide_eq_true_eq, Nat.reduceAdd, Nat.reduceSub, Nat.reduceLeDiff, Nat.zero_le, Int.cast_ofNat_Int, Nat.reduceEqDiff, Nat.reduceMul, Nat.reducePow, Int.reduceAdd, Int.reduceSub, Int.reduceMul, Int.reduceNeg, Int.reduceLT, Int.reduceEq, Int.reduceLE, Int.reduceToNat, Int.reduceDiv, Int.reduceMod, Int.reducePow, Nat.zero_add, eq_self, Nat.add_zero, Bool.and_true, Bool.true_and, Bool.and_self, implies_true, and_true, true_and, and_self, not_true_eq_false, not_false_eq_true, true_or, or_true, Function.comp, b1, b2, b3, b4, c1, c2, c3, c4, tieD]
                | list _ => simp only [i_is_dither, runF, execs, exec, ev, evs, evw, evc, eva, evI, evO, asB, varOf, viewR, borR, putB, putAll, isOB, bindT, setAll, setV_eq, setO_eq, wipeR_eq, wipeR, backR, frO_some, frB_no, frB_val, fwO_some, fwB_no, fwB_val, fwB_own, st_20, st_21, it_21, it_2, it_3, it_4, enc_it0, enc_it1, enc_it2, enc_it3, enc_it4, tie_eq_high, tie_eq_low, p_add, p_addT, p_addL, p_sub, p_neg, p_Lt, p_LtE, p_Gt, p_GtE, c_Lt, c_LtE, c_Gt, c_GtE, b_tf, b_tt, b_ff, b_ft, n_f, n_t, p_itemL, p_itemT, p_sl11L, p_sl11T, p_sl10L, p_sl10T, p_sl01L, p_sl01T, p_lenL, p_lenT, p_sumL, p_sumT, p_tupleL, p_tupleT, p_listL, p_listT, p_abs, p_min2, p_max2, p_min, p_max, p_all, p_any, p_isi, p_eqI, p_neI, isiD, isND, item0, intsOf_map, boolsOf_map, List.getElem?_cons_zero, List.getElem?_cons_succ, List.getElem?_nil, List.set_cons_zero, List.set_cons_succ, List.length_cons, List.length_nil, List.length_append, List.length_map, List.length_range, List.map_cons, List.map_nil, List.cons_append, List.nil_append, List.append_nil, List.replicate_succ, List.replicate_zero, List.take_succ_cons, List.take_zero, Option.map_some, Option.map_none, Option.bind_some, Option.bind_none, Option.getD_some, Option.toList, if_true, if_false, ite_true, ite_false, reduceIte, Bool.false_eq_true, Bool.true_eq_false, Bool.not_true, Bool.not_false, decide_true, decide_false, decide_eq_true_eq, Nat.reduceAdd, Nat.reduceSub, Nat.reduceLeDiff, Nat.zero_le, Int.cast_ofNat_Int, Nat.reduceEqDiff, Nat.reduceMul, Nat.reducePow, Int.reduceAdd, Int.reduceSub, Int.reduceMul, Int.reduceNeg, Int.reduceLT, Int.reduceEq, Int.reduceLE, Int.reduceToNat, Int.reduceDiv, Int.reduceMod, Int.reducePow, Nat.zero_add, eq_self, Nat.add_zero, Bool.and_true, Bool.true_and, Bool.and_self, implies_true, and_true, true_and, and_self, not_true_eq_false, not_false_eq_true, true_or, or_true, Function.comp, b1, b2, b3, b4, c1, c2, c3, c4, tieD]
                | tuple _ => simp only [i_is_dither, runF, execs, exec, ev, evs, evw, evc, eva, evI, evO, asB, varOf, viewR, borR, putB, putAll, isOB, bindT, setAll, setV_eq, setO_eq, wipeR_eq, wipeR, backR, frO_some, frB_no, frB_val, fwO_some, fwB_no, fwB_val, fwB_own, st_20, st_21, it_21, it_2, it_3, it_4, enc_it0, enc_it1, enc_it2, enc_it3, enc_it4, tie_eq_high, tie_eq_low, p_add, p_addT, p_addL, p_sub, p_neg, p_Lt, p_LtE, p_Gt, p_GtE, c_Lt, c_LtE, c_Gt, c_GtE, b_tf, b_tt, b_ff, b_ft, n_f, n_t, p_itemL, p_itemT, p_sl11L, p_sl11T, p_sl10L, p_sl10T, p_sl01L, p_sl01T, p_lenL, p_lenT, p_sumL, p_sumT, p_tupleL, p_tupleT, p_listL, p_listT, p_abs, p_min2, p_max2, p_min, p_max, p_all, p_any, p_isi, p_eqI, p_neI, isiD, isND, item0, intsOf_map, boolsOf_map, List.getElem?_cons_zero, List.getElem?_cons_succ, List.getElem?_nil, List.set_cons_zero, List.set_cons_succ, List.length_cons, List.length_nil, List.length_append, List.length_map, List.length_range, List.map_cons, List.map_nil, List.cons_append, List.nil_append, List.append_nil, List.replicate_succ, List.replicate_zero, List.take_succ_cons, List.take_zero, Option.map_some, Option.map_none, Option.bind_some, Option.bind_none, Option.getD_some, Option.toList, if_true, if_false, ite_true, ite_false, reduceIte, Bool.false_eq_true, Bool.true_eq_false, Bool.not_true, Bool.not_false, decide_true, decide_false, decide_eq_true_eq, Nat.reduceAdd, Nat.reduceSub, Nat.reduceLeDiff, Nat.zero_le, Int.cast_ofNat_Int, Nat.reduceEqDiff, Nat.reduceMul, Nat.reducePow, Int.reduceAdd, Int.reduceSub, Int.reduceMul, Int.reduceNeg, Int.reduceLT, Int.reduceEq, Int.reduceLE, Int.reduceToNat, Int.reduceDiv, Int.reduceMod, Int.reducePow, Nat.zero_add, eq_self, Nat.add_zero, Bool.and_true, Bool.true_and, Bool.and_self, implies_true, and_true, true_and, and_self, not_true_eq_false, not_false_eq_true, true_or, or_true, Function.comp, b1, b2, b3, b4, c1, c2, c3, c4, tieD]
                | dict _ => simp only [i_is_dither, runF, execs, exec, ev, evs, evw, evc, eva, evI, evO, asB, varOf, viewR, borR, putB, putAll, isOB, bindT, setAll, setV_eq, setO_eq, wipeR_eq, wipeR, backR, frO_some, frB_no, frB_val, fwO_some, fwB_no, fwB_val, fwB_own, st_20, st_21, it_21, it_2, it_3, it_4, enc_it0, enc_it1, enc_it2, enc_it3, enc_it4, tie_eq_high, tie_eq_low, p_add, p_addT, p_addL, p_sub, p_neg, p_Lt, p_LtE, p_Gt, p_GtE, c_Lt, c_LtE, c_Gt, c_GtE, b_tf, b_tt, b_ff, b_ft, n_f, n_t, p_itemL, p_itemT, p_sl11L, p_sl11T, p_sl10L, p_sl10T, p_sl01L, p_sl01T, p_lenL, p_lenT, p_sumL, p_sumT, p_tupleL, p_tupleT, p_listL, p_listT, p_abs, p_min2, p_max2, p_min, p_max, p_all, p_any, p_isi, p_eqI, p_neI, isiD, isND, item0, intsOf_map, boolsOf_map, List.getElem?_cons_zero, List.getElem?_cons_succ, List.getElem?_nil, List.set_cons_zero, List.set_cons_succ, List.length_cons, List.length_nil, List.length_append, List.length_map, List.length_range, List.map_cons, List.map_nil, List.cons_append, List.nil_append, List.append_nil, List.replicate_succ, List.replicate_zero, List.take_succ_cons, List.take_zero, Option.map_some, Option.map_none, Option.bind_some, Option.bind_none, Option.getD_some, Option.toList, if_true, if_false, ite_true, ite_false, reduceIte, Bool.false_eq_true, Bool.true_eq_false, Bool.not_true, Bool.not_false, decide_true, decide_false, decide_eq_true_eq, Nat.reduceAdd, Nat.reduceSub, Nat.reduceLeDiff, Nat.zero_le, Int.cast_ofNat_Int, Nat.reduceEqDiff, Nat.reduceMul, Nat.reducePow, Int.reduceAdd, Int.reduceSub, Int.reduceMul, Int.reduceNeg, Int.reduceLT, Int.reduceEq, Int.reduceLE, Int.reduceToNat, Int.reduceDiv, Int.reduceMod, Int.reducePow, Nat.zero_add, eq_self, Nat.add_zero, Bool.and_true, Bool.true_and, Bool.and_self, implies_true, and_true, true_and, and_self, not_true_eq_false, not_false_eq_true, true_or, or_true, Function.comp, b1, b2, b3, b4, c1, c2, c3, c4, tieD]
              · simp only [Bool.not_eq_true] at c4
                simp only [i_is_dither, runF, execs, exec, ev, evs, evw, evc, eva, evI, evO, asB, varOf, viewR, borR, putB, putAll, isOB, bindT, setAll, setV_eq, setO_eq, wipeR_eq, wipeR, backR, frO_some, frB_no, frB_val, fwO_some, fwB_no, fwB_val, fwB_own, st_20, st_21, it_21, it_2, it_3, it_4, enc_it0, enc_it1, enc_it2, enc_it3, enc_it4, tie_eq_high, tie_eq_low, p_add, p_addT, p_addL, p_sub, p_neg, p_Lt, p_LtE, p_Gt, p_GtE, c_Lt, c_LtE, c_Gt, c_GtE, b_tf, b_tt, b_ff, b_ft, n_f, n_t, p_itemL, p_itemT, p_sl11L, p_sl11T, p_sl10L, p_sl10T, p_sl01L, p_sl01T, p_lenL, p_lenT, p_sumL, p_sumT, p_tupleL, p_tupleT, p_listL, p_listT, p_abs, p_min2, p_max2, p_min, p_max, p_all, p_any, p_isi, p_eqI, p_neI, isiD, isND, item0, intsOf_map, boolsOf_map, List.getElem?_cons_zero, List.getElem?_cons_succ, List.getElem?_nil, List.set_cons_zero, List.set_cons_succ, List.length_cons, List.length_nil, List.length_append, List.length_map, List.length_range, List.map_cons, List.map_nil, List.cons_append, List.nil_append, List.append_nil, List.replicate_succ, List.replicate_zero, List.take_succ_cons, List.take_zero, Option.map_some, Option.map_none, Option.bind_some, Option.bind_none, Option.getD_some, Option.toList, if_true, if_false, ite_true, ite_false, reduceIte, Bool.false_eq_true, Bool.true_eq_false, Bool.not_true, Bool.not_false, decide_true, decide_false, decide_eq_true_eq, Nat.reduceAdd, Nat.reduceSub, Nat.reduceLeDiff, Nat.zero_le, Int.cast_ofNat_Int, Nat.reduceEqDiff, Nat.reduceMul, Nat.reducePow, Int.reduceAdd, Int.reduceSub, Int.reduceMul, Int.reduceNeg, Int.reduceLT, Int.reduceEq, Int.reduceLE, Int.reduceToNat, Int.reduceDiv, Int.reduceMod, Int.reducePow, Nat.zero_add, eq_self, Nat.add_zero, Bool.and_true, Bool.true_and, Bool.and_self, implies_true, and_true, true_and, and_self, not_true_eq_false, not_false_eq_true, true_or, or_true, Function.comp, b1, b2, b3, b4, c1, c2, c3, c4, Bool.and_false, Bool.false_and]
            · simp only [Bool.not_eq_true] at c3
              simp only [i_is_dither, runF, execs, exec, ev, evs, evw, evc, eva, evI, evO, asB, varOf, viewR, borR, putB, putAll, isOB, bindT, setAll, setV_eq, setO_eq, wipeR_eq, wipeR, backR, frO_some, frB_no, frB_val, fwO_some, fwB_no, fwB_val, fwB_own, st_20, st_21, it_21, it_2, it_3, it_4, enc_it0, enc_it1, enc_it2, enc_it3, enc_it4, tie_eq_high, tie_eq_low, p_add, p_addT, p_addL, p_sub, p_neg, p_Lt, p_LtE, p_Gt, p_GtE, c_Lt, c_LtE, c_Gt, c_GtE, b_tf, b_tt, b_ff, b_ft, n_f, n_t, p_itemL, p_itemT, p_sl11L, p_sl11T, p_sl10L, p_sl10T, p_sl01L, p_sl01T, p_lenL, p_lenT, p_sumL, p_sumT, p_tupleL, p_tupleT, p_listL, p_listT, p_abs, p_min2, p_max2, p_min, p_max, p_all, p_any, p_isi, p_eqI, p_neI, isiD, isND, item0, intsOf_map, boolsOf_map, List.getElem?_cons_zero, List.getElem?_cons_succ, List.getElem?_nil, List.set_cons_zero, List.set_cons_succ, List.length_cons, List.length_nil, List.length_append, List.length_map, List.length_range, List.map_cons, List.map_nil, List.cons_append, List.nil_append, List.append_nil, List.replicate_succ, List.replicate_zero, List.take_succ_cons, List.take_zero, Option.map_some, Option.map_none, Option.bind_some, Option.bind_none, Option.getD_some, Option.toList, if_true, if_false, ite_true, ite_false, reduceIte, Bool.false_eq_true, Bool.true_eq_false, Bool.not_true, Bool.not_false, decide_true, decide_false, decide_eq_true_eq, Nat.reduceAdd, Nat.reduceSub, Nat.reduceLeDiff, Nat.zero_le, Int.cast_ofNat_Int, Nat.reduceEqDiff, Nat.reduceMul, Nat.reducePow, Int.reduceAdd, Int.reduceSub, Int.reduceMul, Int.reduceNeg, Int.reduceLT, Int.reduceEq, Int.reduceLE, Int.reduceToNat, Int.reduceDiv, Int.reduceMod, Int.reducePow, Nat.zero_add, eq_self, Nat.add_zero, Bool.and_true, Bool.true_and, Bool.and_self, implies_true, and_true, true_and, and_self, not_true_eq_false, not_false_eq_true, true_or, or_true, Function.comp, b1, b2, b3, b4, c1, c2, c3, Bool.and_false, Bool.false_and]
          · simp only [Bool.not_eq_true] at c2
            simp only [i_is_dither, runF, execs, exec, ev, evs, evw, evc, eva, evI, evO, asB, varOf, viewR, borR, putB, putAll, isOB, bindT, setAll, setV_eq, setO_eq, wipeR_eq, wipeR, backR, frO_some, frB_no, frB_val, fwO_some, fwB_no, fwB_val, fwB_own, st_20, st_21, it_21, it_2, it_3, it_4, enc_it0, enc_it1, enc_it2, enc_it3, enc_it4, tie_eq_high, tie_eq_low, p_add, p_addT, p_addL, p_sub, p_neg, p_Lt, p_LtE, p_Gt, p_GtE, c_Lt, c_LtE, c_Gt, c_GtE, b_tf, b_tt, b_ff, b_ft, n_f, n_t, p_itemL, p_itemT, p_sl11L, p_sl11T, p_sl10L, p_sl10T, p_sl01L, p_sl01T, p_lenL, p_lenT, p_sumL, p_sumT, p_tupleL, p_tupleT, p_listL, p_listT, p_abs, p_min2, p_max2, p_min, p_max, p_all, p_any, p_isi, p_eqI, p_neI, isiD, isND, item0, intsOf_map, boolsOf_map, List.getElem?_cons_zero, List.getElem?_cons_succ, List.getElem?_nil, List.set_cons_zero, List.set_cons_succ, List.length_cons, List.length_nil, List.length_append, List.length_map, List.length_range, List.map_cons, List.map_nil, List.cons_append, List.nil_append, List.append_nil, List.replicate_succ, List.replicate_zero, List.take_succ_cons, List.take_zero, Option.map_some, Option.map_none, Option.bind_some, Option.bind_none, Option.getD_some, Option.toList, if_true, if_false, ite_true, ite_false, reduceIte, Bool.false_eq_true, Bool.true_eq_false, Bool.not_true, Bool.not_false, decide_true, decide_false, decide_eq_true_eq, Nat.reduceAdd, Nat.reduceSub, Nat.reduceLeDiff, Nat.zero_le, Int.cast_ofNat_Int, Nat.reduceEqDiff, Nat.reduceMul, Nat.reducePow, Int.reduceAdd, Int.reduceSub, Int.reduceMul, Int.reduceNeg, Int.reduceLT, Int.reduceEq, Int.reduceLE, Int.reduceToNat, Int.reduceDiv, Int.reduceMod, Int.reducePow, Nat.zero_add, eq_self, Nat.add_zero, Bool.and_true, Bool.true_and, Bool.and_self, implies_true, and_true, true_and, and_self, not_true_eq_false, not_false_eq_true, true_or, or_true, Function.comp, b1, b2, c1, c2, dithD, Bool.and_false, Bool.false_and]
        · simp only [Bool.not_eq_true] at c1
          simp only [i_is_dither, runF, execs, exec, ev, evs, evw, evc, eva, evI, evO, asB, varOf, viewR, borR, putB, putAll, isOB, bindT, setAll, setV_eq, setO_eq, wipeR_eq, wipeR, backR, frO_some, frB_no, frB_val, fwO_some, fwB_no, fwB_val, fwB_own, st_20, st_21, it_21, it_2, it_3, it_4, enc_it0, enc_it1, enc_it2, enc_it3, enc_it4, tie_eq_high, tie_eq_low, p_add, p_addT, p_addL, p_sub, p_neg, p_Lt, p_LtE, p_Gt, p_GtE, c_Lt, c_LtE, c_Gt, c_GtE, b_tf, b_tt, b_ff, b_ft, n_f, n_t, p_itemL, p_itemT, p_sl11L, p_sl11T, p_sl10L, p_sl10T, p_sl01L, p_sl01T, p_lenL, p_lenT, p_sumL, p_sumT, p_tupleL, p_tupleT, p_listL, p_listT, p_abs, p_min2, p_max2, p_min, p_max, p_all, p_any, p_isi, p_eqI, p_neI, isiD, isND, item0, intsOf_map, boolsOf_map, List.getElem?_cons_zero, List.getElem?_cons_succ, List.getElem?_nil, List.set_cons_zero, List.set_cons_succ, List.length_cons, List.length_nil, List.length_append, List.length_map, List.length_range, List.map_cons, List.map_nil, List.cons_append, List.nil_append, List.append_nil, List.replicate_succ, List.replicate_zero, List.take_succ_cons, List.take_zero, Option.map_some, Option.map_none, Option.bind_some, Option.bind_none, Option.getD_some, Option.toList, if_true, if_false, ite_true, ite_false, reduceIte, Bool.false_eq_true, Bool.true_eq_false, Bool.not_true, Bool.not_false, decide_true, decide_false, decide_eq_true_eq, Nat.reduceAdd, Nat.reduceSub, Nat.reduceLeDiff, Nat.zero_le, Int.cast_ofNat_Int, Nat.reduceEqDiff, Nat.reduceMul, Nat.reducePow, Int.reduceAdd, Int.reduceSub, Int.reduceMul, Int.reduceNeg, Int.reduceLT, Int.reduceEq, Int.reduceLE, Int.reduceToNat, Int.reduceDiv, Int.reduceMod, Int.reducePow, Nat.zero_add, eq_self, Nat.add_zero, Bool.and_true, Bool.true_and, Bool.and_self, implies_true, and_true, true_and, and_self, not_true_eq_false, not_false_eq_true, true_or, or_true, Function.comp, b1, c1, dithD, Bool.and_false, Bool.false_and]
    · have c2 : ¬ (xs.length : Int) = 5 := by omega
      simp only [i_is_dither, runF, execs, exec, ev, evs, evw, evc, eva, evI, evO, asB, varOf, viewR, borR, putB, putAll, isOB, bindT, setAll, setV_eq, setO_eq, wipeR_eq, wipeR, backR, frO_some, frB_no, frB_val, fwO_some, fwB_no, fwB_val, fwB_own, st_20, st_21, it_21, it_2, it_3, it_4, enc_it0, enc_it1, enc_it2, enc_it3, enc_it4, tie_eq_high, tie_eq_low, p_add, p_addT, p_addL, p_sub, p_neg, p_Lt, p_LtE, p_Gt, p_GtE, c_Lt, c_LtE, c_Gt, c_GtE, b_tf, b_tt, b_ff, b_ft, n_f, n_t, p_itemL, p_itemT, p_sl11L, p_sl11T, p_sl10L, p_sl10T, p_sl01L, p_sl01T, p_lenL, p_lenT, p_sumL, p_sumT, p_tupleL, p_tupleT, p_listL, p_listT, p_abs, p_min2, p_max2, p_min, p_max, p_all, p_any, p_isi, p_eqI, p_neI, isiD, isND, item0, intsOf_map, boolsOf_map, List.getElem?_cons_zero, List.getElem?_cons_succ, List.getElem?_nil, List.set_cons_zero, List.set_cons_succ, List.length_cons, List.length_nil, List.length_append, List.length_map, List.length_range, List.map_cons, List.map_nil, List.cons_append, List.nil_append, List.append_nil, List.replicate_succ, List.replicate_zero, List.take_succ_cons, List.take_zero, Option.map_some, Option.map_none, Option.bind_some, Option.bind_none, Option.getD_some, Option.toList, if_true, if_false, ite_true, ite_false, reduceIte, Bool.false_eq_true, Bool.true_eq_false, Bool.not_true, Bool.not_false, decide_true, decide_false, decide_eq_true_eq, Nat.reduceAdd, Nat.reduceSub, Nat.reduceLeDiff, Nat.zero_le, Int.cast_ofNat_Int, Nat.reduceEqDiff, Nat.reduceMul, Nat.reducePow, Int.reduceAdd, Int.reduceSub, Int.reduceMul, Int.reduceNeg, Int.reduceLT, Int.reduceEq, Int.reduceLE, Int.reduceToNat, Int.reduceDiv, Int.reduceMod, Int.reducePow, Nat.zero_add, eq_self, Nat.add_zero, Bool.and_true, Bool.true_and, Bool.and_self, implies_true, and_true, true_and, and_self, not_true_eq_false, not_false_eq_true, true_or, or_true, Function.comp, c2, dith_no5 c]
/-! ### as judged in the law -/
theorem eqvAll_filt (p : PyData → Bool) (xs : List PyData) : PyData.eqvAll (xs.filter fun x => !p x) [] = xs.all p := by
  cases h : xs.filter (fun x => !p x) with
  | nil =>
    rw [eqvAll_nil]
    symm
    rw [List.all_eq_true]
    intro x hx
    by_cases c : p x = true
    · exact c
    · have : x ∈ xs.filter fun x => !p x := List.mem_filter.mpr ⟨hx, by simpa using c⟩
      rw [h] at this
      cases this
  | cons a l =>
    rw [eqvAll_no]
    have : a ∈ xs.filter fun x => !p x := by rw [h]; exact List.mem_cons_self ..
    have h2 := List.mem_filter.mp this
    symm
    rw [Bool.eq_false_iff]
    intro q
    have := List.all_eq_true.mp q a h2.1
    rw [this] at h2
    cases h2.2
theorem ok_within (m : Nat) (y : PyData) (n : Nat) (hn : nice n y = true) (h9 : n ≤ 9) (lo hi : Int) : Ph (m + 2) "_law_all_within" [.val y, .val (.int lo), .val (.int hi)] = some ⟨.bool (match y with | .tuple xs => xs.all (betwD · lo hi) | _ => false), false, [.val y, .val (.int lo), .val (.int hi)]⟩ := by
  rw [L__law_all_within]
  cases y with
  | none => simp only [i__law_all_within, runF, execs, exec, ev, evs, evw, evc, eva, evI, evO, asB, varOf, viewR, borR, putB, putAll, isOB, bindT, setAll, setV_eq, setO_eq, wipeR_eq, wipeR, backR, frO_some, frB_no, frB_val, fwO_some, fwB_no, fwB_val, fwB_own, st_20, st_21, it_21, it_2, it_3, it_4, enc_it0, enc_it1, enc_it2, enc_it3, enc_it4, tie_eq_high, tie_eq_low, p_add, p_addT, p_addL, p_sub, p_neg, p_Lt, p_LtE, p_Gt, p_GtE, c_Lt, c_LtE, c_Gt, c_GtE, b_tf, b_tt, b_ff, b_ft, n_f, n_t, p_itemL, p_itemT, p_sl11L, p_sl11T, p_sl10L, p_sl10T, p_sl01L, p_sl01T, p_lenL, p_lenT, p_sumL, p_sumT, p_tupleL, p_tupleT, p_listL, p_listT, p_abs, p_min2, p_max2, p_min, p_max, p_all, p_any, p_isi, p_eqI, p_neI, isiD, isND, item0, intsOf_map, boolsOf_map, List.getElem?_cons_zero, List.getElem?_cons_succ, List.getElem?_nil, List.set_cons_zero, List.set_cons_succ, List.length_cons, List.length_nil, List.length_append, List.length_map, List.length_range, List.map_cons, List.map_nil, List.cons_append, List.nil_append, List.append_nil, List.replicate_succ, List.replicate_zero, List.take_succ_cons, List.take_zero, Option.map_some, Option.map_none, Option.bind_some, Option.bind_none, Option.getD_some, Option.toList, if_true, if_false, ite_true, ite_false, reduceIte, Bool.false_eq_true, Bool.true_eq_false, Bool.not_true, Bool.not_false, decide_true, decide_false, decide_eq_true_eq, Nat.reduceAdd, Nat.reduceSub, Nat.reduceLeDiff, Nat.zero_le, Int.cast_ofNat_Int, Nat.reduceEqDiff, Nat.reduceMul, Nat.reducePow, Int.reduceAdd, Int.reduceSub, Int.reduceMul, Int.reduceNeg, Int.reduceLT, Int.reduceEq, Int.reduceLE, Int.reduceToNat, Int.reduceDiv, Int.reduceMod, Int.reducePow, Nat.zero_add, eq_self, Nat.add_zero, Bool.and_true, Bool.true_and, Bool.and_self, implies_true, and_true, true_and, and_self, not_true_eq_false, not_false_eq_true, true_or, or_true, Function.comp]
  | bool _ => simp only [i__law_all_within, runF, execs, exec, ev, evs, evw, evc, eva, evI, evO, asB, varOf, viewR, borR, putB, putAll, isOB, bindT, setAll, setV_eq, setO_eq, wipeR_eq, wipeR, backR, frO_some, frB_no, frB_val, fwO_some, fwB_no, fwB_val, fwB_own, st_20, st_21, it_21, it_2, it_3, it_4, enc_it0, enc_it1, enc_it2, enc_it3, enc_it4, tie_eq_high, tie_eq_low, p_add, p_addT, p_addL, p_sub, p_neg, p_Lt, p_LtE, p_Gt, p_GtE, c_Lt, c_LtE, c_Gt, c_GtE, b_tf, b_tt, b_ff, b_ft, n_f, n_t, p_itemL, p_itemT, p_sl11L, p_sl11T, p_sl10L, p_sl10T, p_sl01L, p_sl01T, p_lenL, p_lenT, p_sumL, p_sumT, p_tupleL, p_tupleT, p_listL, p_listT, p_abs, p_min2, p_max2, p_min, p_max, p_all, p_any, p_isi, p_eqI, p_neI, isiD, isND, item0, intsOf_map, boolsOf_map, List.getElem?_cons_zero, List.getElem?_cons_succ, List.getElem?_nil, List.set_cons_zero, List.set_cons_succ, List.length_cons, List.length_nil, List.length_append, List.length_map, List.length_range, List.map_cons, List.map_nil, List.cons_append, List.nil_append, List.append_nil, List.replicate_succ, List.replicate_zero, List.take_succ_cons, List.take_zero, Option.map_some, Option.map_none, Option.bind_some, Option.bind_none, Option.getD_some, Option.toList, if_true, if_false, ite_true, ite_false, reduceIte, Bool.false_eq_true, Bool.true_eq_false, Bool.not_true, Bool.not_false, decide_true, decide_false, decide_eq_true_eq, Nat.reduceAdd, Nat.reduceSub, Nat.reduceLeDiff, Nat.zero_le, Int.cast_ofNat_Int, Nat.reduceEqDiff, Nat.reduceMul, Nat.reducePow, Int.reduceAdd, Int.reduceSub, Int.reduceMul, Int.reduceNeg, Int.reduceLT, Int.reduceEq, Int.reduceLE, Int.reduceToNat, Int.reduceDiv, Int.reduceMod, Int.reducePow, Nat.zero_add, eq_self, Nat.add_zero, Bool.and_true, Bool.true_and, Bool.and_self, implies_true, and_true, true_and, and_self, not_true_eq_false, not_false_eq_true, true_or, or_true, Function.comp]
  | int _ => simp only [i__law_all_within, runF, execs, exec, ev, evs, evw, evc, eva, evI, evO, asB, varOf, viewR, borR, putB, putAll, isOB, bindT, setAll, setV_eq, setO_eq, wipeR_eq, wipeR, backR, frO_some, frB_no, frB_val, fwO_some, fwB_no, fwB_val, fwB_own, st_20, st_21, it_21, it_2, it_3, it_4, enc_it0, enc_it1, enc_it2, enc_it3, enc_it4, tie_eq_high, tie_eq_low, p_add, p_addT, p_addL, p_sub, p_neg, p_Lt, p_LtE, p_Gt, p_GtE, c_Lt, c_LtE, c_Gt, c_GtE, b_tf, b_tt, b_ff, b_ft, n_f, n_t, p_itemL, p_itemT, p_sl11L, p_sl11T, p_sl10L, p_sl10T, p_sl01L, p_sl01T, p_lenL, p_lenT, p_sumL, p_sumT, p_tupleL, p_tupleT, p_listL, p_listT, p_abs, p_min2, p_max2, p_min, p_max, p_all, p_any, p_isi, p_eqI, p_neI, isiD, isND, item0, intsOf_map, boolsOf_map, List.getElem?_cons_zero, List.getElem?_cons_succ, List.getElem?_nil, List.set_cons_zero, List.set_cons_succ, List.length_cons, List.length_nil, List.length_append, List.length_map, List.length_range, List.map_cons, List.map_nil, List.cons_append, List.nil_append, List.append_nil, List.replicate_succ, List.replicate_zero, List.take_succ_cons, List.take_zero, Option.map_some, Option.map_none, Option.bind_some, Option.bind_none, Option.getD_some, Option.toList, if_true, if_false, ite_true, ite_false, reduceIte, Bool.false_eq_true, Bool.true_eq_false, Bool.not_true, Bool.not_false, decide_true, decide_false, decide_eq_true_eq, Nat.reduceAdd, Nat.reduceSub, Nat.reduceLeDiff, Nat.zero_le, Int.cast_ofNat_Int, Nat.reduceEqDiff, Nat.reduceMul, Nat.reducePow, Int.reduceAdd, Int.reduceSub, Int.reduceMul, Int.reduceNeg, Int.reduceLT, Int.reduceEq, Int.reduceLE, Int.reduceToNat, Int.reduceDiv, Int.reduceMod, Int.reducePow, Nat.zero_add, eq_self, Nat.add_zero, Bool.and_true, Bool.true_and, Bool.and_self, implies_true, and_true, true_and, and_self, not_true_eq_false, not_false_eq_true, true_or, or_true, Function.comp]
  | str _ => simp only [i__law_all_within, runF, execs, exec, ev, evs, evw, evc, eva, evI, evO, asB, varOf, viewR, borR, putB, putAll, isOB, bindT, setAll, setV_eq, setO_eq, wipeR_eq, wipeR, backR, frO_some, frB_no, frB_val, fwO_some, fwB_no, fwB_val, fwB_own, st_20, st_21, it_21, it_2, it_3, it_4, enc_it0, enc_it1, enc_it2, enc_it3, enc_it4, tie_eq_high, tie_eq_low, p_add, p_addT, p_addL, p_sub, p_neg, p_Lt, p_LtE, p_Gt, p_GtE, c_Lt, c_LtE, c_Gt, c_GtE, b_tf, b_tt, b_ff, b_ft, n_f, n_t, p_itemL, p_itemT, p_sl11L, p_sl11T, p_sl10L, p_sl10T, p_sl01L, p_sl01T, p_lenL, p_lenT, p_sumL, p_sumT, p_tupleL, p_tupleT, p_listL, p_listT, p_abs, p_min2, p_max2, p_min, p_max, p_all, p_any, p_isi, p_eqI, p_neI, isiD, isND, item0, intsOf_map, boolsOf_map, List.getElem?_cons_zero, List.getElem?_cons_succ, List.getElem?_nil, List.set_cons_zero, List.set_cons_succ, List.length_cons, List.length_nil, List.length_append, List.length_map, List.length_range, List.map_cons, List.map_nil, List.cons_append, List.nil_append, List.append_nil, List.replicate_succ, List.replicate_zero, List.take_succ_cons, List.take_zero, Option.map_some, Option.map_none, Option.bind_some, Option.bind_none, Option.getD_some, Option.toList, if_true, if_false, ite_true, ite_false, reduceIte, Bool.false_eq_true, Bool.true_eq_false, Bool.not_true, Bool.not_false, decide_true, decide_false, decide_eq_true_eq, Nat.reduceAdd, Nat.reduceSub, Nat.reduceLeDiff, Nat.zero_le, Int.cast_ofNat_Int, Nat.reduceEqDiff, Nat.reduceMul, Nat.reducePow, Int.reduceAdd, Int.reduceSub, Int.reduceMul, Int.reduceNeg, Int.reduceLT, Int.reduceEq, Int.reduceLE, Int.reduceToNat, Int.reduceDiv, Int.reduceMod, Int.reducePow, Nat.zero_add, eq_self, Nat.add_zero, Bool.and_true, Bool.true_and, Bool.and_self, implies_true, and_true, true_and, and_self, not_true_eq_false, not_false_eq_true, true_or, or_true, Function.comp]
  | list _ => simp only [i__law_all_within, runF, execs, exec, ev, evs, evw, evc, eva, evI, evO, asB, varOf, viewR, borR, putB, putAll, isOB, bindT, setAll, setV_eq, setO_eq, wipeR_eq, wipeR, backR, frO_some, frB_no, frB_val, fwO_some, fwB_no, fwB_val, fwB_own, st_20, st_21, it_21, it_2, it_3, it_4, enc_it0, enc_it1, enc_it2, enc_it3, enc_it4, tie_eq_high, tie_eq_low, p_add, p_addT, p_addL, p_sub, p_neg, p_Lt, p_LtE, p_Gt, p_GtE, c_Lt, c_LtE, c_Gt, c_GtE, b_tf, b_tt, b_ff, b_ft, n_f, n_t, p_itemL, p_itemT, p_sl11L, p_sl11T, p_sl10L, p_sl10T, p_sl01L, p_sl01T, p_lenL, p_lenT, p_sumL, p_sumT, p_tupleL, p_tupleT, p_listL, p_listT, p_abs, p_min2, p_max2, p_min, p_max, p_all, p_any, p_isi, p_eqI, p_neI, isiD, isND, item0, intsOf_map, boolsOf_map, List.getElem?_cons_zero, List.getElem?_cons_succ, List.getElem?_nil, List.set_cons_zero, List.set_cons_succ, List.length_cons, List.length_nil, List.length_append, List.length_map, List.length_range, List.map_cons, List.map_nil, List.cons_append, List.nil_append, List.append_nil, List.replicate_succ, List.replicate_zero, List.take_succ_cons, List.take_zero, Option.map_some, Option.map_none, Option.bind_some, Option.bind_none, Option.getD_some, Option.toList, if_true, if_false, ite_true, ite_false, reduceIte, Bool.false_eq_true, Bool.true_eq_false, Bool.not_true, Bool.not_false, decide_true, decide_false, decide_eq_true_eq, Nat.reduceAdd, Nat.reduceSub, Nat.reduceLeDiff, Nat.zero_le, Int.cast_ofNat_Int, Nat.reduceEqDiff, Nat.reduceMul, Nat.reducePow, Int.reduceAdd, Int.reduceSub, Int.reduceMul, Int.reduceNeg, Int.reduceLT, Int.reduceEq, Int.reduceLE, Int.reduceToNat, Int.reduceDiv, Int.reduceMod, Int.reducePow, Nat.zero_add, eq_self, Nat.add_zero, Bool.and_true, Bool.true_and, Bool.and_self, implies_true, and_true, true_and, and_self, not_true_eq_false, not_false_eq_true, true_or, or_true, Function.comp]
  | dict _ => simp only [i__law_all_within, runF, execs, exec, ev, evs, evw, evc, eva, evI, evO, asB, varOf, viewR, borR, putB, putAll, isOB, bindT, setAll, setV_eq, setO_eq, wipeR_eq, wipeR, backR, frO_some, frB_no, frB_val, fwO_some, fwB_no, fwB_val, fwB_own, st_20, st_21, it_21, it_2, it_3, it_4, enc_it0, enc_it1, enc_it2, enc_it3, enc_it4, tie_eq_high, tie_eq_low, p_add, p_addT, p_addL, p_sub, p_neg, p_Lt, p_LtE, p_Gt, p_GtE, c_Lt, c_LtE, c_Gt, c_GtE, b_tf, b_tt, b_ff, b_ft, n_f, n_t, p_itemL, p_itemT, p_sl11L, p_sl11T, p_sl10L, p_sl10T, p_sl01L, p_sl01T, p_lenL, p_lenT, p_sumL, p_sumT, p_tupleL, p_tupleT, p_listL, p_listT, p_abs, p_min2, p_max2, p_min, p_max, p_all, p_any, p_isi, p_eqI, p_neI, isiD, isND, item0, intsOf_map, boolsOf_map, List.getElem?_cons_zero, List.getElem?_cons_succ, List.getElem?_nil, List.set_cons_zero, List.set_cons_succ, List.length_cons, List.length_nil, List.length_append, List.length_map, List.length_range, List.map_cons, List.map_nil, List.cons_append, List.nil_append, List.append_nil, List.replicate_succ, List.replicate_zero, List.take_succ_cons, List.take_zero, Option.map_some, Option.map_none, Option.bind_some, Option.bind_none, Option.getD_some, Option.toList, if_true, if_false, ite_true, ite_false, reduceIte, Bool.false_eq_true, Bool.true_eq_false, Bool.not_true, Bool.not_false, decide_true, decide_false, decide_eq_true_eq, Nat.reduceAdd, Nat.reduceSub, Nat.reduceLeDiff, Nat.zero_le, Int.cast_ofNat_Int, Nat.reduceEqDiff, Nat.reduceMul, Nat.reducePow, Int.reduceAdd, Int.reduceSub, Int.reduceMul, Int.reduceNeg, Int.reduceLT, Int.reduceEq, Int.reduceLE, Int.reduceToNat, Int.reduceDiv, Int.reduceMod, Int.reducePow, Nat.zero_add, eq_self, Nat.add_zero, Bool.and_true, Bool.true_and, Bool.and_self, implies_true, and_true, true_and, and_self, not_true_eq_false, not_false_eq_true, true_or, or_true, Function.comp]
  | tuple xs =>
    cases n with
    | zero => cases hn
    | succ n =>
      have hm := nice_tuple.mp hn
      have c3 : xs.length ≤ 16777216 := by omega
      simp only [i__law_all_within, runF, execs, exec, ev, evs, evw, evc, eva, evI, evO, asB, varOf, viewR, borR, putB, putAll, isOB, bindT, setAll, setV_eq, setO_eq, wipeR_eq, wipeR, backR, frO_some, frB_no, frB_val, fwO_some, fwB_no, fwB_val, fwB_own, st_20, st_21, it_21, it_2, it_3, it_4, enc_it0, enc_it1, enc_it2, enc_it3, enc_it4, tie_eq_high, tie_eq_low, p_add, p_addT, p_addL, p_sub, p_neg, p_Lt, p_LtE, p_Gt, p_GtE, c_Lt, c_LtE, c_Gt, c_GtE, b_tf, b_tt, b_ff, b_ft, n_f, n_t, p_itemL, p_itemT, p_sl11L, p_sl11T, p_sl10L, p_sl10T, p_sl01L, p_sl01T, p_lenL, p_lenT, p_sumL, p_sumT, p_tupleL, p_tupleT, p_listL, p_listT, p_abs, p_min2, p_max2, p_min, p_max, p_all, p_any, p_isi, p_eqI, p_neI, isiD, isND, item0, intsOf_map, boolsOf_map, List.getElem?_cons_zero, List.getElem?_cons_succ, List.getElem?_nil, List.set_cons_zero, List.set_cons_succ, List.length_cons, List.length_nil, List.length_append, List.length_map, List.length_range, List.map_cons, List.map_nil, List.cons_append, List.nil_append, List.append_nil, List.replicate_succ, List.replicate_zero, List.take_succ_cons, List.take_zero, Option.map_some, Option.map_none, Option.bind_some, Option.bind_none, Option.getD_some, Option.toList, if_true, if_false, ite_true, ite_false, reduceIte, Bool.false_eq_true, Bool.true_eq_false, Bool.not_true, Bool.not_false, decide_true, decide_false, decide_eq_true_eq, Nat.reduceAdd, Nat.reduceSub, Nat.reduceLeDiff, Nat.zero_le, Int.cast_ofNat_Int, Nat.reduceEqDiff, Nat.reduceMul, Nat.reducePow, Int.reduceAdd, Int.reduceSub, Int.reduceMul, Int.reduceNeg, Int.reduceLT, Int.reduceEq, Int.reduceLE, Int.reduceToNat, Int.reduceDiv, Int.reduceMod, Int.reducePow, Nat.zero_add, eq_self, Nat.add_zero, Bool.and_true, Bool.true_and, Bool.and_self, implies_true, and_true, true_and, and_self, not_true_eq_false, not_false_eq_true, true_or, or_true, Function.comp, c3]
      generalize hL : loopM _ _ _ = o
      have ho := loopM_filt hL (fun x => !betwD x lo hi) (fun x hx => by
        by_cases c : betwD x lo hi = true
        · simp only [runF, execs, exec, ev, evs, evw, evc, eva, evI, evO, asB, varOf, viewR, borR, putB, putAll, isOB, bindT, setAll, setV_eq, setO_eq, wipeR_eq, wipeR, backR, frO_some, frB_no, frB_val, fwO_some, fwB_no, fwB_val, fwB_own, st_20, st_21, it_21, it_2, it_3, it_4, enc_it0, enc_it1, enc_it2, enc_it3, enc_it4, tie_eq_high, tie_eq_low, p_add, p_addT, p_addL, p_sub, p_neg, p_Lt, p_LtE, p_Gt, p_GtE, c_Lt, c_LtE, c_Gt, c_GtE, b_tf, b_tt, b_ff, b_ft, n_f, n_t, p_itemL, p_itemT, p_sl11L, p_sl11T, p_sl10L, p_sl10T, p_sl01L, p_sl01T, p_lenL, p_lenT, p_sumL, p_sumT, p_tupleL, p_tupleT, p_listL, p_listT, p_abs, p_min2, p_max2, p_min, p_max, p_all, p_any, p_isi, p_eqI, p_neI, isiD, isND, item0, intsOf_map, boolsOf_map, List.getElem?_cons_zero, List.getElem?_cons_succ, List.getElem?_nil, List.set_cons_zero, List.set_cons_succ, List.length_cons, List.length_nil, List.length_append, List.length_map, List.length_range, List.map_cons, List.map_nil, List.cons_append, List.nil_append, List.append_nil, List.replicate_succ, List.replicate_zero, List.take_succ_cons, List.take_zero, Option.map_some, Option.map_none, Option.bind_some, Option.bind_none, Option.getD_some, Option.toList, if_true, if_false, ite_true, ite_false, reduceIte, Bool.false_eq_true, Bool.true_eq_false, Bool.not_true, Bool.not_false, decide_true, decide_false, decide_eq_true_eq, Nat.reduceAdd, Nat.reduceSub, Nat.reduceLeDiff, Nat.zero_le, Int.cast_ofNat_Int, Nat.reduceEqDiff, Nat.reduceMul, Nat.reducePow, Int.reduceAdd, Int.reduceSub, Int.reduceMul, Int.reduceNeg, Int.reduceLT, Int.reduceEq, Int.reduceLE, Int.reduceToNat, Int.reduceDiv, Int.reduceMod, Int.reducePow, Nat.zero_add, eq_self, Nat.add_zero, Bool.and_true, Bool.true_and, Bool.and_self, implies_true, and_true, true_and, and_self, not_true_eq_false, not_false_eq_true, true_or, or_true, Function.comp, ok_lbetweenD, c]
        · simp only [Bool.not_eq_true] at c
          simp only [runF, execs, exec, ev, evs, evw, evc, eva, evI, evO, asB, varOf, viewR, borR, putB, putAll, isOB, bindT, setAll, setV_eq, setO_eq, wipeR_eq, wipeR, backR, frO_some, frB_no, frB_val, fwO_some, fwB_no, fwB_val, fwB_own, st_20, st_21, it_21, it_2, it_3, it_4, enc_it0, enc_it1, enc_it2, enc_it3, enc_it4, tie_eq_high, tie_eq_low, p_add, p_addT, p_addL, p_sub, p_neg, p_Lt, p_LtE, p_Gt, p_GtE, c_Lt, c_LtE, c_Gt, c_GtE, b_tf, b_tt, b_ff, b_ft, n_f, n_t, p_itemL, p_itemT, p_sl11L, p_sl11T, p_sl10L, p_sl10T, p_sl01L, p_sl01T, p_lenL, p_lenT, p_sumL, p_sumT, p_tupleL, p_tupleT, p_listL, p_listT, p_abs, p_min2, p_max2, p_min, p_max, p_all, p_any, p_isi, p_eqI, p_neI, isiD, isND, item0, intsOf_map, boolsOf_map, List.getElem?_cons_zero, List.getElem?_cons_succ, List.getElem?_nil, List.set_cons_zero, List.set_cons_succ, List.length_cons, List.length_nil, List.length_append, List.length_map, List.length_range, List.map_cons, List.map_nil, List.cons_append, List.nil_append, List.append_nil, List.replicate_succ, List.replicate_zero, List.take_succ_cons, List.take_zero, Option.map_some, Option.map_none, Option.bind_some, Option.bind_none, Option.getD_some, Option.toList, if_true, if_false, ite_true, ite_false, reduceIte, Bool.false_eq_true, Bool.true_eq_false, Bool.not_true, Bool.not_false, decide_true, decide_false, decide_eq_true_eq, Nat.reduceAdd, Nat.reduceSub, Nat.reduceLeDiff, Nat.zero_le, Int.cast_ofNat_Int, Nat.reduceEqDiff, Nat.reduceMul, Nat.reducePow, Int.reduceAdd, Int.reduceSub, Int.reduceMul, Int.reduceNeg, Int.reduceLT, Int.reduceEq, Int.reduceLE, Int.reduceToNat, Int.reduceDiv, Int.reduceMod, Int.reducePow, Nat.zero_add, eq_self, Nat.add_zero, Bool.and_true, Bool.true_and, Bool.and_self, implies_true, and_true, true_and, and_self, not_true_eq_false, not_false_eq_true, true_or, or_true, Function.comp, ok_lbetweenD, c])
      subst ho
      have l1 : lay 9 (.list (xs.filter fun x => !betwD x lo hi)) = true := by
        show (xs.filter fun x => !betwD x lo hi).all (lay 8) = true
        rw [List.all_eq_true]
        exact fun x hx => nice_lay _ _ (nice_mono (hm.2 x (List.mem_filter.mp hx).1) (by omega))
      have l2 : lay 9 (.list []) = true := rfl
      have e : prD (.cmp .Eq) [.list (xs.filter fun x => !betwD x lo hi), .list []] = some (.bool (xs.all (betwD · lo hi))) := by
        rw [p_eq, l1, l2, if_pos (by rfl), eqv_list, eqvAll_filt]
      simp only [runF, execs, exec, ev, evs, evw, evc, eva, evI, evO, asB, varOf, viewR, borR, putB, putAll, isOB, bindT, setAll, setV_eq, setO_eq, wipeR_eq, wipeR, backR, frO_some, frB_no, frB_val, fwO_some, fwB_no, fwB_val, fwB_own, st_20, st_21, it_21, it_2, it_3, it_4, enc_it0, enc_it1, enc_it2, enc_it3, enc_it4, tie_eq_high, tie_eq_low, p_add, p_addT, p_addL, p_sub, p_neg, p_Lt, p_LtE, p_Gt, p_GtE, c_Lt, c_LtE, c_Gt, c_GtE, b_tf, b_tt, b_ff, b_ft, n_f, n_t, p_itemL, p_itemT, p_sl11L, p_sl11T, p_sl10L, p_sl10T, p_sl01L, p_sl01T, p_lenL, p_lenT, p_sumL, p_sumT, p_tupleL, p_tupleT, p_listL, p_listT, p_abs, p_min2, p_max2, p_min, p_max, p_all, p_any, p_isi, p_eqI, p_neI, isiD, isND, item0, intsOf_map, boolsOf_map, List.getElem?_cons_zero, List.getElem?_cons_succ, List.getElem?_nil, List.set_cons_zero, List.set_cons_succ, List.length_cons, List.length_nil, List.length_append, List.length_map, List.length_range, List.map_cons, List.map_nil, List.cons_append, List.nil_append, List.append_nil, List.replicate_succ, List.replicate_zero, List.take_succ_cons, List.take_zero, Option.map_some, Option.map_none, Option.bind_some, Option.bind_none, Option.getD_some, Option.toList, if_true, if_false, ite_true, ite_false, reduceIte, Bool.false_eq_true, Bool.true_eq_false, Bool.not_true, Bool.not_false, decide_true, decide_false, decide_eq_true_eq, Nat.reduceAdd, Nat.reduceSub, Nat.reduceLeDiff, Nat.zero_le, Int.cast_ofNat_Int, Nat.reduceEqDiff, Nat.reduceMul, Nat.reducePow, Int.reduceAdd, Int.reduceSub, Int.reduceMul, Int.reduceNeg, Int.reduceLT, Int.reduceEq, Int.reduceLE, Int.reduceToNat, Int.reduceDiv, Int.reduceMod, Int.reducePow, Nat.zero_add, eq_self, Nat.add_zero, Bool.and_true, Bool.true_and, Bool.and_self, implies_true, and_true, true_and, and_self, not_true_eq_false, not_false_eq_true, true_or, or_true, Function.comp, e]
theorem incB_iff (l : List Int) : incB l = true ↔ l.Pairwise (· < ·) := by
  constructor
  · intro h
    induction l with
    | nil => exact List.Pairwise.nil
    | cons a l ih =>
      cases l with
      | nil => simp
      | cons b r =>
        have h2 : (decide (a < b) && incB (b :: r)) = true := h
        rw [Bool.and_eq_true, decide_eq_true_eq] at h2
        have q := ih h2.2
        refine List.pairwise_cons.mpr ⟨fun y hy => ?_, q⟩
        rcases List.mem_cons.mp hy with rfl | hy
        · exact h2.1
        · exact Int.lt_trans h2.1 ((List.pairwise_cons.mp q).1 y hy)
  · intro h
    unfold incB
    rw [List.all_eq_true]
    exact fun p hp => by rw [decide_eq_true_eq]; exact pair_zip h p hp
theorem sset_iff (l : List Int) : decide (l = ssetI l) = incB l := by
  by_cases h : l.Pairwise (· < ·)
  · rw [(incB_iff l).mpr h, decide_eq_true_eq]
    exact sorted_unique h (ssetI_sorted l) fun y => (ssetI_mem l y).symm
  · have : incB l = false := by
      rw [Bool.eq_false_iff]
      exact fun q => h ((incB_iff l).mp q)
    rw [this, decide_eq_false_iff_not]
    exact fun q => h (q ▸ ssetI_sorted l)
theorem ne_listI (l l' : List Int) : prD (.cmp .NotEq) [.list (l.map .int), .list (l'.map .int)] = some (.bool (!decide (l = l'))) := by
  rw [p_ne, lay_listI, lay_listI, if_pos (by rfl), eqv_list, eqvAll_ints]
theorem ok_law_is_dither (m : Nat) (y : PyData) (n : Nat) (hn : nice n y = true) (h9 : n ≤ 9) : Ph (m + 3) "_law_is_dither" [.val y] = some ⟨.bool (dithD y), false, [.val y]⟩ := by
  rw [L__law_is_dither]
  cases y with
  | none => simp only [i__law_is_dither, runF, execs, exec, ev, evs, evw, evc, eva, evI, evO, asB, varOf, viewR, borR, putB, putAll, isOB, bindT, setAll, setV_eq, setO_eq, wipeR_eq, wipeR, backR, frO_some, frB_no, frB_val, fwO_some, fwB_no, fwB_val, fwB_own, st_20, st_21, it_21, it_2, it_3, it_4, enc_it0, enc_it1, enc_it2, enc_it3, enc_it4, tie_eq_high, tie_eq_low, p_add, p_addT, p_addL, p_sub, p_neg, p_Lt, p_LtE, p_Gt, p_GtE, c_Lt, c_LtE, c_Gt, c_GtE, b_tf, b_tt, b_ff, b_ft, n_f, n_t, p_itemL, p_itemT, p_sl11L, p_sl11T, p_sl10L, p_sl10T, p_sl01L, p_sl01T, p_lenL, p_lenT, p_sumL, p_sumT, p_tupleL, p_tupleT, p_listL, p_listT, p_abs, p_min2, p_max2, p_min, p_max, p_all, p_any, p_isi, p_eqI, p_neI, isiD, isND, item0, intsOf_map, boolsOf_map, List.getElem?_cons_zero, List.getElem?_cons_succ, List.getElem?_nil, List.set_cons_zero, List.set_cons_succ, List.length_cons, List.length_nil, List.length_append, List.length_map, List.length_range, List.map_cons, List.map_nil, List.cons_append, List.nil_append, List.append_nil, List.replicate_succ, List.replicate_zero, List.take_succ_cons, List.take_zero, Option.map_some, Option.map_none, Option.bind_some, Option.bind_none, Option.getD_some, Option.toList, if_true, if_false, ite_true, ite_false, reduceIte, Bool.false_eq_true, Bool.true_eq_false, Bool.not_true, Bool.not_false, decide_true, decide_false, decide_eq_true_eq, Nat.reduceAdd, Nat.reduceSub, Nat.reduceLeDiff, Nat.zero_le, Int.cast_ofNat_Int, Nat.reduceEqDiff, Nat.reduceMul, Nat.reducePow, Int.reduceAdd, Int.reduceSub, Int.reduceMul, Int.reduceNeg, Int.reduceLT, Int.reduceEq, Int.reduceLE, Int.reduceToNat, Int.reduceDiv, Int.reduceMod, Int.reducePow, Nat.zero_add, eq_self, Nat.add_zero, Bool.and_true, Bool.true_and, Bool.and_self, implies_true, and_true, true_and, and_self, not_true_eq_false, not_false_eq_true, true_or, or_true, Function.comp, dithD]
  | bool _ => simp only [i__law_is_dither, runF, execs, exec, ev, evs, evw, evc, eva, evI, evO, asB, varOf, viewR, borR, putB, putAll, isOB, bindT, setAll, setV_eq, setO_eq, wipeR_eq, wipeR, backR, frO_some, frB_no, frB_val, fwO_some, fwB_no, fwB_val, fwB_own, st_20, st_21, it_21, it_2, it_3, it_4, enc_it0, enc_it1, enc_it2, enc_it3, enc_it4, tie_eq_high, tie_eq_low, p_add, p_addT, p_addL, p_sub, p_neg, p_Lt, p_LtE, p_Gt, p_GtE, c_Lt, c_LtE, c_Gt, c_GtE, b_tf, b_tt, b_ff, b_ft, n_f, n_t, p_itemL, p_itemT, p_sl11L, p_sl11T, p_sl10L, p_sl10T, p_sl01L, p_sl01T, p_lenL, p_lenT, p_sumL, p_sumT, p_tupleL, p_tupleT, p_listL, p_listT, p_abs, p_min2, p_max2, p_min, p_max, p_all, p_any, p_isi, p_eqI, p_neI, isiD, isND, item0, intsOf_map, boolsOf_map, List.getElem?_cons_zero, List.getElem?_cons_succ, List.getElem?_nil, List.set_cons_zero, List.set_cons_succ, List.length_cons, List.length_nil, List.length_append, List.length_map, List.length_range, List.map_cons, List.map_nil, List.cons_append, List.nil_append, List.append_nil, List.replicate_succ, List.replicate_zero, List.take_succ_cons, List.take_zero, Option.map_some, Option.map_none, Option.bind_some, Option.bind_none, Option.getD_some, Option.toList, if_true, if_false, ite_true, ite_false, reduceIte, Bool.false_eq_true, Bool.true_eq_false, Bool.not_true, Bool.not_false, decide_true, decide_false, decide_eq_true_eq, Nat.reduceAdd, Nat.reduceSub, Nat.reduceLeDiff, Nat.zero_le, Int.cast_ofNat_Int, Nat.reduceEqDiff, Nat.reduceMul, Nat.reducePow, Int.reduceAdd, Int.reduceSub, Int.reduceMul, Int.reduceNeg, Int.reduceLT, Int.reduceEq, Int.reduceLE, Int.reduceToNat, Int.reduceDiv, Int.reduceMod, Int.reducePow, Nat.zero_add, eq_self, Nat.add_zero, Bool.and_true, Bool.true_and, Bool.and_self, implies_true, and_true, true_and, and_self, not_true_eq_false, not_false_eq_true, true_or, or_true, Function.comp, dithD]
  | int _ => simp only [i__law_is_dither, runF, execs, exec, ev, evs, evw, evc, eva, evI, evO, asB, varOf, viewR, borR, putB, putAll, isOB, bindT, setAll, setV_eq, setO_eq, wipeR_eq, wipeR, backR, frO_some, frB_no, frB_val, fwO_some, fwB_no, fwB_val, fwB_own, st_20, st_21, it_21, it_2, it_3, it_4, enc_it0, enc_it1, enc_it2, enc_it3, enc_it4, tie_eq_high, tie_eq_low, p_add, p_addT, p_addL, p_sub, p_neg, p_Lt, p_LtE, p_Gt, p_GtE, c_Lt, c_LtE, c_Gt, c_GtE, b_tf, b_tt, b_ff, b_ft, n_f, n_t, p_itemL, p_itemT, p_sl11L, p_sl11T, p_sl10L, p_sl10T, p_sl01L, p_sl01T, p_lenL, p_lenT, p_sumL, p_sumT, p_tupleL, p_tupleT, p_listL, p_listT, p_abs, p_min2, p_max2, p_min, p_max, p_all, p_any, p_isi, p_eqI, p_neI, isiD, isND, item0, intsOf_map, boolsOf_map, List.getElem?_cons_zero, List.getElem?_cons_succ, List.getElem?_nil, List.set_cons_zero, List.set_cons_succ, List.length_cons, List.length_nil, List.length_append, List.length_map, List.length_range, List.map_cons, List.map_nil, List.cons_append, List.nil_append, List.append_nil, List.replicate_succ, List.replicate_zero, List.take_succ_cons, List.take_zero, Option.map_some, Option.map_none, Option.bind_some, Option.bind_none, Option.getD_some, Option.toList, if_true, if_false, ite_true, ite_false, reduceIte, Bool.false_eq_true, Bool.true_eq_false, Bool.not_true, Bool.not_false, decide_true, decide_false, decide_eq_true_eq, Nat.reduceAdd, Nat.reduceSub, Nat.reduceLeDiff, Nat.zero_le, Int.cast_ofNat_Int, Nat.reduceEqDiff, Nat.reduceMul, Nat.reducePow, Int.reduceAdd, Int.reduceSub, Int.reduceMul, Int.reduceNeg, Int.reduceLT, Int.reduceEq, Int.reduceLE, Int.reduceToNat, Int.reduceDiv, Int.reduceMod, Int.reducePow, Nat.zero_add, eq_self, Nat.add_zero, Bool.and_true, Bool.true_and, Bool.and_self, implies_true, and_true, true_and, and_self, not_true_eq_false, not_false_eq_true, true_or, or_true, Function.comp, dithD]
  | str _ => simp only [i__law_is_dither, runF, execs, exec, ev, evs, evw, evc, eva, evI, evO, asB, varOf, viewR, borR, putB, putAll, isOB, bindT, setAll, setV_eq, setO_eq, wipeR_eq, wipeR, backR, frO_some, frB_no, frB_val, fwO_some, fwB_no, fwB_val, fwB_own, st_20, st_21, it_21, it_2, it_3, it_4, enc_it0, enc_it1, enc_it2, enc_it3, enc_it4, tie_eq_high, tie_eq_low, p_add, p_addT, p_addL, p_sub, p_neg, p_Lt, p_LtE, p_Gt, p_GtE, c_Lt, c_LtE, c_Gt, c_GtE, b_tf, b_tt, b_ff, b_ft, n_f, n_t, p_itemL, p_itemT, p_sl11L, p_sl11T, p_sl10L, p_sl10T, p_sl01L, p_sl01T, p_lenL, p_lenT, p_sumL, p_sumT, p_tupleL, p_tupleT, p_listL, p_listT, p_abs, p_min2, p_max2, p_min, p_max, p_all, p_any, p_isi, p_eqI, p_neI, isiD, isND, item0, intsOf_map, boolsOf_map, List.getElem?_cons_zero, List.getElem?_cons_succ, List.getElem?_nil, List.set_cons_zero, List.set_cons_succ, List.length_cons, List.length_nil, List.length_append, List.length_map, List.length_range, List.map_cons, List.map_nil, List.cons_append, List.nil_append, List.append_nil, List.replicate_succ, List.replicate_zero, List.take_succ_cons, List.take_zero, Option.map_some, Option.map_none, Option.bind_some, Option.bind_none, Option.getD_some, Option.toList, if_true, if_false, ite_true, ite_false, reduceIte, Bool.false_eq_true, Bool.true_eq_false, Bool.not_true, Bool.not_false, decide_true, decide_false, decide_eq_true_eq, Nat.reduceAdd, Nat.reduceSub, Nat.reduceLeDiff, Nat.zero_le, Int.cast_ofNat_Int, Nat.reduceEqDiff, Nat.reduceMul, Nat.reducePow, Int.reduceAdd, Int.reduceSub, Int.reduceMul, Int.reduceNeg, Int.reduceLT, Int.reduceEq, Int.reduceLE, Int.reduceToNat, Int.reduceDiv, Int.reduceMod, Int.reducePow, Nat.zero_add, eq_self, Nat.add_zero, Bool.and_true, Bool.true_and, Bool.and_self, implies_true, and_true, true_and, and_self, not_true_eq_false, not_false_eq_true, true_or, or_true, Function.comp, dithD]
  | list _ => simp only [i__law_is_dither, runF, execs, exec, ev, evs, evw, evc, eva, evI, evO, asB, varOf, viewR, borR, putB, putAll, isOB, bindT, setAll, setV_eq, setO_eq, wipeR_eq, wipeR, backR, frO_some, frB_no, frB_val, fwO_some, fwB_no, fwB_val, fwB_own, st_20, st_21, it_21, it_2, it_3, it_4, enc_it0, enc_it1, enc_it2, enc_it3, enc_it4, tie_eq_high, tie_eq_low, p_add, p_addT, p_addL, p_sub, p_neg, p_Lt, p_LtE, p_Gt, p_GtE, c_Lt, c_LtE, c_Gt, c_GtE, b_tf, b_tt, b_ff, b_ft, n_f, n_t, p_itemL, p_itemT, p_sl11L, p_sl11T, p_sl10L, p_sl10T, p_sl01L, p_sl01T, p_lenL, p_lenT, p_sumL, p_sumT, p_tupleL, p_tupleT, p_listL, p_listT, p_abs, p_min2, p_max2, p_min, p_max, p_all, p_any, p_isi, p_eqI, p_neI, isiD, isND, item0, intsOf_map, boolsOf_map, List.getElem?_cons_zero, List.getElem?_cons_succ, List.getElem?_nil, List.set_cons_zero, List.set_cons_succ, List.length_cons, List.length_nil, List.length_append, List.length_map, List.length_range, List.map_cons, List.map_nil, List.cons_append, List.nil_append, List.append_nil, List.replicate_succ, List.replicate_zero, List.take_succ_cons, List.take_zero, Option.map_some, Option.map_none, Option.bind_some, Option.bind_none, Option.getD_some, Option.toList, if_true, if_false, ite_true, ite_false, reduceIte, Bool.false_eq_true, Bool.true_eq_false, Bool.not_true, Bool.not_false, decide_true, decide_false, decide_eq_true_eq, Nat.reduceAdd, Nat.reduceSub, Nat.reduceLeDiff, Nat.zero_le, Int.cast_ofNat_Int, Nat.reduceEqDiff, Nat.reduceMul, Nat.reducePow, Int.reduceAdd, Int.reduceSub, Int.reduceMul, Int.reduceNeg, Int.reduceLT, Int.reduceEq, Int.reduceLE, Int.reduceToNat, Int.reduceDiv, Int.reduceMod, Int.reducePow, Nat.zero_add, eq_self, Nat.add_zero, Bool.and_true, Bool.true_and, Bool.and_self, implies_true, and_true, true_and, and_self, not_true_eq_false, not_false_eq_true, true_or, or_true, Function.comp, dithD]
  | dict _ => simp only [i__law_is_dither, runF, execs, exec, ev, evs, evw, evc, eva, evI, evO, asB, varOf, viewR, borR, putB, putAll, isOB, bindT, setAll, setV_eq, setO_eq, wipeR_eq, wipeR, backR, frO_some, frB_no, frB_val, fwO_some, fwB_no, fwB_val, fwB_own, st_20, st_21, it_21, it_2, it_3, it_4, enc_it0, enc_it1, enc_it2, enc_it3, enc_it4, tie_eq_high, tie_eq_low, p_add, p_addT, p_addL, p_sub, p_neg, p_Lt, p_LtE, p_Gt, p_GtE, c_Lt, c_LtE, c_Gt, c_GtE, b_tf, b_tt, b_ff, b_ft, n_f, n_t, p_itemL, p_itemT, p_sl11L, p_sl11T, p_sl10L, p_sl10T, p_sl01L, p_sl01T, p_lenL, p_lenT, p_sumL, p_sumT, p_tupleL, p_tupleT, p_listL, p_listT, p_abs, p_min2, p_max2, p_min, p_max, p_all, p_any, p_isi, p_eqI, p_neI, isiD, isND, item0, intsOf_map, boolsOf_map, List.getElem?_cons_zero, List.getElem?_cons_succ, List.getElem?_nil, List.set_cons_zero, List.set_cons_succ, List.length_cons, List.length_nil, List.length_append, List.length_map, List.length_range, List.map_cons, List.map_nil, List.cons_append, List.nil_append, List.append_nil, List.replicate_succ, List.replicate_zero, List.take_succ_cons, List.take_zero, Option.map_some, Option.map_none, Option.bind_some, Option.bind_none, Option.getD_some, Option.toList, if_true, if_false, ite_true, ite_false, reduceIte, Bool.false_eq_true, Bool.true_eq_false, Bool.not_true, Bool.not_false, decide_true, decide_false, decide_eq_true_eq, Nat.reduceAdd, Nat.reduceSub, Nat.reduceLeDiff, Nat.zero_le, Int.cast_ofNat_Int, Nat.reduceEqDiff, Nat.reduceMul, Nat.reducePow, Int.reduceAdd, Int.reduceSub, Int.reduceMul, Int.reduceNeg, Int.reduceLT, Int.reduceEq, Int.reduceLE, Int.reduceToNat, Int.reduceDiv, Int.reduceMod, Int.reducePow, Nat.zero_add, eq_self, Nat.add_zero, Bool.and_true, Bool.true_and, Bool.and_self, implies_true, and_true, true_and, and_self, not_true_eq_false, not_false_eq_true, true_or, or_true, Function.comp, dithD]
  | tuple xs =>
    by_cases c : xs.length = 5
    · obtain ⟨t, lv, sh, q, tie, rfl⟩ := len5 c
      cases n with
      | zero => cases hn
      | succ n =>
        have hm := (nice_tuple.mp hn).2
        have n1 := hm lv (by simp)
        have n2 := hm tie (by simp)
        have n3 := hm sh (by simp)
        have b1 := ok_lbetweenD (m + 1) t 1 8
        have b2 := ok_lbetweenD (m + 1) q 1 8
        by_cases c1 : betwD t 1 8 = true
        · obtain ⟨tv, rfl, _, _⟩ := betw_int c1
          by_cases c2 : betwD q 1 8 = true
          · obtain ⟨qv, rfl, _, _⟩ := betw_int c2
            have b3 := ok_within m lv n n1 (by omega) 0 tv
            have b4 := ok_within m sh n n3 (by omega) 0 qv
            have ed : dithD (.tuple [.int tv, lv, sh, .int qv, tie]) = (levD lv tv && shaD sh qv && tieD tie) := by
              simp only [dithD, c1, c2, intD, Bool.true_and]
            rw [ed]
            cases lv with
            | none => simp only [i__law_is_dither, runF, execs, exec, ev, evs, evw, evc, eva, evI, evO, asB, varOf, viewR, borR, putB, putAll, isOB, bindT, setAll, setV_eq, setO_eq, wipeR_eq, wipeR, backR, frO_some, frB_no, frB_val, fwO_some, fwB_no, fwB_val, fwB_own, st_20, st_21, it_21, it_2, it_3, it_4, enc_it0, enc_it1, enc_it2, enc_it3, enc_it4, tie_eq_high, tie_eq_low, p_add, p_addT, p_addL, p_sub, p_neg, p_Lt, p_LtE, p_Gt, p_GtE, c_Lt, c_LtE, c_Gt, c_GtE, b_tf, b_tt, b_ff, b_ft, n_f, n_t, p_itemL, p_itemT, p_sl11L, p_sl11T, p_sl10L, p_sl10T, p_sl01L, p_sl01T, p_lenL, p_lenT, p_sumL, p_sumT, p_tupleL, p_tupleT, p_listL, p_listT, p_abs, p_min2, p_max2, p_min, p_max, p_all, p_any, p_isi, p_eqI, p_neI, isiD, isND, item0, intsOf_map, boolsOf_map, List.getElem?_cons_zero, List.getElem?_cons_succ, List.getElem?_nil, List.set_cons_zero, List.set_cons_succ, List.length_cons, List.length_nil, List.length_append, List.length_map, List.length_range, List.map_cons, List.map_nil, List.cons_append, List.nil_append, List.append_nil, List.replicate_succ, List.replicate_zero, List.take_succ_cons, List.take_zero, Option.map_some, Option.map_none, Option.bind_some, Option.bind_none, Option.getD_some, Option.toList, if_true, if_false, ite_true, ite_false, reduceIte, Bool.false_eq_true, Bool.true_eq_false, Bool.not_true, Bool.not_false, decide_true, decide_false, decide_eq_true_eq, Nat.reduceAdd, Nat.reduceSub, Nat.reduceLeDiff, Nat.zero_le, Int.cast_ofNat_Int, Nat.reduceEqDiff, Nat.reduceMul, Nat.reducePow, Int.reduceAdd, Int.reduceSub, Int.reduceMul, Int.reduceNeg, Int.reduceLT, Int.reduceEq, Int.reduceLE, Int.reduceToNat, Int.reduceDiv, Int.reduceMod, Int.reducePow, Nat.zero_add, eq_self, Nat.add_zero, Bool.and_true, Bool.true_and, Bool.and_self, implies_true, and_true, true_and, and_self, not_true_eq_false, not_false_eq_true, true_or, or_true, Function.comp, b1, b2, b3, c1, c2, levD, Bool.false_and]
            | bool _ => simp only [i__law_is_dither, runF, execs, exec, ev, evs, evw, evc, eva, evI, evO, asB, varOf, viewR, borR, putB, putAll, isOB, bindT, setAll, setV_eq, setO_eq, wipeR_eq, wipeR, backR, frO_some, frB_no, frB_val, fwO_some, fwB_no, fwB_val, fwB_own, st_20, st_21, it_21, it_2, it_3, it_4, enc_it0, enc_it1, enc_it2, enc_it3, enc_it4, tie_eq_high, tie_eq_low, p_add, p_addT, p_addL, p_sub, p_neg, p_Lt, p_LtE, p_Gt, p_GtE, c_Lt, c_LtE, c_Gt, c_GtE, b_tf, b_tt, b_ff, b_ft, n_f, n_t, p_itemL, p_itemT, p_sl11L, p_sl11T, p_sl10L, p_sl10T, p_sl01L, p_sl01T, p_lenL, p_lenT, p_sumL, p_sumT, p_tupleL, p_tupleT, p_listL, p_listT, p_abs, p_min2, p_max2, p_min, p_max, p_all, p_any, p_isi, p_eqI, p_neI, isiD, isND, item0, intsOf_map, boolsOf_map, List.getElem?_cons_zero, List.getElem?_cons_succ, List.getElem?_nil, List.set_cons_zero, List.set_cons_succ, List.length_cons, List.length_nil, List.length_append, List.length_map, List.length_range, List.map_cons, List.map_nil, List.cons_append, List.nil_append, List.append_nil, List.replicate_succ, List.replicate_zero, List.take_succ_cons, List.take_zero, Option.map_some, Option.map_none, Option.bind_some, Option.bind_none, Option.getD_some, Option.toList, if_true, if_false, ite_true, ite_false, reduceIte, Bool.false_eq_true, Bool.true_eq_false, Bool.not_true, Bool.not_false, decide_true, decide_false, decide_eq_true_eq, Nat.reduceAdd, Nat.reduceSub, Nat.reduceLeDiff, Nat.zero_le, Int.cast_ofNat_Int, Nat.reduceEqDiff, Nat.reduceMul, Nat.reducePow, Int.reduceAdd, Int.reduceSub, Int.reduceMul, Int.reduceNeg, Int.reduceLT, Int.reduceEq, Int.reduceLE, Int.reduceToNat, Int.reduceDiv, Int.reduceMod, Int.reducePow, Nat.zero_add, eq_self, Nat.add_zero, Bool.and_true, Bool.true_and, Bool.and_self, implies_true, and_true, true_and, and_self, not_true_eq_false, not_false_eq_true, true_or, or_true, Function.comp, b1, b2, b3, c1, c2, levD, Bool.false_and]
            | int _ => simp only [i__law_is_dither, runF, execs, exec, ev, evs, evw, evc, eva, evI, evO, asB, varOf, viewR, borR, putB, putAll, isOB, bindT, setAll, setV_eq, setO_eq, wipeR_eq, wipeR, backR, frO_some, frB_no, frB_val, fwO_some, fwB_no, fwB_val, fwB_own, st_20, st_21, it_21, it_2, it_3, it_4, enc_it0, enc_it1, enc_it2, enc_it3, enc_it4, tie_eq_high, tie_eq_low, p_add, p_addT, p_addL, p_sub, p_neg, p_Lt, p_LtE, p_Gt, p_GtE, c_Lt, c_LtE, c_Gt, c_GtE, b_tf, b_tt, b_ff, b_ft, n_f, n_t, p_itemL, p_itemT, p_sl11L, p_sl11T, p_sl10L, p_sl10T, p_sl01L, p_sl01T, p_lenL, p_lenT, p_sumL, p_sumT, p_tupleL, p_tupleT, p_listL, p_listT, p_abs, p_min2, p_max2, p_min, p_max, p_all, p_any, p_isi, p_eqI, p_neI, isiD, isND, item0, intsOf_map, boolsOf_map, List.getElem?_cons_zero, List.getElem?_cons_succ, List.getElem?_nil, List.set_cons_zero, List.set_cons_succ, List.length_cons, List.length_nil, List.length_append, List.length_map, List.length_range, List.map_cons, List.map_nil, List.cons_append, List.nil_append, List.append_nil, List.replicate_succ, List.replicate_zero, List.take_succ_cons, List.take_zero, Option.map_some, Option.map_none, Option.bind_some, Option.bind_none, Option.getD_some, Option.toList, if_true, if_false, ite_true, ite_false, reduceIte, Bool.false_eq_true, Bool.true_eq_false, Bool.not_true, Bool.not_false, decide_true, decide_false, decide_eq_true_eq, Nat.reduceAdd, Nat.reduceSub, Nat.reduceLeDiff, Nat.zero_le, Int.cast_ofNat_Int, Nat.reduceEqDiff, Nat.reduceMul, Nat.reducePow, Int.reduceAdd, Int.reduceSub, Int.reduceMul, Int.reduceNeg, Int.reduceLT, Int.reduceEq, Int.reduceLE, Int.reduceToNat, Int.reduceDiv, Int.reduceMod, Int.reducePow, Nat.zero_add, eq_self, Nat.add_zero, Bool.and_true, Bool.true_and, Bool.and_self, implies_true, and_true, true_and, and_self, not_true_eq_false, not_false_eq_true, true_or, or_true, Function.comp, b1, b2, b3, c1, c2, levD, Bool.false_and]
            | str _ => simp only [i__law_is_dither, runF, execs, exec, ev, evs, evw, evc, eva, evI, evO, asB, varOf, viewR, borR, putB, putAll, isOB, bindT, setAll, setV_eq, setO_eq, wipeR_eq, wipeR, backR, frO_some, frB_no, frB_val, fwO_some, fwB_no, fwB_val, fwB_own, st_20, st_21, it_21, it_2, it_3, it_4, enc_it0, enc_it1, enc_it2, enc_it3, enc_it4, tie_eq_high, tie_eq_low, p_add, p_addT, p_addL, p_sub, p_neg, p_Lt, p_LtE, p_Gt, p_GtE, c_Lt, c_LtE, c_Gt, c_GtE, b_tf, b_tt, b_ff, b_ft, n_f, n_t, p_itemL, p_itemT, p_sl11L, p_sl11T, p_sl10L, p_sl10T, p_sl01L, p_sl01T, p_lenL, p_lenT, p_sumL, p_sumT, p_tupleL, p_tupleT, p_listL, p_listT, p_abs, p_min2, p_max2, p_min, p_max, p_all, p_any, p_isi, p_eqI, p_neI, isiD, isND, item0, intsOf_map, boolsOf_map, List.getElem?_cons_zero, List.getElem?_cons_succ, List.getElem?_nil, List.set_cons_zero, List.set_cons_succ, List.length_cons, List.length_nil, List.length_append, List.length_map, List.length_range, List.map_cons, List.map_nil, List.cons_append, List.nil_append, List.append_nil, List.replicate_succ, List.replicate_zero, List.take_succ_cons, List.take_zero, Option.map_some, Option.map_none, Option.bind_some, Option.bind_none, Option.getD_some, Option.toList, if_true, if_false, ite_true, ite_false, reduceIte, Bool.false_eq_true, Bool.true_eq_false, Bool.not_true, Bool.not_false, decide_true, decide_false, decide_eq_true_eq, Nat.reduceAdd, Nat.reduceSub, Nat.reduceLeDiff, Nat.zero_le, Int.cast_ofNat_Int, Nat.reduceEqDiff, Nat.reduceMul, Nat.reducePow, Int.reduceAdd, Int.reduceSub, Int.reduceMul, Int.reduceNeg, Int.reduceLT, Int.reduceEq, Int.reduceLE, Int.reduceToNat, Int.reduceDiv, Int.reduceMod, Int.reducePow, Nat.zero_add, eq_self, Nat.add_zero, Bool.and_true, Bool.true_and, Bool.and_self, implies_true, and_true, true_and, and_self, not_true_eq_false, not_false_eq_true, true_or, or_true, Function.comp, b1, b2, b3, c1, c2, levD, Bool.false_and]
            | list _ => simp only [i__law_is_dither, runF, execs, exec, ev, evs, evw, evc, eva, evI, evO, asB, varOf, viewR, borR, putB, putAll, isOB, bindT, setAll, setV_eq, setO_eq, wipeR_eq, wipeR, backR, frO_some, frB_no, frB_val, fwO_some, fwB_no, fwB_val, fwB_own, st_20, st_21, it_21, it_2, it_3, it_4, enc_it0, enc_it1, enc_it2, enc_it3, enc_it4, tie_eq_high, tie_eq_low, p_add, p_addT, p_addL, p_sub, p_neg, p_Lt, p_LtE, p_Gt, p_GtE, c_Lt, c_LtE, c_Gt, c_GtE, b_tf, b_tt, b_ff, b_ft, n_f, n_t, p_itemL, p_itemT, p_sl11L, p_sl11T, p_sl10L, p_sl10T, p_sl01L, p_sl01T, p_lenL, p_lenT, p_sumL, p_sumT, p_tupleL, p_tupleT, p_listL, p_listT, p_abs, p_min2, p_max2, p_min, p_max, p_all, p_any, p_isi, p_eqI, p_neI, isiD, isND, item0, intsOf_map, boolsOf_map, List.getElem?_cons_zero, List.getElem?_cons_succ, List.getElem?_nil, List.set_cons_zero, List.set_cons_succ, List.length_cons, List.length_nil, List.length_append, List.length_map, List.length_range, List.map_cons, List.map_nil, List.cons_append, List.nil_append, List.append_nil, List.replicate_succ, List.replicate_zero, List.take_succ_cons, List.take_zero, Option.map_some, Option.map_none, Option.bind_some, Option.bind_none, Option.getD_some, Option.toList, if_true, if_false, ite_true, ite_false, reduceIte, Bool.false_eq_true, Bool.true_eq_false, Bool.not_true, Bool.not_false, decide_true, decide_false, decide_eq_true_eq, Nat.reduceAdd, Nat.reduceSub, Nat.reduceLeDiff, Nat.zero_le, Int.cast_ofNat_Int, Nat.reduceEqDiff, Nat.reduceMul, Nat.reducePow, Int.reduceAdd, Int.reduceSub, Int.reduceMul, Int.reduceNeg, Int.reduceLT, Int.reduceEq, Int.reduceLE, Int.reduceToNat, Int.reduceDiv, Int.reduceMod, Int.reducePow, Nat.zero_add, eq_self, Nat.add_zero, Bool.and_true, Bool.true_and, Bool.and_self, implies_true, and_true, true_and, and_self, not_true_eq_false, not_false_eq_true, true_or, or_true, Function.comp, b1, b2, b3, c1, c2, levD, Bool.false_and]
            | dict _ => simp only [i__law_is_dither, runF, execs, exec, ev, evs, evw, evc, eva, evI, evO, asB, varOf, viewR, borR, putB, putAll, isOB, bindT, setAll, setV_eq, setO_eq, wipeR_eq, wipeR, backR, frO_some, frB_no, frB_val, fwO_some, fwB_no, fwB_val, fwB_own, st_20, st_21, it_21, it_2, it_3, it_4, enc_it0, enc_it1, enc_it2, enc_it3, enc_it4, tie_eq_high, tie_eq_low, p_add, p_addT, p_addL, p_sub, p_neg, p_Lt, p_LtE, p_Gt, p_GtE, c_Lt, c_LtE, c_Gt, c_GtE, b_tf, b_tt, b_ff, b_ft, n_f, n_t, p_itemL, p_itemT, p_sl11L, p_sl11T, p_sl10L, p_sl10T, p_sl01L, p_sl01T, p_lenL, p_lenT, p_sumL, p_sumT, p_tupleL, p_tupleT, p_listL, p_listT, p_abs, p_min2, p_max2, p_min, p_max, p_all, p_any, p_isi, p_eqI, p_neI, isiD, isND, item0, intsOf_map, boolsOf_map, List.getElem?_cons_zero, List.getElem?_cons_succ, List.getElem?_nil, List.set_cons_zero, List.set_cons_succ, List.length_cons, List.length_nil, List.length_append, List.length_map, List.length_range, List.map_cons, List.map_nil, List.cons_append, List.nil_append, List.append_nil, List.replicate_succ, List.replicate_zero, List.take_succ_cons, List.take_zero, Option.map_some, Option.map_none, Option.bind_some, Option.bind_none, Option.getD_some, Option.toList, if_true, if_false, ite_true, ite_false, reduceIte, Bool.false_eq_true, Bool.true_eq_false, Bool.not_true, Bool.not_false, decide_true, decide_false, decide_eq_true_eq, Nat.reduceAdd, Nat.reduceSub, Nat.reduceLeDiff, Nat.zero_le, Int.cast_ofNat_Int, Nat.reduceEqDiff, Nat.reduceMul, Nat.reducePow, Int.reduceAdd, Int.reduceSub, Int.reduceMul, Int.reduceNeg, Int.reduceLT, Int.reduceEq, Int.reduceLE, Int.reduceToNat, Int.reduceDiv, Int.reduceMod, Int.reducePow, Nat.zero_add, eq_self, Nat.add_zero, Bool.and_true, Bool.true_and, Bool.and_self, implies_true, and_true, true_and, and_self, not_true_eq_false, not_false_eq_true, true_or, or_true, Function.comp, b1, b2, b3, c1, c2, levD, Bool.false_and]
            | tuple ls =>
              by_cases c3 : ls.all (betwD · 0 tv) = true
              · obtain ⟨l, rfl, hl, hb⟩ := all_ints c3
                by_cases c4 : 2 ≤ l.length
                · by_cases c5 : l.length ≤ 6
                  · have d1 : (2 : Int) ≤ (l.length : Int) := by omega
                    have d2 : (l.length : Int) ≤ 6 := by omega
                    obtain ⟨f, r, hfr⟩ : ∃ f r, l = f :: r := by
                      cases l with
                      | nil => simp at c4
                      | cons f r => exact ⟨f, r, rfl⟩
                    obtain ⟨z, hz⟩ : ∃ z, l.getLast? = some z := by rw [hfr]; exact ⟨_, List.getLast?_eq_some_getLast (List.cons_ne_nil _ _)⟩
                    have hfirst : L2.atI (l.map PyData.int) 0 = some (.int f) := by rw [hfr]; exact item0
                    have hlast : L2.atI (l.map PyData.int) (-1) = some (.int z) := item_neg (by rw [List.getLast?_map, hz]; rfl)
                    have hss : prD .sset [.tuple (l.map .int)] = some (.list ((ssetI l).map .int)) := by
                      show (intsOf (l.map .int)).bind _ = _
                      rw [intsOf_map]
                      exact if_pos (by omega)
                    have elv : levD (.tuple (l.map .int)) tv = (decide (f = 0) && decide (z = tv) && incB l) := by
                      have e1 : l.head? = some f := by rw [hfr]; rfl
                      simp only [levD, c3, hl, hz, e1, List.length_map, decide_eq_true c4, decide_eq_true c5, Option.some.injEq, Bool.true_and]
                    rw [elv]
                    by_cases c6 : incB l = true
                    · by_cases c7 : f = 0
                      · by_cases c8 : z = tv
                        · cases sh with
                          | none => simp only [i__law_is_dither, runF, execs, exec, ev, evs, evw, evc, eva, evI, evO, asB, varOf, viewR, borR, putB, putAll, isOB, bindT, setAll, setV_eq, setO_eq, wipeR_eq, wipeR, backR, frO_some, frB_no, frB_val, fwO_some, fwB_no, fwB_val, fwB_own, st_20, st_21, it_21, it_2, it_3, it_4, enc_it0, enc_it1, enc_it2, enc_it3, enc_it4, tie_eq_high, tie_eq_low, p_add, p_addT, p_addL, p_sub, p_neg, p_Lt, p_LtE, p_Gt, p_GtE, c_Lt, c_LtE, c_Gt, c_GtE, b_tf, b_tt, b_ff, b_ft, n_f, n_t, p_itemL, p_itemT, p_sl11L, p_sl11T, p_sl10L, p_sl10T, p_sl01L, p_sl01T, p_lenL, p_lenT, p_sumL, p_sumT, p_tupleL, p_tupleT, p_listL, p_listT, p_abs, p_min2, p_max2, p_min, p_max, p_all, p_any, p_isi, p_eqI, p_neI, isiD, isND, item0, intsOf_map, boolsOf_map, List.getElem?_cons_zero, List.getElem?_cons_succ, List.getElem?_nil, List.set_cons_zero, List.set_cons_succ, List.length_cons, List.length_nil, List.length_append, List.length_map, List.length_range, List.map_cons, List.map_nil, List.cons_append, List.nil_append, List.append_nil, List.replicate_succ, List.replicate_zero, List.take_succ_cons, List.take_zero, Option.map_some, Option.map_none, Option.bind_some, Option.bind_none, Option.getD_some, Option.toList, if_true, if_false, ite_true, ite_false, reduceIte, Bool.false_eq_true, Bool.true_eq_false, Bool.not_true, Bool.not_false, decide_true, decide_false, decide_eq_true_eq, Nat.reduceAdd, Nat.reduceSub, Nat.reduceLeDiff, Nat.zero_le, Int.cast_ofNat_Int, Nat.reduceEqDiff, Nat.reduceMul, Nat.reducePow, Int.reduceAdd, Int.reduceSub, Int.reduceMul, Int.reduceNeg, Int.reduceLT, Int.reduceEq, Int.reduceLE, Int.reduceToNat, Int.reduceDiv, Int.reduceMod, Int.reducePow, Nat.zero_add, eq_self, Nat.add_zero, Bool.and_true, Bool.true_and, Bool.and_self, implies_true, and_true, true_and, and_self, not_true_eq_false, not_false_eq_true, true_or, or_true, Function.comp, b1, b2, b3, b4, c1, c2, c3, d1, d2, hss, ne_listI, sset_iff, hfirst, hlast, c6, c7, c8, shaD, Bool.false_and, Bool.and_false]
                          | bool _ => simp only [i__law_is_dither, runF, execs, exec, ev, evs, evw, evc, eva, evI, evO, asB, varOf, viewR, borR, putB, putAll, isOB, bindT, setAll, setV_eq, setO_eq, wipeR_eq, wipeR, backR, frO_some, frB_no, frB_val, fwO_some, fwB_no, fwB_val, fwB_own, st_20, st_21, it_21, it_2, it_3, it_4, enc_it0, enc_it1, enc_it2, enc_it3, enc_it4, tie_eq_high, tie_eq_low, p_add, p_addT, p_addL, p_sub, p_neg, p_Lt, p_LtE, p_Gt, p_GtE, c_Lt, c_LtE, c_Gt, c_GtE, b_tf, b_tt, b_ff, b_ft, n_f, n_t, p_itemL, p_itemT, p_sl11L, p_sl11T, p_sl10L, p_sl10T, p_sl01L, p_sl01T, p_lenL, p_lenT, p_sumL, p_sumT, p_tupleL, p_tupleT, p_listL, p_listT, p_abs, p_min2, p_max2, p_min, p_max, p_all, p_any, p_isi, p_eqI, p_neI, isiD, isND, item0, intsOf_map, boolsOf_map, List.getElem?_cons_zero, List.getElem?_cons_succ, List.getElem?_nil, List.set_cons_zero, List.set_cons_succ, List.length_cons, List.length_nil, List.length_append, List.length_map, List.length_range, List.map_cons, List.map_nil, List.cons_append, List.nil_append, List.append_nil, List.replicate_succ, List.replicate_zero, List.take_succ_cons, List.take_zero, Option.map_some, Option.map_none, Option.bind_some, Option.bind_none, Option.getD_some, Option.toList, if_true, if_false, ite_true, ite_false, reduceIte, Bool.false_eq_true, Bool.true_eq_false, Bool.not_true, Bool.not_false, decide_true, decide_false, decide_eq_true_eq, Nat.reduceAdd, Nat.reduceSub, Nat.reduceLeDiff, Nat.zero_le, Int.cast_ofNat_Int, Nat.reduceEqDiff, Nat.reduceMul, Nat.reducePow, Int.reduceAdd, Int.reduceSub, Int.reduceMul, Int.reduceNeg, Int.reduceLT, Int.reduceEq, Int.reduceLE, Int.reduceToNat, Int.reduceDiv, Int.reduceMod, Int.reducePow, Nat.zero_add, eq_self, Nat.add_zero, Bool.and_true, Bool.true_and, Bool.and_self, implies_true, and_true, true_and, and_self, not_true_eq_false, not_false_eq_true, true_or, or_true, Function.comp, b1, b2, b3, b4, c1, c2, c3, d1, d2, hss, ne_listI, sset_iff, hfirst, hlast, c6, c7, c8, shaD, Bool.false_and, Bool.and_false]
                          | int _ => simp only [i__law_is_dither, runF, execs, exec, ev, evs, evw, evc, eva, evI, evO, asB, varOf, viewR, borR, putB, putAll, isOB, bindT, setAll, setV_eq, setO_eq, wipeR_eq, wipeR, backR, frO_some, frB_no, frB_val, fwO_some, fwB_no, fwB_val, fwB_own, st_20, st_21, it_21, it_2, it_3, it_4, enc_it0, enc_it1, enc_it2, enc_it3, enc_it4, tie_eq_high, tie_eq_low, p_add, p_addT, p_addL, p_sub, p_neg, p_Lt, p_LtE, p_Gt, p_GtE, c_Lt, c_LtE, c_Gt, c_GtE, b_tf, b_tt, b_ff, b_ft, n_f, n_t, p_itemL, p_itemT, p_sl11L, p_sl11T, p_sl10L, p_sl10T, p_sl01L, p_sl01T, p_lenL, p_lenT, p_sumL, p_sumT, p_tupleL, p_tupleT, p_listL, p_listT, p_abs, p_min2, p_max2, p_min, p_max, p_all, p_any, p_isi, p_eqI, p_neI, isiD, isND, item0, intsOf_map, boolsOf_map, List.getElem?_cons_zero, List.getElem?_cons_succ, List.getElem?_nil, List.set_cons_zero, List.set_cons_succ, List.length_cons, List.length_nil, List.length_append, List.length_map, List.length_range, List.map_cons, List.map_nil, List.cons_append, List.nil_append, List.append_nil, List.replicate_succ, List.replicate_zero, List.take_succ_cons, List.take_zero, Option.map_some, Option.map_none, Option.bind_some, Option.bind_none, Option.getD_some, Option.toList, if_true, if_false, ite_true, ite_false, reduceIte, Bool.false_eq_true, Bool.true_eq_false, Bool.not_true, Bool.not_false, decide_true, decide_false, decide_eq_true_eq, Nat.reduceAdd, Nat.reduceSub, Nat.reduceLeDiff, Nat.zero_le, Int.cast_ofNat_Int, Nat.reduceEqDiff, Nat.reduceMul, Nat.reducePow, Int.reduceAdd, Int.reduceSub, Int.reduceMul, Int.reduceNeg, Int.reduceLT, Int.reduceEq, Int.reduceLE, Int.reduceToNat, Int.reduceDiv, Int.reduceMod, Int.reducePow, Nat.zero_add, eq_self, Nat.add_zero, Bool.and_true, Bool.true_and, Bool.and_self, implies_true, and_true, true_and, and_self, not_true_eq_false, not_false_eq_true, true_or, or_true, Function.comp, b1, b2, b3, b4, c1, c2, c3, d1, d2, hss, ne_listI, sset_iff, hfirst, hlast, c6, c7, c8, shaD, Bool.false_and, Bool.and_false]
                          | str _ => simp only [i__law_is_dither, runF, execs, exec, ev, evs, evw, evc, eva, evI, evO, asB, varOf, viewR, borR, putB, putAll, isOB, bindT, setAll, setV_eq, setO_eq, wipeR_eq, wipeR, backR, frO_some, frB_no, frB_val, fwO_some, fwB_no, fwB_val, fwB_own, st_20, st_21, it_21, it_2, it_3, it_4, enc_it0, enc_it1, enc_it2, enc_it3, enc_it4, tie_eq_high, tie_eq_low, p_add, p_addT, p_addL, p_sub, p_neg, p_Lt, p_LtE, p_Gt, p_GtE, c_Lt, c_LtE, c_Gt, c_GtE, b_tf, b_tt, b_ff, b_ft, n_f, n_t, p_itemL, p_itemT, p_sl11L, p_sl11T, p_sl10L, p_sl10T, p_sl01L, p_sl01T, p_lenL, p_lenT, p_sumL, p_sumT, p_tupleL, p_tupleT, p_listL, p_listT, p_abs, p_min2, p_max2, p_min, p_max, p_all, p_any, p_isi, p_eqI, p_neI, isiD, isND, item0, intsOf_map, boolsOf_map, List.getElem?_cons_zero, List.getElem?_cons_succ, List.getElem?_nil, List.set_cons_zero, List.set_cons_succ, List.length_cons, List.length_nil, List.length_append, List.length_map, List.length_range, List.map_cons, List.map_nil, List.cons_append, List.nil_append, List.append_nil, List.replicate_succ, List.replicate_zero, List.take_succ_cons, List.take_zero, Option.map_some, Option.map_none, Option.bind_some, Option.bind_none, Option.getD_some, Option.toList, if_true, if_false, ite_true, ite_false, reduceIte, Bool.false_eq_true, Bool.true_eq_false, Bool.not_true, Bool.not_false, decide_true, decide_false, decide_eq_true_eq, Nat.reduceAdd, Nat.reduceSub, Nat.reduceLeDiff, Nat.zero_le, Int.cast_ofNat_Int, Nat.reduceEqDiff, Nat.reduceMul, Nat.reducePow, Int.reduceAdd, Int.reduceSub, Int.reduceMul, Int.reduceNeg, Int.reduceLT, Int.reduceEq, Int.reduceLE, Int.reduceToNat, Int.reduceDiv, Int.reduceMod, Int.reducePow, Nat.zero_add, eq_self, Nat.add_zero, Bool.and_true, Bool.true_and, Bool.and_self, implies_true, and_true, true_and, and_self, not_true_eq_false, not_false_eq_true, true_or, or_true, Function.comp, b1, b2, b3, b4, c1, c2, c3, d1, d2, hss, ne_listI, sset_iff, hfirst, hlast, c6, c7, c8, shaD, Bool.false_and, Bool.and_false]
                          | list _ => simp only [i__law_is_dither, runF, execs, exec, ev, evs, evw, evc, eva, evI, evO, asB, varOf, viewR, borR, putB, putAll, isOB, bindT, setAll, setV_eq, setO_eq, wipeR_eq, wipeR, backR, frO_some, frB_no, frB_val, fwO_some, fwB_no, fwB_val, fwB_own, st_20, st_21, it_21, it_2, it_3, it_4, enc_it0, enc_it1, enc_it2, enc_it3, enc_it4, tie_eq_high, tie_eq_low, p_add, p_addT, p_addL, p_sub, p_neg, p_Lt, p_LtE, p_Gt, p_GtE, c_Lt, c_LtE, c_Gt, c_GtE, b_tf, b_tt, b_ff, b_ft, n_f, n_t, p_itemL, p_itemT, p_sl11L, p_sl11T, p_sl10L, p_sl10T, p_sl01L, p_sl01T, p_lenL, p_lenT, p_sumL, p_sumT, p_tupleL, p_tupleT, p_listL, p_listT, p_abs, p_min2, p_max2, p_min, p_max, p_all, p_any, p_isi, p_eqI, p_neI, isiD, isND, item0, intsOf_map, boolsOf_map, List.getElem?_cons_zero, List.getElem?_cons_succ, List.getElem?_nil, List.set_cons_zero, List.set_cons_succ, List.length_cons, List.length_nil, List.length_append, List.length_map, List.length_range, List.map_cons, List.map_nil, List.cons_append, List.nil_append, List.append_nil, List.replicate_succ, List.replicate_zero, List.take_succ_cons, List.take_zero, Option.map_some, Option.map_none, Option.bind_some, Option.bind_none, Option.getD_some, Option.toList, if_true, if_false, ite_true, ite_false, reduceIte, Bool.false_eq_true, Bool.true_eq_false, Bool.not_true, Bool.not_false, decide_true, decide_false, decide_eq_true_eq, Nat.reduceAdd, Nat.reduceSub, Nat.reduceLeDiff, Nat.zero_le, Int.cast_ofNat_Int, Nat.reduceEqDiff, Nat.reduceMul, Nat.reducePow, Int.reduceAdd, Int.reduceSub, Int.reduceMul, Int.reduceNeg, Int.reduceLT, Int.reduceEq, Int.reduceLE, Int.reduceToNat, Int.reduceDiv, Int.reduceMod, Int.reducePow, Nat.zero_add, eq_self, Nat.add_zero, Bool.and_true, Bool.true_and, Bool.and_self, implies_true, and_true, true_and, and_self, not_true_eq_false, not_false_eq_true, true_or, or_true, Function.comp, b1, b2, b3, b4, c1, c2, c3, d1, d2, hss, ne_listI, sset_iff, hfirst, hlast, c6, c7, c8, shaD, Bool.false_and, Bool.and_false]
                          | dict _ => simp only [i__law_is_dither, runF, execs, exec, ev, evs, evw, evc, eva, evI, evO, asB, varOf, viewR, borR, putB, putAll, isOB, bindT, setAll, setV_eq, setO_eq, wipeR_eq, wipeR, backR, frO_some, frB_no, frB_val, fwO_some, fwB_no, fwB_val, fwB_own, st_20, st_21, it_21, it_2, it_3, it_4, enc_it0, enc_it1, enc_it2, enc_it3, enc_it4, tie_eq_high, tie_eq_low, p_add, p_addT, p_addL, p_sub, p_neg, p_Lt, p_LtE, p_Gt, p_GtE, c_Lt, c_LtE, c_Gt, c_GtE, b_tf, b_tt, b_ff, b_ft, n_f, n_t, p_itemL, p_itemT, p_sl11L, p_sl11T, p_sl10L, p_sl10T, p_sl01L, p_sl01T, p_lenL, p_lenT, p_sumL, p_sumT, p_tupleL, p_tupleT, p_listL, p_listT, p_abs, p_min2, p_max2, p_min, p_max, p_all, p_any, p_isi, p_eqI, p_neI, isiD, isND, item0, intsOf_map, boolsOf_map, List.getElem?_cons_zero, List.getElem?_cons_succ, List.getElem?_nil, List.set_cons_zero, List.set_cons_succ, List.length_cons, List.length_nil, List.length_append, List.length_map, List.length_range, List.map_cons, List.map_nil, List.cons_append, List.nil_append, List.append_nil, List.replicate_succ, List.replicate_zero, List.take_succ_cons, List.take_zero, Option.map_some, Option.map_none, Option.bind_some, Option.bind_none, Option.getD_some, Option.toList, if_true, if_false, ite_true, ite_false, reduceIte, Bool.false_eq_true, Bool.true_eq_false, Bool.not_true, Bool.not_false, decide_true, decide_false, decide_eq_true_eq, Nat.reduceAdd, Nat.reduceSub, Nat.reduceLeDiff, Nat.zero_le, Int.cast_ofNat_Int, Nat.reduceEqDiff, Nat.reduceMul, Nat.reducePow, Int.reduceAdd, Int.reduceSub, Int.reduceMul, Int.reduceNeg, Int.reduceLT, Int.reduceEq, Int.reduceLE, Int.reduceToNat, Int.reduceDiv, Int.reduceMod, Int.reducePow, Nat.zero_add, eq_self, Nat.add_zero, Bool.and_true, Bool.true_and, Bool.and_self, implies_true, and_true, true_and, and_self, not_true_eq_false, not_false_eq_true, true_or, or_true, Function.comp, b1, b2, b3, b4, c1, c2, c3, d1, d2, hss, ne_listI, sset_iff, hfirst, hlast, c6, c7, c8, shaD, Bool.false_and, Bool.and_false]
                          | tuple ss =>
                            by_cases k3 : ss.all (betwD · 0 qv) = true
                            · obtain ⟨sl, rfl, hsl, hsb⟩ := all_ints k3
                              by_cases k1 : 1 ≤ sl.length
                              · by_cases k2 : sl.length ≤ 2
                                · have x1 : (1 : Int) ≤ (sl.length : Int) := by omega
                                  have x2 : (sl.length : Int) ≤ 2 := by omega
                                  have es : shaD (.tuple (sl.map .int)) qv = decide (sl.sum ≤ qv) := by
                                    simp only [shaD, List.length_map, k1, k2, k3, hsl, decide_true, Bool.true_and]
                                  rw [es]
                                  by_cases k4 : sl.sum ≤ qv
                                  · have k5 : ¬ qv < sl.sum := by omega
                                    cases tie with
                                    | str s => simp only [i__law_is_dither, runF, execs, exec, ev, evs, evw, evc, eva, evI, evO, asB, varOf, viewR, borR, putB, putAll, isOB, bindT, setAll, setV_eq, setO_eq, wipeR_eq, wipeR, backR, frO_some, frB_no, frB_val, fwO_some, fwB_no, fwB_val, fwB_own, st_20, st_21, it_21, it_2, it_3, it_4, enc_it0, enc_it1, enc_it2, enc_it3, enc_it4, tie_eq_high, tie_eq_low, p_add, p_addT, p_addL, p_sub, p_neg, p_Lt, p_LtE, p_Gt, p_GtE, c_Lt, c_LtE, c_Gt, c_GtE, b_tf, b_tt, b_ff, b_ft, n_f, n_t, p_itemL, p_itemT, p_sl11L, p_sl11T, p_sl10L, p_sl10T, p_sl01L, p_sl01T, p_lenL, p_lenT, p_sumL, p_sumT, p_tupleL, p_tupleT, p_listL, p_listT, p_abs, p_min2, p_max2, p_min, p_max, p_all, p_any, p_isi, p_eqI, p_neI, isiD, isND, item0, intsOf_map, boolsOf_map, List.getElem?_cons_zero, List.getElem?_cons_succ, List.getElem?_nil, List.set_cons_zero, List.set_cons_succ, List.length_cons, List.length_nil, List.length_append, List.length_map, List.length_range, List.map_cons, List.map_nil, List.cons_append, List.nil_append, List.append_nil, List.replicate_succ, List.replicate_zero, List.take_succ_cons, List.take_zero, Option.map_some, Option.map_none, Option.bind_some, Option.bind_none, Option.getD_some, Option.toList, if_true, if_false, ite_true, ite_false, reduceIte, Bool.false_eq_true, Bool.true_eq_false, Bool.not_true, Bool.not_false, decide_true, decide_false, decide_eq_true_eq, Nat.reduceAdd, Nat.reduceSub, Nat.reduceLeDiff, Nat.zero_le, Int.cast_ofNat_Int, Nat.reduceEqDiff, Nat.reduceMul, Nat.reducePow, Int.reduceAdd, Int.reduceSub, Int.reduceMul, Int.reduceNeg, Int.reduceLT, Int.reduceEq, Int.reduceLE, Int.reduceToNat, Int.reduceDiv, Int.reduceMod, Int.reducePow, Nat.zero_add, eq_self, Nat.add_zero, Bool.and_true, Bool.true_and, Bool.and_self, implies_true, and_true, true_and, and_self, not_true_eq_false, not_false_eq_true, true_or, or_true, Function.comp, b1, b2, b3, b4, c1, c2, c3, d1, d2, hss, ne_listI, sset_iff, hfirst, hlast, c6, c7, c8, k3, x1, x2, k4, k5, in_tieL n2]
                                    | none => simp only [i__law_is_dither, runF, execs, exec, ev, evs, evw, evc, eva, evI, evO, asB, varOf, viewR, borR, putB, putAll, isOB, bindT, setAll, setV_eq, setO_eq, wipeR_eq, wipeR, backR, frO_some, frB_no, frB_val, fwO_some, fwB_no, fwB_val, fwB_own, st_20, st_21, it_21, it_2, it_3, it_4, enc_it0, enc_it1, enc_it2, enc_it3, enc_it4, tie_eq_high, tie_eq_low, p_add, p_addT, p_addL, p_sub, p_neg, p_Lt, p_LtE, p_Gt, p_GtE, c_Lt, c_LtE, c_Gt, c_GtE, b_tf, b_tt, b_ff, b_ft, n_f, n_t, p_itemL, p_itemT, p_sl11L, p_sl11T, p_sl10L, p_sl10T, p_sl01L, p_sl01T, p_lenL, p_lenT, p_sumL, p_sumT, p_tupleL, p_tupleT, p_listL, p_listT, p_abs, p_min2, p_max2, p_min, p_max, p_all, p_any, p_isi, p_eqI, p_neI, isiD, isND, item0, intsOf_map, boolsOf_map, List.getElem?_cons_zero, List.getElem?_cons_succ, List.getElem?_nil, List.set_cons_zero, List.set_cons_succ, List.length_cons, List.length_nil, List.length_append, List.length_map, List.length_range, List.map_cons, List.map_nil, List.cons_append, List.nil_append, List.append_nil, List.replicate_succ, List.replicate_zero, List.take_succ_cons, List.take_zero, Option.map_some, Option.map_none, Option.bind_some, Option.bind_none, Option.getD_some, Option.toList, if_true, if_false, ite_true, ite_false, reduceIte, Bool.false_eq_true, Bool.true_eq_false, Bool.not_true, Bool.not_false, decide_true, decide_false, decide_eq_true_eq, Nat.reduceAdd, Nat.reduceSub, Nat.reduceLeDiff, Nat.zero_le, Int.cast_ofNat_Int, Nat.reduceEqDiff, Nat.reduceMul, Nat.reducePow, Int.reduceAdd, Int.reduceSub, Int.reduceMul, Int.reduceNeg, Int.reduceLT, Int.reduceEq, Int.reduceLE, Int.reduceToNat, Int.reduceDiv, Int.reduceMod, Int.reducePow, Nat.zero_add, eq_self, Nat.add_zero, Bool.and_true, Bool.true_and, Bool.and_self, implies_true, and_true, true_and, and_self, not_true_eq_false, not_false_eq_true, true_or, or_true, Function.comp, b1, b2, b3, b4, c1, c2, c3, d1, d2, hss, ne_listI, sset_iff, hfirst, hlast, c6, c7, c8, k3, x1, x2, k4, k5, tieD]
                                    | bool _ => simp only [i__law_is_dither, runF, execs, exec, ev, evs, evw, evc, eva, evI, evO, asB, varOf, viewR, borR, putB, putAll, isOB, bindT, setAll, setV_eq, setO_eq, wipeR_eq, wipeR, backR, frO_some, frB_no, frB_val, fwO_some, fwB_no, fwB_val, fwB_own, st_20, st_21, it_21, it_2, it_3, it_4, enc_it0, enc_it1, enc_it2, enc_it3, enc_it4, tie_eq_high, tie_eq_low, p_add, p_addT, p_addL, p_sub, p_neg, p_Lt, p_LtE, p_Gt, p_GtE, c_Lt, c_LtE, c_Gt, c_GtE, b_tf, b_tt, b_ff, b_ft, n_f, n_t, p_itemL, p_itemT, p_sl11L, p_sl11T, p_sl10L, p_sl10T, p_sl01L, p_sl01T, p_lenL, p_lenT, p_sumL, p_sumT, p_tupleL, p_tupleT, p_listL, p_listT, p_abs, p_min2, p_max2, p_min, p_max, p_all, p_any, p_isi, p_eqI, p_neI, isiD, isND, item0, intsOf_map, boolsOf_map, List.getElem?_cons_zero, List.getElem?_cons_succ, List.getElem?_nil, List.set_cons_zero, List.set_cons_succ, List.length_cons, List.length_nil, List.length_append, List.length_map, List.length_range, List.map_cons, List.map_nil, List.cons_append, List.nil_append, List.append_nil, List.replicate_succ, List.replicate_zero, List.take_succ_cons, List.take_zero, Option.map_some, Option.map_none, Option.bind_some, Option.bind_none, Option.getD_some, Option.toList, if_true, if_false, ite_true, ite_false, reduceIte, Bool.false_eq_true, Bool.true_eq_false, Bool.not_true, Bool.not_false, decide_true, decide_false, decide_eq_true_eq, Nat.reduceAdd, Nat.reduceSub, Nat.reduceLeDiff, Nat.zero_le, Int.cast_ofNat_Int, Nat.reduceEqDiff, Nat.reduceMul, Nat.reducePow, Int.reduceAdd, Int.reduceSub, Int.reduceMul, Int.reduceNeg, Int.reduceLT, Int.reduceEq, Int.reduceLE, Int.reduceToNat, Int.reduceDiv, Int.reduceMod, Int.reducePow, Nat.zero_add, eq_self, Nat.add_zero, Bool.and_true, Bool.true_and, Bool.and_self, implies_true, and_true, true_and, and_self, not_true_eq_false, not_false_eq_true, true_or, or_true, Function.comp, b1, b2, b3, b4, c1, c2, c3, d1, d2, hss, ne_listI, sset_iff, hfirst, hlast, c6, c7, c8, k3, x1, x2, k4, k5, tieD]
                                    | int _ => simp only [i__law_is_dither, runF, execs, exec, ev, evs, evw, evc, eva, evI, evO, asB, varOf, viewR, borR, putB, putAll, isOB, bindT, setAll, setV_eq, setO_eq, wipeR_eq, wipeR, backR, frO_some, frB_no, frB_val, fwO_some, fwB_no, fwB_val, fwB_own, st_20, st_21, it_21, it_2, it_3, it_4, enc_it0, enc_it1, enc_it2, enc_it3, enc_it4, tie_eq_high, tie_eq_low, p_add, p_addT, p_addL, p_sub, p_neg, p_Lt, p_LtE, p_Gt, p_GtE, c_Lt, c_LtE, c_Gt, c_GtE, b_tf, b_tt, b_ff, b_ft, n_f, n_t, p_itemL, p_itemT, p_sl11L, p_sl11T, p_sl10L, p_sl10T, p_sl01L, p_sl01T, p_lenL, p_lenT, p_sumL, p_sumT, p_tupleL, p_tupleT, p_listL, p_listT, p_abs, p_min2, p_max2, p_min, p_max, p_all, p_any, p_isi, p_eqI, p_neI, isiD, isND, item0, intsOf_map, boolsOf_map, List.getElem?_cons_zero, List.getElem?_cons_succ, List.getElem?_nil, List.set_cons_zero, List.set_cons_succ, List.length_cons, List.length_nil, List.length_append, List.length_map, List.length_range, List.map_cons, List.map_nil, List.cons_append, List.nil_append, List.append_nil, List.replicate_succ, List.replicate_zero, List.take_succ_cons, List.take_zero, Option.map_some, Option.map_none, Option.bind_some, Option.bind_none, Option.getD_some, Option.toList, if_true, if_false, ite_true, ite_false, reduceIte, Bool.false_eq_true, Bool.true_eq_false, Bool.not_true, Bool.not_false, decide_true, decide_false, decide_eq_true_eq, Nat.reduceAdd, Nat.reduceSub, Nat.reduceLeDiff, Nat.zero_le, Int.cast_ofNat_Int, Nat.reduceEqDiff, Nat.reduceMul, Nat.reducePow, Int.reduceAdd, Int.reduceSub, Int.reduceMul, Int.reduceNeg, Int.reduceLT, Int.reduceEq, Int.reduceLE, Int.reduceToNat, Int.reduceDiv, Int.reduceMod, Int.reducePow, Nat.zero_add, eq_self, Nat.add_zero, Bool.and_true, Bool.true_and, Bool.and_self, implies_true, and_true, true_and, and_self, not_true_eq_false, not_false_eq_true, true_or, or_true, Function.comp, b1, b2, b3, b4, c1, c2, c3, d1, d2, hss, ne_listI, sset_iff, hfirst, hlast, c6, c7, c8, k3, x1, x2, k4, k5, tieD]
                                    | list _ => simp only [i__law_is_dither, runF, execs, exec, ev, evs, evw, evc, eva, evI, evO, asB, varOf, viewR, borR, putB, putAll, isOB, bindT, setAll, setV_eq, setO_eq, wipeR_eq, wipeR, backR, frO_some, frB_no, frB_val, fwO_some, fwB_no, fwB_val, fwB_own, st_20, st_21, it_21, it_2, it_3, it_4, enc_it0, enc_it1, enc_it2, enc_it3, enc_it4, tie_eq_high, tie_eq_low, p_add, p_addT, p_addL, p_sub, p_neg, p_Lt, p_LtE, p_Gt, p_GtE, c_Lt, c_LtE, c_Gt, c_GtE, b_tf, b_tt, b_ff, b_ft, n_f, n_t, p_itemL, p_itemT, p_sl11L, p_sl11T, p_sl10L, p_sl10T, p_sl01L, p_sl01T, p_lenL, p_lenT, p_sumL, p_sumT, p_tupleL, p_tupleT, p_listL, p_listT, p_abs, p_min2, p_max2, p_min, p_max, p_all, p_any, p_isi, p_eqI, p_neI, isiD, isND, item0, intsOf_map, boolsOf_map, List.getElem?_cons_zero, List.getElem?_cons_succ, List.getElem?_nil, List.set_cons_zero, List.set_cons_succ, List.length_cons, List.length_nil, List.length_append, List.length_map, List.length_range, List.map_cons, List.map_nil, List.cons_append, List.nil_append, List.append_nil, List.replicate_succ, List.replicate_zero, List.take_succ_cons, List.take_zero, Option.map_some, Option.map_none, Option.bind_some, Option.bind_none, Option.getD_some, Option.toList, if_true, if_false, ite_true, ite_false, reduceIte, Bool.false_eq_true, Bool.true_eq_false, Bool.not_true, Bool.not_false, decide_true, decide_false, decide_eq_true_eq, Nat.reduceAdd, Nat.reduceSub, Nat.reduceLeDiff, Nat.zero_le, Int.cast_ofNat_Int, Nat.reduceEqDiff, Nat.reduceMul, Nat.reducePow, Int.reduceAdd, Int.reduceSub, Int.reduceMul, Int.reduceNeg, Int.reduceLT, Int.reduceEq, Int.reduceLE, Int.reduceToNat, Int.reduceDiv, Int.reduceMod, Int.reducePow, Nat.zero_add, eq_self, Nat.add_zero, Bool.and_true, Bool.true_and, Bool.and_self, implies_true, and_true, true_and, and_self, not_true_eq_false, not_false_eq_true, true_or, or_true, Function.comp, b1, b2, b3, b4, c1, c2, c3, d1, d2, hss, ne_listI, sset_iff, hfirst, hlast, c6, c7, c8, k3, x1, x2, k4, k5, tieD]
                                    | tuple _ => simp only [i__law_is_dither, runF, execs, exec, ev, evs, evw, evc, eva, evI, evO, asB, varOf, viewR, borR, putB, putAll, isOB, bindT, setAll, setV_eq, setO_eq, wipeR_eq, wipeR, backR, frO_some, frB_no, frB_val, fwO_some, fwB_no, fwB_val, fwB_own, st_20, st_21, it_21, it_2, it_3, it_4, enc_it0, enc_it1, enc_it2, enc_it3, enc_it4, tie_eq_high, tie_eq_low, p_add, p_addT, p_addL, p_sub, p_neg, p_Lt, p_LtE, p_Gt, p_GtE, c_Lt, c_LtE, c_Gt, c_GtE, b_tf, b_tt, b_ff, b_ft, n_f, n_t, p_itemL, p_itemT, p_sl11L, p_sl11T, p_sl10L, p_sl10T, p_sl01L, p_sl01T, p_lenL, p_lenT, p_sumL, p_sumT, p_tupleL, p_tupleT, p_listL, p_listT, p_abs, p_min2, p_max2, p_min, p_max, p_all, p_any, p_isi, p_eqI, p_neI, isiD, isND, item0, intsOf_map, boolsOf_map, List.getElem?_cons_zero, List.getElem?_cons_succ, List.getElem?_nil, List.set_cons_zero, List.set_cons_succ, List.length_cons, List.length_nil, List.length_append, List.length_map, List.length_range, List.map_cons, List.map_nil, List.cons_append, List.nil_append, List.append_nil, List.replicate_succ, List.replicate_zero, List.take_succ_cons, List.take_zero, Option.map_some, Option.map_none, Option.bind_some, Option.bind_none, Option.getD_some, Option.toList, if_true, if_false, ite_true, ite_false, reduceIte, Bool.false_eq_true, Bool.true_eq_false, Bool.not_true, Bool.not_false, decide_true, decide_false, decide_eq_true_eq, Nat.reduceAdd, Nat.reduceSub, Nat.reduceLeDiff, Nat.zero_le, Int.cast_ofNat_Int, Nat.reduceEqDiff, Nat.reduceMul, Nat.reducePow, Int.reduceAdd, Int.reduceSub, Int.reduceMul, Int.reduceNeg, Int.reduceLT, Int.reduceEq, Int.reduceLE, Int.reduceToNat, Int.reduceDiv, Int.reduceMod, Int.reducePow, Nat.zero_add, eq_self, Nat.add_zero, Bool.and_true, Bool.true_and, Bool.and_self, implies_true, and_true, true_and, and_self, not_true_eq_false, not_false_eq_true, true_or, or_true, Function.comp, b1, b2, b3, b4, c1, c2, c3, d1, d2, hss, ne_listI, sset_iff, hfirst, hlast, c6, c7, c8, k3, x1, x2, k4, k5, tieD]
                                    | dict _ => simp only [i__law_is_dither, runF, execs, exec, ev, evs, evw, evc, eva, evI, evO, asB, varOf, viewR, borR, putB, putAll, isOB, bindT, setAll, setV_eq, setO_eq, wipeR_eq, wipeR, backR, frO_some, frB_no, frB_val, fwO_some, fwB_no, fwB_val, fwB_own, st_20, st_21, it_21, it_2, it_3, it_4, enc_it0, enc_it1, enc_it2, enc_it3, enc_it4, tie_eq_high, tie_eq_low, p_add, p_addT, p_addL, p_sub, p_neg, p_Lt, p_LtE, p_Gt, p_GtE, c_Lt, c_LtE, c_Gt, c_GtE, b_tf, b_tt, b_ff, b_ft, n_f, n_t, p_itemL, p_itemT, p_sl11L, p_sl11T, p_sl10L, p_sl10T, p_sl01L, p_sl01T, p_lenL, p_lenT, p_sumL, p_sumT, p_tupleL, p_tupleT, p_listL, p_listT, p_abs, p_min2, p_max2, p_min, p_max, p_all, p_any, p_isi, p_eqI, p_neI, isiD, isND, item0, intsOf_map, boolsOf_map, List.getElem?_cons_zero, List.getElem?_cons_succ, List.getElem?_nil, List.set_cons_zero, List.set_cons_succ, List.length_cons, List.length_nil, List.length_append, List.length_map, List.length_range, List.map_cons, List.map_nil, List.cons_append, List.nil_append, List.append_nil, List.replicate_succ, List.replicate_zero, List.take_succ_cons, List.take_zero, Option.map_some, Option.map_none, Option.bind_some, Option.bind_none, Option.getD_some, Option.toList, if_true, if_false, ite_true, ite_false, reduceIte, Bool.false_eq_true, Bool.true_eq_false, Bool.not_true, Bool.not_false, decide_true, decide_false, decide_eq_true_eq, Nat.reduceAdd, Nat.reduceSub, Nat.reduceLeDiff, Nat.zero_le, Int.cast_ofNat_Int, Nat.reduceEqDiff, Nat.reduceMul, Nat.reducePow, Int.reduceAdd, Int.reduceSub, Int.reduceMul, Int.reduceNeg, Int.reduceLT, Int.reduceEq, Int.reduceLE, Int.reduceToNat, Int.reduceDiv, Int.reduceMod, Int.reducePow, Nat.zero_add, eq_self, Nat.add_zero, Bool.and_true, Bool.true_and, Bool.and_self, implies_true, and_true, true_and, and_self, not_true_eq_false, not_false_eq_true, true_or, or_true, Function.comp, b1, b2, b3, b4, c1, c2, c3, d1, d2, hss, ne_listI, sset_iff, hfirst, hlast, c6, c7, c8, k3, x1, x2, k4, k5, tieD]
                                  · have k5 : qv < sl.sum := by omega
                                    simp only [i__law_is_dither, runF, execs, exec, ev, evs, evw, evc, eva, evI, evO, asB, varOf, viewR, borR, putB, putAll, isOB, bindT, setAll, setV_eq, setO_eq, wipeR_eq, wipeR, backR, frO_some, frB_no, frB_val, fwO_some, fwB_no, fwB_val, fwB_own, st_20, st_21, it_21, it_2, it_3, it_4, enc_it0, enc_it1, enc_it2, enc_it3, enc_it4, tie_eq_high, tie_eq_low, p_add, p_addT, p_addL, p_sub, p_neg, p_Lt, p_LtE, p_Gt, p_GtE, c_Lt, c_LtE, c_Gt, c_GtE, b_tf, b_tt, b_ff, b_ft, n_f, n_t, p_itemL, p_itemT, p_sl11L, p_sl11T, p_sl10L, p_sl10T, p_sl01L, p_sl01T, p_lenL, p_lenT, p_sumL, p_sumT, p_tupleL, p_tupleT, p_listL, p_listT, p_abs, p_min2, p_max2, p_min, p_max, p_all, p_any, p_isi, p_eqI, p_neI, isiD, isND, item0, intsOf_map, boolsOf_map, List.getElem?_cons_zero, List.getElem?_cons_succ, List.getElem?_nil, List.set_cons_zero, List.set_cons_succ, List.length_cons, List.length_nil, List.length_append, List.length_map, List.length_range, List.map_cons, List.map_nil, List.cons_append, List.nil_append, List.append_nil, List.replicate_succ, List.replicate_zero, List.take_succ_cons, List.take_zero, Option.map_some, Option.map_none, Option.bind_some, Option.bind_none, Option.getD_some, Option.toList, if_true, if_false, ite_true, ite_false, reduceIte, Bool.false_eq_true, Bool.true_eq_false, Bool.not_true, Bool.not_false, decide_true, decide_false, decide_eq_true_eq, Nat.reduceAdd, Nat.reduceSub, Nat.reduceLeDiff, Nat.zero_le, Int.cast_ofNat_Int, Nat.reduceEqDiff, Nat.reduceMul, Nat.reducePow, Int.reduceAdd, Int.reduceSub, Int.reduceMul, Int.reduceNeg, Int.reduceLT, Int.reduceEq, Int.reduceLE, Int.reduceToNat, Int.reduceDiv, Int.reduceMod, Int.reducePow, Nat.zero_add, eq_self, Nat.add_zero, Bool.and_true, Bool.true_and, Bool.and_self, implies_true, and_true, true_and, and_self, not_true_eq_false, not_false_eq_true, true_or, or_true, Function.comp, b1, b2, b3, b4, c1, c2, c3, d1, d2, hss, ne_listI, sset_iff, hfirst, hlast, c6, c7, c8, k3, x1, x2, k4, k5, Bool.false_and, Bool.and_false]
                                · have x1 : (1 : Int) ≤ (sl.length : Int) := by omega
                                  have x2 : ¬ (sl.length : Int) ≤ 2 := by omega
                                  simp only [i__law_is_dither, runF, execs, exec, ev, evs, evw, evc, eva, evI, evO, asB, varOf, viewR, borR, putB, putAll, isOB, bindT, setAll, setV_eq, setO_eq, wipeR_eq, wipeR, backR, frO_some, frB_no, frB_val, fwO_some, fwB_no, fwB_val, fwB_own, st_20, st_21, it_21, it_2, it_3, it_4, enc_it0, enc_it1, enc_it2, enc_it3, enc_it4, tie_eq_high, tie_eq_low, p_add, p_addT, p_addL, p_sub, p_neg, p_Lt, p_LtE, p_Gt, p_GtE, c_Lt, c_LtE, c_Gt, c_GtE, b_tf, b_tt, b_ff, b_ft, n_f, n_t, p_itemL, p_itemT, p_sl11L, p_sl11T, p_sl10L, p_sl10T, p_sl01L, p_sl01T, p_lenL, p_lenT, p_sumL, p_sumT, p_tupleL, p_tupleT, p_listL, p_listT, p_abs, p_min2, p_max2, p_min, p_max, p_all, p_any, p_isi, p_eqI, p_neI, isiD, isND, item0, intsOf_map, boolsOf_map, List.getElem?_cons_zero, List.getElem?_cons_succ, List.getElem?_nil, List.set_cons_zero, List.set_cons_succ, List.length_cons, List.length_nil, List.length_append, List.length_map, List.length_range, List.map_cons, List.map_nil, List.cons_append, List.nil_append, List.append_nil, List.replicate_succ, List.replicate_zero, List.take_succ_cons, List.take_zero, Option.map_some, Option.map_none, Option.bind_some, Option.bind_none, Option.getD_some, Option.toList, if_true, if_false, ite_true, ite_false, reduceIte, Bool.false_eq_true, Bool.true_eq_false, Bool.not_true, Bool.not_false, decide_true, decide_false, decide_eq_true_eq, Nat.reduceAdd, Nat.reduceSub, Nat.reduceLeDiff, Nat.zero_le, Int.cast_ofNat_Int, Nat.reduceEqDiff, Nat.reduceMul, Nat.reducePow, Int.reduceAdd, Int.reduceSub, Int.reduceMul, Int.reduceNeg, Int.reduceLT, Int.reduceEq, Int.reduceLE, Int.reduceToNat, Int.reduceDiv, Int.reduceMod, Int.reducePow, Nat.zero_add, eq_self, Nat.add_zero, Bool.and_true, Bool.true_and, Bool.and_self, implies_true, and_true, true_and, and_self, not_true_eq_false, not_false_eq_true, true_or, or_true, Function.comp, b1, b2, b3, b4, c1, c2, c3, d1, d2, hss, ne_listI, sset_iff, hfirst, hlast, c6, c7, c8, k3, k2, x1, x2, shaD, Bool.false_and, Bool.and_false]
                              · have x1 : ¬ (1 : Int) ≤ (sl.length : Int) := by omega
                                simp only [i__law_is_dither, runF, execs, exec, ev, evs, evw, evc, eva, evI, evO, asB, varOf, viewR, borR, putB, putAll, isOB, bindT, setAll, setV_eq, setO_eq, wipeR_eq, wipeR, backR, frO_some, frB_no, frB_val, fwO_some, fwB_no, fwB_val, fwB_own, st_20, st_21, it_21, it_2, it_3, it_4, enc_it0, enc_it1, enc_it2, enc_it3, enc_it4, tie_eq_high, tie_eq_low, p_add, p_addT, p_addL, p_sub, p_neg, p_Lt, p_LtE, p_Gt, p_GtE, c_Lt, c_LtE, c_Gt, c_GtE, b_tf, b_tt, b_ff, b_ft, n_f, n_t, p_itemL, p_itemT, p_sl11L, p_sl11T, p_sl10L, p_sl10T, p_sl01L, p_sl01T, p_lenL, p_lenT, p_sumL, p_sumT, p_tupleL, p_tupleT, p_listL, p_listT, p_abs, p_min2, p_max2, p_min, p_max, p_all, p_any, p_isi, p_eqI, p_neI, isiD, isND, item0, intsOf_map, boolsOf_map, List.getElem?_cons_zero, List.getElem?_cons_succ, List.getElem?_nil, List.set_cons_zero, List.set_cons_succ, List.length_cons, List.length_nil, List.length_append, List.length_map, List.length_range, List.map_cons, List.map_nil, List.cons_append, List.nil_append, List.append_nil, List.replicate_succ, List.replicate_zero, List.take_succ_cons, List.take_zero, Option.map_some, Option.map_none, Option.bind_some, Option.bind_none, Option.getD_some, Option.toList, if_true, if_false, ite_true, ite_false, reduceIte, Bool.false_eq_true, Bool.true_eq_false, Bool.not_true, Bool.not_false, decide_true, decide_false, decide_eq_true_eq, Nat.reduceAdd, Nat.reduceSub, Nat.reduceLeDiff, Nat.zero_le, Int.cast_ofNat_Int, Nat.reduceEqDiff, Nat.reduceMul, Nat.reducePow, Int.reduceAdd, Int.reduceSub, Int.reduceMul, Int.reduceNeg, Int.reduceLT, Int.reduceEq, Int.reduceLE, Int.reduceToNat, Int.reduceDiv, Int.reduceMod, Int.reducePow, Nat.zero_add, eq_self, Nat.add_zero, Bool.and_true, Bool.true_and, Bool.and_self, implies_true, and_true, true_and, and_self, not_true_eq_false, not_false_eq_true, true_or, or_true, Function.comp, b1, b2, b3, b4, c1, c2, c3, d1, d2, hss, ne_listI, sset_iff, hfirst, hlast, c6, c7, c8, k3, k1, x1, shaD, Bool.false_and, Bool.and_false]
                            · simp only [Bool.not_eq_true] at k3
                              simp only [i__law_is_dither, runF, execs, exec, ev, evs, evw, evc, eva, evI, evO, asB, varOf, viewR, borR, putB, putAll, isOB, bindT, setAll, setV_eq, setO_eq, wipeR_eq, wipeR, backR, frO_some, frB_no, frB_val, fwO_some, fwB_no, fwB_val, fwB_own, st_20, st_21, it_21, it_2, it_3, it_4, enc_it0, enc_it1, enc_it2, enc_it3, enc_it4, tie_eq_high, tie_eq_low, p_add, p_addT, p_addL, p_sub, p_neg, p_Lt, p_LtE, p_Gt, p_GtE, c_Lt, c_LtE, c_Gt, c_GtE, b_tf, b_tt, b_ff, b_ft, n_f, n_t, p_itemL, p_itemT, p_sl11L, p_sl11T, p_sl10L, p_sl10T, p_sl01L, p_sl01T, p_lenL, p_lenT, p_sumL, p_sumT, p_tupleL, p_tupleT, p_listL, p_listT, p_abs, p_min2, p_max2, p_min, p_max, p_all, p_any, p_isi, p_eqI, p_neI, isiD, isND, item0, intsOf_map, boolsOf_map, List.getElem?_cons_zero, List.getElem?_cons_succ, List.getElem?_nil, List.set_cons_zero, List.set_cons_succ, List.length_cons, List.length_nil, List.length_append, List.length_map, List.length_range, List.map_cons, List.map_nil, List.cons_append, List.nil_append, List.append_nil, List.replicate_succ, List.replicate_zero, List.take_succ_cons, List.take_zero, Option.map_some, Option.map_none, Option.bind_some, Option.bind_none, Option.getD_some, Option.toList, if_true, if_false, ite_true, ite_false, reduceIte, Bool.false_eq_true, Bool.true_eq_false, Bool.not_true, Bool.not_false, decide_true, decide_false, decide_eq_true_eq, Nat.reduceAdd, Nat.reduceSub, Nat.reduceLeDiff, Nat.zero_le, Int.cast_ofNat_Int, Nat.reduceEqDiff, Nat.reduceMul, Nat.reducePow, Int.reduceAdd, Int.reduceSub, Int.reduceMul, Int.reduceNeg, Int.reduceLT, Int.reduceEq, Int.reduceLE, Int.reduceToNat, Int.reduceDiv, Int.reduceMod, Int.reducePow, Nat.zero_add, eq_self, Nat.add_zero, Bool.and_true, Bool.true_and, Bool.and_self, implies_true, and_true, true_and, and_self, not_true_eq_false, not_false_eq_true, true_or, or_true, Function.comp, b1, b2, b3, b4, c1, c2, c3, d1, d2, hss, ne_listI, sset_iff, hfirst, hlast, c6, c7, c8, k3, shaD, Bool.false_and, Bool.and_false]
                        · simp only [i__law_is_dither, runF, execs, exec, ev, evs, evw, evc, eva, evI, evO, asB, varOf, viewR, borR, putB, putAll, isOB, bindT, setAll, setV_eq, setO_eq, wipeR_eq, wipeR, backR, frO_some, frB_no, frB_val, fwO_some, fwB_no, fwB_val, fwB_own, st_20, st_21, it_21, it_2, it_3, it_4, enc_it0, enc_it1, enc_it2, enc_it3, enc_it4, tie_eq_high, tie_eq_low, p_add, p_addT, p_addL, p_sub, p_neg, p_Lt, p_LtE, p_Gt, p_GtE, c_Lt, c_LtE, c_Gt, c_GtE, b_tf, b_tt, b_ff, b_ft, n_f, n_t, p_itemL, p_itemT, p_sl11L, p_sl11T, p_sl10L, p_sl10T, p_sl01L, p_sl01T, p_lenL, p_lenT, p_sumL, p_sumT, p_tupleL, p_tupleT, p_listL, p_listT, p_abs, p_min2, p_max2, p_min, p_max, p_all, p_any, p_isi, p_eqI, p_neI, isiD, isND, item0, intsOf_map, boolsOf_map, List.getElem?_cons_zero, List.getElem?_cons_succ, List.getElem?_nil, List.set_cons_zero, List.set_cons_succ, List.length_cons, List.length_nil, List.length_append, List.length_map, List.length_range, List.map_cons, List.map_nil, List.cons_append, List.nil_append, List.append_nil, List.replicate_succ, List.replicate_zero, List.take_succ_cons, List.take_zero, Option.map_some, Option.map_none, Option.bind_some, Option.bind_none, Option.getD_some, Option.toList, if_true, if_false, ite_true, ite_false, reduceIte, Bool.false_eq_true, Bool.true_eq_false, Bool.not_true, Bool.not_false, decide_true, decide_false, decide_eq_true_eq, Nat.reduceAdd, Nat.reduceSub, Nat.reduceLeDiff, Nat.zero_le, Int.cast_ofNat_Int, Nat.reduceEqDiff, Nat.reduceMul, Nat.reducePow, Int.reduceAdd, Int.reduceSub, Int.reduceMul, Int.reduceNeg, Int.reduceLT, Int.reduceEq, Int.reduceLE, Int.reduceToNat, Int.reduceDiv, Int.reduceMod, Int.reducePow, Nat.zero_add, eq_self, Nat.add_zero, Bool.and_true, Bool.true_and, Bool.and_self, implies_true, and_true, true_and, and_self, not_true_eq_false, not_false_eq_true, true_or, or_true, Function.comp, b1, b2, b3, c1, c2, c3, d1, d2, hss, ne_listI, sset_iff, hfirst, hlast, c6, c7, c8, Bool.false_and, Bool.and_false]
                      · simp only [i__law_is_dither, runF, execs, exec, ev, evs, evw, evc, eva, evI, evO, asB, varOf, viewR, borR, putB, putAll, isOB, bindT, setAll, setV_eq, setO_eq, wipeR_eq, wipeR, backR, frO_some, frB_no, frB_val, fwO_some, fwB_no, fwB_val, fwB_own, st_20, st_21, it_21, it_2, it_3, it_4, enc_it0, enc_it1, enc_it2, enc_it3, enc_it4, tie_eq_high, tie_eq_low, p_add, p_addT, p_addL, p_sub, p_neg, p_Lt, p_LtE, p_Gt, p_GtE, c_Lt, c_LtE, c_Gt, c_GtE, b_tf, b_tt, b_ff, b_ft, n_f, n_t, p_itemL, p_itemT, p_sl11L, p_sl11T, p_sl10L, p_sl10T, p_sl01L, p_sl01T, p_lenL, p_lenT, p_sumL, p_sumT, p_tupleL, p_tupleT, p_listL, p_listT, p_abs, p_min2, p_max2, p_min, p_max, p_all, p_any, p_isi, p_eqI, p_neI, isiD, isND, item0, intsOf_map, boolsOf_map, List.getElem?_cons_zero, List.getElem?_cons_succ, List.getElem?_nil, List.set_cons_zero, List.set_cons_succ, List.length_cons, List.length_nil, List.length_append, List.length_map, List.length_range, List.map_cons, List.map_nil, List.cons_append, List.nil_append, List.append_nil, List.replicate_succ, List.replicate_zero, List.take_succ_cons, List.take_zero, Option.map_some, Option.map_none, Option.bind_some, Option.bind_none, Option.getD_some, Option.toList, if_true, if_false, ite_true, ite_false, reduceIte, Bool.false_eq_true, Bool.true_eq_false, Bool.not_true, Bool.not_false, decide_true, decide_false, decide_eq_true_eq, Nat.reduceAdd, Nat.reduceSub, Nat.reduceLeDiff, Nat.zero_le, Int.cast_ofNat_Int, Nat.reduceEqDiff, Nat.reduceMul, Nat.reducePow, Int.reduceAdd, Int.reduceSub, Int.reduceMul, Int.reduceNeg, Int.reduceLT, Int.reduceEq, Int.reduceLE, Int.reduceToNat, Int.reduceDiv, Int.reduceMod, Int.reducePow, Nat.zero_add, eq_self, Nat.add_zero, Bool.and_true, Bool.true_and, Bool.and_self, implies_true, and_true, true_and, and_self, not_true_eq_false, not_false_eq_true, true_or, or_true, Function.comp, b1, b2, b3, c1, c2, c3, d1, d2, hss, ne_listI, sset_iff, hfirst, hlast, c6, c7, Bool.false_and, Bool.and_false]
                    · simp only [Bool.not_eq_true] at c6
                      simp only [i__law_is_dither, runF, execs, exec, ev, evs, evw, evc, eva, evI, evO, asB, varOf, viewR, borR, putB, putAll, isOB, bindT, setAll, setV_eq, setO_eq, wipeR_eq, wipeR, backR, frO_some, frB_no, frB_val, fwO_some, fwB_no, fwB_val, fwB_own, st_20, st_21, it_21, it_2, it_3, it_4, enc_it0, enc_it1, enc_it2, enc_it3, enc_it4, tie_eq_high, tie_eq_low, p_add, p_addT, p_addL, p_sub, p_neg, p_Lt, p_LtE, p_Gt, p_GtE, c_Lt, c_LtE, c_Gt, c_GtE, b_tf, b_tt, b_ff, b_ft, n_f, n_t, p_itemL, p_itemT, p_sl11L, p_sl11T, p_sl10L, p_sl10T, p_sl01L, p_sl01T, p_lenL, p_lenT, p_sumL, p_sumT, p_tupleL, p_tupleT, p_listL, p_listT, p_abs, p_min2, p_max2, p_min, p_max, p_all, p_any, p_isi, p_eqI, p_neI, isiD, isND, item0, intsOf_map, boolsOf_map, List.getElem?_cons_zero, List.getElem?_cons_succ, List.getElem?_nil, List.set_cons_zero, List.set_cons_succ, List.length_cons, List.length_nil, List.length_append, List.length_map, List.length_range, List.map_cons, List.map_nil, List.cons_append, List.nil_append, List.append_nil, List.replicate_succ, List.replicate_zero, List.take_succ_cons, List.take_zero, Option.map_some, Option.map_none, Option.bind_some, Option.bind_none, Option.getD_some, Option.toList, if_true, if_false, ite_true, ite_false, reduceIte, Bool.false_eq_true, Bool.true_eq_false, Bool.not_true, Bool.not_false, decide_true, decide_false, decide_eq_true_eq, Nat.reduceAdd, Nat.reduceSub, Nat.reduceLeDiff, Nat.zero_le, Int.cast_ofNat_Int, Nat.reduceEqDiff, Nat.reduceMul, Nat.reducePow, Int.reduceAdd, Int.reduceSub, Int.reduceMul, Int.reduceNeg, Int.reduceLT, Int.reduceEq, Int.reduceLE, Int.reduceToNat, Int.reduceDiv, Int.reduceMod, Int.reducePow, Nat.zero_add, eq_self, Nat.add_zero, Bool.and_true, Bool.true_and, Bool.and_self, implies_true, and_true, true_and, and_self, not_true_eq_false, not_false_eq_true, true_or, or_true, Function.comp, b1, b2, b3, c1, c2, c3, d1, d2, hss, ne_listI, sset_iff, c6, Bool.false_and, Bool.and_false]
                  · have d1 : (2 : Int) ≤ (l.length : Int) := by omega
                    have d2 : ¬ (l.length : Int) ≤ 6 := by omega
                    simp only [i__law_is_dither, runF, execs, exec, ev, evs, evw, evc, eva, evI, evO, asB, varOf, viewR, borR, putB, putAll, isOB, bindT, setAll, setV_eq, setO_eq, wipeR_eq, wipeR, backR, frO_some, frB_no, frB_val, fwO_some, fwB_no, fwB_val, fwB_own, st_20, st_21, it_21, it_2, it_3, it_4, enc_it0, enc_it1, enc_it2, enc_it3, enc_it4, tie_eq_high, tie_eq_low, p_add, p_addT, p_addL, p_sub, p_neg, p_Lt, p_LtE, p_Gt, p_GtE, c_Lt, c_LtE, c_Gt, c_GtE, b_tf, b_tt, b_ff, b_ft, n_f, n_t, p_itemL, p_itemT, p_sl11L, p_sl11T, p_sl10L, p_sl10T, p_sl01L, p_sl01T, p_lenL, p_lenT, p_sumL, p_sumT, p_tupleL, p_tupleT, p_listL, p_listT, p_abs, p_min2, p_max2, p_min, p_max, p_all, p_any, p_isi, p_eqI, p_neI, isiD, isND, item0, intsOf_map, boolsOf_map, List.getElem?_cons_zero, List.getElem?_cons_succ, List.getElem?_nil, List.set_cons_zero, List.set_cons_succ, List.length_cons, List.length_nil, List.length_append, List.length_map, List.length_range, List.map_cons, List.map_nil, List.cons_append, List.nil_append, List.append_nil, List.replicate_succ, List.replicate_zero, List.take_succ_cons, List.take_zero, Option.map_some, Option.map_none, Option.bind_some, Option.bind_none, Option.getD_some, Option.toList, if_true, if_false, ite_true, ite_false, reduceIte, Bool.false_eq_true, Bool.true_eq_false, Bool.not_true, Bool.not_false, decide_true, decide_false, decide_eq_true_eq, Nat.reduceAdd, Nat.reduceSub, Nat.reduceLeDiff, Nat.zero_le, Int.cast_ofNat_Int, Nat.reduceEqDiff, Nat.reduceMul, Nat.reducePow, Int.reduceAdd, Int.reduceSub, Int.reduceMul, Int.reduceNeg, Int.reduceLT, Int.reduceEq, Int.reduceLE, Int.reduceToNat, Int.reduceDiv, Int.reduceMod, Int.reducePow, Nat.zero_add, eq_self, Nat.add_zero, Bool.and_true, Bool.true_and, Bool.and_self, implies_true, and_true, true_and, and_self, not_true_eq_false, not_false_eq_true, true_or, or_true, Function.comp, b1, b2, b3, c1, c2, c3, d1, d2, c5, levD, Bool.false_and, Bool.and_false]
                · have d1 : ¬ (2 : Int) ≤ (l.length : Int) := by omega
                  simp only [i__law_is_dither, runF, execs, exec, ev, evs, evw, evc, eva, evI, evO, asB, varOf, viewR, borR, putB, putAll, isOB, bindT, setAll, setV_eq, setO_eq, wipeR_eq, wipeR, backR, frO_some, frB_no, frB_val, fwO_some, fwB_no, fwB_val, fwB_own, st_20, st_21, it_21, it_2, it_3, it_4, enc_it0, enc_it1, enc_it2, enc_it3, enc_it4, tie_eq_high, tie_eq_low, p_add, p_addT, p_addL, p_sub, p_neg, p_Lt, p_LtE, p_Gt, p_GtE, c_Lt, c_LtE, c_Gt, c_GtE, b_tf, b_tt, b_ff, b_ft, n_f, n_t, p_itemL, p_itemT, p_sl11L, p_sl11T, p_sl10L, p_sl10T, p_sl01L, p_sl01T, p_lenL, p_lenT, p_sumL, p_sumT, p_tupleL, p_tupleT, p_listL, p_listT, p_abs, p_min2, p_max2, p_min, p_max, p_all, p_any, p_isi, p_eqI, p_neI, isiD, isND, item0, intsOf_map, boolsOf_map, List.getElem?_cons_zero, List.getElem?_cons_succ, List.getElem?_nil, List.set_cons_zero, List.set_cons_succ, List.length_cons, List.length_nil, List.length_append, List.length_map, List.length_range, List.map_cons, List.map_nil, List.cons_append, List.nil_append, List.append_nil, List.replicate_succ, List.replicate_zero, List.take_succ_cons, List.take_zero, Option.map_some, Option.map_none, Option.bind_some, Option.bind_none, Option.getD_some, Option.toList, if_true, if_false, ite_true, ite_false, reduceIte, Bool.false_eq_true, Bool.true_eq_false, Bool.not_true, Bool.not_false, decide_true, decide_false, decide_eq_true_eq, Nat.reduceAdd, Nat.reduceSub, Nat.reduceLeDiff, Nat.zero_le, Int.cast_ofNat_Int, Nat.reduceEqDiff, Nat.reduceMul, Nat.reducePow, Int.reduceAdd, Int.reduceSub, Int.reduceMul, Int.reduceNeg, Int.reduceLT, Int.reduceEq, Int.reduceLE, Int.reduceToNat, Int.reduceDiv, Int.reduceMod, Int.reducePow, Nat.zero_add, eq_self, Nat.add_zero, Bool.and_true, Bool.true_and, Bool.and_self, implies_true, and_true, true_and, and_self, not_true_eq_false, not_false_eq_true, true_or, or_true, Function.comp, b1, b2, b3, c1, c2, c3, d1, c4, levD, Bool.false_and, Bool.and_false]
              · simp only [Bool.not_eq_true] at c3
                simp only [i__law_is_dither, runF, execs, exec, ev, evs, evw, evc, eva, evI, evO, asB, varOf, viewR, borR, putB, putAll, isOB, bindT, setAll, setV_eq, setO_eq, wipeR_eq, wipeR, backR, frO_some, frB_no, frB_val, fwO_some, fwB_no, fwB_val, fwB_own, st_20, st_21, it_21, it_2, it_3, it_4, enc_it0, enc_it1, enc_it2, enc_it3, enc_it4, tie_eq_high, tie_eq_low, p_add, p_addT, p_addL, p_sub, p_neg, p_Lt, p_LtE, p_Gt, p_GtE, c_Lt, c_LtE, c_Gt, c_GtE, b_tf, b_tt, b_ff, b_ft, n_f, n_t, p_itemL, p_itemT, p_sl11L, p_sl11T, p_sl10L, p_sl10T, p_sl01L, p_sl01T, p_lenL, p_lenT, p_sumL, p_sumT, p_tupleL, p_tupleT, p_listL, p_listT, p_abs, p_min2, p_max2, p_min, p_max, p_all, p_any, p_isi, p_eqI, p_neI, isiD, isND, item0, intsOf_map, boolsOf_map, List.getElem?_cons_zero, List.getElem?_cons_succ, List.getElem?_nil, List.set_cons_zero, List.set_cons_succ, List.length_cons, List.length_nil, List.length_append, List.length_map, List.length_range, List.map_cons, List.map_nil, List.cons_append, List.nil_append, List.append_nil, List.replicate_succ, List.replicate_zero, List.take_succ_cons, List.take_zero, Option.map_some, Option.map_none, Option.bind_some, Option.bind_none, Option.getD_some, Option.toList, if_true, if_false, ite_true, ite_false, reduceIte, Bool.false_eq_true, Bool.true_eq_false, Bool.not_true, Bool.not_false, decide_true, decide_false, decide_eq_true_eq, Nat.reduceAdd, Nat.reduceSub, Nat.reduceLeDiff, Nat.zero_le, Int.cast_ofNat_Int, Nat.reduceEqDiff, Nat.reduceMul, Nat.reducePow, Int.reduceAdd, Int.reduceSub, Int.reduceMul, Int.reduceNeg, Int.reduceLT, Int.reduceEq, Int.reduceLE, Int.reduceToNat, Int.reduceDiv, Int.reduceMod, Int.reducePow, Nat.zero_add, eq_self, Nat.add_zero, Bool.and_true, Bool.true_and, Bool.and_self, implies_true, and_true, true_and, and_self, not_true_eq_false, not_false_eq_true, true_or, or_true, Function.comp, b1, b2, b3, c1, c2, c3, levD, Bool.false_and, Bool.and_false]
          · simp only [Bool.not_eq_true] at c2
            simp only [i__law_is_dither, runF, execs, exec, ev, evs, evw, evc, eva, evI, evO, asB, varOf, viewR, borR, putB, putAll, isOB, bindT, setAll, setV_eq, setO_eq, wipeR_eq, wipeR, backR, frO_some, frB_no, frB_val, fwO_some, fwB_no, fwB_val, fwB_own, st_20, st_21, it_21, it_2, it_3, it_4, enc_it0, enc_it1, enc_it2, enc_it3, enc_it4, tie_eq_high, tie_eq_low, p_add, p_addT, p_addL, p_sub, p_neg, p_Lt, p_LtE, p_Gt, p_GtE, c_Lt, c_LtE, c_Gt, c_GtE, b_tf, b_tt, b_ff, b_ft, n_f, n_t, p_itemL, p_itemT, p_sl11L, p_sl11T, p_sl10L, p_sl10T, p_sl01L, p_sl01T, p_lenL, p_lenT, p_sumL, p_sumT, p_tupleL, p_tupleT, p_listL, p_listT, p_abs, p_min2, p_max2, p_min, p_max, p_all, p_any, p_isi, p_eqI, p_neI, isiD, isND, item0, intsOf_map, boolsOf_map, List.getElem?_cons_zero, List.getElem?_cons_succ, List.getElem?_nil, List.set_cons_zero, List.set_cons_succ, List.length_cons, List.length_nil, List.length_append, List.length_map, List.length_range, List.map_cons, List.map_nil, List.cons_append, List.nil_append, List.append_nil, List.replicate_succ, List.replicate_zero, List.take_succ_cons, List.take_zero, Option.map_some, Option.map_none, Option.bind_some, Option.bind_none, Option.getD_some, Option.toList, if_true, if_false, ite_true, ite_false, reduceIte, Bool.false_eq_true, Bool.true_eq_false, Bool.not_true, Bool.not_false, decide_true, decide_false, decide_eq_true_eq, Nat.reduceAdd, Nat.reduceSub, Nat.reduceLeDiff, Nat.zero_le, Int.cast_ofNat_Int, Nat.reduceEqDiff, Nat.reduceMul, Nat.reducePow, Int.reduceAdd, Int.reduceSub, Int.reduceMul, Int.reduceNeg, Int.reduceLT, Int.reduceEq, Int.reduceLE, Int.reduceToNat, Int.reduceDiv, Int.reduceMod, Int.reducePow, Nat.zero_add, eq_self, Nat.add_zero, Bool.and_true, Bool.true_and, Bool.and_self, implies_true, and_true, true_and, and_self, not_true_eq_false, not_false_eq_true, true_or, or_true, Function.comp, b1, b2, c1, c2, dithD, Bool.and_false, Bool.false_and]
        · simp only [Bool.not_eq_true] at c1
          simp only [i__law_is_dither, runF, execs, exec, ev, evs, evw, evc, eva, evI, evO, asB, varOf, viewR, borR, putB, putAll, isOB, bindT, setAll, setV_eq, setO_eq, wipeR_eq, wipeR, backR, frO_some, frB_no, frB_val, fwO_some, fwB_no, fwB_val, fwB_own, st_20, st_21, it_21, it_2, it_3, it_4, enc_it0, enc_it1, enc_it2, enc_it3, enc_it4, tie_eq_high, tie_eq_low, p_add, p_addT, p_addL, p_sub, p_neg, p_Lt, p_LtE, p_Gt, p_GtE, c_Lt, c_LtE, c_Gt, c_GtE, b_tf, b_tt, b_ff, b_ft, n_f, n_t, p_itemL, p_itemT, p_sl11L, p_sl11T, p_sl10L, p_sl10T, p_sl01L, p_sl01T, p_lenL, p_lenT, p_sumL, p_sumT, p_tupleL, p_tupleT, p_listL, p_listT, p_abs, p_min2, p_max2, p_min, p_max, p_all, p_any, p_isi, p_eqI, p_neI, isiD, isND, item0, intsOf_map, boolsOf_map, List.getElem?_cons_zero, List.getElem?_cons_succ, List.getElem?_nil, List.set_cons_zero, List.set_cons_succ, List.length_cons, List.length_nil, List.length_append, List.length_map, List.length_range, List.map_cons, List.map_nil, List.cons_append, List.nil_append, List.append_nil, List.replicate_succ, List.replicate_zero, List.take_succ_cons, List.take_zero, Option.map_some, Option.map_none, Option.bind_some, Option.bind_none, Option.getD_some, Option.toList, if_true, if_false, ite_true, ite_false, reduceIte, Bool.false_eq_true, Bool.true_eq_false, Bool.not_true, Bool.not_false, decide_true, decide_false, decide_eq_true_eq, Nat.reduceAdd, Nat.reduceSub, Nat.reduceLeDiff, Nat.zero_le, Int.cast_ofNat_Int, Nat.reduceEqDiff, Nat.reduceMul, Nat.reducePow, Int.reduceAdd, Int.reduceSub, Int.reduceMul, Int.reduceNeg, Int.reduceLT, Int.reduceEq, Int.reduceLE, Int.reduceToNat, Int.reduceDiv, Int.reduceMod, Int.reducePow, Nat.zero_add, eq_self, Nat.add_zero, Bool.and_true, Bool.true_and, Bool.and_self, implies_true, and_true, true_and, and_self, not_true_eq_false, not_false_eq_true, true_or, or_true, Function.comp, b1, c1, dithD, Bool.and_false, Bool.false_and]
    · have c2 : ¬ (xs.length : Int) = 5 := by omega
      simp only [i__law_is_dither, runF, execs, exec, ev, evs, evw, evc, eva, evI, evO, asB, varOf, viewR, borR, putB, putAll, isOB, bindT, setAll, setV_eq, setO_eq, wipeR_eq, wipeR, backR, frO_some, frB_no, frB_val, fwO_some, fwB_no, fwB_val, fwB_own, st_20, st_21, it_21, it_2, it_3, it_4, enc_it0, enc_it1, enc_it2, enc_it3, enc_it4, tie_eq_high, tie_eq_low, p_add, p_addT, p_addL, p_sub, p_neg, p_Lt, p_LtE, p_Gt, p_GtE, c_Lt, c_LtE, c_Gt, c_GtE, b_tf, b_tt, b_ff, b_ft, n_f, n_t, p_itemL, p_itemT, p_sl11L, p_sl11T, p_sl10L, p_sl10T, p_sl01L, p_sl01T, p_lenL, p_lenT, p_sumL, p_sumT, p_tupleL, p_tupleT, p_listL, p_listT, p_abs, p_min2, p_max2, p_min, p_max, p_all, p_any, p_isi, p_eqI, p_neI, isiD, isND, item0, intsOf_map, boolsOf_map, List.getElem?_cons_zero, List.getElem?_cons_succ, List.getElem?_nil, List.set_cons_zero, List.set_cons_succ, List.length_cons, List.length_nil, List.length_append, List.length_map, List.length_range, List.map_cons, List.map_nil, List.cons_append, List.nil_append, List.append_nil, List.replicate_succ, List.replicate_zero, List.take_succ_cons, List.take_zero, Option.map_some, Option.map_none, Option.bind_some, Option.bind_none, Option.getD_some, Option.toList, if_true, if_false, ite_true, ite_false, reduceIte, Bool.false_eq_true, Bool.true_eq_false, Bool.not_true, Bool.not_false, decide_true, decide_false, decide_eq_true_eq, Nat.reduceAdd, Nat.reduceSub, Nat.reduceLeDiff, Nat.zero_le, Int.cast_ofNat_Int, Nat.reduceEqDiff, Nat.reduceMul, Nat.reducePow, Int.reduceAdd, Int.reduceSub, Int.reduceMul, Int.reduceNeg, Int.reduceLT, Int.reduceEq, Int.reduceLE, Int.reduceToNat, Int.reduceDiv, Int.reduceMod, Int.reducePow, Nat.zero_add, eq_self, Nat.add_zero, Bool.and_true, Bool.true_and, Bool.and_self, implies_true, and_true, true_and, and_self, not_true_eq_false, not_false_eq_true, true_or, or_true, Function.comp, c2, dith_no5 c]
theorem ok_is_exact (m : Nat) (d : Dit) (h : d.Ok) : Ph (m + 5) "is_exact" [.val d.enc] = some ⟨.bool (decide (d.sh.sum = d.dv)), false, [.val d.enc]⟩ := by
  rw [L_is_exact]
  have e1 := ok_need_dither m d h
  have e2 := ok_exact (m + 3) d
  simp only [i_is_exact, runF, execs, exec, ev, evs, evw, evc, eva, evI, evO, asB, varOf, viewR, borR, putB, putAll, isOB, bindT, setAll, setV_eq, setO_eq, wipeR_eq, wipeR, backR, frO_some, frB_no, frB_val, fwO_some, fwB_no, fwB_val, fwB_own, st_20, st_21, it_21, it_2, it_3, it_4, enc_it0, enc_it1, enc_it2, enc_it3, enc_it4, tie_eq_high, tie_eq_low, p_add, p_addT, p_addL, p_sub, p_neg, p_Lt, p_LtE, p_Gt, p_GtE, c_Lt, c_LtE, c_Gt, c_GtE, b_tf, b_tt, b_ff, b_ft, n_f, n_t, p_itemL, p_itemT, p_sl11L, p_sl11T, p_sl10L, p_sl10T, p_sl01L, p_sl01T, p_lenL, p_lenT, p_sumL, p_sumT, p_tupleL, p_tupleT, p_listL, p_listT, p_abs, p_min2, p_max2, p_min, p_max, p_all, p_any, p_isi, p_eqI, p_neI, isiD, isND, item0, intsOf_map, boolsOf_map, List.getElem?_cons_zero, List.getElem?_cons_succ, List.getElem?_nil, List.set_cons_zero, List.set_cons_succ, List.length_cons, List.length_nil, List.length_append, List.length_map, List.length_range, List.map_cons, List.map_nil, List.cons_append, List.nil_append, List.append_nil, List.replicate_succ, List.replicate_zero, List.take_succ_cons, List.take_zero, Option.map_some, Option.map_none, Option.bind_some, Option.bind_none, Option.getD_some, Option.toList, if_true, if_false, ite_true, ite_false, reduceIte, Bool.false_eq_true, Bool.true_eq_false, Bool.not_true, Bool.not_false, decide_true, decide_false, decide_eq_true_eq, Nat.reduceAdd, Nat.reduceSub, Nat.reduceLeDiff, Nat.zero_le, Int.cast_ofNat_Int, Nat.reduceEqDiff, Nat.reduceMul, Nat.reducePow, Int.reduceAdd, Int.reduceSub, Int.reduceMul, Int.reduceNeg, Int.reduceLT, Int.reduceEq, Int.reduceLE, Int.reduceToNat, Int.reduceDiv, Int.reduceMod, Int.reducePow, Nat.zero_add, eq_self, Nat.add_zero, Bool.and_true, Bool.true_and, Bool.and_self, implies_true, and_true, true_and, and_self, not_true_eq_false, not_false_eq_true, true_or, or_true, Function.comp, e1, e2]
def goodX : PyData := .tuple [.int 4, .tuple [.int 0, .int 4], .tuple [.int 0], .int 8, .str "low"]
def badX : PyData := .tuple [.int 4, .tuple [.int 0, .int 4], .tuple [.int 3, .int 3], .int 5, .str "low"]
theorem law_all (m : Nat) (ns : List Int) (h : ns.length ≤ 63) : ∃ o, Ph (m + 6) "law" [.scr ns] = some ⟨.bool true, false, o⟩ := by
  rw [L_law]
  have hr : -16777216 ≤ 1 + (if (10 : Int) < (ns.length : Int) then 10 else (ns.length : Int)) ∧ 1 + (if (10 : Int) < (ns.length : Int) then 10 else (ns.length : Int)) ≤ 16777216 := by split <;> omega
  have hr8 : 1 + (if (10 : Int) < (ns.length : Int) then 10 else (ns.length : Int)) ≤ 11 := by split <;> omega
  simp only [i_law, runF, execs, exec, ev, evs, evw, evc, eva, evI, evO, asB, varOf, viewR, borR, putB, putAll, isOB, bindT, setAll, setV_eq, setO_eq, wipeR_eq, wipeR, backR, frO_some, frB_no, frB_val, fwO_some, fwB_no, fwB_val, fwB_own, st_20, st_21, it_21, it_2, it_3, it_4, enc_it0, enc_it1, enc_it2, enc_it3, enc_it4, tie_eq_high, tie_eq_low, p_add, p_addT, p_addL, p_sub, p_neg, p_Lt, p_LtE, p_Gt, p_GtE, c_Lt, c_LtE, c_Gt, c_GtE, b_tf, b_tt, b_ff, b_ft, n_f, n_t, p_itemL, p_itemT, p_sl11L, p_sl11T, p_sl10L, p_sl10T, p_sl01L, p_sl01T, p_lenL, p_lenT, p_sumL, p_sumT, p_tupleL, p_tupleT, p_listL, p_listT, p_abs, p_min2, p_max2, p_min, p_max, p_all, p_any, p_isi, p_eqI, p_neI, isiD, isND, item0, intsOf_map, boolsOf_map, List.getElem?_cons_zero, List.getElem?_cons_succ, List.getElem?_nil, List.set_cons_zero, List.set_cons_succ, List.length_cons, List.length_nil, List.length_append, List.length_map, List.length_range, List.map_cons, List.map_nil, List.cons_append, List.nil_append, List.append_nil, List.replicate_succ, List.replicate_zero, List.take_succ_cons, List.take_zero, Option.map_some, Option.map_none, Option.bind_some, Option.bind_none, Option.getD_some, Option.toList, if_true, if_false, ite_true, ite_false, reduceIte, Bool.false_eq_true, Bool.true_eq_false, Bool.not_true, Bool.not_false, decide_true, decide_false, decide_eq_true_eq, Nat.reduceAdd, Nat.reduceSub, Nat.reduceLeDiff, Nat.zero_le, Int.cast_ofNat_Int, Nat.reduceEqDiff, Nat.reduceMul, Nat.reducePow, Int.reduceAdd, Int.reduceSub, Int.reduceMul, Int.reduceNeg, Int.reduceLT, Int.reduceEq, Int.reduceLE, Int.reduceToNat, Int.reduceDiv, Int.reduceMod, Int.reducePow, Nat.zero_add, eq_self, Nat.add_zero, Bool.and_true, Bool.true_and, Bool.and_self, implies_true, and_true, true_and, and_self, not_true_eq_false, not_false_eq_true, true_or, or_true, Function.comp, rngD, if_pos hr]
  generalize hL : forL _ _ _ = o
  obtain ⟨ρ', rfl, s1, s2, s3, s4, s5, s6, s7, f1, f2, f3, f4, f5, f6, f7, rfl⟩ := forL_range (fun ρ => ∃ s1 s2 s3 s4 s5 s6 s7, fwB s1 = true ∧ fwB s2 = true ∧ fwB s3 = true ∧ fwB s4 = true ∧ fwB s5 = true ∧ fwB s6 = true ∧ fwB s7 = true ∧ ρ = [.scr ns, s1, s2, s3, s4, s5, s6, s7]) hL ⟨_, _, _, _, _, _, _, rfl, rfl, rfl, rfl, rfl, rfl, rfl, rfl⟩ (by
    rintro k k0 k1 ρ ⟨s1, s2, s3, s4, s5, s6, s7, f1, f2, f3, f4, f5, f6, f7, rfl⟩
    obtain ⟨a, b, hs, es⟩ := ok_source (m + 4) ns (k := k) k0 (by omega)
    have r5 : -16777216 ≤ (5 : Int) ∧ (5 : Int) ≤ 16777216 := by decide
    simp only [runF, execs, exec, ev, evs, evw, evc, eva, evI, evO, asB, varOf, viewR, borR, putB, putAll, isOB, bindT, setAll, setV_eq, setO_eq, wipeR_eq, wipeR, backR, frO_some, frB_no, frB_val, fwO_some, fwB_no, fwB_val, fwB_own, st_20, st_21, it_21, it_2, it_3, it_4, enc_it0, enc_it1, enc_it2, enc_it3, enc_it4, tie_eq_high, tie_eq_low, p_add, p_addT, p_addL, p_sub, p_neg, p_Lt, p_LtE, p_Gt, p_GtE, c_Lt, c_LtE, c_Gt, c_GtE, b_tf, b_tt, b_ff, b_ft, n_f, n_t, p_itemL, p_itemT, p_sl11L, p_sl11T, p_sl10L, p_sl10T, p_sl01L, p_sl01T, p_lenL, p_lenT, p_sumL, p_sumT, p_tupleL, p_tupleT, p_listL, p_listT, p_abs, p_min2, p_max2, p_min, p_max, p_all, p_any, p_isi, p_eqI, p_neI, isiD, isND, item0, intsOf_map, boolsOf_map, List.getElem?_cons_zero, List.getElem?_cons_succ, List.getElem?_nil, List.set_cons_zero, List.set_cons_succ, List.length_cons, List.length_nil, List.length_append, List.length_map, List.length_range, List.map_cons, List.map_nil, List.cons_append, List.nil_append, List.append_nil, List.replicate_succ, List.replicate_zero, List.take_succ_cons, List.take_zero, Option.map_some, Option.map_none, Option.bind_some, Option.bind_none, Option.getD_some, Option.toList, if_true, if_false, ite_true, ite_false, reduceIte, Bool.false_eq_true, Bool.true_eq_false, Bool.not_true, Bool.not_false, decide_true, decide_false, decide_eq_true_eq, Nat.reduceAdd, Nat.reduceSub, Nat.reduceLeDiff, Nat.zero_le, Int.cast_ofNat_Int, Nat.reduceEqDiff, Nat.reduceMul, Nat.reducePow, Int.reduceAdd, Int.reduceSub, Int.reduceMul, Int.reduceNeg, Int.reduceLT, Int.reduceEq, Int.reduceLE, Int.reduceToNat, Int.reduceDiv, Int.reduceMod, Int.reducePow, Nat.zero_add, eq_self, Nat.add_zero, Bool.and_true, Bool.true_and, Bool.and_self, implies_true, and_true, true_and, and_self, not_true_eq_false, not_false_eq_true, true_or, or_true, Function.comp, f1, f2, f3, f4, f5, f6, f7, es, rngD, if_pos r5]
    generalize hL2 : forL _ _ _ = o
    obtain ⟨ρ', rfl, a', b', s3, s4, s5, s6, s7, hs', f3, f4, f5, f6, f7, rfl⟩ := forL_range (fun ρ => ∃ a b s3 s4 s5 s6 s7, Src a b ∧ fwB s3 = true ∧ fwB s4 = true ∧ fwB s5 = true ∧ fwB s6 = true ∧ fwB s7 = true ∧ ρ = [.scr ns, .val (.int k), .own (srcD a b), s3, s4, s5, s6, s7]) hL2 ⟨a, b, _, _, _, _, _, hs, f3, f4, f5, f6, f7, rfl⟩ (by
      rintro t t0 t1 ρ ⟨a, b, s3, s4, s5, s6, s7, hs, f3, f4, f5, f6, f7, rfl⟩
      obtain ⟨a1, b1, d, hs1, hd, hd8, e1⟩ := ok_dither (m + 2) (most := 8) hs (by decide) (by decide)
      have e2 := ok_is_dither (m + 2) d hd
      have e3 := ok_is_exact m d hd
      have r12 : -16777216 ≤ (12 : Int) ∧ (12 : Int) ≤ 16777216 := by decide
      simp only [runF, execs, exec, ev, evs, evw, evc, eva, evI, evO, asB, varOf, viewR, borR, putB, putAll, isOB, bindT, setAll, setV_eq, setO_eq, wipeR_eq, wipeR, backR, frO_some, frB_no, frB_val, fwO_some, fwB_no, fwB_val, fwB_own, st_20, st_21, it_21, it_2, it_3, it_4, enc_it0, enc_it1, enc_it2, enc_it3, enc_it4, tie_eq_high, tie_eq_low, p_add, p_addT, p_addL, p_sub, p_neg, p_Lt, p_LtE, p_Gt, p_GtE, c_Lt, c_LtE, c_Gt, c_GtE, b_tf, b_tt, b_ff, b_ft, n_f, n_t, p_itemL, p_itemT, p_sl11L, p_sl11T, p_sl10L, p_sl10T, p_sl01L, p_sl01T, p_lenL, p_lenT, p_sumL, p_sumT, p_tupleL, p_tupleT, p_listL, p_listT, p_abs, p_min2, p_max2, p_min, p_max, p_all, p_any, p_isi, p_eqI, p_neI, isiD, isND, item0, intsOf_map, boolsOf_map, List.getElem?_cons_zero, List.getElem?_cons_succ, List.getElem?_nil, List.set_cons_zero, List.set_cons_succ, List.length_cons, List.length_nil, List.length_append, List.length_map, List.length_range, List.map_cons, List.map_nil, List.cons_append, List.nil_append, List.append_nil, List.replicate_succ, List.replicate_zero, List.take_succ_cons, List.take_zero, Option.map_some, Option.map_none, Option.bind_some, Option.bind_none, Option.getD_some, Option.toList, if_true, if_false, ite_true, ite_false, reduceIte, Bool.false_eq_true, Bool.true_eq_false, Bool.not_true, Bool.not_false, decide_true, decide_false, decide_eq_true_eq, Nat.reduceAdd, Nat.reduceSub, Nat.reduceLeDiff, Nat.zero_le, Int.cast_ofNat_Int, Nat.reduceEqDiff, Nat.reduceMul, Nat.reducePow, Int.reduceAdd, Int.reduceSub, Int.reduceMul, Int.reduceNeg, Int.reduceLT, Int.reduceEq, Int.reduceLE, Int.reduceToNat, Int.reduceDiv, Int.reduceMod, Int.reducePow, Nat.zero_add, eq_self, Nat.add_zero, Bool.and_true, Bool.true_and, Bool.and_self, implies_true, and_true, true_and, and_self, not_true_eq_false, not_false_eq_true, true_or, or_true, Function.comp, f3, f4, f5, f6, f7, e1, e2, e3, p_neB, rngD, if_pos r12]
      generalize hL3 : forL _ _ _ = o
      obtain ⟨ρ', rfl, a', b', s5, s6, s7, hs', f5, f6, f7, rfl⟩ := forL_range (fun ρ => ∃ a b s5 s6 s7, Src a b ∧ fwB s5 = true ∧ fwB s6 = true ∧ fwB s7 = true ∧ ρ = [.scr ns, .val (.int k), .own (srcD a b), .val (.int t), .val d.enc, s5, s6, s7]) hL3 ⟨a1, b1, .val (.bool (decide (d.sh.sum = d.dv))), s6, s7, hs1, rfl, f6, f7, rfl⟩ (by
        rintro u u0 u1 ρ ⟨a, b, s5, s6, s7, hs, f5, f6, f7, rfl⟩
        obtain ⟨a2, b2, y, hs2, hy, e4⟩ := ok_parted 2 m d.enc (dit_part d hd) hs (by decide)
        have e5 := ok_is_ditherD (m + 2) y 5 hy
        have e6 := ok_law_is_dither (m + 2) y 5 hy (by decide)
        refine ⟨[.scr ns, .val (.int k), .own (srcD a2 b2), .val (.int t), .val d.enc, .val (.bool (dithD y)), .val (.int u), .val y], ?_, _, _, _, _, _, hs2, rfl, rfl, rfl, rfl⟩
        simp only [runF, execs, exec, ev, evs, evw, evc, eva, evI, evO, asB, varOf, viewR, borR, putB, putAll, isOB, bindT, setAll, setV_eq, setO_eq, wipeR_eq, wipeR, backR, frO_some, frB_no, frB_val, fwO_some, fwB_no, fwB_val, fwB_own, st_20, st_21, it_21, it_2, it_3, it_4, enc_it0, enc_it1, enc_it2, enc_it3, enc_it4, tie_eq_high, tie_eq_low, p_add, p_addT, p_addL, p_sub, p_neg, p_Lt, p_LtE, p_Gt, p_GtE, c_Lt, c_LtE, c_Gt, c_GtE, b_tf, b_tt, b_ff, b_ft, n_f, n_t, p_itemL, p_itemT, p_sl11L, p_sl11T, p_sl10L, p_sl10T, p_sl01L, p_sl01T, p_lenL, p_lenT, p_sumL, p_sumT, p_tupleL, p_tupleT, p_listL, p_listT, p_abs, p_min2, p_max2, p_min, p_max, p_all, p_any, p_isi, p_eqI, p_neI, isiD, isND, item0, intsOf_map, boolsOf_map, List.getElem?_cons_zero, List.getElem?_cons_succ, List.getElem?_nil, List.set_cons_zero, List.set_cons_succ, List.length_cons, List.length_nil, List.length_append, List.length_map, List.length_range, List.map_cons, List.map_nil, List.cons_append, List.nil_append, List.append_nil, List.replicate_succ, List.replicate_zero, List.take_succ_cons, List.take_zero, Option.map_some, Option.map_none, Option.bind_some, Option.bind_none, Option.getD_some, Option.toList, if_true, if_false, ite_true, ite_false, reduceIte, Bool.false_eq_true, Bool.true_eq_false, Bool.not_true, Bool.not_false, decide_true, decide_false, decide_eq_true_eq, Nat.reduceAdd, Nat.reduceSub, Nat.reduceLeDiff, Nat.zero_le, Int.cast_ofNat_Int, Nat.reduceEqDiff, Nat.reduceMul, Nat.reducePow, Int.reduceAdd, Int.reduceSub, Int.reduceMul, Int.reduceNeg, Int.reduceLT, Int.reduceEq, Int.reduceLE, Int.reduceToNat, Int.reduceDiv, Int.reduceMod, Int.reducePow, Nat.zero_add, eq_self, Nat.add_zero, Bool.and_true, Bool.true_and, Bool.and_self, implies_true, and_true, true_and, and_self, not_true_eq_false, not_false_eq_true, true_or, or_true, Function.comp, f5, f6, f7, e4, e5, e6, p_neB])
      refine ⟨[.scr ns, .val (.int k), .own (srcD a' b'), .val (.int t), .val d.enc, s5, s6, s7], ?_, _, _, _, _, _, _, _, hs', rfl, rfl, f5, f6, f7, rfl⟩
      simp only [runF, execs, exec, ev, evs, evw, evc, eva, evI, evO, asB, varOf, viewR, borR, putB, putAll, isOB, bindT, setAll, setV_eq, setO_eq, wipeR_eq, wipeR, backR, frO_some, frB_no, frB_val, fwO_some, fwB_no, fwB_val, fwB_own, st_20, st_21, it_21, it_2, it_3, it_4, enc_it0, enc_it1, enc_it2, enc_it3, enc_it4, tie_eq_high, tie_eq_low, p_add, p_addT, p_addL, p_sub, p_neg, p_Lt, p_LtE, p_Gt, p_GtE, c_Lt, c_LtE, c_Gt, c_GtE, b_tf, b_tt, b_ff, b_ft, n_f, n_t, p_itemL, p_itemT, p_sl11L, p_sl11T, p_sl10L, p_sl10T, p_sl01L, p_sl01T, p_lenL, p_lenT, p_sumL, p_sumT, p_tupleL, p_tupleT, p_listL, p_listT, p_abs, p_min2, p_max2, p_min, p_max, p_all, p_any, p_isi, p_eqI, p_neI, isiD, isND, item0, intsOf_map, boolsOf_map, List.getElem?_cons_zero, List.getElem?_cons_succ, List.getElem?_nil, List.set_cons_zero, List.set_cons_succ, List.length_cons, List.length_nil, List.length_append, List.length_map, List.length_range, List.map_cons, List.map_nil, List.cons_append, List.nil_append, List.append_nil, List.replicate_succ, List.replicate_zero, List.take_succ_cons, List.take_zero, Option.map_some, Option.map_none, Option.bind_some, Option.bind_none, Option.getD_some, Option.toList, if_true, if_false, ite_true, ite_false, reduceIte, Bool.false_eq_true, Bool.true_eq_false, Bool.not_true, Bool.not_false, decide_true, decide_false, decide_eq_true_eq, Nat.reduceAdd, Nat.reduceSub, Nat.reduceLeDiff, Nat.zero_le, Int.cast_ofNat_Int, Nat.reduceEqDiff, Nat.reduceMul, Nat.reducePow, Int.reduceAdd, Int.reduceSub, Int.reduceMul, Int.reduceNeg, Int.reduceLT, Int.reduceEq, Int.reduceLE, Int.reduceToNat, Int.reduceDiv, Int.reduceMod, Int.reducePow, Nat.zero_add, eq_self, Nat.add_zero, Bool.and_true, Bool.true_and, Bool.and_self, implies_true, and_true, true_and, and_self, not_true_eq_false, not_false_eq_true, true_or, or_true, Function.comp])
    refine ⟨[.scr ns, .val (.int k), .own (srcD a' b'), s3, s4, s5, s6, s7], ?_, _, _, _, _, _, _, _, rfl, rfl, f3, f4, f5, f6, f7, rfl⟩
    simp only [runF, execs, exec, ev, evs, evw, evc, eva, evI, evO, asB, varOf, viewR, borR, putB, putAll, isOB, bindT, setAll, setV_eq, setO_eq, wipeR_eq, wipeR, backR, frO_some, frB_no, frB_val, fwO_some, fwB_no, fwB_val, fwB_own, st_20, st_21, it_21, it_2, it_3, it_4, enc_it0, enc_it1, enc_it2, enc_it3, enc_it4, tie_eq_high, tie_eq_low, p_add, p_addT, p_addL, p_sub, p_neg, p_Lt, p_LtE, p_Gt, p_GtE, c_Lt, c_LtE, c_Gt, c_GtE, b_tf, b_tt, b_ff, b_ft, n_f, n_t, p_itemL, p_itemT, p_sl11L, p_sl11T, p_sl10L, p_sl10T, p_sl01L, p_sl01T, p_lenL, p_lenT, p_sumL, p_sumT, p_tupleL, p_tupleT, p_listL, p_listT, p_abs, p_min2, p_max2, p_min, p_max, p_all, p_any, p_isi, p_eqI, p_neI, isiD, isND, item0, intsOf_map, boolsOf_map, List.getElem?_cons_zero, List.getElem?_cons_succ, List.getElem?_nil, List.set_cons_zero, List.set_cons_succ, List.length_cons, List.length_nil, List.length_append, List.length_map, List.length_range, List.map_cons, List.map_nil, List.cons_append, List.nil_append, List.append_nil, List.replicate_succ, List.replicate_zero, List.take_succ_cons, List.take_zero, Option.map_some, Option.map_none, Option.bind_some, Option.bind_none, Option.getD_some, Option.toList, if_true, if_false, ite_true, ite_false, reduceIte, Bool.false_eq_true, Bool.true_eq_false, Bool.not_true, Bool.not_false, decide_true, decide_false, decide_eq_true_eq, Nat.reduceAdd, Nat.reduceSub, Nat.reduceLeDiff, Nat.zero_le, Int.cast_ofNat_Int, Nat.reduceEqDiff, Nat.reduceMul, Nat.reducePow, Int.reduceAdd, Int.reduceSub, Int.reduceMul, Int.reduceNeg, Int.reduceLT, Int.reduceEq, Int.reduceLE, Int.reduceToNat, Int.reduceDiv, Int.reduceMod, Int.reducePow, Nat.zero_add, eq_self, Nat.add_zero, Bool.and_true, Bool.true_and, Bool.and_self, implies_true, and_true, true_and, and_self, not_true_eq_false, not_false_eq_true, true_or, or_true, Function.comp])
  have g1 : Ph (m + 5) "is_dither" [.val (.tuple [.int 4, .tuple [.int 0, .int 4], .tuple [.int 0], .int 8, .str "low"])] = some ⟨.bool true, false, [.val (.tuple [.int 4, .tuple [.int 0, .int 4], .tuple [.int 0], .int 8, .str "low"])]⟩ := by
    have q := ok_is_ditherD (m + 2) goodX 5 (by decide +kernel)
    rw [show dithD goodX = true by decide +kernel] at q
    exact q
  have g2 : Ph (m + 5) "is_dither" [.val (.tuple [.int 4, .tuple [.int 0, .int 4], .tuple [.int 3, .int 3], .int 5, .str "low"])] = some ⟨.bool false, false, [.val (.tuple [.int 4, .tuple [.int 0, .int 4], .tuple [.int 3, .int 3], .int 5, .str "low"])]⟩ := by
    have q := ok_is_ditherD (m + 2) badX 5 (by decide +kernel)
    rw [show dithD badX = false by decide +kernel] at q
    exact q
  simp only [runF, execs, exec, ev, evs, evw, evc, eva, evI, evO, asB, varOf, viewR, borR, putB, putAll, isOB, bindT, setAll, setV_eq, setO_eq, wipeR_eq, wipeR, backR, frO_some, frB_no, frB_val, fwO_some, fwB_no, fwB_val, fwB_own, st_20, st_21, it_21, it_2, it_3, it_4, enc_it0, enc_it1, enc_it2, enc_it3, enc_it4, tie_eq_high, tie_eq_low, p_add, p_addT, p_addL, p_sub, p_neg, p_Lt, p_LtE, p_Gt, p_GtE, c_Lt, c_LtE, c_Gt, c_GtE, b_tf, b_tt, b_ff, b_ft, n_f, n_t, p_itemL, p_itemT, p_sl11L, p_sl11T, p_sl10L, p_sl10T, p_sl01L, p_sl01T, p_lenL, p_lenT, p_sumL, p_sumT, p_tupleL, p_tupleT, p_listL, p_listT, p_abs, p_min2, p_max2, p_min, p_max, p_all, p_any, p_isi, p_eqI, p_neI, isiD, isND, item0, intsOf_map, boolsOf_map, List.getElem?_cons_zero, List.getElem?_cons_succ, List.getElem?_nil, List.set_cons_zero, List.set_cons_succ, List.length_cons, List.length_nil, List.length_append, List.length_map, List.length_range, List.map_cons, List.map_nil, List.cons_append, List.nil_append, List.append_nil, List.replicate_succ, List.replicate_zero, List.take_succ_cons, List.take_zero, Option.map_some, Option.map_none, Option.bind_some, Option.bind_none, Option.getD_some, Option.toList, if_true, if_false, ite_true, ite_false, reduceIte, Bool.false_eq_true, Bool.true_eq_false, Bool.not_true, Bool.not_false, decide_true, decide_false, decide_eq_true_eq, Nat.reduceAdd, Nat.reduceSub, Nat.reduceLeDiff, Nat.zero_le, Int.cast_ofNat_Int, Nat.reduceEqDiff, Nat.reduceMul, Nat.reducePow, Int.reduceAdd, Int.reduceSub, Int.reduceMul, Int.reduceNeg, Int.reduceLT, Int.reduceEq, Int.reduceLE, Int.reduceToNat, Int.reduceDiv, Int.reduceMod, Int.reducePow, Nat.zero_add, eq_self, Nat.add_zero, Bool.and_true, Bool.true_and, Bool.and_self, implies_true, and_true, true_and, and_self, not_true_eq_false, not_false_eq_true, true_or, or_true, Function.comp, g1, g2]
  exact ⟨_, rfl⟩
theorem law_true (ns : List Int) (h : ns.length ≤ 63) : ∃ o, phi (tabOf ds) fuel (depth + 1) "law" [.scr ns] = some ⟨.bool true, false, o⟩ := law_all (depth - 5) ns h

theorem k__law_source : DefOk glo d__law_source := ⟨by decide +kernel, fun _ _ _ _ _ _ us hl => match us, hl with | [_, _], _ => rfl⟩
theorem k__law_draw : DefOk glo d__law_draw := ⟨by decide +kernel, fun _ _ _ _ _ _ us hl => match us, hl with | [_, _], _ => rfl⟩
theorem k__law_choice : DefOk glo d__law_choice := ⟨by decide +kernel, fun _ _ _ _ _ _ us hl => match us, hl with | [_, _], _ => rfl⟩
theorem k__law_dither : DefOk glo d__law_dither := ⟨by decide +kernel, fun _ _ _ _ _ _ us hl => match us, hl with | [_, _], _ => rfl⟩
theorem k_is_between : DefOk glo d_is_between := ⟨by decide +kernel, fun _ _ _ _ _ _ us hl => match us, hl with | [_, _, _], _ => rfl⟩
theorem k_are_levels : DefOk glo d_are_levels := ⟨by decide +kernel, fun _ _ _ _ _ _ us hl => match us, hl with | [_, _], _ => rfl⟩
theorem k_are_shares : DefOk glo d_are_shares := ⟨by decide +kernel, fun _ _ _ _ _ _ us hl => match us, hl with | [_, _], _ => rfl⟩
theorem k_is_dither : DefOk glo d_is_dither := ⟨by decide +kernel, fun _ _ _ _ _ _ us hl => match us, hl with | [_], _ => rfl⟩
theorem k_need_dither : DefOk glo d_need_dither := ⟨by decide +kernel, fun _ _ _ _ _ _ us hl => match us, hl with | [_], _ => rfl⟩
theorem k_exact : DefOk glo d_exact := ⟨by decide +kernel, fun _ _ _ _ _ _ us hl => match us, hl with | [_], _ => rfl⟩
theorem k_is_exact : DefOk glo d_is_exact := ⟨by decide +kernel, fun _ _ _ _ _ _ us hl => match us, hl with | [_], _ => rfl⟩
theorem k__law_parted : DefOk glo d__law_parted := ⟨by decide +kernel, fun _ _ _ _ _ _ us hl => match us, hl with | [_, _], _ => rfl⟩
theorem k__law_is_between : DefOk glo d__law_is_between := ⟨by decide +kernel, fun _ _ _ _ _ _ us hl => match us, hl with | [_, _, _], _ => rfl⟩
theorem k__law_all_within : DefOk glo d__law_all_within := ⟨by decide +kernel, fun _ _ _ _ _ _ us hl => match us, hl with | [_, _, _], _ => rfl⟩
theorem k__law_is_dither : DefOk glo d__law_is_dither := ⟨by decide +kernel, fun _ _ _ _ _ _ us hl => match us, hl with | [_], _ => rfl⟩
theorem k_law : DefOk glo d_law := ⟨by decide +kernel, fun _ _ _ _ _ _ us hl => match us, hl with | [_], _ => rfl⟩
end CD
open PySem PySem.W PyProof.Rows in
set_option maxRecDepth 100000 in
set_option maxHeartbeats 0 in
theorem PySem.Challenge.cw_carrydithers_k01_dithers_recognized_holds : PySem.Challenge.rw_carrydithers_k01_dithers_recognized.Holds := by
  w_on; o_law; k_head; (case hw => w_witness2)
  k_fill
  refine CD.walk (l := PySem.Challenge.rw_carrydithers_k01_dithers_recognized) (x := "_law_script") CD.ds CD.glo CD.fuel CD.depth rfl rfl ⟨rfl, by decide, by decide⟩ (fun w h Y => PySem.W.kIn_of Y) ?ok CD.d_law (List.mem_of_getElem? (i := 15) rfl) rfl rfl rfl (fun ns h => CD.law_true ns h) (fun _ _ _ _ _ _ s u => .of_eq rfl) ?F
  case ok => exact (CD.allCons CD.k__law_source (CD.allCons CD.k__law_draw (CD.allCons CD.k__law_choice (CD.allCons CD.k__law_dither (CD.allCons CD.k_is_between (CD.allCons CD.k_are_levels (CD.allCons CD.k_are_shares (CD.allCons CD.k_is_dither (CD.allCons CD.k_need_dither (CD.allCons CD.k_exact (CD.allCons CD.k_is_exact (CD.allCons CD.k__law_parted (CD.allCons CD.k__law_is_between (CD.allCons CD.k__law_all_within (CD.allCons CD.k__law_is_dither (CD.allCons CD.k_law CD.allNil))))))))))))))))
  case F =>
    intro w
    refine ⟨?_, ?_, ?_⟩
    · refine (CD.allCons ?_ (CD.allCons ?_ (CD.allCons ?_ (CD.allCons ?_ (CD.allCons ?_ (CD.allCons ?_ (CD.allCons ?_ (CD.allCons ?_ (CD.allCons ?_ (CD.allCons ?_ (CD.allCons ?_ (CD.allCons ?_ (CD.allCons ?_ (CD.allCons ?_ (CD.allCons ?_ (CD.allCons ?_ CD.allNil))))))))))))))))
      · refine' CD.defInX (x := "_law_source") (st := CD.s__law_source) ?a ?l ?c ?k
        (case a => k_is)
        (case l => k_is)
        (case c => k_is)
        (case k => k_is)
      · refine' CD.defInX (x := "_law_draw") (st := CD.s__law_draw) ?a ?l ?c ?k
        (case a => k_is)
        (case l => k_is)
        (case c => k_is)
        (case k => k_is)
      · refine' CD.defInX (x := "_law_choice") (st := CD.s__law_choice) ?a ?l ?c ?k
        (case a => k_is)
        (case l => k_is)
        (case c => k_is)
        (case k => k_is)
      · refine' CD.defInX (x := "_law_dither") (st := CD.s__law_dither) ?a ?l ?c ?k
        (case a => k_is)
        (case l => k_is)
        (case c => k_is)
        (case k => k_is)
      · refine' CD.defInX (x := "is_between") (st := CD.s_is_between) ?a ?l ?c ?k
        (case a => k_is)
        (case l => k_is)
        (case c => k_is)
        (case k => k_is)
      · refine' CD.defInX (x := "are_levels") (st := CD.s_are_levels) ?a ?l ?c ?k
        (case a => k_is)
        (case l => k_is)
        (case c => k_is)
        (case k => k_is)
      · refine' CD.defInX (x := "are_shares") (st := CD.s_are_shares) ?a ?l ?c ?k
        (case a => k_is)
        (case l => k_is)
        (case c => k_is)
        (case k => k_is)
      · refine' CD.defInX (x := "is_dither") (st := CD.s_is_dither) ?a ?l ?c ?k
        (case a => k_is)
        (case l => k_is)
        (case c => k_is)
        (case k => k_is)
      · refine' CD.defInX (x := "need_dither") (st := CD.s_need_dither) ?a ?l ?c ?k
        (case a => k_is)
        (case l => k_is)
        (case c => k_is)
        (case k => k_is)
      · refine' CD.defInX (x := "exact") (st := CD.s_exact) ?a ?l ?c ?k
        (case a => k_is)
        (case l => k_is)
        (case c => k_is)
        (case k => k_is)
      · refine' CD.defInX (x := "is_exact") (st := CD.s_is_exact) ?a ?l ?c ?k
        (case a => k_is)
        (case l => k_is)
        (case c => k_is)
        (case k => k_is)
      · refine' CD.defInX (x := "_law_parted") (st := CD.s__law_parted) ?a ?l ?c ?k
        (case a => k_is)
        (case l => k_is)
        (case c => k_is)
        (case k => k_is)
      · refine' CD.defInX (x := "_law_is_between") (st := CD.s__law_is_between) ?a ?l ?c ?k
        (case a => k_is)
        (case l => k_is)
        (case c => k_is)
        (case k => k_is)
      · refine' CD.defInX (x := "_law_all_within") (st := CD.s__law_all_within) ?a ?l ?c ?k
        (case a => k_is)
        (case l => k_is)
        (case c => k_is)
        (case k => k_is)
      · refine' CD.defInX (x := "_law_is_dither") (st := CD.s__law_is_dither) ?a ?l ?c ?k
        (case a => k_is)
        (case l => k_is)
        (case c => k_is)
        (case k => k_is)
      · refine' CD.defInX (x := "law") (st := CD.s_law) ?a ?l ?c ?k
        (case a => k_is)
        (case l => k_is)
        (case c => k_is)
        (case k => k_is)
    · refine (CD.globCons ?_ (CD.globCons ?_ (CD.globCons ?_ CD.globNil)))
      · refine' CD.globIn_of (x := "MOST_TOP") (v := .int (8)) ?a ?r ?pp
        (case a => k_is)
        (case r => exact ⟨_, rfl⟩)
        (case pp => exact fun _ => rfl)
      · refine' CD.globIn_of (x := "MOST_LEVELS") (v := .int (6)) ?a ?r ?pp
        (case a => k_is)
        (case r => exact ⟨_, rfl⟩)
        (case pp => exact fun _ => rfl)
      · refine' CD.globIn_of (x := "MOST_DIVISOR") (v := .int (8)) ?a ?r ?pp
        (case a => k_is)
        (case r => exact ⟨_, rfl⟩)
        (case pp => exact fun _ => rfl)
    · refine (CD.allCons ?_ (CD.allCons ?_ (CD.allCons ?_ (CD.allCons ?_ (CD.allCons ?_ (CD.allCons ?_ (CD.allCons ?_ (CD.allCons ?_ (CD.allCons ?_ (CD.allCons ?_ (CD.allCons ?_ (CD.allCons ?_ (CD.allCons ?_ (CD.allCons ?_ (CD.allCons ?_ (CD.allCons ?_ (CD.allCons ?_ (CD.allCons ?_ CD.allNil)))))))))))))))))) <;> k_is
