import PyProof.Rows.All
import Wide.All
import OpenK.AllK
import Wide.FinOn
import KE.KStateDown
import HandS.ForMost
import HandS.Exc
import HandS.ExcOwn
import HandS.TupAny
import HandS.TupMul
import HandS.Deep
import HandS.IsInst
import HandS.Conv
import HandS.Style
import HandS.Walk
import HandS.Defaults
import HandS.DictComp
import HandS.SortInts
import KE.KDictKeyed
import KE.KDictCopyH
import KE.KDictWalk
import KE.GoesEnum
import KE.DataFind
import HandS.Strs
import HandS.WordsDict
import KE.KDictDisplayH
import HandS.CallSlots
import HandS.ExcIs
import HandS.Head0
import HandS.Head1
import HandS.Head2
import HandS.HeadEnd
import HandS.HeadHook1
import HandS.HeadHook2
import PyProof.ExcBaseAll.ValueError
import PySem.Challenge.RW_waypolicies_k11_whole_follow
/-! An evaluator of my own for the part of Python that the package and its laws use. -/
set_option linter.all false
set_option Elab.async false
namespace G8

inductive D where
  | non
  | bl (b : Bool)
  | int (i : Int)
  | str (x : List Nat)
  | tup (xs : List D)
  | lst (xs : List D)
  | scr (xs : List D)
  | dct (ks vs : List D)
  | ref (n : Nat)
  | exc (c : Nat)
  deriving Inhabited

mutual
def D.eqv : D → D → Bool
  | .non, .non => true
  | .bl a, .bl b => a == b
  | .bl a, .int j => (if a then (1 : Int) else 0) == j
  | .int i, .bl b => i == (if b then (1 : Int) else 0)
  | .int i, .int j => i == j
  | .str x, .str y => x == y
  | .tup xs, .tup ys => D.eqvs xs ys
  | .lst xs, .lst ys => D.eqvs xs ys
  | _, _ => false
def D.eqvs : List D → List D → Bool
  | [], [] => true
  | x :: xs, y :: ys => D.eqv x y && D.eqvs xs ys
  | _, _ => false
end

mutual
/-- plain data of depth below n -/
def D.fit : Nat → D → Bool
  | _, .non => true
  | _, .bl _ => true
  | _, .int _ => true
  | _, .str x => x.all fun c => decide (c < 1114112)
  | n + 1, .tup xs => D.fits n xs
  | n + 1, .lst xs => D.fits n xs
  | _, _ => false
def D.fits : Nat → List D → Bool
  | _, [] => true
  | n, x :: xs => D.fit n x && D.fits n xs
end

mutual
/-- no reference within -/
def D.nr : D → Bool
  | .ref _ => false
  | .tup xs => D.nrs xs
  | .lst xs => D.nrs xs
  | .scr xs => D.nrs xs
  | .dct ks vs => D.nrs ks && D.nrs vs
  | _ => true
def D.nrs : List D → Bool
  | [] => true
  | x :: xs => D.nr x && D.nrs xs
end
/-- a reference, or none within -/
def D.top : D → Bool
  | .ref _ => true
  | d => D.nr d
def refLt (n : Nat) : D → Bool
  | .ref m => decide (m < n)
  | _ => true

/-- what the store holds; a list's flag: no reference among its items -/
inductive O where
  | lst (fl : Bool) (xs : List D)
  | dct (ks vs : List D)
  | ins (c : Nat) (fs : List (Nat × D))
  | dead
  deriving Inhabited

abbrev Sto := List O
abbrev Sl := List (Option D)
abbrev LIM : Nat := 16777216

inductive R (α : Type) where
  | ok (a : α) (h : Sto)
  | err (c : Nat) (h : Sto)
  | stuck
def R.bind {α β : Type} (r : R α) (f : α → Sto → R β) : R β := match r with
  | .ok a h => f a h
  | .err c h => .err c h
  | .stuck => .stuck

inductive F where
  | next (σ : Sl) (h : Sto)
  | ret (d : D) (h : Sto)
  | brk (σ : Sl) (h : Sto)
  | cnt (σ : Sl) (h : Sto)
  | err (c : Nat) (σ : Sl) (h : Sto)
  | stuck
/-- a statement's expression -/
def R.to {α : Type} (r : R α) (σ : Sl) (f : α → Sto → F) : F := match r with
  | .ok a h => f a h
  | .err c h => .err c σ h
  | .stuck => .stuck
def F.then (r : F) (f : Sl → Sto → F) : F := match r with
  | .next σ h => f σ h
  | x => x

inductive BOp where
  | add | sub | mul | fdiv | mod | pow
  deriving DecidableEq
inductive COp where
  | eq | ne | lt | le | gt | ge | isin | notin
  deriving DecidableEq
inductive Ty where
  | int | bool | str | tuple | list
  | exc (c : Nat)
  | verr
  deriving DecidableEq
/-- built-in functions -/
inductive Bi where
  | len | all | any | sum | max | min | sorted | tuple | list | str | int
  deriving DecidableEq
/-- methods of built-in types -/
inductive Mb where
  | append | pop | popAt | index | count | remove | join | split
  deriving DecidableEq

inductive IE where
  | cst (d : D)
  | var (i : Nat)
  | bin (op : BOp) (a b : IE)
  | neg (a : IE)
  | cmp (op : COp) (a b : IE)
  | chn (o1 o2 : COp) (a b c : IE)
  | isn (pos : Bool) (a : IE)
  | isb (pos : Bool) (v : Bool) (a : IE)
  | not (a : IE)
  | and (a b : IE)
  | or (a b : IE)
  | ite (c a b : IE)
  | tup (es : List IE)
  | lst (es : List IE)
  | idx (a b : IE)
  | sl (a : IE) (lo hi : Option IE)
  | rev (a : IE)
  | bi (b : Bi) (es : List IE)
  | call (f : Nat) (es : List IE)
  | mb (m : Mb) (a : IE) (es : List IE)
  | mu (m : Nat) (a : IE) (es : List IE)
  | mk (c : Nat) (es : List IE)
  | fld (a : IE) (f : Nat)
  | isi (a : IE) (t : Ty)
  | comp (tg it : IE) (ifs : List IE) (elt : IE) (own : List Nat)
  | comp2 (tg it : IE) (ifs : List IE) (tg1 it1 : IE) (ifs1 : List IE) (elt : IE) (own own1 : List Nat)
  | dlen (tg it : IE) (k v : IE) (own : List Nat)
  | mut (a : IE)
  | rng1 (a : IE)
  | rng2 (a b : IE)
  | enm (a : IE)
  | unk
  | dnew
  | ddis (k v : IE)
  | dcmp (tg it k v : IE) (own : List Nat)
  | didx (a b : IE)
  | din (pos : Bool) (a b : IE)
  | dln (a : IE)
  | dks (a : IE)
  | dls (a : IE)
  | dst (a : IE)
  | sset (a : IE)
  | lset (a : IE)
  | skey (a : IE) (f : Nat)
  | mrk (a : IE)
  | fst (es : List IE)
  | leno (m : Nat) (a : IE)
  | sjoin (a b : IE)
  | ssplit (a b : IE)
  | sstr (a : IE)
  | sint (a : IE)
  | ssl (a : IE) (lo hi : Option IE)
  | sin (pos : Bool) (a b : IE)
  | lrem (a b : IE)
  | maxt (a : IE)
  | tin (pos : Bool) (a b : IE)
  deriving Inhabited

inductive IS where
  | asg (t : IE) (e : IE)
  | par (ts : List Nat) (es : List IE)
  | aug (i : Nat) (op : BOp) (e : IE)
  | augf (a : IE) (f : Nat) (op : BOp) (e : IE)
  | exp (e : IE)
  | ret (e : IE)
  | ite (c : IE) (a b : List IS)
  | for_ (t it : IE) (b : List IS)
  | whl (c : IE) (b : List IS)
  | brk
  | cnt
  | pass
  | rse (c : Nat)
  | tryc (b : List IS) (c i j : Nat)
  | unk
  deriving Inhabited

structure Fn where
  np : Nat
  ns : Nat
  keep : Bool
  body : List IS
structure Prg where
  fns : List (Nat × Fn)
  /-- a class's method, by its name's number -/
  meth : List (Nat × Nat × Nat)
  init : List (Nat × Nat)
  /-- exception classes: the second is the first or above it -/
  exm : List (Nat × Nat)

/-! ### values -/
def flatD : D → Bool
  | .non => true
  | .bl _ => true
  | .int _ => true
  | .str _ => true
  | _ => false
def seqOf (h : Sto) : D → Option (List D)
  | .tup xs => some xs
  | .lst xs => some xs
  | .ref n => match h[n]? with
    | some (.lst _ xs) => some xs
    | _ => none
  | _ => none
/-- a list's items, or a reference resolved -/
def lstOf (h : Sto) : D → Option (List D)
  | .lst xs => some xs
  | .ref n => match h[n]? with
    | some (.lst fl xs) => some xs
    | _ => none
  | _ => none
/-- what == looks at -/
def res (h : Sto) : D → D
  | .ref n => match h[n]? with
    | some (.lst fl xs) => .lst xs
    | _ => .ref n
  | .scr xs => .lst xs
  | d => d
def ixN (n : Nat) (i : Int) : Option Nat := if 0 ≤ i then (if i < n then some i.toNat else none) else if -(n : Int) ≤ i then some (i + n).toNat else none
def sIx (n d : Nat) : Option Int → Nat
  | none => d
  | some v => if v < 0 then (v + (n : Int)).toNat else min v.toNat n
def cut {α : Type} (xs : List α) (lo hi : Option Int) : List α := (xs.drop (sIx xs.length 0 lo)).take (sIx xs.length xs.length hi - sIx xs.length 0 lo)
def rg (a b : Int) : List D := (List.range (b - a).toNat).map fun i => D.int (a + (i : Nat))
def small (i : Int) : Bool := decide (-4611686018427387904 ≤ i) && decide (i < 4611686018427387904)
def mulOk (i j : Int) : Bool := (decide (-18446744073709551616 < i) && decide (i < 18446744073709551616)) || (decide (-18446744073709551616 < j) && decide (j < 18446744073709551616))

def binD (op : BOp) (a b : D) (h : Sto) : R D := match op with
  | .add => (match a, b with
    | .int i, .int j => .ok (.int (i + j)) h
    | .str x, .str y => if x.length + y.length ≤ LIM then .ok (.str (x ++ y)) h else .stuck
    | .tup xs, .tup ys => if xs.length + ys.length ≤ LIM then .ok (.tup (xs ++ ys)) h else .stuck
    | x, y => match lstOf h x, lstOf h y with
      | some xs, some ys => if xs.length + ys.length ≤ LIM then .ok (.lst (xs ++ ys)) h else .stuck
      | _, _ => .stuck)
  | .sub => (match a, b with
    | .int i, .int j => .ok (.int (i - j)) h
    | _, _ => .stuck)
  | .mul => (match a, b with
    | .int i, .int j => if mulOk i j then .ok (.int (i * j)) h else .stuck
    | .tup xs, .int k => if 2 ≤ k ∧ k ≤ 1000 ∧ 1 ≤ xs.length ∧ xs.length ≤ 1000 then .ok (.tup (List.replicate k.toNat xs).flatten) h else .stuck
    | x, .int k => match lstOf h x with
      | some xs => if 0 ≤ k ∧ k ≤ 100000 ∧ xs.length ≤ 100 then .ok (.lst (List.replicate k.toNat xs).flatten) h else .stuck
      | none => .stuck
    | _, _ => .stuck)
  | .fdiv => (match a, b with
    | .int i, .int j => if 0 < j ∧ j < 1073741824 then .ok (.int (i / j)) h else .stuck
    | _, _ => .stuck)
  | .mod => (match a, b with
    | .int i, .int j => if 0 < j then .ok (.int (i % j)) h else .stuck
    | _, _ => .stuck)
  | .pow => (match a, b with
    | .int i, .int j => if 0 ≤ j ∧ j ≤ 1000000 ∧ i.natAbs < 18446744073709551616 then .ok (.int (i ^ j.toNat)) h else .stuck
    | _, _ => .stuck)

/-- a op= b -/
def augD (op : BOp) (a b : D) (h : Sto) : R D := match op, a, b with
  | .add, .int i, .int j => .ok (.int (i + j)) h
  | .sub, .int i, .int j => .ok (.int (i - j)) h
  | .mul, .int i, .int j => if mulOk i j then .ok (.int (i * j)) h else .stuck
  | .add, .ref n, y => (match h[n]?, lstOf h y with
    | some (.lst fl xs), some ys => if xs.length + ys.length ≤ LIM ∧ D.nrs ys = true then .ok (.ref n) (h.set n (.lst fl (xs ++ ys))) else .stuck
    | _, _ => .stuck)
  | _, _, _ => .stuck

def inD (x : D) (xs : List D) : Bool := xs.any fun y => D.eqv y x
/-- a in b -/
def contD (a b : D) (h : Sto) : Option Bool := match b with
  | .tup ys => if flatD a && ys.all flatD then some (inD a ys) else none
  | b => match lstOf h b with
    | some ys => if D.fit 40 a && D.fits 40 ys then some (inD a ys) else none
    | none => none
def cmpD (op : COp) (a b : D) (h : Sto) : Option Bool := match op with
  | .eq => if D.fit 40 (res h a) && D.fit 40 (res h b) then some (D.eqv (res h a) (res h b)) else none
  | .ne => if D.fit 40 (res h a) && D.fit 40 (res h b) then some (!D.eqv (res h a) (res h b)) else none
  | .lt => (match a, b with
    | .int i, .int j => some (decide (i < j))
    | _, _ => none)
  | .le => (match a, b with
    | .int i, .int j => some (decide (i ≤ j))
    | _, _ => none)
  | .gt => (match a, b with
    | .int i, .int j => some (decide (j < i))
    | _, _ => none)
  | .ge => (match a, b with
    | .int i, .int j => some (decide (j ≤ i))
    | _, _ => none)
  | .isin => contD a b h
  | .notin => (contD a b h).map not

def insI (x : Int) : List Int → List Int
  | [] => [x]
  | y :: ys => if x ≤ y then x :: y :: ys else y :: insI x ys
def sortI : List Int → List Int
  | [] => []
  | x :: xs => insI x (sortI xs)
def intsD : List D → Option (List Int)
  | [] => some []
  | .int i :: r => (intsD r).map (i :: ·)
  | _ => none
def boolsD : List D → Option (List Bool)
  | [] => some []
  | .bl b :: r => (boolsD r).map (b :: ·)
  | _ => none
def maxI : Int → List Int → Int
  | m, [] => m
  | m, x :: xs => maxI (if m < x then x else m) xs
def minI : Int → List Int → Int
  | m, [] => m
  | m, x :: xs => minI (if x < m then x else m) xs
def idxOf (x : D) : List D → Option Nat
  | [] => none
  | y :: ys => if D.eqv y x then some 0 else (idxOf x ys).map (· + 1)

def biD (b : Bi) (as : List D) (h : Sto) : R D := match b with
  | .len => (match as with
    | [.str x] => if x.length ≤ LIM then .ok (.int x.length) h else .stuck
    | [d] => match seqOf h d with
      | some xs => .ok (.int xs.length) h
      | none => .stuck
    | _ => .stuck)
  | .all => (match as with
    | [d] => match (lstOf h d).bind boolsD with
      | some bs => .ok (.bl (bs.all id)) h
      | none => .stuck
    | _ => .stuck)
  | .any => (match as with
    | [d] => match (lstOf h d).bind boolsD with
      | some bs => .ok (.bl (bs.any id)) h
      | none => .stuck
    | _ => .stuck)
  | .sum => (match as with
    | [d] => match (lstOf h d).bind intsD with
      | some ns => .ok (.int ns.sum) h
      | none => .stuck
    | _ => .stuck)
  | .max => (match as with
    | [.int i, .int j] => .ok (.int (if j > i then j else i)) h
    | [d] => match (lstOf h d).bind intsD with
      | some (n :: ns) => .ok (.int (maxI n ns)) h
      | _ => .stuck
    | _ => .stuck)
  | .min => (match as with
    | [.int i, .int j] => .ok (.int (if j < i then j else i)) h
    | [d] => match (lstOf h d).bind intsD with
      | some (n :: ns) => .ok (.int (minI n ns)) h
      | _ => .stuck
    | _ => .stuck)
  | .sorted => (match as with
    | [d] => match (seqOf h d).bind intsD with
      | some ns => .ok (.lst ((sortI ns).map .int)) h
      | none => .stuck
    | _ => .stuck)
  | .tuple => (match as with
    | [d] => match seqOf h d with
      | some xs => .ok (.tup xs) h
      | none => .stuck
    | _ => .stuck)
  | .list => (match as with
    | [.scr xs] => .ok (.lst xs) h
    | [d] => match seqOf h d with
      | some xs => .ok (.lst xs) h
      | none => .stuck
    | _ => .stuck)
  | _ => .stuck

def mbD (m : Mb) (x : D) (as : List D) (h : Sto) : R D := match m with
  | .append => (match x, as with
    | .ref n, [y] => (match h[n]? with
      | some (.lst fl xs) => if xs.length < LIM ∧ D.top y = true then .ok .non (h.set n (.lst (fl && D.nr y) (xs ++ [y]))) else .stuck
      | _ => .stuck)
    | _, _ => .stuck)
  | .pop => (match x, as with
    | .ref n, [] => (match h[n]? with
      | some (.lst fl xs) => (match xs[xs.length - 1]? with
        | some y => .ok y (h.set n (.lst fl xs.dropLast))
        | none => .stuck)
      | _ => .stuck)
    | _, _ => .stuck)
  | .popAt => (match x, as with
    | .ref n, [.int i] => if small i then (match h[n]? with
      | some (.lst fl xs) => (match ixN xs.length i with
        | some k => (match xs[k]? with
          | some y => .ok y (h.set n (.lst fl (xs.eraseIdx k)))
          | none => .stuck)
        | none => .stuck)
      | _ => .stuck) else .stuck
    | _, _ => .stuck)
  | .index => (match as with
    | [y] => (match contD y x h, seqOf h x with
      | some true, some xs => (match idxOf y xs with
        | some k => .ok (.int (k : Nat)) h
        | none => .stuck)
      | _, _ => .stuck)
    | _ => .stuck)
  | .count => (match as with
    | [y] => (match lstOf h x with
      | some xs => if D.fit 40 y && D.fits 40 xs then .ok (.int (xs.countP fun z => D.eqv z y : Nat)) h else .stuck
      | none => .stuck)
    | _ => .stuck)
  | _ => .stuck

/-- whose method it can be -/
def mbPre (h : Sto) (x : D) : Mb → Bool
  | .index => (match x with
    | .tup _ => true
    | x => (lstOf h x).isSome)
  | .join => (match x with
    | .str _ => true
    | _ => false)
  | .split => (match x with
    | .str _ => true
    | _ => false)
  | _ => (lstOf h x).isSome

def isiD (P : Prg) (h : Sto) (d : D) (t : Ty) : Option Bool := match d with
  | .non => (match t with
    | .exc _ => none
    | .verr => none
    | _ => some false)
  | .bl _ => (match t with
    | .bool => some true
    | .int => some true
    | .exc _ => none
    | .verr => none
    | _ => some false)
  | .int _ => (match t with
    | .int => some true
    | .exc _ => none
    | .verr => none
    | _ => some false)
  | .str _ => (match t with
    | .str => some true
    | .exc _ => none
    | .verr => none
    | _ => some false)
  | .tup _ => (match t with
    | .tuple => some true
    | .exc _ => none
    | .verr => none
    | _ => some false)
  | .lst _ => (match t with
    | .list => some true
    | .exc _ => none
    | .verr => none
    | _ => some false)
  | .ref n => (match h[n]? with
    | some (.lst _ _) => (match t with
      | .list => some true
      | .exc _ => none
      | .verr => none
      | _ => some false)
    | _ => none)
  | .exc c => (match t with
    | .exc c' => if P.exm.contains (c, c) then some (P.exm.contains (c, c')) else none
    | .verr => if P.exm.contains (c, c) then some true else none
    | _ => none)
  | _ => none

def idxD (a b : D) (h : Sto) : R D := match a, b with
  | .str x, .int i => (match ixN x.length i with
    | some k => (match x[k]? with
      | some c => if x.length ≤ LIM then .ok (.str [c]) h else .stuck
      | none => .stuck)
    | none => .stuck)
  | a, .int i => (match seqOf h a with
    | some xs => (match ixN xs.length i with
      | some k => (match xs[k]? with
        | some y => .ok y h
        | none => .stuck)
      | none => .stuck)
    | none => .stuck)
  | _, _ => .stuck
def slD (a : D) (lo hi : Option Int) (h : Sto) : R D := match a with
  | .tup xs => .ok (.tup (cut xs lo hi)) h
  | a => match lstOf h a with
    | some xs => .ok (.lst (cut xs lo hi)) h
    | none => .stuck
def revD (a : D) (h : Sto) : R D := match lstOf h a with
  | some xs => .ok (.lst xs.reverse) h
  | none => .stuck

def putF (f : Nat) (v : D) : List (Nat × D) → List (Nat × D)
  | [] => [(f, v)]
  | (g, x) :: r => if g = f then (g, v) :: r else (g, x) :: putF f v r
def fldD (a : D) (f : Nat) (h : Sto) : R D := match a with
  | .ref n => (match h[n]? with
    | some (.ins _ fs) => (match fs.lookup f with
      | some v => .ok v h
      | none => .stuck)
    | _ => .stuck)
  | _ => .stuck
def setFldD (a : D) (f : Nat) (v : D) (h : Sto) : R Unit := match a with
  | .ref n => (match h[n]? with
    | some (.ins c fs) => if fs.length < 100 ∧ D.top v = true then .ok () (h.set n (.ins c (putF f v fs))) else .stuck
    | _ => .stuck)
  | _ => .stuck
def setIdxD (a b v : D) (h : Sto) : R Unit := match a, b with
  | .ref n, .int i => (match h[n]? with
    | some (.lst fl xs) => (match ixN xs.length i with
      | some k => if D.top v then .ok () (h.set n (.lst (fl && D.nr v) (xs.set k v))) else .stuck
      | none => .stuck)
    | _ => .stuck)
  | _, _ => .stuck

/-! dicts: keys without lists, values without references -/
mutual
def D.kf : Nat → D → Bool
  | _, .non => true
  | _, .bl _ => true
  | _, .int _ => true
  | _, .str x => x.all fun c => decide (c < 1114112)
  | n + 1, .tup xs => D.kfs n xs
  | _, _ => false
def D.kfs : Nat → List D → Bool
  | _, [] => true
  | n, x :: xs => D.kf n x && D.kfs n xs
end
def dctOf (h : Sto) : D → Option (List D × List D)
  | .ref n => match h[n]? with
    | some (.dct ks vs) => some (ks, vs)
    | _ => none
  | _ => none
def lkD (k : D) : List D → List D → Option D
  | a :: ks, v :: vs => if D.eqv a k then some v else lkD k ks vs
  | _, _ => none
def pKs (k : D) : List D → List D
  | [] => [k]
  | a :: ks => if D.eqv a k then a :: ks else a :: pKs k ks
def pVs (k v : D) : List D → List D → List D
  | a :: ks, x :: vs => if D.eqv a k then v :: vs else x :: pVs k v ks vs
  | _, _ => [v]
/-- the kinds of keys: tuples, ints, bools -/
def kdOf : D → Nat
  | .tup _ => 0
  | .int _ => 1
  | .bl _ => 2
  | _ => 3
def dkey (d : D) : Bool := D.kf 6 d && decide (kdOf d < 3)
/-- a key of the kind of the others -/
def dsame (b : D) (ks : List D) : Bool := dkey b && ks.all fun k => kdOf k == kdOf b
def setD (a b v : D) (h : Sto) : R Unit := match a with
  | .ref n => (match h[n]? with
    | some (.dct ks vs) => if dsame b ks && D.nr v && decide (ks.length < LIM) then .ok () (h.set n (.dct (pKs b ks) (pVs b v ks vs))) else .stuck
    | _ => .stuck)
  | _ => .stuck
def getD_ (a b : D) (h : Sto) : R D := match dctOf h a with
  | some (ks, vs) => if dsame b ks then (match lkD b ks vs with
    | some v => .ok v h
    | none => .stuck) else .stuck
  | none => .stuck
def insB (x : Bool) : List Bool → List Bool
  | [] => [x]
  | y :: ys => if !x || y then x :: y :: ys else y :: insB x ys
def sortB : List Bool → List Bool
  | [] => []
  | x :: xs => insB x (sortB xs)
/-- sorted(..) of ints alone, of bools alone -/
def sortD (xs : List D) : Option (List D) := match intsD xs with
  | some ns => some ((sortI ns).map .int)
  | none => (match boolsD xs with
    | some bs => some ((sortB bs).map .bl)
    | none => none)
def ltL : List Int → List Int → Bool
  | x :: xs, y :: ys => if x = y then ltL xs ys else decide (x < y)
  | [], _ :: _ => true
  | _, _ => false
def tupI : D → Option (List Int)
  | .tup xs => intsD xs
  | _ => none
def tupsI : List D → Option (List (List Int))
  | [] => some []
  | x :: xs => (tupI x).bind fun n => (tupsI xs).map (n :: ·)
def insL (x : List Int) : List (List Int) → List (List Int)
  | [] => [x]
  | y :: ys => if ltL y x then y :: insL x ys else x :: y :: ys
def sortL : List (List Int) → List (List Int)
  | [] => []
  | x :: xs => insL x (sortL xs)
def dedup : List D → List D
  | [] => []
  | x :: xs => if inD x (dedup xs) then dedup xs else x :: dedup xs
def insKV (x : List Int × D) : List (List Int × D) → List (List Int × D)
  | [] => [x]
  | y :: ys => if ltL y.1 x.1 then y :: insKV x ys else x :: y :: ys
def sortKV : List (List Int × D) → List (List Int × D)
  | [] => []
  | x :: xs => insKV x (sortKV xs)
def distinctL : List (List Int) → Bool
  | [] => true
  | x :: xs => !(xs.contains x) && distinctL xs
/-! texts -/
def strsD : List D → Option (List (List Nat))
  | [] => some []
  | .str x :: r => (strsD r).map (x :: ·)
  | _ => none
def joinL (s : List Nat) : List (List Nat) → List Nat
  | [] => []
  | [x] => x
  | x :: y :: r => x ++ s ++ joinL s (y :: r)
def splitL (c : Nat) : List Nat → List (List Nat)
  | [] => [[]]
  | x :: xs => if x = c then [] :: splitL c xs else (match splitL c xs with
    | y :: ys => (x :: y) :: ys
    | [] => [[x]])
def digN (n : Nat) : List Nat := (Nat.toDigits 10 n).map fun c => c.toNat
def strI (i : Int) : List Nat := if i < 0 then 45 :: digN i.natAbs else digN i.natAbs
def isDig (c : Nat) : Bool := decide (48 ≤ c) && decide (c ≤ 57)
def numN (xs : List Nat) : Nat := xs.foldl (fun a c => a * 10 + (c - 48)) 0
/-- a part of a text f".." -/
def fstD (d : D) : Option (List Nat) := match d with
  | .str x => some x
  | .int i => if decide (i.natAbs < 1000000000000000000000) then some (strI i) else none
  | _ => none

def fzL (f : D → Option D) : List D → Option (List D)
  | [] => some []
  | x :: xs => (f x).bind fun y => (fzL f xs).map (y :: ·)
/-- a value that leaves a def: the def's own lists become values -/
def fz (h : Sto) (n0 : Nat) : Nat → D → Option D
  | _, .non => some .non
  | _, .bl b => some (.bl b)
  | _, .int i => some (.int i)
  | _, .str x => some (.str x)
  | _, .exc c => some (.exc c)
  | k + 1, .tup xs => (fzL (fz h n0 k) xs).map .tup
  | k + 1, .lst xs => (fzL (fz h n0 k) xs).map .lst
  | k + 1, .ref n => if n < n0 then some (.ref n) else match h[n]? with
    | some (.lst fl xs) => (fzL (fz h n0 k) xs).map .lst
    | _ => none
  | _, _ => none

/-! ### the machine -/
structure Ev where
  e : Nat → IE → Sl → Sto → R D
  s : Nat → IS → Sl → Sto → F
  c : Nat → Nat → List D → Sto → R D
def Ev.bot : Ev := ⟨fun _ _ _ _ => .stuck, fun _ _ _ _ => .stuck, fun _ _ _ _ => .stuck⟩

def evs (e : IE → Sl → Sto → R D) : List IE → Sl → Sto → R (List D)
  | [], _, h => .ok [] h
  | x :: xs, σ, h => (e x σ h).bind fun d h1 => (evs e xs σ h1).bind fun ds h2 => .ok (d :: ds) h2
def evO (e : IE → Sl → Sto → R D) : Option IE → Sl → Sto → R (Option Int)
  | none, _, h => .ok none h
  | some x, σ, h => (e x σ h).bind fun d h1 => match d with
    | .int i => .ok (some i) h1
    | _ => .stuck
def wipe (σ : Sl) : List Nat → Sl
  | [] => σ
  | v :: vs => (wipe σ vs).set v none
/-- what a loop walks: the items, or a list that may change -/
inductive Itv where
  | items (xs : List D)
  | dyn (n : Nat) (en : Bool)
  | dct (n l : Nat)
def enumD : Nat → List D → List D
  | _, [] => []
  | i, x :: xs => .tup [.int i, x] :: enumD (i + 1) xs
def itOf (h : Sto) (en : Bool) : D → Option Itv
  | .tup xs => some (.items (if en then enumD 0 xs else xs))
  | .lst xs => some (.items (if en then enumD 0 xs else xs))
  | .ref n => if en then none else match h[n]? with
    | some (.lst _ _) => some (.dyn n en)
    | _ => none
  | .str x => if en then none else some (.items (x.map fun c => .str [c]))
  | _ => none
def evIt (e : IE → Sl → Sto → R D) (it : IE) (σ : Sl) (h : Sto) : R Itv := match it with
  | .rng1 a => (e a σ h).bind fun d h1 => match d with
    | .int j => if small j then .ok (.items (rg 0 j)) h1 else .stuck
    | _ => .stuck
  | .rng2 a b => (e a σ h).bind fun d h1 => (e b σ h1).bind fun d2 h2 => match d, d2 with
    | .int i, .int j => if small i && small j then .ok (.items (rg i j)) h2 else .stuck
    | _, _ => .stuck
  | .enm a => (e a σ h).bind fun d h1 => match itOf h1 true d with
    | some x => .ok x h1
    | none => .stuck
  | .dks a => (e a σ h).bind fun d h1 => match d with
    | .ref n => (match h1[n]? with
      | some (.dct ks _) => .ok (.dct n ks.length) h1
      | _ => .stuck)
    | _ => .stuck
  | a => (e a σ h).bind fun d h1 => match itOf h1 false d with
    | some x => .ok x h1
    | none => .stuck
/-- names alone -/
def asgV : IE → D → Sl → Option Sl
  | .var i, d, σ => some (σ.set i (some d))
  | _, _, _ => none
def asgVs : List IE → List D → Sl → Option Sl
  | [], [], σ => some σ
  | t :: ts, d :: ds, σ => (asgV t d σ).bind fun σ1 => asgVs ts ds σ1
  | _, _, _ => none
/-- a comprehension's target -/
def asgC : IE → D → Sl → Option Sl
  | .tup ts, .tup ds, σ => asgVs ts ds σ
  | .var i, d, σ => some (σ.set i (some d))
  | _, _, _ => none
def asg1 (e : IE → Sl → Sto → R D) (t : IE) (d : D) (σ : Sl) (h : Sto) : R Sl := match t with
  | .var i => .ok (σ.set i (some d)) h
  | .fld a f => (e a σ h).bind fun x h1 => (setFldD x f d h1).bind fun _ h2 => .ok σ h2
  | .idx a b => (e a σ h).bind fun x h1 => (e b σ h1).bind fun y h2 => (setIdxD x y d h2).bind fun _ h3 => .ok σ h3
  | .didx a b => (e a σ h).bind fun x h1 => (e b σ h1).bind fun y h2 => (setD x y d h2).bind fun _ h3 => .ok σ h3
  | _ => .stuck
def asgs (e : IE → Sl → Sto → R D) : List IE → List D → Sl → Sto → R Sl
  | [], [], σ, h => .ok σ h
  | t :: ts, d :: ds, σ, h => (asg1 e t d σ h).bind fun σ1 h1 => asgs e ts ds σ1 h1
  | _, _, _, _ => .stuck
def asgT (e : IE → Sl → Sto → R D) (t : IE) (d : D) (σ : Sl) (h : Sto) : R Sl := match t with
  | .tup ts => (match d with
    | .tup ds => asgs e ts ds σ h
    | _ => .stuck)
  | t => asg1 e t d σ h
def setAll : List Nat → List D → Sl → Sl
  | i :: is, d :: ds, σ => setAll is ds (σ.set i (some d))
  | _, _, σ => σ
/-- the tests of a clause -/
def tests (e : IE → Sl → Sto → R D) : List IE → Sl → Sto → R Bool
  | [], _, h => .ok true h
  | [t], σ, h => (e t σ h).bind fun d h1 => match d with
    | .bl b => .ok b h1
    | _ => .stuck
  | _, _, _ => .stuck
/-- no exception leaves a comprehension -/
def R.noErr {α : Type} : R α → R α
  | .err _ _ => .stuck
  | r => r
/-- one turn: none where a test says no -/
def turn (e : IE → Sl → Sto → R D) (tg : IE) (ifs : List IE) (elt : IE) (σ : Sl) (x : D) (h : Sto) : R (Option D) := match asgC tg x σ with
  | some σ1 => (tests e ifs σ1 h).bind fun b h1 => if b then (e elt σ1 h1).bind fun y h2 => .ok (some y) h2 else .ok none h1
  | none => .stuck
def compS (t : D → Sto → R (Option D)) : List D → List D → Sto → R (List D)
  | [], acc, h => .ok acc h
  | x :: xs, acc, h => (t x h).bind fun o h1 => match o with
    | some y => if acc.length < LIM then compS t xs (acc ++ [y]) h1 else .stuck
    | none => compS t xs acc h1
def itemAt (h : Sto) (n : Nat) (en : Bool) (i : Nat) : Option (Option D) := match h[n]? with
  | some (.lst fl xs) => match xs[i]? with
    | some x => some (some (if en then .tup [.int i, x] else x))
    | none => some none
  | _ => none
def compD (t : D → Sto → R (Option D)) (n : Nat) (en : Bool) : Nat → Nat → List D → Sto → R (List D)
  | k, i, acc, h => match itemAt h n en i with
    | some none => .ok acc h
    | some (some x) => (match k with
      | 0 => .stuck
      | k + 1 => (t x h).bind fun o h1 => match o with
        | some y => if acc.length < LIM then compD t n en k (i + 1) (acc ++ [y]) h1 else .stuck
        | none => compD t n en k (i + 1) acc h1)
    | none => .stuck
def lenAt (h : Sto) (n : Nat) : Nat := match h[n]? with
  | some (.lst fl xs) => xs.length
  | _ => 0
def compI (t : D → Sto → R (Option D)) (it : Itv) (acc : List D) (h : Sto) : R (List D) := match it with
  | .items xs => compS t xs acc h
  | .dyn n en => compD t n en (lenAt h n) 0 acc h
  | .dct _ _ => .stuck
/-- a second clause within a turn: the list so far goes through -/
def turn2 (e : IE → Sl → Sto → R D) (tg : IE) (ifs : List IE) (tg1 it1 : IE) (ifs1 : List IE) (elt : IE) (own1 : List Nat) (σ : Sl) (x : D) (acc : List D) (h : Sto) : R (List D) := match asgC tg x σ with
  | some σ1 => (tests e ifs σ1 h).bind fun b h1 => if b then (evIt e it1 σ1 h1).bind fun it h2 => compI (turn e tg1 ifs1 elt (wipe σ1 own1)) it acc h2 else .ok acc h1
  | none => .stuck
def comp2S (t : D → List D → Sto → R (List D)) : List D → List D → Sto → R (List D)
  | [], acc, h => .ok acc h
  | x :: xs, acc, h => (t x acc h).bind fun acc1 h1 => comp2S t xs acc1 h1

def blk (s : IS → Sl → Sto → F) : List IS → Sl → Sto → F
  | [], σ, h => .next σ h
  | x :: xs, σ, h => (s x σ h).then fun σ1 h1 => blk s xs σ1 h1
def forS (body : D → Sl → Sto → F) : List D → Sl → Sto → F
  | [], σ, h => .next σ h
  | x :: xs, σ, h => match body x σ h with
    | .next σ1 h1 => forS body xs σ1 h1
    | .cnt σ1 h1 => forS body xs σ1 h1
    | .brk σ1 h1 => .next σ1 h1
    | r => r
def forD (body : D → Sl → Sto → F) (n : Nat) (en : Bool) : Nat → Nat → Sl → Sto → F
  | k, i, σ, h => match itemAt h n en i with
    | some none => .next σ h
    | some (some x) => (match k with
      | 0 => .stuck
      | k + 1 => match body x σ h with
        | .next σ1 h1 => forD body n en k (i + 1) σ1 h1
        | .cnt σ1 h1 => forD body n en k (i + 1) σ1 h1
        | .brk σ1 h1 => .next σ1 h1
        | r => r)
    | none => .stuck
/-- a loop over a dict's keys; the dict keeps its size -/
def keyAt (h : Sto) (n l i : Nat) : Option (Option D) := match h[n]? with
  | some (.dct ks _) => if ks.length = l then some ks[i]? else none
  | _ => none
def forK (body : D → Sl → Sto → F) (n l : Nat) : Nat → Nat → Sl → Sto → F
  | k, i, σ, h => match keyAt h n l i with
    | some none => .next σ h
    | some (some x) => (match k with
      | 0 => .stuck
      | k + 1 => match body x σ h with
        | .next σ1 h1 => forK body n l k (i + 1) σ1 h1
        | .cnt σ1 h1 => forK body n l k (i + 1) σ1 h1
        | .brk σ1 h1 => .next σ1 h1
        | r => r)
    | none => .stuck
def start (fn : Fn) (ds : List D) : Sl := ds.map some ++ List.replicate (fn.ns - ds.length) none
/-- nothing of what was there before points to what goes -/
def okE (n : Nat) : O → Bool
  | .lst true _ => true
  | .lst false xs => xs.all (refLt n)
  | .ins _ fs => fs.all fun p => refLt n p.2
  | .dct _ _ => true
  | .dead => true
def wf (n : Nat) (h : Sto) : Bool := h.all (okE n)
def leave (fn : Fn) (n0 : Nat) (v : D) (h : Sto) : R D := match fn.keep with
  | true => .ok v h
  | false => if wf n0 (h.take n0) then (match fz h n0 12 v with
    | some v' => .ok v' (h.take n0)
    | none => .stuck) else .stuck

/-- the keys of a dict comprehension's dict, each once -/
def addKey (k : D) (ks : List D) : List D := if inD k ks then ks else ks ++ [k]
def leafKey : D → Bool
  | .int _ => true
  | .str _ => true
  | _ => false
def dturn (e : IE → Sl → Sto → R D) (tg : IE) (k v : IE) (σ : Sl) (x : D) (h : Sto) : R D := match asgC tg x σ with
  | some σ1 => (e k σ1 h).bind fun y h1 => (e v σ1 h1).bind fun z h2 => if leafKey y then .ok y h2 else .stuck
  | none => .stuck
def dlenS (t : D → Sto → R D) : List D → List D → Sto → R (List D)
  | [], acc, h => .ok acc h
  | x :: xs, acc, h => (t x h).bind fun y h1 => if acc.length < LIM then dlenS t xs (addKey y acc) h1 else .stuck

/-- a dict comprehension's turns: keys and values so far -/
def dcT (e : IE → Sl → Sto → R D) (tg : IE) (k v : IE) (σ : Sl) (x : D) (h : Sto) : R (D × D) := match asgC tg x σ with
  | some σ1 => (e k σ1 h).bind fun y h1 => (e v σ1 h1).bind fun z h2 => if dkey y && D.nr z then .ok (y, z) h2 else .stuck
  | none => .stuck
def dcS (t : D → Sto → R (D × D)) : List D → List D → List D → Sto → R (List D × List D)
  | [], ks, vs, h => .ok (ks, vs) h
  | x :: xs, ks, vs, h => (t x h).bind fun p h1 => if ks.length < LIM ∧ dsame p.1 ks = true then dcS t xs (pKs p.1 ks) (pVs p.1 p.2 ks vs) h1 else .stuck
def dcD (t : D → Sto → R (D × D)) (n : Nat) : Nat → Nat → List D → List D → Sto → R (List D × List D)
  | k, i, ks, vs, h => match itemAt h n false i with
    | some none => .ok (ks, vs) h
    | some (some x) => (match k with
      | 0 => .stuck
      | k + 1 => (t x h).bind fun p h1 => if ks.length < LIM ∧ dsame p.1 ks = true then dcD t n k (i + 1) (pKs p.1 ks) (pVs p.1 p.2 ks vs) h1 else .stuck)
    | none => .stuck
def dcI (t : D → Sto → R (D × D)) (it : Itv) (h : Sto) : R (List D × List D) := match it with
  | .items xs => dcS t xs [] [] h
  | .dyn n false => dcD t n (lenAt h n) 0 [] [] h
  | _ => .stuck
/-- the keys that a def gives -/
def keysK (c : D → Sto → R D) : List D → Sto → R (List (List Int))
  | [], h => .ok [] h
  | x :: xs, h => (c x h).bind fun y h1 => (match lstOf h1 y with
    | some ys => (match intsD ys with
      | some ns => (keysK c xs h1).bind fun r h2 => .ok (ns :: r) h2
      | none => .stuck)
    | none => .stuck)
section
variable (P : Prg)
def methOf (h : Sto) (m : Nat) : D → Option Nat
  | .ref n => match h[n]? with
    | some (.ins c _) => (P.meth.find? fun p => p.1 == c && p.2.1 == m).map (·.2.2)
    | _ => none
  | _ => none

def stepE (r : Ev) (d : Nat) (e : IE) (σ : Sl) (h : Sto) : R D := match e with
  | .cst c => .ok c h
  | .var i => (match σ[i]? with
    | some (some v) => .ok v h
    | _ => .stuck)
  | .bin op a b => (r.e d a σ h).bind fun x h1 => (r.e d b σ h1).bind fun y h2 => binD op x y h2
  | .neg a => (r.e d a σ h).bind fun x h1 => match x with
    | .int i => .ok (.int (-i)) h1
    | _ => .stuck
  | .cmp op a b => (r.e d a σ h).bind fun x h1 => (r.e d b σ h1).bind fun y h2 => match cmpD op x y h2 with
    | some c => .ok (.bl c) h2
    | none => .stuck
  | .chn o1 o2 a b c => (r.e d a σ h).bind fun x h1 => (r.e d b σ h1).bind fun y h2 => match cmpD o1 x y h2 with
    | some true => (r.e d c σ h2).bind fun z h3 => (match cmpD o2 y z h3 with
      | some c => .ok (.bl c) h3
      | none => .stuck)
    | some false => .ok (.bl false) h2
    | none => .stuck
  | .isn pos a => (r.e d a σ h).bind fun x h1 => match x with
    | .non => .ok (.bl pos) h1
    | _ => .ok (.bl (!pos)) h1
  | .isb pos v a => (r.e d a σ h).bind fun x h1 => match x with
    | .bl c => .ok (.bl (if pos then c == v else !(c == v))) h1
    | _ => .stuck
  | .not a => (r.e d a σ h).bind fun x h1 => match x with
    | .bl c => .ok (.bl (!c)) h1
    | _ => .stuck
  | .and a b => (r.e d a σ h).bind fun x h1 => match x with
    | .bl true => r.e d b σ h1
    | .bl false => .ok (.bl false) h1
    | _ => .stuck
  | .or a b => (r.e d a σ h).bind fun x h1 => match x with
    | .bl true => .ok (.bl true) h1
    | .bl false => r.e d b σ h1
    | _ => .stuck
  | .ite c a b => (r.e d c σ h).bind fun x h1 => match x with
    | .bl true => r.e d a σ h1
    | .bl false => r.e d b σ h1
    | _ => .stuck
  | .tup es => (evs (r.e d) es σ h).bind fun xs h1 => .ok (.tup xs) h1
  | .lst es => (evs (r.e d) es σ h).bind fun xs h1 => .ok (.lst xs) h1
  | .idx a b => (r.e d a σ h).bind fun x h1 => (r.e d b σ h1).bind fun y h2 => idxD x y h2
  | .sl a lo hi => (r.e d a σ h).bind fun x h1 => (evO (r.e d) lo σ h1).bind fun l h2 => (evO (r.e d) hi σ h2).bind fun u h3 => slD x l u h3
  | .rev a => (r.e d a σ h).bind fun x h1 => revD x h1
  | .bi b es => (match b, es with
    | .list, [.rng1 a] => (r.e d a σ h).bind fun x h1 => (match x with
      | .int j => if 0 ≤ j ∧ j ≤ 16777216 then .ok (.lst (rg 0 j)) h1 else .stuck
      | _ => .stuck)
    | .tuple, [.rng1 a] => (r.e d a σ h).bind fun x h1 => (match x with
      | .int j => if 0 ≤ j ∧ j ≤ 16777216 then .ok (.tup (rg 0 j)) h1 else .stuck
      | _ => .stuck)
    | b, es => (evs (r.e d) es σ h).bind fun xs h1 => biD b xs h1)
  | .call f es => (evs (r.e d) es σ h).bind fun xs h1 => r.c d f xs h1
  | .mb m a es => (r.e d a σ h).bind fun x h1 => if mbPre h1 x m then (evs (r.e d) es σ h1).bind fun xs h2 => mbD m x xs h2 else .stuck
  | .mu m a es => (r.e d a σ h).bind fun x h1 => match methOf P h1 m x with
    | some f => (evs (r.e d) es σ h1).bind fun xs h2 => r.c d f (x :: xs) h2
    | none => .stuck
  | .mk c es => (match P.init.lookup c, d with
    | some f, d' + 1 => (evs (r.e (d' + 1)) es σ h).bind fun xs h1 => (r.c d' f (.ref h1.length :: xs) (h1 ++ [.ins c []])).bind fun v h2 => (match v with
      | .non => .ok (.ref h1.length) h2
      | _ => .stuck)
    | _, _ => .stuck)
  | .fld a f => (r.e d a σ h).bind fun x h1 => fldD x f h1
  | .isi a t => (r.e d a σ h).bind fun x h1 => match isiD P h1 x t with
    | some b => .ok (.bl b) h1
    | none => .stuck
  | .comp tg it ifs elt own => (evIt (r.e d) it σ h).bind fun it h1 => (compI (turn (r.e d) tg ifs elt (wipe σ own)) it [] h1).noErr.bind fun xs h2 => .ok (.lst xs) h2
  | .comp2 tg it ifs tg1 it1 ifs1 elt own own1 => (evIt (r.e d) it σ h).bind fun it h1 => match it with
    | .items xs => (comp2S (turn2 (r.e d) tg ifs tg1 it1 ifs1 elt own1 (wipe σ own)) xs [] h1).noErr.bind fun ys h2 => .ok (.lst ys) h2
    | _ => .stuck
  | .dlen tg it k v own => (evIt (r.e d) it σ h).bind fun it h1 => match it with
    | .items xs => (dlenS (dturn (r.e d) tg k v (wipe σ own)) xs [] h1).noErr.bind fun ks h2 => .ok (.int (ks.length : Nat)) h2
    | _ => .stuck
  | .mut a => (r.e d a σ h).bind fun x h1 => match x with
    | .lst xs => if D.nrs xs then .ok (.ref h1.length) (h1 ++ [.lst true xs]) else if xs.all D.top then .ok (.ref h1.length) (h1 ++ [.lst false xs]) else .stuck
    | _ => .stuck
  | .dnew => .ok (.ref h.length) (h ++ [.dct [] []])
  | .ddis k v => (r.e d k σ h).bind fun x h1 => (r.e d v σ h1).bind fun y h2 => if dkey x && D.nr y && decide (kdOf x = 0) then .ok (.ref h2.length) (h2 ++ [.dct [x] [y]]) else .stuck
  | .dcmp tg it k v own => (evIt (r.e d) it σ h).bind fun it h1 => (dcI (dcT (r.e d) tg k v (wipe σ own)) it h1).noErr.bind fun p h2 => .ok (.ref h2.length) (h2 ++ [.dct p.1 p.2])
  | .didx a b => (r.e d a σ h).bind fun x h1 => (r.e d b σ h1).bind fun y h2 => getD_ x y h2
  | .din pos a b => (r.e d a σ h).bind fun x h1 => (r.e d b σ h1).bind fun y h2 => (match dctOf h2 y with
    | some (ks, _) => if dsame x ks then .ok (.bl (if pos then inD x ks else !(inD x ks))) h2 else .stuck
    | none => .stuck)
  | .dln a => (r.e d a σ h).bind fun x h1 => (match dctOf h1 x with
    | some (ks, _) => .ok (.int ks.length) h1
    | none => .stuck)
  | .dls a => (r.e d a σ h).bind fun x h1 => (match dctOf h1 x with
    | some (ks, _) => .ok (.lst ks) h1
    | none => .stuck)
  | .dst a => (r.e d a σ h).bind fun x h1 => (match dctOf h1 x with
    | some (ks, _) => if ks.length < 64 then (match sortD ks with
      | some ys => .ok (.lst ys) h1
      | none => .stuck) else .stuck
    | none => .stuck)
  | .sset a => (r.e d a σ h).bind fun x h1 => (match lstOf h1 x with
    | some xs => if (dedup xs).length < 64 then (match sortD (dedup xs) with
      | some ys => .ok (.lst ys) h1
      | none => (match tupsI (dedup xs) with
        | some ns => .ok (.lst ((sortL ns).map fun n => .tup (n.map .int))) h1
        | none => .stuck)) else .stuck
    | none => .stuck)
  | .lset a => (r.e d a σ h).bind fun x h1 => (match lstOf h1 x with
    | some xs => if xs.all dkey then .ok (.int (dedup xs).length) h1 else .stuck
    | none => .stuck)
  | .skey a f => (r.e d a σ h).bind fun x h1 => (match lstOf h1 x with
    | some xs => (keysK (fun y h2 => r.c d f [y] h2) xs h1).noErr.bind fun ks h2 => if distinctL ks then .ok (.lst ((sortKV (ks.zip xs)).map (·.2))) h2 else .stuck
    | none => .stuck)
  | .mrk a => (r.e d a σ h).bind fun x h1 => (match x with
    | .bl true => .ok (.str [43]) h1
    | .bl false => .ok (.str [45]) h1
    | .non => .ok (.str [63]) h1
    | _ => .stuck)
  | .fst es => (evs (r.e d) es σ h).bind fun xs h1 => (match xs.mapM fstD with
    | some ys => if ys.flatten.length ≤ 100000 then .ok (.str ys.flatten) h1 else .stuck
    | none => .stuck)
  | .leno m a => (match d with
    | d' + 1 => (r.e (d' + 1) a σ h).bind fun x h1 => (match methOf P h1 m x with
      | some f => (r.c d' f [x] h1).bind fun v h2 => (match v with
        | .int i => if 0 ≤ i ∧ i < 1000000 then .ok (.int i) h2 else .stuck
        | _ => .stuck)
      | none => .stuck)
    | 0 => .stuck)
  | .sjoin a b => (r.e d a σ h).bind fun x h1 => (r.e d b σ h1).bind fun y h2 => (match x, lstOf h2 y with
    | .str s, some ys => (match strsD ys with
      | some zs => if (zs.map (·.length)).sum + zs.length * s.length ≤ 16777216 then .ok (.str (joinL s zs)) h2 else .stuck
      | none => .stuck)
    | _, _ => .stuck)
  | .ssplit a b => (r.e d a σ h).bind fun x h1 => (r.e d b σ h1).bind fun y h2 => (match x, y with
    | .str s, .str [c] => if s.length + 2 ≤ 16777216 then .ok (.lst ((splitL c s).map .str)) h2 else .stuck
    | _, _ => .stuck)
  | .sstr a => (r.e d a σ h).bind fun x h1 => (match x with
    | .int i => if i.natAbs < 1000000000000000000000 then .ok (.str (strI i)) h1 else .stuck
    | _ => .stuck)
  | .sint a => (r.e d a σ h).bind fun x h1 => (match x with
    | .str s => if s.all isDig && !s.isEmpty && decide (s.length ≤ 640) then .ok (.int (numN s : Nat)) h1 else .stuck
    | _ => .stuck)
  | .ssl a lo hi => (r.e d a σ h).bind fun x h1 => (evO (r.e d) lo σ h1).bind fun l h2 => (evO (r.e d) hi σ h2).bind fun u h3 => (match x with
    | .str s => if s.length ≤ LIM then .ok (.str (cut s l u)) h3 else .stuck
    | _ => .stuck)
  | .sin pos a b => (r.e d a σ h).bind fun x h1 => (r.e d b σ h1).bind fun y h2 => (match x, y with
    | .str [c], .str s => .ok (.bl (if pos then s.contains c else !(s.contains c))) h2
    | _, _ => .stuck)
  | .lrem a b => (r.e d a σ h).bind fun x h1 => (r.e d b σ h1).bind fun y h2 => (match x, y with
    | .ref n, .int i => (match h2[n]? with
      | some (.lst fl xs) => (match intsD xs with
        | some ns => if ns.contains i then .ok .non (h2.set n (.lst fl ((ns.erase i).map .int))) else .stuck
        | none => .stuck)
      | _ => .stuck)
    | _, _ => .stuck)
  | .maxt a => (r.e d a σ h).bind fun x h1 => (match x with
    | .tup xs => (match intsD xs with
      | some (n :: ns) => .ok (.int (maxI n ns)) h1
      | _ => .stuck)
    | _ => .stuck)
  | .tin pos a b => (r.e d a σ h).bind fun x h1 => (r.e d b σ h1).bind fun y h2 => (match y with
    | .tup ys => if D.fit 40 x && D.fits 40 ys then .ok (.bl (if pos then inD x ys else !(inD x ys))) h2 else .stuck
    | _ => .stuck)
  | _ => .stuck

def stepS (r : Ev) (d : Nat) (s : IS) (σ : Sl) (h : Sto) : F := match s with
  | .asg t e => (r.e d e σ h).to σ fun x h1 => (asgT (r.e d) t x σ h1).noErr.to σ fun σ1 h2 => .next σ1 h2
  | .par ts es => (evs (r.e d) es σ h).to σ fun xs h1 => .next (setAll ts xs σ) h1
  | .aug i op e => (match σ[i]? with
    | some (some x) => (r.e d e σ h).to σ fun y h1 => (augD op x y h1).to σ fun z h2 => .next (σ.set i (some z)) h2
    | _ => .stuck)
  | .augf a f op e => (r.e d a σ h).to σ fun x h1 => (fldD x f h1).to σ fun v h2 => (r.e d e σ h2).to σ fun y h3 => (augD op v y h3).to σ fun z h4 => (setFldD x f z h4).to σ fun _ h5 => .next σ h5
  | .exp e => (r.e d e σ h).to σ fun _ h1 => .next σ h1
  | .ret e => (r.e d e σ h).to σ fun x h1 => .ret x h1
  | .ite c a b => (r.e d c σ h).to σ fun x h1 => (match x with
    | .bl true => blk (r.s d) a σ h1
    | .bl false => blk (r.s d) b σ h1
    | _ => .stuck)
  | .for_ t it b => (evIt (r.e d) it σ h).to σ fun it h1 => (match it with
    | .items xs => forS (fun x σ h => (asgT (r.e d) t x σ h).noErr.to σ fun σ1 h1 => blk (r.s d) b σ1 h1) xs σ h1
    | .dyn n en => forD (fun x σ h => (asgT (r.e d) t x σ h).noErr.to σ fun σ1 h1 => blk (r.s d) b σ1 h1) n en (lenAt h1 n) 0 σ h1
    | .dct n l => forK (fun x σ h => (asgT (r.e d) t x σ h).noErr.to σ fun σ1 h1 => blk (r.s d) b σ1 h1) n l l 0 σ h1)
  | .whl c b => (r.e d c σ h).to σ fun x h1 => (match x with
    | .bl true => (match blk (r.s d) b σ h1 with
      | .next σ1 h2 => r.s d (.whl c b) σ1 h2
      | .cnt σ1 h2 => r.s d (.whl c b) σ1 h2
      | .brk σ1 h2 => .next σ1 h2
      | f => f)
    | .bl false => .next σ h1
    | _ => .stuck)
  | .brk => .brk σ h
  | .cnt => .cnt σ h
  | .pass => .next σ h
  | .rse c => .err c σ h
  | .tryc b c i j => (match blk (r.s d) b σ h with
    | .err k σ1 h1 => if P.exm.contains (k, k) then (if P.exm.contains (k, c) then .next ((σ1.set j (some (.exc k))).set i none) h1 else .err k σ1 h1) else .stuck
    | f => f)
  | .unk => .stuck

def stepC (r : Ev) (d : Nat) (f : Nat) (ds : List D) (h : Sto) : R D := match d with
  | 0 => .stuck
  | d + 1 => match P.fns.lookup f with
    | none => .stuck
    | some fn => if ds.length = fn.np then (match blk (r.s d) fn.body (start fn ds) h with
      | .next _ h1 => leave fn h.length .non h1
      | .ret v h1 => leave fn h.length v h1
      | .err c _ h1 => if fn.keep then .err c h1 else if wf h.length (h1.take h.length) then .err c (h1.take h.length) else .stuck
      | _ => .stuck) else .stuck

def ev : Nat → Ev
  | 0 => .bot
  | n + 1 => ⟨stepE P (ev n), stepS P (ev n), stepC P (ev n)⟩
end
end G8

set_option Elab.async false
set_option linter.all false
set_option maxRecDepth 100000
set_option maxHeartbeats 1000000
namespace G8
open PySem PySem.Spec L2

/-! ### tuples whose object is known -/
abbrev tO (its : List Value) : Obj := { cls := .type "tuple", data := .seq its.toArray }
abbrev tH (its : List Value) (xs : List V) : HO := .frz (tO its) (.tup xs)
/-- the addresses of the store's objects, by their numbers; those that are being filled -/
structure Rho where
  ix : List Addr
  bz : List Addr
def Rho.no (ρ : Rho) (a : Addr) : Prop := a ∉ ρ.ix ∧ a ∉ ρ.bz
/-! ### what a value of mine stands for -/
/-- where classes stand, the fields' names -/
structure Tb where
  ca : Nat → Addr
  fl : List Str
  ow : Nat → Bool
  wd : World

/-! dicts: a key of mine as a key of the library's -/
mutual
def nk : D → NestedKey
  | .non => .none
  | .bl b => .num (if b = true then 1 else 0)
  | .int i => .num i
  | .str x => .text ⟨x.toArray⟩
  | .tup xs => .tup (nks xs)
  | .lst xs => .none
  | .scr xs => .none
  | .dct _ _ => .none
  | .ref _ => .none
  | .exc _ => .none
def nks : List D → List NestedKey
  | [] => []
  | x :: xs => nk x :: nks xs
end
/-- the object of a dict, by its entries -/
def DO (a : Addr) (es : Array DictEntry) : HO := .ext fun h => ∃ o ep, h.get? a = some o ∧ o.ExactDict ∧ o.data = .dict es ep
def Ent (w : World) : List DictEntry → List D → List V → List V → Prop
  | [], [], [], [] => True
  | e :: es, d :: ds, k :: ks, v :: vs => e.hash = (nk d).hash w ∧ RelV k e.key ∧ RelV v e.val ∧ Ent w es ds ks vs
  | _, _, _, _ => False
/-- what holds of a dict's keys and values -/
structure DctP (ks vs : List D) : Prop where
  len : ks.length = vs.length
  lim : ks.length ≤ LIM
  nr : D.nrs vs = true
  ky : ∀ k ∈ ks, dkey k = true
  kd : ∃ c, ∀ k ∈ ks, kdOf k = c
  nd : (nks ks).Nodup
section
variable (K : PySem.W.Frag) (T : Tb)
/-- a list that never changes any more -/
def SL (H : Hp) (ρ : Rho) (a : Addr) (vs : List V) : Prop := (Rd H a (.lst vs) ∧ ρ.no a) ∨
    ∃ (o : Obj) (its : Array Value) (n : Nat), K.lookup a = some o ∧ o.cls = .type "list" ∧ o.dict = none ∧ o.data = .seq its n ∧ its.size ≤ sizeLine ∧ Vals vs its.toList
def Sl_ (H : Hp) (ρ : Rho) (a : Addr) (vs : List V) : Prop := H a = some (.lst vs) ∧ ρ.no a
/-- a tuple whose object is known -/
def ST (H : Hp) (ρ : Rho) (a : Addr) (vs : List V) : Prop := ∃ its, H a = some (tH its vs) ∧ ρ.no a
/-- an exception, held -/
def ExO (C : Addr) (a : Addr) : HO := .ext fun h => ∃ oe, h.get? a = some oe ∧ oe.cls = .ref C ∧ oe.dict = none ∧ ∃ vs, oe.data = .fields vs
mutual
inductive Rp (H : Hp) (ρ : Rho) : D → V → Prop
  | non : Rp H ρ .non .non
  | bl (b : Bool) : Rp H ρ (.bl b) (.bl b)
  | int (i : Int) : Rp H ρ (.int i) (.int i)
  | str (x : List Nat) : Rp H ρ (.str x) (.str ⟨x.toArray⟩)
  | tup {a : Addr} {xs : List D} {vs : List V} : ST H ρ a vs → Rps H ρ xs vs → Rp H ρ (.tup xs) (.ref a)
  | lst {a : Addr} {xs : List D} {vs : List V} : Sl_ H ρ a vs → Rps H ρ xs vs → Rp H ρ (.lst xs) (.ref a)
  | scr {a : Addr} {xs : List D} {vs : List V} : SL K H ρ a vs → Rps H ρ xs vs → Rp H ρ (.scr xs) (.ref a)
  | ref {n : Nat} {a : Addr} : ρ.ix[n]? = some a → Rp H ρ (.ref n) (.ref a)
  | exc {c : Nat} {a : Addr} : H a = some (ExO (T.ca c) a) → ρ.no a → Rp H ρ (.exc c) (.ref a)
inductive Rps (H : Hp) (ρ : Rho) : List D → List V → Prop
  | nil : Rps H ρ [] []
  | cons {d : D} {v : V} {ds : List D} {vs : List V} : Rp H ρ d v → Rps H ρ ds vs → Rps H ρ (d :: ds) (v :: vs)
end
def flN (i : Nat) : Str := T.fl.getD i Str.empty
/-- fields -/
inductive Rf (H : Hp) (ρ : Rho) : List (Nat × D) → List (Str × V) → Prop
  | nil : Rf H ρ [] []
  | cons {f : Nat} {d : D} {v : V} {fs : List (Nat × D)} {vs : List (Str × V)} : f < T.fl.length → Rp K T H ρ d v → Rf H ρ fs vs → Rf H ρ ((f, d) :: fs) ((flN T f, v) :: vs)
def flOk (fl : Bool) (xs : List D) : Prop := if fl then D.nrs xs = true else xs.all D.top = true
def OR (H : Hp) (ρ : Rho) : O → Addr → Prop
  | .lst fl xs, a => ∃ vs, H a = some (.lst vs) ∧ Rps K T H ρ xs vs ∧ flOk fl xs
  | .ins c fs, a => T.ow c = true ∧ (∀ p ∈ fs, D.top p.2 = true) ∧ ∃ dx fvs, H a = some (.ins (T.ca c) dx fvs) ∧ Rf K T H ρ fs fvs
  | .dct ks vs, a => (a == sysModules) = false ∧ DctP ks vs ∧ ∃ es kvs vvs, H a = some (DO a es) ∧ Rps K T H ρ ks kvs ∧ Rps K T H ρ vs vvs ∧ Ent T.wd es.toList ks kvs vvs
  | .dead, a => ∃ o, H a = some o
structure SR (H : Hp) (ρ : Rho) (h : Sto) : Prop where
  nd : (ρ.ix ++ ρ.bz).Nodup
  len : ρ.ix.length = h.length
  at_ : ∀ (n : Nat) (o : O) (a : Addr), h[n]? = some o → ρ.ix[n]? = some a → OR K T H ρ o a
  bz : ∀ a ∈ ρ.bz, ∃ o, H a = some o
/-- slots -/
structure RS (H : Hp) (ρ : Rho) (σa : Sl) (σ : St) : Prop where
  len : σa.length = σ.length
  at_ : ∀ (i : Nat) (d : D), σa[i]? = some (some d) → ∃ v, σ[i]? = some (some v) ∧ Rp K T H ρ d v
end
/-- one state after another -/
structure Ext (ρ : Rho) (H : Hp) (ρ' : Rho) (H' : Hp) : Prop where
  pre : ρ.ix <+: ρ'.ix
  bz : ρ'.bz = ρ.bz
  fr : ∀ a o, ρ.no a → H a = some o → H' a = some o
  kp : ∀ a, a ∈ ρ.bz → H' a = H a
  new : ∀ a, a ∈ ρ'.ix → a ∈ ρ.ix ∨ (H a = none ∧ a ∉ ρ.bz)

theorem Ext.refl (ρ : Rho) (H : Hp) : Ext ρ H ρ H := ⟨List.prefix_refl _, rfl, fun _ _ _ e => e, fun _ _ => rfl, fun _ h => .inl h⟩
theorem Ext.notin {ρ ρ' : Rho} {H H' : Hp} (x : Ext ρ H ρ' H') {a : Addr} {o : HO} (hn : ρ.no a) (e : H a = some o) : ρ'.no a := by
  refine ⟨fun hm => ?_, fun hm => ?_⟩
  · rcases x.new a hm with h | h
    · exact hn.1 h
    · rw [e] at h; cases h.1
  · rw [x.bz] at hm; exact hn.2 hm
theorem Ext.trans {ρ ρ1 ρ2 : Rho} {H H1 H2 : Hp} (x : Ext ρ H ρ1 H1) (y : Ext ρ1 H1 ρ2 H2) : Ext ρ H ρ2 H2 where
  pre := List.IsPrefix.trans x.pre y.pre
  bz := y.bz.trans x.bz
  fr := fun a o hn e => y.fr a o (x.notin hn e) (x.fr a o hn e)
  kp := fun a ha => (y.kp a (by rw [x.bz]; exact ha)).trans (x.kp a ha)
  new := fun a hm => by
    rcases y.new a hm with h | ⟨h, hb⟩
    · exact x.new a h
    · by_cases hr : a ∈ ρ.ix
      · exact .inl hr
      · right
        rw [x.bz] at hb
        refine ⟨?_, hb⟩
        cases e : H a with
        | none => rfl
        | some o => rw [x.fr a o ⟨hr, hb⟩ e] at h; cases h
theorem Ext.get {ρ ρ' : Rho} {H H' : Hp} (x : Ext ρ H ρ' H') {n : Nat} {a : Addr} (e : ρ.ix[n]? = some a) : ρ'.ix[n]? = some a := by
  obtain ⟨t, ht⟩ := x.pre
  rw [← ht, List.getElem?_append_left (List.getElem?_eq_some_iff.mp e).1]
  exact e

/-- what values lean on goes on -/
structure Mv (ρ : Rho) (H : Hp) (ρ' : Rho) (H' : Hp) : Prop where
  ix : ∀ (n : Nat) (a : Addr), ρ.ix[n]? = some a → ρ'.ix[n]? = some a
  fr : ∀ a o, ρ.no a → H a = some o → H' a = some o
  no : ∀ a o, ρ.no a → H a = some o → ρ'.no a
theorem Ext.mv {ρ ρ' : Rho} {H H' : Hp} (x : Ext ρ H ρ' H') : Mv ρ H ρ' H' := ⟨fun _ _ e => x.get e, x.fr, fun _ _ hn e => x.notin hn e⟩
section
variable {K : PySem.W.Frag} {T : Tb} {H H' : Hp} {ρ ρ' : Rho}
theorem SL.mv {a : Addr} {vs : List V} (s : SL K H ρ a vs) (x : Mv ρ H ρ' H') : SL K H' ρ' a vs := by
  rcases s with ⟨r, hn⟩ | k
  · left
    rcases r with e | ⟨o, e⟩
    · exact ⟨.inl (x.fr a _ hn e), x.no a _ hn e⟩
    · exact ⟨.inr ⟨o, x.fr a _ hn e⟩, x.no a _ hn e⟩
  · exact .inr k
theorem SL.sq {a : Addr} {vs : List V} (s : SL K H ρ a vs) : SqL K H a vs := by
  rcases s with ⟨r, _⟩ | k
  · exact .inl r
  · exact .inr k
theorem Sl_.mv {a : Addr} {vs : List V} (s : Sl_ H ρ a vs) (x : Mv ρ H ρ' H') : Sl_ H' ρ' a vs := ⟨x.fr a _ s.2 s.1, x.no a _ s.2 s.1⟩
theorem Sl_.sq {a : Addr} {vs : List V} (s : Sl_ H ρ a vs) : SqL K H a vs := .inl (.inl s.1)
theorem ST.mv {a : Addr} {vs : List V} (s : ST H ρ a vs) (x : Mv ρ H ρ' H') : ST H' ρ' a vs := let ⟨its, e, n⟩ := s; ⟨its, x.fr a _ n e, x.no a _ n e⟩
theorem ST.sq {a : Addr} {vs : List V} (s : ST H ρ a vs) : SqT K H a vs := let ⟨_, e, _⟩ := s; .inl (.inr ⟨_, e⟩)
mutual
theorem Rp.mv (x : Mv ρ H ρ' H') : ∀ {d : D} {v : V}, Rp K T H ρ d v → Rp K T H' ρ' d v
  | _, _, .non => .non
  | _, _, .bl b => .bl b
  | _, _, .int i => .int i
  | _, _, .str y => .str y
  | _, _, .tup s r => .tup (s.mv x) (Rps.mv x r)
  | _, _, .lst s r => .lst (s.mv x) (Rps.mv x r)
  | _, _, .scr s r => .scr (s.mv x) (Rps.mv x r)
  | _, _, .ref e => .ref (x.ix _ _ e)
  | _, _, .exc e hn => .exc (x.fr _ _ hn e) (x.no _ _ hn e)
theorem Rps.mv (x : Mv ρ H ρ' H') : ∀ {ds : List D} {vs : List V}, Rps K T H ρ ds vs → Rps K T H' ρ' ds vs
  | _, _, .nil => .nil
  | _, _, .cons a b => .cons (Rp.mv x a) (Rps.mv x b)
end
theorem Rp.ext (x : Ext ρ H ρ' H') {d : D} {v : V} (r : Rp K T H ρ d v) : Rp K T H' ρ' d v := r.mv x.mv
theorem Rps.ext (x : Ext ρ H ρ' H') {d : List D} {v : List V} (r : Rps K T H ρ d v) : Rps K T H' ρ' d v := r.mv x.mv
theorem Rps.length : ∀ {ds : List D} {vs : List V}, Rps K T H ρ ds vs → ds.length = vs.length
  | _, _, .nil => rfl
  | _, _, .cons _ b => by rw [List.length_cons, List.length_cons, Rps.length b]
theorem Rps.get : ∀ {ds : List D} {vs : List V} {i : Nat} {d : D}, Rps K T H ρ ds vs → ds[i]? = some d → ∃ v, vs[i]? = some v ∧ Rp K T H ρ d v
  | _, _, _, _, .nil, e => by simp at e
  | _, _, 0, _, .cons a _, e => by
    simp at e; subst e
    exact ⟨_, rfl, a⟩
  | _, _, i + 1, d, .cons _ b, e => by
    obtain ⟨v, h1, h2⟩ := Rps.get (i := i) (d := d) b (by simpa using e)
    exact ⟨v, by simpa using h1, h2⟩
theorem Rps.append : ∀ {xs ys : List D} {us vs : List V}, Rps K T H ρ xs us → Rps K T H ρ ys vs → Rps K T H ρ (xs ++ ys) (us ++ vs)
  | _, _, _, _, .nil, s => s
  | _, _, _, _, .cons r t, s => .cons r (Rps.append t s)
theorem Rps.take : ∀ {xs : List D} {us : List V} (n : Nat), Rps K T H ρ xs us → Rps K T H ρ (xs.take n) (us.take n)
  | _, _, 0, _ => .nil
  | _, _, _ + 1, .nil => .nil
  | _, _, n + 1, .cons r t => .cons r (Rps.take n t)
theorem Rps.drop : ∀ {xs : List D} {us : List V} (n : Nat), Rps K T H ρ xs us → Rps K T H ρ (xs.drop n) (us.drop n)
  | _, _, 0, r => r
  | _, _, _ + 1, .nil => .nil
  | _, _, n + 1, .cons _ t => Rps.drop n t
theorem Rps.set {x : D} {u : V} (r : Rp K T H ρ x u) : ∀ {xs : List D} {us : List V} (i : Nat), Rps K T H ρ xs us → Rps K T H ρ (xs.set i x) (us.set i u)
  | _, _, _, .nil => .nil
  | _, _, 0, .cons _ t => .cons r t
  | _, _, i + 1, .cons q t => .cons q (Rps.set r i t)
theorem Rps.snoc {xs : List D} {us : List V} {x : D} {u : V} (r : Rps K T H ρ xs us) (a : Rp K T H ρ x u) : Rps K T H ρ (xs ++ [x]) (us ++ [u]) := r.append (.cons a .nil)
theorem Rps.reverse : ∀ {xs : List D} {us : List V}, Rps K T H ρ xs us → Rps K T H ρ xs.reverse us.reverse
  | _, _, .nil => .nil
  | _, _, .cons r t => by rw [List.reverse_cons, List.reverse_cons]; exact (Rps.reverse t).snoc r
theorem Rps.dropLast {xs : List D} {us : List V} (r : Rps K T H ρ xs us) : Rps K T H ρ xs.dropLast us.dropLast := by
  rw [List.dropLast_eq_take, List.dropLast_eq_take, r.length]
  exact r.take _
theorem Rps.eraseIdx : ∀ {xs : List D} {us : List V} (i : Nat), Rps K T H ρ xs us → Rps K T H ρ (xs.eraseIdx i) (us.eraseIdx i)
  | _, _, _, .nil => .nil
  | _, _, 0, .cons _ t => t
  | _, _, i + 1, .cons q t => .cons q (Rps.eraseIdx i t)
theorem Rps.rep {xs : List D} {us : List V} (r : Rps K T H ρ xs us) : ∀ k : Nat, Rps K T H ρ (List.replicate k xs).flatten (List.replicate k us).flatten
  | 0 => .nil
  | k + 1 => by rw [List.replicate_succ, List.replicate_succ, List.flatten_cons, List.flatten_cons]; exact r.append (Rps.rep r k)
theorem Rps.ints : ∀ (ns : List Int), Rps K T H ρ (ns.map D.int) (ns.map V.int)
  | [] => .nil
  | n :: ns => .cons (.int n) (Rps.ints ns)
theorem Rf.mv (x : Mv ρ H ρ' H') : ∀ {fs : List (Nat × D)} {vs : List (Str × V)}, Rf K T H ρ fs vs → Rf K T H' ρ' fs vs
  | _, _, .nil => .nil
  | _, _, .cons l r t => .cons l (r.mv x) (Rf.mv x t)
theorem Rf.ext (x : Ext ρ H ρ' H') {fs : List (Nat × D)} {vs : List (Str × V)} (r : Rf K T H ρ fs vs) : Rf K T H' ρ' fs vs := r.mv x.mv
theorem RS.mv {σa : Sl} {σ : St} (r : RS K T H ρ σa σ) (x : Mv ρ H ρ' H') : RS K T H' ρ' σa σ :=
  ⟨r.len, fun i d e => let ⟨v, h1, h2⟩ := r.at_ i d e; ⟨v, h1, h2.mv x⟩⟩
theorem RS.ext {σa : Sl} {σ : St} (r : RS K T H ρ σa σ) (x : Ext ρ H ρ' H') : RS K T H' ρ' σa σ := r.mv x.mv
theorem RS.set {σa : Sl} {σ : St} {d : D} {v : V} (r : RS K T H ρ σa σ) (i : Nat) (a : Rp K T H ρ d v) : RS K T H ρ (σa.set i (some d)) (σ.set i (some v)) := by
  refine ⟨by rw [List.length_set, List.length_set]; exact r.len, fun j e hj => ?_⟩
  rw [List.getElem?_set] at hj
  split at hj
  · rename_i hij
    subst hij
    split at hj
    · rename_i hl
      cases hj
      exact ⟨v, by rw [List.getElem?_set_self (by rw [← r.len]; exact hl)], a⟩
    · cases hj
  · rename_i hij
    obtain ⟨u, h1, h2⟩ := r.at_ j e hj
    exact ⟨u, by rw [List.getElem?_set_ne hij]; exact h1, h2⟩
theorem RS.unset {σa : Sl} {σ : St} (r : RS K T H ρ σa σ) (i : Nat) : RS K T H ρ (σa.set i none) (σ.set i none) := by
  refine ⟨by rw [List.length_set, List.length_set]; exact r.len, fun j e hj => ?_⟩
  rw [List.getElem?_set] at hj
  split at hj
  · split at hj <;> cases hj
  · rename_i hij
    obtain ⟨u, h1, h2⟩ := r.at_ j e hj
    exact ⟨u, by rw [List.getElem?_set_ne hij]; exact h1, h2⟩
theorem RS.wipe {σa : Sl} {σ : St} (r : RS K T H ρ σa σ) : ∀ vs : List Nat, RS K T H ρ (G8.wipe σa vs) (L2.wipe σ vs)
  | [] => r
  | v :: vs => (RS.wipe r vs).unset v

/-! ### stores -/
theorem OR.has {o : O} {a : Addr} (x : OR K T H ρ o a) : ∃ u, H a = some u := by
  cases o with
  | lst fl xs => obtain ⟨vs, e, _⟩ := x; exact ⟨_, e⟩
  | ins c fs => obtain ⟨_, _, dx, fvs, e, _⟩ := x; exact ⟨_, e⟩
  | dct _ _ => obtain ⟨_, _, es, kvs, vvs, e, _⟩ := x; exact ⟨_, e⟩
  | dead => exact x
theorem SR.get {h : Sto} (s : SR K T H ρ h) {n : Nat} {o : O} (e : h[n]? = some o) : ∃ a, ρ.ix[n]? = some a ∧ OR K T H ρ o a := by
  have hl : n < ρ.ix.length := by rw [s.len]; exact (List.getElem?_eq_some_iff.mp e).1
  exact ⟨ρ.ix[n], List.getElem?_eq_getElem hl, s.at_ n o _ e (List.getElem?_eq_getElem hl)⟩
theorem SR.has {h : Sto} (s : SR K T H ρ h) {a : Addr} (hm : a ∈ ρ.ix) : ∃ u, H a = some u := by
  obtain ⟨n, hn⟩ := List.getElem?_of_mem hm
  have hl : n < h.length := by rw [← s.len]; exact (List.getElem?_eq_some_iff.mp hn).1
  exact (s.at_ n h[n] a (List.getElem?_eq_getElem hl) hn).has
theorem SR.fresh {h : Sto} (s : SR K T H ρ h) {p : Addr} (hp : H p = none) : ρ.no p := by
  refine ⟨fun hm => ?_, fun hm => ?_⟩
  · obtain ⟨u, e⟩ := s.has hm
    rw [hp] at e; cases e
  · obtain ⟨u, e⟩ := s.bz p hm
    rw [hp] at e; cases e
/-- a new object -/
theorem Ext.new_obj {h : Sto} {p : Addr} {o : HO} (s : SR K T H ρ h) (hp : H p = none) : Ext ρ H ρ (upd H p o) :=
  ⟨List.prefix_refl _, rfl, fun a u _ e => by rw [upd_ne (ne_of_none e hp)]; exact e, fun a ha => by
    obtain ⟨u, e⟩ := s.bz a ha
    exact upd_ne (ne_of_none e hp), fun _ h => .inl h⟩
/-- an object of ours is written -/
theorem Ext.write {h : Sto} {n : Nat} {p : Addr} {o : HO} (s : SR K T H ρ h) (hp : ρ.ix[n]? = some p) : Ext ρ H ρ (upd H p o) := by
  have hm := List.mem_of_getElem? hp
  refine ⟨List.prefix_refl _, rfl, fun a u hn e => ?_, fun a ha => ?_, fun _ h => .inl h⟩
  · have ne : a ≠ p := fun z => by subst z; exact hn.1 hm
    rw [upd_ne ne]; exact e
  · have ne : a ≠ p := fun z => by subst z; exact (List.nodup_append.mp s.nd).2.2 a hm a ha rfl
    exact upd_ne ne
theorem OR.mv {o : O} {a : Addr} (r : OR K T H ρ o a) (x : Mv ρ H ρ' H') (e : H' a = H a) : OR K T H' ρ' o a := by
  cases o with
  | lst fl xs => obtain ⟨vs, q, rs, fo⟩ := r; exact ⟨vs, by rw [e]; exact q, rs.mv x, fo⟩
  | ins c fs => obtain ⟨o, tp, dx, fvs, q, rs⟩ := r; exact ⟨o, tp, dx, fvs, by rw [e]; exact q, rs.mv x⟩
  | dct _ _ => obtain ⟨sm, p, es, kvs, vvs, q, r1, r2, en⟩ := r; exact ⟨sm, p, es, kvs, vvs, by rw [e]; exact q, r1.mv x, r2.mv x, en⟩
  | dead => obtain ⟨u, q⟩ := r; exact ⟨u, by rw [e]; exact q⟩
theorem OR.ext {o : O} {a : Addr} (r : OR K T H ρ o a) (x : Ext ρ H ρ' H') (e : H' a = H a) : OR K T H' ρ' o a := r.mv x.mv e
/-- an object that is not of the store is laid -/
theorem SR.new_obj {h : Sto} {p : Addr} {o : HO} (s : SR K T H ρ h) (hp : H p = none) : SR K T (upd H p o) ρ h :=
  ⟨s.nd, s.len, fun n u a e1 e2 => (s.at_ n u a e1 e2).ext (Ext.new_obj s hp) (upd_ne (fun z => (s.fresh hp).1 (z ▸ List.mem_of_getElem? e2))), fun a ha => by
    obtain ⟨u, e⟩ := s.bz a ha
    exact ⟨u, by rw [upd_ne (ne_of_none e hp)]; exact e⟩⟩
/-- an object of the store is written -/
theorem SR.write {h : Sto} {n : Nat} {p : Addr} {o : HO} {u : O} (s : SR K T H ρ h) (hp : ρ.ix[n]? = some p) (hn : n < h.length) (new : OR K T (upd H p o) ρ u p) : SR K T (upd H p o) ρ (h.set n u) := by
  refine ⟨s.nd, by rw [List.length_set]; exact s.len, fun m v a e1 e2 => ?_, fun a ha => ?_⟩
  · by_cases hm : m = n
    · subst hm
      rw [List.getElem?_set_self hn] at e1
      cases e1
      rw [hp] at e2
      cases e2
      exact new
    · rw [List.getElem?_set_ne (Ne.symm hm)] at e1
      have ne : a ≠ p := fun z => by
        subst z
        obtain ⟨h1, q1⟩ := List.getElem?_eq_some_iff.mp e2
        obtain ⟨h2, q2⟩ := List.getElem?_eq_some_iff.mp hp
        exact hm ((List.getElem_inj (List.nodup_append.mp s.nd).1).mp (q1.trans q2.symm))
      exact (s.at_ m v a e1 e2).ext (Ext.write s hp) (upd_ne ne)
  · obtain ⟨w, e⟩ := s.bz a ha
    exact ⟨w, ((Ext.write (o := o) s hp).kp a ha).trans e⟩
/-- a new object of the store -/
def Rho.push (ρ : Rho) (p : Addr) : Rho := ⟨ρ.ix ++ [p], ρ.bz⟩
theorem Ext.push {h : Sto} {p : Addr} {o : HO} (s : SR K T H ρ h) (hp : H p = none) : Ext ρ H (ρ.push p) (upd H p o) :=
  ⟨List.prefix_append _ _, rfl, fun a u _ e => by rw [upd_ne (ne_of_none e hp)]; exact e, (Ext.new_obj s hp).kp, fun a hm => by
    rcases List.mem_append.mp hm with h | h
    · exact .inl h
    · rw [List.mem_singleton.mp h]; exact .inr ⟨hp, (s.fresh hp).2⟩⟩
theorem SR.push {h : Sto} {p : Addr} {o : HO} {u : O} (s : SR K T H ρ h) (hp : H p = none) (new : OR K T (upd H p o) (ρ.push p) u p) : SR K T (upd H p o) (ρ.push p) (h ++ [u]) := by
  have hf := s.fresh hp
  obtain ⟨n1, n2, n3⟩ := List.nodup_append.mp s.nd
  refine ⟨?_, by show (ρ.ix ++ [p]).length = _; rw [List.length_append, List.length_append, s.len]; rfl, fun m v a e1 e2 => ?_, fun a ha => ?_⟩
  · show ((ρ.ix ++ [p]) ++ ρ.bz).Nodup
    refine List.nodup_append.mpr ⟨List.nodup_append.mpr ⟨n1, by simp, fun a ha b hb => by rw [List.mem_singleton.mp hb]; exact fun z => hf.1 (z ▸ ha)⟩, n2, fun a ha b hb => ?_⟩
    rcases List.mem_append.mp ha with h1 | h1
    · exact n3 a h1 b hb
    · rw [List.mem_singleton.mp h1]; exact fun z => hf.2 (z ▸ hb)
  · have e2' : (ρ.ix ++ [p])[m]? = some a := e2
    by_cases hm : m < h.length
    · rw [List.getElem?_append_left hm] at e1
      rw [List.getElem?_append_left (by rw [s.len]; exact hm)] at e2'
      exact (s.at_ m v a e1 e2').ext (Ext.push s hp) (upd_ne (fun z => hf.1 (z ▸ List.mem_of_getElem? e2')))
    · have hme : m = h.length := by
        have := (List.getElem?_eq_some_iff.mp e1).1
        rw [List.length_append] at this
        simp at this
        omega
      subst hme
      rw [List.getElem?_append_right (Nat.le_refl _), Nat.sub_self] at e1
      rw [← s.len, List.getElem?_append_right (Nat.le_refl _), Nat.sub_self] at e2'
      cases e1
      cases e2'
      exact new
  · obtain ⟨w, e⟩ := s.bz a ha
    exact ⟨w, by rw [upd_ne (ne_of_none e hp)]; exact e⟩
theorem push_get {p : Addr} {h : Sto} (s : SR K T H ρ h) : (ρ.push p).ix[h.length]? = some p := by
  show (ρ.ix ++ [p])[h.length]? = some p
  rw [← s.len, List.getElem?_append_right (Nat.le_refl _), Nat.sub_self]
  rfl
/-! ### a list that is being filled -/
def Rho.busy (ρ : Rho) (p : Addr) : Rho := ⟨ρ.ix, ρ.bz ++ [p]⟩
/-- a new object, being filled -/
theorem Mv.busy {p : Addr} {o : HO} (hp : H p = none) : Mv ρ H (ρ.busy p) (upd H p o) :=
  ⟨fun _ _ e => e, fun a u _ e => by rw [upd_ne (ne_of_none e hp)]; exact e, fun a u hn e => ⟨hn.1, fun hm => by
    rcases List.mem_append.mp hm with h | h
    · exact hn.2 h
    · rw [List.mem_singleton.mp h, hp] at e; cases e⟩⟩
theorem SR.busy {h : Sto} {p : Addr} {o : HO} (s : SR K T H ρ h) (hp : H p = none) : SR K T (upd H p o) (ρ.busy p) h := by
  have hf := s.fresh hp
  refine ⟨?_, s.len, fun n u a e1 e2 => (s.at_ n u a e1 e2).mv (Mv.busy hp) (upd_ne (fun z => hf.1 (z ▸ List.mem_of_getElem? e2))), fun a ha => ?_⟩
  · show (ρ.ix ++ (ρ.bz ++ [p])).Nodup
    rw [← List.append_assoc]
    exact List.nodup_append.mpr ⟨s.nd, by simp, fun a ha b hb => by
      rw [List.mem_singleton.mp hb]
      intro z; subst z
      rcases List.mem_append.mp ha with h1 | h1
      · exact hf.1 h1
      · exact hf.2 h1⟩
  · rcases List.mem_append.mp ha with h1 | h1
    · obtain ⟨w, e⟩ := s.bz a h1
      exact ⟨w, by rw [upd_ne (ne_of_none e hp)]; exact e⟩
    · rw [List.mem_singleton.mp h1]; exact ⟨o, upd_same⟩
/-- it is filled on -/
theorem Mv.fill {p : Addr} {o : HO} (hp : p ∈ ρ.bz) : Mv ρ H ρ (upd H p o) :=
  ⟨fun _ _ e => e, fun a u hn e => by
    have ne : a ≠ p := fun z => by subst z; exact hn.2 hp
    rw [upd_ne ne]; exact e, fun _ _ hn _ => hn⟩
theorem SR.fill {h : Sto} {p : Addr} {o : HO} (s : SR K T H ρ h) (hp : p ∈ ρ.bz) : SR K T (upd H p o) ρ h := by
  refine ⟨s.nd, s.len, fun n u a e1 e2 => (s.at_ n u a e1 e2).mv (Mv.fill hp) (upd_ne fun z => ?_), fun a ha => ?_⟩
  · subst z
    exact (List.nodup_append.mp s.nd).2.2 a (List.mem_of_getElem? e2) a hp rfl
  · by_cases e : a = p
    · subst e; exact ⟨o, upd_same⟩
    · obtain ⟨w, q⟩ := s.bz a ha
      exact ⟨w, by rw [upd_ne e]; exact q⟩
/-- it is filled: no longer busy -/
theorem Mv.unbusy {p : Addr} {bz : List Addr} (e : ρ.bz = bz ++ [p]) : Mv ρ H ⟨ρ.ix, bz⟩ H :=
  ⟨fun _ _ e => e, fun _ _ _ e => e, fun a _ hn _ => ⟨hn.1, fun hm => hn.2 (by rw [e]; exact List.mem_append_left _ hm)⟩⟩
theorem SR.unbusy {h : Sto} {p : Addr} {bz : List Addr} (s : SR K T H ρ h) (e : ρ.bz = bz ++ [p]) : SR K T H ⟨ρ.ix, bz⟩ h := by
  refine ⟨?_, s.len, fun n u a e1 e2 => (s.at_ n u a e1 e2).mv (Mv.unbusy e) rfl, fun a ha => s.bz a (by rw [e]; exact List.mem_append_left _ ha)⟩
  have := s.nd
  rw [e, ← List.append_assoc] at this
  exact (List.nodup_append.mp this).1
end

/-! ### what is wanted behind a piece of evaluation -/
section
variable (K : PySem.W.Frag) (T : Tb)
def Aft {α β : Type} (W : WX) (σ : St) (ρ : Rho) (H : Hp) (r : R α) (Rel : Hp → Rho → α → β → Prop) (Q : β → Hp → Prop) : Prop := match r with
  | .ok d h' => ∀ v H' ρ', Ext ρ H ρ' H' → SR K T H' ρ' h' → Rel H' ρ' d v → Q v H'
  | .err c h' => ∀ H' ρ', Ext ρ H ρ' H' → SR K T H' ρ' h' → W (.ref (T.ca c)) none σ H'
  | .stuck => False
end
section
variable {K : PySem.W.Frag} {T : Tb} {W : WX} {σ : St} {ρ ρ1 : Rho} {H H1 : Hp}
theorem Aft.ext {α β : Type} {r : R α} {Rel : Hp → Rho → α → β → Prop} {Q : β → Hp → Prop} (a : Aft K T W σ ρ H r Rel Q) (x : Ext ρ H ρ1 H1) : Aft K T W σ ρ1 H1 r Rel Q := by
  cases r with
  | ok d h' => exact fun v H' ρ' y s r => a v H' ρ' (x.trans y) s r
  | err c h' => exact fun H' ρ' y s => a H' ρ' (x.trans y) s
  | stuck => exact a
theorem Aft.bind {α β γ δ : Type} {r : R α} {f : α → Sto → R β} {Rel1 : Hp → Rho → α → γ → Prop} {Rel2 : Hp → Rho → β → δ → Prop} {Q : δ → Hp → Prop} {Φ : γ → Hp → Prop}
    (a : Aft K T W σ ρ H (r.bind f) Rel2 Q) (k : ∀ d h1 v H1 ρ1, Ext ρ H ρ1 H1 → SR K T H1 ρ1 h1 → Rel1 H1 ρ1 d v → Aft K T W σ ρ1 H1 (f d h1) Rel2 Q → Φ v H1) : Aft K T W σ ρ H r Rel1 Φ := by
  cases r with
  | ok d h1 => exact fun v H1 ρ1 x s rl => k d h1 v H1 ρ1 x s rl (Aft.ext (r := f d h1) a x)
  | err c h1 => exact a
  | stuck => exact a
theorem Aft.ok {α β : Type} {d : α} {h : Sto} {Rel : Hp → Rho → α → β → Prop} {Q : β → Hp → Prop} {v : β} (a : Aft K T W σ ρ H (.ok d h) Rel Q) (s : SR K T H ρ h) (r : Rel H ρ d v) : Q v H := a v H ρ (Ext.refl _ _) s r
theorem Aft.ok' {α β : Type} {d : α} {h : Sto} {Rel : Hp → Rho → α → β → Prop} {Q : β → Hp → Prop} {v : β} (a : Aft K T W σ ρ H (.ok d h) Rel Q) (x : Ext ρ H ρ1 H1) (s : SR K T H1 ρ1 h) (r : Rel H1 ρ1 d v) : Q v H1 := a v H1 ρ1 x s r
end
end G8

set_option Elab.async false
set_option linter.all false
set_option maxRecDepth 100000
set_option maxHeartbeats 1000000
namespace G8
open PySem PySem.Spec L2

/-! ### data -/
mutual
def D.py : D → PyData
  | .non => .none
  | .bl b => .bool b
  | .int i => .int i
  | .str x => .str ⟨x.toArray⟩
  | .tup xs => .tuple (D.pys xs)
  | .lst xs => .list (D.pys xs)
  | _ => .none
def D.pys : List D → List PyData
  | [] => []
  | x :: xs => D.py x :: D.pys xs
end
theorem str_beq (x y : List Nat) : ((⟨x.toArray⟩ : Str) == ⟨y.toArray⟩) = (x == y) := by
  by_cases h : x = y
  · subst h; simp
  · rw [beq_eq_false_iff_ne.mpr h]
    refine beq_eq_false_iff_ne.mpr fun e => h ?_
    injection e with e
    simpa using e
mutual
theorem py_eqv : ∀ (n m : Nat) (a b : D), D.fit n a = true → D.fit m b = true → PyData.eqv a.py b.py = D.eqv a b
  | n, m, .non, b, ha, hb => by cases b <;> first | rfl | (cases m <;> simp [D.fit] at hb)
  | n, m, .bl c, b, ha, hb => by cases b <;> first | rfl | (cases m <;> simp [D.fit] at hb)
  | n, m, .int i, b, ha, hb => by cases b <;> first | rfl | (cases m <;> simp [D.fit] at hb)
  | n, m, .str x, b, ha, hb => by
    cases b with
    | str y => simp only [D.py, PyData.eqv, D.eqv]; exact str_beq x y
    | _ => first | rfl | (cases m <;> simp [D.fit] at hb)
  | 0, m, .tup xs, b, ha, hb => by simp [D.fit] at ha
  | n + 1, m, .tup xs, b, ha, hb => by
    cases b with
    | tup ys =>
      cases m with
      | zero => simp [D.fit] at hb
      | succ m => simp only [D.py, PyData.eqv, D.eqv]; exact py_eqvs n m xs ys (by simpa [D.fit] using ha) (by simpa [D.fit] using hb)
    | _ => first | rfl | (cases m <;> simp [D.fit] at hb)
  | 0, m, .lst xs, b, ha, hb => by simp [D.fit] at ha
  | n + 1, m, .lst xs, b, ha, hb => by
    cases b with
    | lst ys =>
      cases m with
      | zero => simp [D.fit] at hb
      | succ m => simp only [D.py, PyData.eqv, D.eqv]; exact py_eqvs n m xs ys (by simpa [D.fit] using ha) (by simpa [D.fit] using hb)
    | _ => first | rfl | (cases m <;> simp [D.fit] at hb)
  | n, m, .scr _, b, ha, hb => by cases n <;> simp [D.fit] at ha
  | n, m, .dct _ _, b, ha, hb => by cases n <;> simp [D.fit] at ha
  | n, m, .ref _, b, ha, hb => by cases n <;> simp [D.fit] at ha
  | n, m, .exc _, b, ha, hb => by cases n <;> simp [D.fit] at ha
theorem py_eqvs : ∀ (n m : Nat) (a b : List D), D.fits n a = true → D.fits m b = true → PyData.eqvAll (D.pys a) (D.pys b) = D.eqvs a b
  | n, m, [], [], _, _ => rfl
  | n, m, [], _ :: _, _, _ => rfl
  | n, m, _ :: _, [], _, _ => rfl
  | n, m, x :: xs, y :: ys, ha, hb => by
    have h1 : D.fit n x = true ∧ D.fits n xs = true := by simpa [D.fits] using ha
    have h2 : D.fit m y = true ∧ D.fits m ys = true := by simpa [D.fits] using hb
    simp only [D.pys, PyData.eqvAll, D.eqvs]
    rw [py_eqv n m x y h1.1 h2.1, py_eqvs n m xs ys h1.2 h2.2]
end
mutual
theorem py_lay : ∀ (n : Nat) (a : D), D.fit n a = true → a.py.canLay0 = true ∧ a.py.depth ≤ n
  | n, .non, _ => ⟨rfl, Nat.zero_le _⟩
  | n, .bl c, _ => ⟨rfl, Nat.zero_le _⟩
  | n, .int i, _ => ⟨rfl, Nat.zero_le _⟩
  | n, .str x, h => by
    refine ⟨?_, Nat.zero_le _⟩
    have h' : (x.all fun c => decide (c < 1114112)) = true := by cases n <;> simpa [D.fit] using h
    simp only [D.py, PyData.canLay0]
    unfold PyData.strOk
    simpa using h'
  | 0, .tup xs, h => by simp [D.fit] at h
  | n + 1, .tup xs, h => by
    obtain ⟨a, b⟩ := py_lays n xs (by simpa [D.fit] using h)
    exact ⟨by simpa only [D.py, PyData.canLay0] using a, by simp only [D.py, PyData.depth]; omega⟩
  | 0, .lst xs, h => by simp [D.fit] at h
  | n + 1, .lst xs, h => by
    obtain ⟨a, b⟩ := py_lays n xs (by simpa [D.fit] using h)
    exact ⟨by simpa only [D.py, PyData.canLay0] using a, by simp only [D.py, PyData.depth]; omega⟩
  | n, .scr _, h => by cases n <;> simp [D.fit] at h
  | n, .dct _ _, h => by cases n <;> simp [D.fit] at h
  | n, .ref _, h => by cases n <;> simp [D.fit] at h
  | n, .exc _, h => by cases n <;> simp [D.fit] at h
theorem py_lays : ∀ (n : Nat) (a : List D), D.fits n a = true → PyData.canLayAll0 (D.pys a) = true ∧ PyData.depthAll (D.pys a) ≤ n
  | n, [], _ => ⟨rfl, Nat.zero_le _⟩
  | n, x :: xs, h => by
    have h1 : D.fit n x = true ∧ D.fits n xs = true := by simpa [D.fits] using h
    obtain ⟨a, b⟩ := py_lay n x h1.1
    obtain ⟨c, e⟩ := py_lays n xs h1.2
    refine ⟨?_, ?_⟩
    · simp only [D.pys, PyData.canLayAll0]; rw [a, c]; rfl
    · simp only [D.pys, PyData.depthAll]; omega
end
theorem py_shaped {n : Nat} {a : D} (hn : n ≤ 64) (h : D.fit n a = true) : SeqAt.shaped a.py = true := by
  obtain ⟨x, y⟩ := py_lay n a h
  unfold SeqAt.shaped
  rw [x, Bool.true_and]
  exact decide_eq_true (by omega)
theorem pys_any (x : D) (n m : Nat) (hx : D.fit n x = true) : ∀ ys : List D, D.fits m ys = true → ((D.pys ys).any fun z => PyData.eqv z x.py) = inD x ys
  | [], _ => rfl
  | y :: ys, h => by
    have h1 : D.fit m y = true ∧ D.fits m ys = true := by simpa [D.fits] using h
    simp only [D.pys, List.any_cons, inD]
    rw [py_eqv m n y x h1.1 hx, pys_any x n m hx ys h1.2]
    rfl
theorem pys_get : ∀ (ys : List D) (k : Nat), (D.pys ys)[k]? = (ys[k]?).map D.py
  | [], k => by simp [D.pys]
  | y :: ys, 0 => by simp [D.pys]
  | y :: ys, k + 1 => by simp only [D.pys, List.getElem?_cons_succ]; exact pys_get ys k
section
variable {K : PySem.W.Frag} {T : Tb} {H : Hp} {ρ : Rho} {h : Sto}
mutual
theorem Rp.dp : ∀ {n : Nat} {d : D} {v : V}, Rp K T H ρ d v → D.fit n d = true → Dp K H v d.py
  | _, _, _, .non, _ => by simp only [D.py]; exact .non
  | _, _, _, .bl b, _ => by simp only [D.py]; exact .bl b
  | _, _, _, .int i, _ => by simp only [D.py]; exact .int i
  | _, _, _, .str x, _ => by simp only [D.py]; exact .str _
  | 0, _, _, .tup s r, h => by simp [D.fit] at h
  | n + 1, _, _, .tup s r, h => by simp only [D.py]; exact .tup s.sq (Rps.dp (n := n) r (by simpa [D.fit] using h))
  | 0, _, _, .lst s r, h => by simp [D.fit] at h
  | n + 1, _, _, .lst s r, h => by simp only [D.py]; exact .lst s.sq (Rps.dp (n := n) r (by simpa [D.fit] using h))
  | n, _, _, .scr _ _, h => by cases n <;> simp [D.fit] at h
  | n, _, _, .ref _, h => by cases n <;> simp [D.fit] at h
  | n, _, _, .exc _ _, h => by cases n <;> simp [D.fit] at h
theorem Rps.dp : ∀ {n : Nat} {ds : List D} {vs : List V}, Rps K T H ρ ds vs → D.fits n ds = true → DpAll K H vs (D.pys ds)
  | _, _, _, .nil, _ => by simp only [D.pys]; exact .nil
  | n, _, _, .cons a b, h => by
    have h1 := (show D.fit n _ = true ∧ D.fits n _ = true by simpa [D.fits] using h)
    simp only [D.pys]
    exact .cons (Rp.dp a h1.1) (Rps.dp b h1.2)
end
/-- a list of ours, wherever it stands -/
theorem Rp.lstOf {d : D} {v : V} {xs : List D} (s : SR K T H ρ h) (r : Rp K T H ρ d v) (e : lstOf h d = some xs) : ∃ a vs, v = .ref a ∧ H a = some (.lst vs) ∧ Rps K T H ρ xs vs := by
  cases r with
  | lst q rs => simp [G8.lstOf] at e; subst e; exact ⟨_, _, rfl, q.1, rs⟩
  | ref q =>
    rename_i n a
    simp only [G8.lstOf] at e
    cases e1 : h[n]? with
    | none => rw [e1] at e; cases e
    | some o =>
      rw [e1] at e
      obtain ⟨a', e2, o'⟩ := s.get e1
      rw [q] at e2; cases e2
      cases o with
      | lst fl ys => cases e; obtain ⟨vs, e3, rs, _⟩ := o'; exact ⟨_, vs, rfl, e3, rs⟩
      | _ => cases e
  | _ => simp [G8.lstOf] at e
theorem Rp.seqOf {d : D} {v : V} {xs : List D} (s : SR K T H ρ h) (r : Rp K T H ρ d v) (e : seqOf h d = some xs) : ∃ a vs, v = .ref a ∧ (H a = some (.lst vs) ∨ (ST H ρ a vs ∧ d = .tup xs)) ∧ Rps K T H ρ xs vs := by
  cases r with
  | tup q rs => simp [G8.seqOf] at e; subst e; exact ⟨_, _, rfl, .inr ⟨q, rfl⟩, rs⟩
  | lst q rs => simp [G8.seqOf] at e; subst e; exact ⟨_, _, rfl, .inl q.1, rs⟩
  | ref q =>
    rename_i n a
    obtain ⟨a, vs, e1, e2, rs⟩ := Rp.lstOf (d := .ref n) s (.ref q) (xs := xs) (by
      simp only [G8.seqOf] at e
      simp only [G8.lstOf]
      exact e)
    exact ⟨a, vs, e1, .inl e2, rs⟩
  | _ => simp [G8.seqOf] at e
theorem res_of_lstOf {d : D} {xs : List D} (e : lstOf h d = some xs) : res h d = .lst xs := by
  cases d with
  | lst ys => simp [lstOf] at e; subst e; rfl
  | ref n =>
    simp only [lstOf] at e
    simp only [res]
    cases e1 : h[n]? with
    | none => rw [e1] at e; cases e
    | some o =>
      rw [e1] at e
      cases o with
      | lst fl ys => cases e; rfl
      | _ => cases e
  | _ => simp [lstOf] at e
theorem Rp.dpr {n : Nat} {d : D} {v : V} (s : SR K T H ρ h) (r : Rp K T H ρ d v) (f : D.fit n (res h d) = true) : Dp K H v (res h d).py := by
  cases r with
  | scr q rs =>
    simp only [res] at f ⊢
    cases n with
    | zero => simp [D.fit] at f
    | succ n => simp only [D.py]; exact .lst q.sq (Rps.dp (n := n) rs (by simpa [D.fit] using f))
  | ref q =>
    rename_i m a
    cases e1 : h[m]? with
    | none => simp only [res, e1] at f; cases n <;> simp [D.fit] at f
    | some o =>
      cases o with
      | lst fl ys =>
        have e2 : res h (.ref m) = .lst ys := by simp only [res, e1]
        rw [e2] at f ⊢
        obtain ⟨a', e3, o'⟩ := s.get e1
        rw [q] at e3; cases e3
        obtain ⟨vs, e4, rs, _⟩ := o'
        cases n with
        | zero => simp [D.fit] at f
        | succ n => simp only [D.py]; exact .lst (SqL.of e4) (Rps.dp (n := n) rs (by simpa [D.fit] using f))
      | _ => simp only [res, e1] at f; cases n <;> simp [D.fit] at f
  | non => exact Rp.dp (T := T) (ρ := ρ) .non f
  | bl b => exact Rp.dp (T := T) (ρ := ρ) (.bl b) f
  | int i => exact Rp.dp (T := T) (ρ := ρ) (.int i) f
  | str x => exact Rp.dp (T := T) (ρ := ρ) (.str x) f
  | tup q rs => exact Rp.dp (.tup q rs) f
  | lst q rs => exact Rp.dp (.lst q rs) f
  | exc q hn => cases n <;> simp [res, D.fit] at f
theorem flat_of {d : D} {v : V} (r : Rp K T H ρ d v) (f : flatD d = true) : flatV v = true := by
  cases r <;> first | rfl | simp [flatD] at f
theorem flats_of : ∀ {ds : List D} {vs : List V}, Rps K T H ρ ds vs → ds.all flatD = true → vs.all flatV = true
  | _, _, .nil, _ => rfl
  | _, _, .cons a b, h => by
    simp only [List.all_cons, Bool.and_eq_true] at h ⊢
    exact ⟨flat_of a h.1, flats_of b h.2⟩
theorem eqV_of {d e : D} {v u : V} (r : Rp K T H ρ d v) (q : Rp K T H ρ e u) (fd : flatD d = true) (fe : flatD e = true) : eqV v u = D.eqv d e := by
  cases r <;> first | (simp [flatD] at fd; done) | skip
  all_goals (cases q <;> first | (simp [flatD] at fe; done) | skip)
  all_goals first | rfl | (simp only [eqV, D.eqv]; exact str_beq _ _)
theorem inV_of {d : D} {v : V} (r : Rp K T H ρ d v) (fd : flatD d = true) : ∀ {ds : List D} {vs : List V}, Rps K T H ρ ds vs → ds.all flatD = true → inV v vs = inD d ds
  | _, _, .nil, _ => rfl
  | _, _, .cons a b, h => by
    simp only [List.all_cons, Bool.and_eq_true] at h
    have := inV_of r fd b h.2
    simp only [inV, inD, List.any_cons] at this ⊢
    rw [this, eqV_of a r h.1 fd]
end

/-! ### comparisons, by values -/
def opc : COp → CmpOp
  | .eq => .Eq
  | .ne => .NotEq
  | .lt => .Lt
  | .le => .LtE
  | .gt => .Gt
  | .ge => .GtE
  | .isin => .In
  | .notin => .NotIn
def rc (K : PySem.W.Frag) : COp → R2
  | .eq => rEqD K
  | .ne => rNeD K
  | .lt => rI0 fun i j => .bl (decide (i < j))
  | .le => rI0 fun i j => .bl (decide (i ≤ j))
  | .gt => rI0 fun i j => .bl (decide (j < i))
  | .ge => rI0 fun i j => .bl (decide (j ≤ i))
  | .isin => fun x y H Q => rIn K false x y H Q ∨ rInD K x y H Q
  | .notin => fun x y H Q => rIn K true x y H Q ∨ rNotInD K x y H Q
theorem cmp_ok {X : Cx} (hu : X.A.units + 65 < cLine) : ∀ op : COp, OpR X (compareOp (opc op)) (rc X.K op)
  | .eq => op_eqD (by omega)
  | .ne => op_neD (by omega)
  | .lt => op_lt
  | .le => op_le
  | .gt => op_gt
  | .ge => op_ge
  | .isin => OpR.or op_in_seq (op_inD hu)
  | .notin => OpR.or op_notIn_seq (op_notInD hu)
section
variable {K : PySem.W.Frag} {T : Tb} {H : Hp} {ρ : Rho} {h : Sto} {Q : VK}
theorem cont_rd {a b : D} {x y : V} {c : Bool} (neg : Bool) (s : SR K T H ρ h) (ra : Rp K T H ρ a x) (rb : Rp K T H ρ b y) (e : contD a b h = some c) (q : Q (.bl (if neg then !c else c)) H) :
    rIn K neg x y H Q ∨ (if neg then rNotInD K x y H Q else rInD K x y H Q) := by
  unfold contD at e
  split at e
  · rename_i ys
    cases rb with
    | tup st rs =>
      left
      split at e
      · rename_i hf
        simp only [Bool.and_eq_true] at hf
        cases e
        refine ⟨_, _, rfl, .inr st.sq, flat_of ra hf.1, flats_of rs hf.2, ?_⟩
        rw [inV_of ra hf.1 rs hf.2]
        exact q
      · cases e
  · cases el : lstOf h b with
    | none => rw [el] at e; cases e
    | some ys =>
      rw [el] at e
      simp only at e
      split at e
      · rename_i hf
        simp only [Bool.and_eq_true] at hf
        cases e
        obtain ⟨p, vs, rfl, hp, rs⟩ := Rp.lstOf s rb el
        right
        have d1 : Dp K H x a.py := ra.dp hf.1
        have d2 : Dp K H (.ref p) (.list (D.pys ys)) := .lst (SqL.of hp) (rs.dp hf.2)
        have s1 : SeqAt.shaped a.py = true := py_shaped (by decide) hf.1
        have s2 : SeqAt.shaped (.list (D.pys ys)) = true := by
          have := py_shaped (n := 41) (a := .lst ys) (by decide) (by simp only [D.fit]; exact hf.2)
          simpa only [D.py] using this
        cases neg with
        | true => exact ⟨_, _, d1, d2, s1, s2, by rw [pys_any a 40 40 hf.1 ys hf.2]; exact q⟩
        | false => exact ⟨_, _, d1, d2, s1, s2, by rw [pys_any a 40 40 hf.1 ys hf.2]; exact q⟩
      · cases e
theorem cmp_rd {op : COp} {a b : D} {x y : V} {c : Bool} (s : SR K T H ρ h) (ra : Rp K T H ρ a x) (rb : Rp K T H ρ b y) (e : cmpD op a b h = some c) (q : Q (.bl c) H) : rc K op x y H Q := by
  cases op with
  | eq =>
    simp only [cmpD] at e
    split at e
    · rename_i hf
      simp only [Bool.and_eq_true] at hf
      cases e
      exact ⟨_, _, ra.dpr s hf.1, rb.dpr s hf.2, py_shaped (by decide) hf.1, py_shaped (by decide) hf.2, by rw [py_eqv 40 40 _ _ hf.1 hf.2]; exact q⟩
    · cases e
  | ne =>
    simp only [cmpD] at e
    split at e
    · rename_i hf
      simp only [Bool.and_eq_true] at hf
      cases e
      exact ⟨_, _, ra.dpr s hf.1, rb.dpr s hf.2, py_shaped (by decide) hf.1, py_shaped (by decide) hf.2, by rw [py_eqv 40 40 _ _ hf.1 hf.2]; exact q⟩
    · cases e
  | lt =>
    simp only [cmpD] at e
    split at e
    · cases ra; cases rb; cases e; exact ⟨_, _, rfl, rfl, q⟩
    · cases e
  | le =>
    simp only [cmpD] at e
    split at e
    · cases ra; cases rb; cases e; exact ⟨_, _, rfl, rfl, q⟩
    · cases e
  | gt =>
    simp only [cmpD] at e
    split at e
    · cases ra; cases rb; cases e; exact ⟨_, _, rfl, rfl, q⟩
    · cases e
  | ge =>
    simp only [cmpD] at e
    split at e
    · cases ra; cases rb; cases e; exact ⟨_, _, rfl, rfl, q⟩
    · cases e
  | isin => exact cont_rd false s ra rb e q
  | notin =>
    simp only [cmpD] at e
    cases ec : contD a b h with
    | none => rw [ec] at e; cases e
    | some c' =>
      rw [ec] at e
      cases e
      exact cont_rd true s ra rb ec q
end
end G8

set_option Elab.async false
set_option linter.all false
set_option maxRecDepth 100000
set_option maxHeartbeats 1000000
namespace G8
open PySem PySem.Spec PyProof.Rows L2
section
variable {X : Cx} {es : List Expr} {t : TA} {pos : Pos}
theorem tup_new {pins : List (Addr × Obj)} {σ : L2.St} {H : Hp} {s : Shared} {Q : VK} {xs : List V} {its : List Value} {t' : Nat} (I : Inv X pins σ H s) (r : Vals xs its) (z : xs.length ≤ sizeLine) (q : ∀ p its, H p = none → Q (.ref p) (upd H p (tH its xs))) :
    EP X pins σ Q (.ref s.heap.objs.size) { s with heap := s.heap.push (tO its), toks := t' } := by
  have hf : H s.heap.objs.size = none := I.hok.fresh (Nat.le_refl _)
  refine ⟨.ref s.heap.objs.size, upd H s.heap.objs.size (tH its xs), I.laid (t' := t') (fun b u e => Heap.get?_push_of_some _ e) (Nat.le_refl _) ?_, rfl, q _ _ hf⟩
  exact ⟨Heap.get?_push_size _ rfl, z, its, r, ⟨_, Heap.get?_push_size _ rfl, rfl, _, rfl⟩⟩
def tTupF (t : TA) : TE := fun σ H Q => t σ H fun xs H1 => xs.length ≤ sizeLine ∧ ∀ p its, H1 p = none → Q (.ref p) (upd H1 p (tH its xs))
theorem pe_tupF {x1} (h : PA X es t) : PE X (.Tuple es x1 pos) (tTupF t) := by
  refine ⟨fun pins s σ H Q I hq => ?_⟩
  refine wpAny_Tuple_spliced (thn (h.run pos pins s σ H _ I hq) fun us s1 ⟨xs, H1, I1, r, z, q⟩ => ⟨by rw [← r.length]; exact z, ?_⟩)
  exact tup_new (t' := s1.toks) I1 r z q
/-- t + u -/
def rCatF (K : PySem.W.Frag) : R2 := fun x y H Q => ∃ a b xs ys, x = .ref a ∧ y = .ref b ∧ SqT K H a xs ∧ SqT K H b ys ∧ xs.length + ys.length ≤ sizeLine ∧
  (xs = [] → Q (.ref b) H) ∧ (xs ≠ [] → ys = [] → Q (.ref a) H) ∧ (xs ≠ [] → ys ≠ [] → ∀ p its, H p = none → Q (.ref p) (upd H p (tH its (xs ++ ys))))
theorem op_catF : OpR X (binaryOp .Add) (rCatF X.K) := by
  intro pins s σ H x y v u Q I rx ry h
  obtain ⟨a, b, xs, ys, rfl, rfl, ha, hb, hz, q0, q1, q2⟩ := h
  cases rx
  cases ry
  obtain ⟨its, r1, p1, _⟩ := I.tuple ha
  obtain ⟨its2, r2, p2, _⟩ := I.tuple hb
  by_cases hx : xs = []
  · subst hx
    cases r1
    exact cat_tup0 p1 p2 ⟨.ref b, H, I, rfl, q0 rfl⟩
  · have hx' : its ≠ [] := fun e => hx ((Vals.nil_iff r1).mp e)
    refine HT.cat_tup p1 p2 hx' (fun e => ?_) (fun e => ?_) (by rw [← r1.length, ← r2.length]; exact hz)
    · exact ⟨.ref a, H, I, rfl, q1 hx ((Vals.nil_iff r2).mp e)⟩
    · exact tup_new (t' := s.toks) I (r1.append r2) (by rw [List.length_append]; exact hz) (q2 hx fun z => e ((Vals.nil_iff r2).mpr z))
/-- t[lo:hi] -/
def rSlF (K : PySem.W.Frag) : V → Option Int → Option Int → Hp → VK → Prop := fun x lo hi H Q => ∃ a xs, x = .ref a ∧ SqT K H a xs ∧
  (HT.sIx xs.length 0 lo = 0 ∧ HT.sIx xs.length xs.length hi = xs.length → Q (.ref a) H) ∧ (¬ (HT.sIx xs.length 0 lo = 0 ∧ HT.sIx xs.length xs.length hi = xs.length) → ∀ p its, H p = none → Q (.ref p) (upd H p (tH its (cutV xs lo hi))))
theorem sl_tupF : SlR X (rSlF X.K) := by
  intro pins s σ H x v vl vu lo hi sl Q I rx hs pl pu h
  obtain ⟨a, xs, rfl, hx, q1, q2⟩ := h
  cases rx
  obtain ⟨its, r, ht, hz⟩ := I.tuple hx
  have hlen : its.toArray.size = xs.length := by rw [List.size_toArray]; exact r.length.symm
  refine ⟨"tuple", _, PyProof.Rows.slot_tuple_getitem.lookup, ht.typeIs, ?_⟩
  by_cases hw : HT.sIx xs.length 0 lo = 0 ∧ HT.sIx xs.length xs.length hi = xs.length
  · exact getItem_tuple_whole ht hs pl pu (by rw [hlen]; exact hw) ⟨.ref a, H, I, rfl, q1 hw⟩
  · refine HT.getItem_tuple_cut ht hs pl pu (by rw [hlen]; exact hw) ?_ (by rw [hlen]; exact hz)
    have e : (its.toArray.toList.drop (HT.sIx its.toArray.size 0 lo)).take (HT.sIx its.toArray.size its.toArray.size hi - HT.sIx its.toArray.size 0 lo)
        = (its.drop (HT.sIx xs.length 0 lo)).take (HT.sIx xs.length xs.length hi - HT.sIx xs.length 0 lo) := by rw [hlen]
    rw [e]
    exact tup_new (t' := s.toks) I ((r.drop _).take _) (Nat.le_trans (cutV_length xs lo hi) hz) (q2 hw)
/-- tuple(x) -/
def rTupF (K : PySem.W.Frag) : List V → Hp → VK → Prop := fun xs H Q => ∃ p ys, xs = [.ref p] ∧ ((SqL K H p ys ∧ ∀ l its, H l = none → Q (.ref l) (upd H l (tH its ys))) ∨ (SqT K H p ys ∧ Q (.ref p) H))
theorem call_tupF : CallR X (.type "tuple") (rTupF X.K) := by
  intro pins s σ H xs us Q I r h
  obtain ⟨p, ys, rfl, h⟩ := h
  obtain ⟨u, rfl, rx⟩ := vals1 r
  cases rx
  rcases h with ⟨hq, q⟩ | ⟨hq, q⟩
  · obtain ⟨its, r', pl, hz⟩ := I.list hq
    have hlen := r'.length
    refine call_tuple_list pl.isList (fun h' kp => ?_) (by simp only [List.size_toArray] <;> omega)
    exact tup_new (s := { s with heap := h' }) (t' := s.toks) (I.kept (t' := s.toks) kp) r' hz q
  · obtain ⟨its, r', pl, hz⟩ := I.tuple hq
    exact call_tuple_same pl ⟨.ref p, H, I, rfl, q⟩
def tTupRgF (te : L2.St → Hp → (Int → Int → Hp → Prop) → Prop) : TE := fun σ H Q => te σ H fun a b H1 => RgOk a b ∧ ∀ q its, H1 q = none → Q (.ref q) (upd H1 q (tH its (rgV a b)))
theorem pe_tupRgF {e : Expr} {te : L2.St → Hp → (Int → Int → Hp → Prop) → Prop} {p pos : Pos} (hc : X.calm = true) (hg : Gl X "tuple") (hm : X.mg "tuple" = none) (he : PRg X e te) (na : starEach [e] X.env = (false, eval e X.env) :: starEach [] X.env) : PE X (.Call (.Name "tuple" p) [e] [] pos) (tTupRgF te) := by
  refine ⟨fun pins s σ H Q I h => ?_⟩
  refine Call_ (ld_blt I hg hm boot_tuple (PyProof.Rows.callWith_type1 (args_cons (thn (he pins s σ H _ I h) fun x s1 ⟨r, a, b, t, u, v, H1, ex, hr, I1, ok, q⟩ => args_nil ?_) na) na))
  subst ex
  obtain ⟨b1, b2, b3, b4, b5⟩ := ok
  refine call_tuple_range (n := (b - a).toNat) (I1.ok.hd hc) hr (small_one b1 b2 b3 b4) (rangeSize_nat a b) b5 fun h' tk acc hk hi => ?_
  have I2 : Inv X pins σ H1 { s1 with heap := h', toks := tk } := I1.kept hk
  have := tup_new (s := { s1 with heap := h', toks := tk }) (t' := tk) I2 (vals_rg hi) (by rw [rgV_length, sizeLine_eq]; omega) q
  simpa using this
def rRepF (K : PySem.W.Frag) : R2 := fun x y H Q => ∃ l k xs, x = .ref l ∧ y = .int k ∧ SqT K H l xs ∧ xs ≠ [] ∧ 2 ≤ k ∧ k ≤ 1000 ∧ xs.length ≤ 1000 ∧ ∀ p its, H p = none → Q (.ref p) (upd H p (tH its (List.replicate k.toNat xs).flatten))
theorem op_repF : OpR X (binaryOp .Mult) (rRepF X.K) := by
  intro pins s σ H x y v u Q I rx ry h
  obtain ⟨l, k, xs, rfl, rfl, hT, hne, h1, h2, hz, q⟩ := h
  cases rx
  obtain ⟨t, rfl⟩ := ry
  obtain ⟨its, r, ⟨⟨cls, dd, data, sl⟩, ho, hc, n, hd⟩, hs⟩ := I.tuple hT
  simp only at hc hd
  subst hc hd
  have hle : its.length = xs.length := r.length.symm
  have hn : its ≠ [] := fun e => hne (by
    rw [e] at hle
    exact List.eq_nil_of_length_eq_zero hle.symm)
  have hi : its.toArray.isEmpty = false := by
    cases its with
    | nil => exact absurd rfl hn
    | cons a b => rfl
  have hsz0 : its.toArray.size = xs.length := by rw [List.size_toArray, hle]
  have hm : ((its.toArray.size : Nat) : Int) * k ≤ 1000000 := by
    rw [hsz0]
    have a1 : ((xs.length : Nat) : Int) * k ≤ 1000 * k := Int.mul_le_mul_of_nonneg_right (by omega) (by omega)
    omega
  have flen : (List.replicate k.toNat its).flatten.length ≤ sizeLine := by
    rw [PyProof.Rows.lm_len_rep_flat, hle, sizeLine_eq]
    have a1 : k.toNat * xs.length ≤ 1000 * 1000 := Nat.mul_le_mul (by omega) hz
    omega
  have c0 : (decide (k < -(2 ^ 63)) || decide (k ≥ 2 ^ 63)) = false := by
    rw [decide_eq_false (by omega), decide_eq_false (by omega)] <;> rfl
  have c1 : (its.toArray.isEmpty || k == 1) = false := by
    rw [hi, Bool.false_or]
    exact beq_eq_false_iff_ne.mpr (by omega)
  have c2 : (decide (k ≤ 0) || its.toArray.isEmpty) = false := by
    rw [hi, Bool.or_false]
    exact decide_eq_false (by omega)
  have c4 : Builtin.Tuple.tupleTooMany (((its.toArray.size : Nat) : Int) * k) = false := by
    unfold Builtin.Tuple.tupleTooMany
    rw [sizeLine_eq]
    exact decide_eq_false (by omega)
  refine wpAny_binaryOp_repeat_ref (T := "tuple") (U := "int") (by decide) ⟨_, ho, rfl⟩ (fun s' => typeIs_int s' k t) noFill_tuple_mul F.fills_int_mul F.slot_int_rmul repeat_tuple F.slot_int_index.lookup
    (call_meets F.slot_int_rmul (typeIs_int s k t) F.entry_int_rmul (F.args_int_rmul_2 _ _) (int_rmul_tuple k t l its.toArray n dd sl)
      ⟨ho, rfl, ⟨_, ho, rfl⟩, call_meets F.slot_tuple_mul ⟨_, ho, rfl⟩ F.entry_tuple_mul (F.args_tuple_mul_2 _ _) (tuple_mulW l its.toArray n dd sl k t c0 c1 c2 (by omega) c4 (by rw [size_rep, List.size_toArray]; exact flen)) ⟨ho, ?_⟩⟩)
  rw [size_rep]
  exact tup_new (t' := s.toks) I (r.rep k.toNat) (by rw [PyProof.Rows.lm_len_rep_flat, sizeLine_eq]; have a1 : k.toNat * xs.length ≤ 1000 * 1000 := Nat.mul_le_mul (by omega) hz; omega) q

/-! ### methods of tuples -/
def tyT (x : V) (H : Hp) : Prop := ∃ p its xs, x = .ref p ∧ H p = some (tH its xs)
def tBMT (r : V → List V → Hp → VK → Prop) (to : TE) (t : TA) : TE := fun σ H Q => to σ H fun x H1 => tyT x H1 ∧ t σ H1 fun xs H2 => r x xs H2 Q
theorem pe_bmT {o e : Expr} {es : List Expr} {to : TE} {t : TA} {name : Str} {apos cpos : Pos} {id : String} {r : V → List V → Hp → VK → Prop} (slot : Slot "tuple" name id) (hty : typeOf (.builtin id) = pure (.type "method_descriptor")) (hm : MtR X id r) (ho : PE X o to) (ha : PA X (e :: es) t)
    (hbase : attributeBase o name X.env (eval o X.env) = eval o X.env)
    (hfew : ((backTo cpos (starEach (e :: es) X.env)).all (fun x => !x.1) && (backToKw cpos (keywordEach [] X.env)).all (fun x => x.1.isSome)
      && decide ((e :: es).length + ([] : List Keyword).length + (if ([] : List Keyword).isEmpty then 0 else 1) < 30)) = true)
    (hline : (apos.endLine == cpos.line) = true) (hs : starEach (e :: es) X.env = (false, eval e X.env) :: starEach es X.env) (hplain : (backTo cpos (starEach es X.env)).any (·.1) = false) :
    PE X (.Call (.Attribute o name apos) (e :: es) [] cpos) (tBMT r to t) := by
  refine ⟨fun pins s σ H Q I h => ?_⟩
  refine wpAny_Call_method_late hbase hfew hline rfl (thn (ho.run pins s σ H _ I h) fun v s1 ⟨x, H1, I1, r1, ty, q1⟩ => ?_)
  obtain ⟨p, its, xs, rfl, hp⟩ := ty
  cases r1
  obtain ⟨he, _⟩ := I1.hok p _ hp
  refine ⟨"tuple", id, PySem.F.plainAttrs_tuple, slot, hty, ⟨_, he, rfl⟩, fun a e' => by cases e'; exact ⟨_, he, rfl⟩, ?_⟩
  have hA := ha.run cpos pins s1 σ H1 _ I1 q1
  rw [hs] at hA ⊢
  refine Calls.callWith_builtin (by show (false || (backTo cpos (starEach es X.env)).any (·.1)) = false; rw [hplain] <;> rfl) (Calls.evalArgs_plain ?_)
  exact thn hA fun us s2 ⟨vs, H2, I2, r2, q2⟩ => hm pins s2 σ H2 (.ref p) vs (.ref p) us Q I2 rfl r2 q2
/-- t.index(x), flat items -/
def rIndexT (K : PySem.W.Frag) : V → List V → Hp → VK → Prop := fun x xs H Q => ∃ (a : Addr) (ys : List V) (y : V) (j : Nat) (z : V), x = V.ref a ∧ xs = [y] ∧ SqT K H a ys ∧ flatV y = true ∧ ys.all flatV = true ∧ ys[j]? = some z ∧ eqV z y = true ∧
  (∀ (m : Nat) (z' : V), m < j → ys[m]? = some z' → eqV z' y = false) ∧ Q (.int (j : Nat)) H
theorem mt_indexT : MtR X "tuple.index" (rIndexT X.K) := by
  intro pins s σ H x xs v us Q I rx rs h
  obtain ⟨p, ys, y, j, z, rfl, rfl, hq, fy, fys, hz, hzj, hno, q⟩ := h
  cases rx
  obtain ⟨u, rfl, ru⟩ := vals1 rs
  obtain ⟨its, r, pl, hsz⟩ := I.tuple hq
  obtain ⟨⟨cls, dd, dt, sl⟩, ho, hc, n, hd⟩ := pl
  simp only at hc hd
  subst hc
  subst hd
  have hl : its.toArray.size = ys.length := by rw [List.size_toArray, ← r.length]
  have hj : j < its.toArray.size := by rw [hl]; exact (List.getElem?_eq_some_iff.mp hz).1
  have at' : ∀ (m : Nat) (hm : m < its.toArray.size), ∃ y', ys[m]? = some y' ∧ RelV y' its.toArray[m] ∧ flatV y' = true := fun m hm => by
    have hm' : m < ys.length := by rw [← hl]; exact hm
    obtain ⟨w, hw, hw'⟩ := r.get (i := m) (x := ys[m]) (List.getElem?_eq_getElem hm')
    refine ⟨ys[m], List.getElem?_eq_getElem hm', ?_, flat_at fys (List.getElem?_eq_getElem hm')⟩
    have e := (List.getElem?_eq_some_iff.mp hw).2
    have e2 : its.toArray[m] = w := by rw [← e]; simp
    rw [e2]; exact hw'
  refine call_meets PySem.F.slot_tuple_index ⟨_, ho, rfl⟩ PySem.F.entry_tuple_index (PySem.F.args_tuple_index_2 _ _) (TI.tuple_indexAt p its.toArray n dd sl u (eqU y) j hj ?_ ?_)
    ⟨ho, fun w hw => mem_eqAt ru fy r fys w (by simpa using hw), ⟨.int (j : Nat), H, I.tok _, ⟨_, rfl⟩, q⟩⟩
  · obtain ⟨y', h1, h2, h3⟩ := at' j hj
    rw [hz] at h1
    cases h1
    rw [eqU_of h2 h3]
    exact hzj
  · intro m hm hmj
    obtain ⟨y', h1, h2, h3⟩ := at' m hm
    rw [eqU_of h2 h3]
    exact hno m y' hmj h1
/-- l.count(x) -/
def rCountD (K : PySem.W.Frag) : V → List V → Hp → VK → Prop := fun x xs H Q => ∃ (a : Addr) (y : V) (d : PyData) (ds : List PyData), x = V.ref a ∧ xs = [y] ∧ Dp K H (V.ref a) (.list ds) ∧ Dp K H y d ∧
  SeqAt.shaped (.list ds) = true ∧ SeqAt.shaped d = true ∧ Q (.int (ds.countP fun z => PyData.eqv z d : Nat)) H
end
end G8

set_option Elab.async false
set_option linter.all false
set_option maxRecDepth 100000
set_option maxHeartbeats 1000000
namespace G8
open PySem PySem.Spec PyProof.Rows L2
section
variable {X : Cx}
theorem mt_countD (hu : X.A.units + 65 < cLine) : MtR X "list.count" (rCountD X.K) := by
  intro pins s σ H x xs v us Q I rx rxs h
  obtain ⟨a, y, d, ds, rfl, rfl, hl, hy, sl, sd, q⟩ := h
  cases rx
  obtain ⟨u, rfl, ry⟩ := vals1 rxs
  obtain ⟨bs, r1⟩ := Dp.reads I d y u hy ry
  have hxs : PyData.canLayAll0 ds = true := SeqAt.canLay_of_shaped sl
  have hroom : X.A.units + 1 + min (PyData.depthAll ds) d.depth < cLine := room_in_shaped sd hu
  cases hl with
  | lst hs ha =>
    obtain ⟨its, rv, pl, hlen⟩ := I.list hs
    obtain ⟨as, h4⟩ := Dp.readsAll I ds _ its ha rv
    exact SeqAt.count_list_data pl.isList (by simpa using h4) r1 (PyData.plainAll_of_canLay0 ds hxs) (PyData.plain_of_canLay0 d (SeqAt.canLay_of_shaped sd)) hroom ⟨.int _, H, I.tok _, ⟨_, rfl⟩, q⟩
/-- sorted(t), ints -/
def rSortedT (K : PySem.W.Frag) : List V → Hp → VK → Prop := fun vs H Q => ∃ (a : Addr) (ns : List Int), vs = [V.ref a] ∧ SqT K H a (ns.map V.int) ∧
  ∀ (ns' : List Int) (p : Addr), ns'.Perm ns → ns'.Pairwise (· ≤ ·) → H p = none → Q (.ref p) (upd H p (.lst (ns'.map V.int)))
theorem cr_sortedT : CallR X (.builtin "sorted") (rSortedT X.K) := by
  intro pins s σ H vs us Q I r h
  obtain ⟨a, ns, rfl, hs, q⟩ := h
  obtain ⟨its, rv, ⟨o, ho, hc, n, hd⟩, hz⟩ := I.tuple hs
  rw [Vals.ref1 r]
  have hi := rv.ints
  have hz' : its.length ≤ sizeLine := by rw [← rv.length]; exact hz
  refine Calls.call_function_entry kind_sorted plain_sorted entry_sorted (args_sorted1 _) ?_
  unfold Builtin.«sorted»
  refine wpAny_bind (m := checkCount "sorted" 1 1 _) (wpAny_pure ?_)
  refine wpAny_bind (wpAny_collect_seq a (.inr rfl) ho hc hd (fun h' kp => ?_) (by rw [List.size_toArray]; exact hz'))
  refine wpAny_bind (wpAny_newList ?_ (by simpa using hz'))
  have I1 : Inv X pins σ H { s with heap := h' } := I.kept (t' := s.toks) kp
  have hoL : (h'.push { cls := .type "list", data := .seq its.toArray }).get? h'.objs.size = some (seqObj "list" its.toArray 0) := Heap.get?_push_size _ rfl
  refine wpAny_bind (wpAny_holding (wpAny_call_entry slot_list_sort ⟨_, hoL, rfl⟩ entry_list_sort (SrtO.list_sort_ord SrtO.swo_int hoL hz' (fun h2 => SrtO.ints_sortable hi h2) fun out h1 h2 => ⟨_, rfl, ?_⟩) (args_list_sort _)))
  refine wpAny_pure ⟨_, rfl, ?_⟩
  obtain ⟨k1, k2, k3⟩ := SrtO.ints_out hi h1 h2
  have hlen : ((out.map SrtO.iv).map V.int).length ≤ sizeLine := by
    rw [List.length_map, k2.length_eq]
    rw [List.length_map] at hz
    exact hz
  obtain ⟨ep, he'⟩ := sortedHeap_at (vs := its) (out := out.toArray) hoL
  have keep : ∀ b u, h'.get? b = some u → (sortedHeap (h'.push { cls := .type "list", data := .seq its.toArray }) h'.objs.size its out.toArray).get? b = some u := fun b u e => by
    have hlt : b < h'.objs.size := Heap.lt_size e
    rw [sortedHeap_old (Nat.ne_of_lt hlt) (by rw [Heap.size_push]; exact Nat.lt_succ_of_lt hlt)]
    exact Heap.get?_push_of_some _ e
  exact ⟨.ref _, upd H h'.objs.size (.lst ((out.map SrtO.iv).map V.int)), I1.laid (t' := s.toks) keep (Nat.le_refl _) ⟨hlen, out, ep, vals_of_ints k1, he'⟩, rfl, q _ _ k2 k3 (I1.hok.fresh (Nat.le_refl _))⟩
end

/-! ### enumerate of a tuple, of a list: the pair's object is known -/
theorem meets_enum1 {v : Value} {o : Obj} {H : Heap → Prop} (B : Begins v o H) :
    Meets (Builtin.«enumerate.__new__» ⟨[.type "enumerate", v], []⟩) (fun _ R s => H s.heap ∧
      R (.ok (.ret (.ref (s.heap.push o).objs.size))) { s with heap := (s.heap.push o).push { cls := .type "enumerate", data := .fields #[.none, .bool false, .ref s.heap.objs.size, rawInt 0, .none, .none] } }) :=
  .of_wp fun prog w A R s h => by
    obtain ⟨hp, g, d, tk, os⟩ := s; obtain ⟨h1, h⟩ := h
    have hsub := sub_enumerate
    have q1 : ∀ {A' : Around} {E : Value → Shared → Prop} {Q : Value → Shared → Prop}, Q (.ref hp.objs.size) ⟨hp.push o, g, d, tk, os⟩ → wpAny (model prog w) A' (pyIter v) Q E ⟨hp, g, d, tk, os⟩ :=
      fun q => B.iter prog w _ _ ⟨hp, g, d, tk, os⟩ _ h1 q
    wp_walk using q1
    refine wpAny_stack_any fun st => wpAny_pure ?_
    split
    · rename_i c _ _ _ _ _
      cases (c == Value.type "enumerate")
      · wp_walk using q1
        exact ⟨_, rfl, h⟩
      · wp_walk using q1
        exact ⟨_, rfl, h⟩
    · wp_walk using q1
      exact ⟨_, rfl, h⟩
theorem enum_begins1 {prog : Program} {w : World} {A : Around} {E : Value → Shared → Prop} {s : Shared} {v : Value} {o : Obj} {H : Heap → Prop} {Q : Value → Shared → Prop} (B : Begins v o H) (h1 : H s.heap)
    (h : ∀ h', IsEnum h' (s.heap.objs.size + 1) s.heap.objs.size 0 .none → h'.get? s.heap.objs.size = some o → h'.objs.size = s.heap.objs.size + 2 →
      (∀ b o, s.heap.get? b = some o → h'.get? b = some o) → Q (.ref (s.heap.objs.size + 1)) { s with heap := h' }) :
    wpAny (model prog w) A (call (.type "enumerate") [v]) Q E s := by
  refine callType_new F.called_enumerate (by decide) (F.typeCall_enumerate_1 _) (F.newCall_enumerate_1 _) (fun obj => F.args_object_init_2 obj _) F.entry_enumerate_new
    (meets_enum1 B) ⟨h1, ?_⟩
  have hz : (s.heap.push o).objs.size = s.heap.objs.size + 1 := Heap.size_push ..
  show _ ∧ _
  rw [hz]
  have he : IsEnum ((s.heap.push o).push { cls := .type "enumerate", data := .fields #[.none, .bool false, .ref s.heap.objs.size, rawInt 0, .none, .none] }) (s.heap.objs.size + 1) s.heap.objs.size 0 .none := by
    have := Heap.get?_push_size (s.heap.push o) (o := { cls := .type "enumerate", data := .fields #[.none, .bool false, .ref s.heap.objs.size, rawInt 0, .none, .none] }) rfl
    rw [hz] at this; exact this
  refine ⟨⟨_, he, rfl⟩, h _ he (Heap.get?_push_of_some _ (Heap.get?_push_size _ B.free)) (by rw [Heap.size_push, hz]) fun b o x => Heap.get?_push_of_some _ (Heap.get?_push_of_some _ x)⟩
/-- a pair of the turn's number and an item -/
def YEn (xs : List V) : Nat → Hp → V → Hp → Prop := fun i H v H' => ∃ T its x, v = .ref T ∧ H T = none ∧ H' = upd H T (tH its [.int (i : Nat), x]) ∧ xs[i]? = some x
def IteT (K : PySem.W.Frag) (a : Addr) : It :=
  ⟨fun i H => ∃ xs x, SqT K H a xs ∧ xs[i]? = some x, fun i H v H' => ∃ T its x, v = .ref T ∧ H T = none ∧ H' = upd H T (tH its [.int (i : Nat), x]) ∧ ∀ xs, SqT K H a xs → xs[i]? = some x, fun i H => ∃ xs, SqT K H a xs ∧ xs.length = i⟩
theorem turn_enumT {P : Program} {w : World} {K : PySem.W.Frag} {elts : List Expr} {kk : Nat} {tpos : Pos} (a e it : Addr) :
    Turn P w K (.Tuple elts kk tpos) (IteT K a) [e, it] e (fun i h => (∃ old, IsEnum h e it ((i : Nat) : Int) old) ∧ h.IsTupleIter it a i ∧ e ≠ it ∧ a ≠ it ∧ a ≠ e) where
  mem := by simp
  obj := fun i h st b hb => by
    obtain ⟨⟨old, he⟩, ⟨o, ho, hc, hd⟩, _⟩ := st
    have e' : b = e ∨ b = it := by simpa using hb
    rcases e' with z | z
    · rw [z]; exact ⟨_, he, fun v q => nomatch q⟩
    · rw [z]; exact ⟨o, ho, fun v q => by rw [hd] at q; cases q⟩
  keep := fun i h h' st k => let ⟨⟨old, he⟩, hi, hne⟩ := st; ⟨⟨old, k e (by simp) _ he⟩, hi.at fun o q => k it (by simp) o q, hne⟩
  item := by
    intro X hP hw hK hc i pins s σ H E I hf st hg
    subst hP hw hK
    obtain ⟨⟨old, he⟩, hit, hne, hai, hae⟩ := st
    obtain ⟨xs, x, hq, hx⟩ := hg
    obtain ⟨its, rv, p, hz⟩ := I.tuple hq
    have hlt : i < its.toArray.size := by rw [List.size_toArray, ← rv.length]; exact (List.getElem?_eq_some_iff.mp hx).1
    have hel : e < s.heap.objs.size := Heap.lt_size he
    have hil : it < s.heap.objs.size := by obtain ⟨_, q, _⟩ := hit; exact Heap.lt_size q
    have hal : a < s.heap.objs.size := by obtain ⟨_, q, _⟩ := p; exact Heap.lt_size q
    have hh : X.A.in1.handled = none := I.ok.hd hc
    refine wpAny_pyNext_enum_itemD (Draws.tuple hh it a hai its.toArray) he ⟨hit, show s.heap.IsTuple a its.toArray from p⟩ hlt hne (by simp [hne, Ne.symm hae]) fun u h' tk hu ho hst' hT hsz hk => ?_
    refine ⟨_, rfl, wpAny_letOwnedTupleGo_enum (s := { s with heap := h', toks := tk + 1 }) ho fun h'' he' sb => ?_⟩
    have hT2 : h''.get? s.heap.objs.size = some (tO [.int i tk, u]) := (sb.2 _ (Nat.ne_of_gt hel)).trans hT
    obtain ⟨u', hu', ru⟩ := rv.get hx
    have eu : u = u' := by
      have : its[i]? = some u := by simpa using hu
      rw [hu'] at this; cases this; rfl
    subst eu
    have new : ObjOk X.prog X.w (upd H s.heap.objs.size (tH [.int i tk, u] [.int (i : Nat), x])) h'' s.heap.objs.size (tH [.int i tk, u] [.int (i : Nat), x]) :=
      ⟨hT2, by show 2 ≤ sizeLine; decide, [.int i tk, u], .cons ⟨_, rfl⟩ (.cons ru .nil), ⟨_, hT2, rfl, _, rfl⟩⟩
    have I1 : Inv X pins σ (upd H s.heap.objs.size (tH [.int i tk, u] [.int (i : Nat), x])) { s with heap := h'', toks := tk + 1 } :=
      I.turnedNew (ch := [e, it]) (fun b ob hb q => (sb.2 b (fun z => hb (by simp [z]))).trans (hk b ob (fun z => hb (by simp [z])) (fun z => hb (by simp [z])) q)) hf (Nat.le_refl _) new
    refine ⟨.ref s.heap.objs.size, _, I1, rfl, ⟨_, _, x, rfl, I.hok.fresh (Nat.le_refl _), rfl, fun ys hy => by rw [I.tuple_inj hy hq]; exact hx⟩, ⟨⟨u, ?_⟩, hst'.1.at fun o q => (sb.2 it (Ne.symm hne)).trans q, hne, hai, hae⟩, fun b hb => ?_⟩
    · have e1 : ((i + 1 : Nat) : Int) = (i : Int) + 1 := by omega
      rw [e1]; exact he'
    · have hb' : b < s.heap.objs.size := by
        have e' : b = e ∨ b = it := by simpa using hb
        rcases e' with z | z
        · rw [z]; exact hel
        · rw [z]; exact hil
      rw [upd_ne (Nat.ne_of_lt hb')]
      exact (hf b hb).1
  done := by
    intro X hP hw hK hc i pins s σ H E I hf st hg
    subst hP hw hK
    obtain ⟨⟨old, he⟩, hit, hne, hai, hae⟩ := st
    obtain ⟨xs, hq, hx⟩ := hg
    obtain ⟨its, rv, p, hz⟩ := I.tuple hq
    obtain ⟨f0, f1, f2, f3, f4, f5⟩ := hf it (by simp)
    have hl := rv.length
    have hh : X.A.in1.handled = none := I.ok.hd hc
    have ei : i = its.toArray.size := by rw [List.size_toArray]; omega
    subst ei
    exact wpAny_pyNext_enum_endD (Draws.tuple hh it a hai its.toArray) he ⟨hit, show s.heap.IsTuple a its.toArray from p⟩ fun h' eb => ⟨rfl, I.turned (t' := s.toks) (fun b o hb q => eb b o hb q) f0 f1 f3 f4 f5⟩
  self := fun A i s Q E st h => let ⟨⟨_, he⟩, _⟩ := st; wpAny_pyIter_enum he h
def iEnumT (K : PySem.W.Frag) (ta : TA) : TI := fun σ H R => ta σ H fun vs H1 => ∃ a xs, vs = [.ref a] ∧ SqT K H1 a xs ∧ R (IteT K a) H1
theorem pi_enumT {X : Cx} {e : Expr} {ta : TA} {p pos tpos : Pos} {elts : List Expr} {kk : Nat} (hg : Gl X "enumerate") (hm : X.mg "enumerate" = none) (ha : PA X [e] ta) (hs : starEach [e] X.env = [(false, eval e X.env)]) :
    PI X (.Tuple elts kk tpos) (.Call (.Name "enumerate" p) [e] [] pos) (iEnumT X.K ta) := by
  refine ⟨fun pins s σ H R I h => ?_⟩
  refine Call_ (ld_blt I hg hm boot_enumerate (PyProof.Rows.callWith_type1 (thn (ha.run pos pins s σ H _ I h) fun us s1 ⟨vs, H1, I1, r1, q1⟩ => ?_) hs rfl))
  obtain ⟨a, xs, ex, hq, q⟩ := q1
  subst ex
  cases r1 with
  | cons r rr =>
    cases rr
    cases r
    obtain ⟨its, rv, p', hz⟩ := I1.tuple hq
    have hal : a < s1.heap.objs.size := by obtain ⟨_, q, _⟩ := p'; exact Heap.lt_size q
    refine enum_begins1 (begins_tuple a its.toArray) (show s1.heap.IsTuple a its.toArray from p') fun h' he hit hsz hk => wpAny_pyIter_enum he ?_
    have I2 : Inv X pins σ H1 { s1 with heap := h' } := I1.kept (t' := s1.toks) hk
    refine ⟨s1.heap.objs.size + 1, [s1.heap.objs.size + 1, s1.heap.objs.size], _, _, H1, rfl, I2, turn_enumT a (s1.heap.objs.size + 1) s1.heap.objs.size, ⟨⟨.none, he⟩, ⟨_, hit, rfl, rfl⟩, Nat.succ_ne_self _, Nat.ne_of_lt hal, Nat.ne_of_lt (Nat.lt_succ_of_lt hal)⟩, fun b hb => ?_, q⟩
    have e' : b = s1.heap.objs.size + 1 ∨ b = s1.heap.objs.size := by simpa using hb
    have hle : s1.heap.objs.size ≤ b := by
      rcases e' with z | z
      · rw [z]; exact Nat.le_add_right _ _
      · rw [z]; exact Nat.le_refl _
    exact I1.fpOk hle (I1.hok.fresh hle)
theorem walk_enumT {K : PySem.W.Frag} {a : Addr} {xs : List V} : Walk (IteT K a) xs.length (fun H => SqT K H a xs) (YEn xs) where
  goes := fun i H hi hG => ⟨xs, xs[i], hG, List.getElem?_eq_getElem hi⟩
  stops := fun H hG => ⟨xs, hG, rfl⟩
  yields := fun i H x H' hi hG ⟨T, its, y, e1, e2, e3, e4⟩ => ⟨T, its, y, e1, e2, e3, e4 xs hG⟩
def IteL (K : PySem.W.Frag) (a : Addr) : It :=
  ⟨fun i H => ∃ xs x, SqL K H a xs ∧ xs[i]? = some x, fun i H v H' => ∃ T its x, v = .ref T ∧ H T = none ∧ H' = upd H T (tH its [.int (i : Nat), x]) ∧ ∀ xs, SqL K H a xs → xs[i]? = some x, fun i H => ∃ xs, SqL K H a xs ∧ xs.length = i⟩
theorem turn_enumL {P : Program} {w : World} {K : PySem.W.Frag} {elts : List Expr} {kk : Nat} {tpos : Pos} (a e it : Addr) :
    Turn P w K (.Tuple elts kk tpos) (IteL K a) [e, it] e (fun i h => (∃ old, IsEnum h e it ((i : Nat) : Int) old) ∧ h.IsListIter it a i ∧ e ≠ it ∧ a ≠ it ∧ a ≠ e) where
  mem := by simp
  obj := fun i h st b hb => by
    obtain ⟨⟨old, he⟩, ⟨o, ho, hc, hd⟩, _⟩ := st
    have e' : b = e ∨ b = it := by simpa using hb
    rcases e' with z | z
    · rw [z]; exact ⟨_, he, fun v q => nomatch q⟩
    · rw [z]; exact ⟨o, ho, fun v q => by rw [hd] at q; cases q⟩
  keep := fun i h h' st k => let ⟨⟨old, he⟩, hi, hne⟩ := st; ⟨⟨old, k e (by simp) _ he⟩, hi.at fun o q => k it (by simp) o q, hne⟩
  item := by
    intro X hP hw hK hc i pins s σ H E I hf st hg
    subst hP hw hK
    obtain ⟨⟨old, he⟩, hit, hne, hai, hae⟩ := st
    obtain ⟨xs, x, hq, hx⟩ := hg
    obtain ⟨its, rv, p, hz⟩ := I.list hq
    have hlt : i < its.toArray.size := by rw [List.size_toArray, ← rv.length]; exact (List.getElem?_eq_some_iff.mp hx).1
    have hel : e < s.heap.objs.size := Heap.lt_size he
    have hil : it < s.heap.objs.size := by obtain ⟨_, q, _⟩ := hit; exact Heap.lt_size q
    have hal : a < s.heap.objs.size := by obtain ⟨_, q, _⟩ := p.isList; exact Heap.lt_size q
    have hh : X.A.in1.handled = none := I.ok.hd hc
    refine wpAny_pyNext_enum_itemD (Draws.list hh it a hai its.toArray) he ⟨hit, p.isList⟩ hlt hne (by simp [hne, Ne.symm hae]) fun u h' tk hu ho hst' hT hsz hk => ?_
    refine ⟨_, rfl, wpAny_letOwnedTupleGo_enum (s := { s with heap := h', toks := tk + 1 }) ho fun h'' he' sb => ?_⟩
    have hT2 : h''.get? s.heap.objs.size = some (tO [.int i tk, u]) := (sb.2 _ (Nat.ne_of_gt hel)).trans hT
    obtain ⟨u', hu', ru⟩ := rv.get hx
    have eu : u = u' := by
      have : its[i]? = some u := by simpa using hu
      rw [hu'] at this; cases this; rfl
    subst eu
    have new : ObjOk X.prog X.w (upd H s.heap.objs.size (tH [.int i tk, u] [.int (i : Nat), x])) h'' s.heap.objs.size (tH [.int i tk, u] [.int (i : Nat), x]) :=
      ⟨hT2, by show 2 ≤ sizeLine; decide, [.int i tk, u], .cons ⟨_, rfl⟩ (.cons ru .nil), ⟨_, hT2, rfl, _, rfl⟩⟩
    have I1 : Inv X pins σ (upd H s.heap.objs.size (tH [.int i tk, u] [.int (i : Nat), x])) { s with heap := h'', toks := tk + 1 } :=
      I.turnedNew (ch := [e, it]) (fun b ob hb q => (sb.2 b (fun z => hb (by simp [z]))).trans (hk b ob (fun z => hb (by simp [z])) (fun z => hb (by simp [z])) q)) hf (Nat.le_refl _) new
    refine ⟨.ref s.heap.objs.size, _, I1, rfl, ⟨_, _, x, rfl, I.hok.fresh (Nat.le_refl _), rfl, fun ys hy => by rw [I.list_inj hy hq]; exact hx⟩, ⟨⟨u, ?_⟩, hst'.1.at fun o q => (sb.2 it (Ne.symm hne)).trans q, hne, hai, hae⟩, fun b hb => ?_⟩
    · have e1 : ((i + 1 : Nat) : Int) = (i : Int) + 1 := by omega
      rw [e1]; exact he'
    · have hb' : b < s.heap.objs.size := by
        have e' : b = e ∨ b = it := by simpa using hb
        rcases e' with z | z
        · rw [z]; exact hel
        · rw [z]; exact hil
      rw [upd_ne (Nat.ne_of_lt hb')]
      exact (hf b hb).1
  done := by
    intro X hP hw hK hc i pins s σ H E I hf st hg
    subst hP hw hK
    obtain ⟨⟨old, he⟩, hit, hne, hai, hae⟩ := st
    obtain ⟨xs, hq, hx⟩ := hg
    obtain ⟨its, rv, p, hz⟩ := I.list hq
    obtain ⟨f0, f1, f2, f3, f4, f5⟩ := hf it (by simp)
    have hl := rv.length
    have hh : X.A.in1.handled = none := I.ok.hd hc
    have ei : i = its.toArray.size := by rw [List.size_toArray]; omega
    subst ei
    exact wpAny_pyNext_enum_endD (Draws.list hh it a hai its.toArray) he ⟨hit, p.isList⟩ fun h' eb => ⟨rfl, I.turned (t' := s.toks) (fun b o hb q => eb b o hb q) f0 f1 f3 f4 f5⟩
  self := fun A i s Q E st h => let ⟨⟨_, he⟩, _⟩ := st; wpAny_pyIter_enum he h
def iEnumL (K : PySem.W.Frag) (ta : TA) : TI := fun σ H R => ta σ H fun vs H1 => ∃ a xs, vs = [.ref a] ∧ SqL K H1 a xs ∧ R (IteL K a) H1
theorem pi_enumL {X : Cx} {e : Expr} {ta : TA} {p pos tpos : Pos} {elts : List Expr} {kk : Nat} (hg : Gl X "enumerate") (hm : X.mg "enumerate" = none) (ha : PA X [e] ta) (hs : starEach [e] X.env = [(false, eval e X.env)]) :
    PI X (.Tuple elts kk tpos) (.Call (.Name "enumerate" p) [e] [] pos) (iEnumL X.K ta) := by
  refine ⟨fun pins s σ H R I h => ?_⟩
  refine Call_ (ld_blt I hg hm boot_enumerate (PyProof.Rows.callWith_type1 (thn (ha.run pos pins s σ H _ I h) fun us s1 ⟨vs, H1, I1, r1, q1⟩ => ?_) hs rfl))
  obtain ⟨a, xs, ex, hq, q⟩ := q1
  subst ex
  cases r1 with
  | cons r rr =>
    cases rr
    cases r
    obtain ⟨its, rv, p', hz⟩ := I1.list hq
    have hal : a < s1.heap.objs.size := by obtain ⟨_, q, _⟩ := p'.isList; exact Heap.lt_size q
    refine enum_begins1 (begins_list a its.toArray) p'.isList fun h' he hit hsz hk => wpAny_pyIter_enum he ?_
    have I2 : Inv X pins σ H1 { s1 with heap := h' } := I1.kept (t' := s1.toks) hk
    refine ⟨s1.heap.objs.size + 1, [s1.heap.objs.size + 1, s1.heap.objs.size], _, _, H1, rfl, I2, turn_enumL a (s1.heap.objs.size + 1) s1.heap.objs.size, ⟨⟨.none, he⟩, ⟨_, hit, rfl, rfl⟩, Nat.succ_ne_self _, Nat.ne_of_lt hal, Nat.ne_of_lt (Nat.lt_succ_of_lt hal)⟩, fun b hb => ?_, q⟩
    have e' : b = s1.heap.objs.size + 1 ∨ b = s1.heap.objs.size := by simpa using hb
    have hle : s1.heap.objs.size ≤ b := by
      rcases e' with z | z
      · rw [z]; exact Nat.le_add_right _ _
      · rw [z]; exact Nat.le_refl _
    exact I1.fpOk hle (I1.hok.fresh hle)
theorem walk_enumL {K : PySem.W.Frag} {a : Addr} {xs : List V} : Walk (IteL K a) xs.length (fun H => SqL K H a xs) (YEn xs) where
  goes := fun i H hi hG => ⟨xs, xs[i], hG, List.getElem?_eq_getElem hi⟩
  stops := fun H hG => ⟨xs, hG, rfl⟩
  yields := fun i H x H' hi hG ⟨T, its, y, e1, e2, e3, e4⟩ => ⟨T, its, y, e1, e2, e3, e4 xs hG⟩
end G8

set_option Elab.async false
set_option linter.all false
set_option maxRecDepth 100000
set_option maxHeartbeats 1000000
namespace G8
open PySem PySem.Spec L2
/-! ### new things -/
section
variable {K : PySem.W.Frag} {T : Tb} {W : WX} {σ : St} {ρ : Rho} {H : Hp} {h : Sto} {Q : VK}
theorem lim_eq : LIM = sizeLine := by rw [sizeLine_eq]
theorem new_tup {ds : List D} {vs : List V} (s : SR K T H ρ h) (r : Rps K T H ρ ds vs) (a : Aft K T W σ ρ H (.ok (.tup ds) h) (Rp K T) Q) (p : Addr) (its : List Value) (hp : H p = none) : Q (.ref p) (upd H p (tH its vs)) :=
  a.ok' (Ext.new_obj s hp) (s.new_obj hp) (.tup ⟨its, upd_same, s.fresh hp⟩ (r.ext (Ext.new_obj s hp)))
theorem new_lst {ds : List D} {vs : List V} (s : SR K T H ρ h) (r : Rps K T H ρ ds vs) (a : Aft K T W σ ρ H (.ok (.lst ds) h) (Rp K T) Q) (p : Addr) (hp : H p = none) : Q (.ref p) (upd H p (.lst vs)) :=
  a.ok' (Ext.new_obj s hp) (s.new_obj hp) (.lst ⟨upd_same, s.fresh hp⟩ (r.ext (Ext.new_obj s hp)))
/-- a list of the store is written -/
theorem set_lst {n : Nat} {p : Addr} {fl : Bool} {xs : List D} {vs : List V} {d : D} {v : V} (s : SR K T H ρ h) (hp : ρ.ix[n]? = some p) (hn : n < h.length) (r : Rps K T H ρ xs vs) (fo : flOk fl xs) (rd : Rp K T H ρ d v)
    (a : Aft K T W σ ρ H (.ok d (h.set n (.lst fl xs))) (Rp K T) Q) : Q v (upd H p (.lst vs)) := by
  have x : Ext ρ H ρ (upd H p (.lst vs)) := Ext.write s hp
  exact a.ok' x (s.write hp hn ⟨vs, upd_same, r.ext x, fo⟩) (rd.ext x)
theorem nrs_append : ∀ (xs ys : List D), D.nrs (xs ++ ys) = (D.nrs xs && D.nrs ys)
  | [], ys => by simp [D.nrs]
  | x :: xs, ys => by simp only [List.cons_append, D.nrs, nrs_append xs ys, Bool.and_assoc]
theorem top_of_nr {d : D} (h : D.nr d = true) : D.top d = true := by cases d <;> first | rfl | exact h
theorem tops_of_nrs : ∀ {xs : List D}, D.nrs xs = true → xs.all D.top = true
  | [], _ => rfl
  | x :: xs, h => by
    simp only [D.nrs, Bool.and_eq_true] at h
    simp only [List.all_cons, Bool.and_eq_true]
    exact ⟨top_of_nr h.1, tops_of_nrs h.2⟩
theorem flOk.tops {fl : Bool} {xs : List D} (f : flOk fl xs) : xs.all D.top = true := by
  cases fl
  · exact f
  · exact tops_of_nrs f
theorem flOk.app {fl : Bool} {xs ys : List D} (f : flOk fl xs) (h : D.nrs ys = true) : flOk fl (xs ++ ys) := by
  cases fl
  · show (xs ++ ys).all D.top = true
    rw [List.all_append, f.tops, tops_of_nrs h]; rfl
  · show D.nrs (xs ++ ys) = true
    rw [nrs_append, h, show D.nrs xs = true from f]; rfl
theorem flOk.snoc {fl : Bool} {xs : List D} {y : D} (f : flOk fl xs) (h : D.top y = true) : flOk (fl && D.nr y) (xs ++ [y]) := by
  cases e : D.nr y
  · rw [Bool.and_false]
    show (xs ++ [y]).all D.top = true
    rw [List.all_append, f.tops]
    simp [h]
  · rw [Bool.and_true]
    exact f.app (by simp [D.nrs, e])
theorem nrs_mem {y : D} : ∀ {xs : List D}, D.nrs xs = true → y ∈ xs → D.nr y = true
  | x :: xs, h, hm => by
    simp only [D.nrs, Bool.and_eq_true] at h
    rcases List.mem_cons.mp hm with e | e
    · rw [e]; exact h.1
    · exact nrs_mem h.2 e
theorem nrs_of : ∀ {xs : List D}, (∀ y ∈ xs, D.nr y = true) → D.nrs xs = true
  | [], _ => rfl
  | x :: xs, h => by simp only [D.nrs, Bool.and_eq_true]; exact ⟨h x List.mem_cons_self, nrs_of fun y hy => h y (List.mem_cons_of_mem _ hy)⟩
theorem flOk.sub {fl : Bool} {xs ys : List D} (f : flOk fl xs) (h : ∀ y ∈ ys, y ∈ xs) : flOk fl ys := by
  cases fl
  · exact List.all_eq_true.mpr fun y hy => List.all_eq_true.mp (show xs.all D.top = true from f) y (h y hy)
  · exact nrs_of fun y hy => nrs_mem (show D.nrs xs = true from f) (h y hy)
theorem flOk.set {fl : Bool} {xs : List D} {y : D} {k : Nat} (f : flOk fl xs) (h : D.top y = true) : flOk (fl && D.nr y) (xs.set k y) := by
  cases e : D.nr y
  · rw [Bool.and_false]
    exact List.all_eq_true.mpr fun z hz => by
      rcases List.mem_or_eq_of_mem_set hz with h1 | h1
      · exact List.all_eq_true.mp f.tops z h1
      · rw [h1]; exact h
  · rw [Bool.and_true]
    cases fl
    · exact List.all_eq_true.mpr fun z hz => by
        rcases List.mem_or_eq_of_mem_set hz with h1 | h1
        · exact List.all_eq_true.mp f.tops z h1
        · rw [h1]; exact h
    · exact nrs_of fun z hz => by
        rcases List.mem_or_eq_of_mem_set hz with h1 | h1
        · exact nrs_mem (show D.nrs xs = true from f) h1
        · rw [h1]; exact e
/-! ### operators -/
def opb : BOp → Operator
  | .add => .Add
  | .sub => .Sub
  | .mul => .Mult
  | .fdiv => .FloorDiv
  | .mod => .Mod
  | .pow => .Pow
def rStrCat : R2 := fun x y H Q => ∃ i j, x = .str i ∧ y = .str j ∧ i.length + j.length ≤ sizeLine ∧ Q (.str (i ++ j)) H
def rb (K : PySem.W.Frag) : BOp → R2
  | .add => fun x y H Q => (((rI0 fun i j => .int (i + j)) x y H Q ∨ rStrCat x y H Q) ∨ rCatF K x y H Q) ∨ rCat x y H Q
  | .sub => rI0 fun i j => .int (i - j)
  | .mul => fun x y H Q => ((rI CMul fun i j => .int (i * j)) x y H Q ∨ rRepF K x y H Q) ∨ rRep x y H Q
  | .fdiv => rI CDiv fun i j => .int (i / j)
  | .mod => rI (fun _ j => 0 < j) fun i j => .int (i % j)
  | .pow => rI CPow fun i j => .int (i ^ j.toNat)
theorem bin_ok {X : Cx} : ∀ op : BOp, OpR X (binaryOp (opb op)) (rb X.K op)
  | .add => OpR.or (OpR.or (OpR.or op_add op_add_str) op_catF) op_cat
  | .sub => op_sub
  | .mul => OpR.or (OpR.or op_mul op_repF) op_rep
  | .fdiv => op_fdiv
  | .mod => op_mod
  | .pow => op_pow
theorem str_app (x y : List Nat) : ((⟨x.toArray⟩ : Str) ++ (⟨y.toArray⟩ : Str)) = ⟨(x ++ y).toArray⟩ := by
  show (⟨x.toArray ++ y.toArray⟩ : Str) = _
  rw [List.append_toArray]
theorem mulOk_of {i j : Int} (h : mulOk i j = true) : CMul i j := by
  unfold mulOk at h
  simp only [Bool.or_eq_true, Bool.and_eq_true, decide_eq_true_eq] at h
  unfold CMul
  omega
theorem catl_rd {a b : D} {x y : V} (s : SR K T H ρ h) (ra : Rp K T H ρ a x) (rb' : Rp K T H ρ b y)
    (q : Aft K T W σ ρ H (match lstOf h a, lstOf h b with
      | some xs, some ys => if xs.length + ys.length ≤ LIM then R.ok (.lst (xs ++ ys)) h else .stuck
      | _, _ => .stuck) (Rp K T) Q) : rCat x y H Q := by
  cases e1 : lstOf h a with
  | none => rw [e1] at q; exact False.elim q
  | some xs =>
    cases e2 : lstOf h b with
    | none => rw [e1, e2] at q; exact False.elim q
    | some ys =>
      rw [e1, e2] at q
      simp only at q
      split at q
      · rename_i hl
        obtain ⟨p, vs, rfl, hp, rs⟩ := Rp.lstOf s ra e1
        obtain ⟨p2, vs2, rfl, hp2, rs2⟩ := Rp.lstOf s rb' e2
        exact ⟨p, p2, vs, vs2, rfl, rfl, hp, hp2, by rw [← rs.length, ← rs2.length]; exact hl, fun l hl => new_lst s (rs.append rs2) q l hl⟩
      · exact False.elim q
theorem bin_rd {op : BOp} {a b : D} {x y : V} (s : SR K T H ρ h) (ra : Rp K T H ρ a x) (rb' : Rp K T H ρ b y) (q : Aft K T W σ ρ H (binD op a b h) (Rp K T) Q) : rb K op x y H Q := by
  cases op with
  | add =>
    simp only [binD] at q
    split at q
    · cases ra; cases rb'; exact .inl (.inl (.inl ⟨_, _, rfl, rfl, q.ok s (.int _)⟩))
    · split at q
      · rename_i hl
        cases ra; cases rb'
        refine .inl (.inl (.inr ⟨_, _, rfl, rfl, by rw [sizeLine_eq]; simpa [Str.length] using hl, ?_⟩))
        rw [str_app]
        exact q.ok s (.str _)
      · exact False.elim q
    · split at q
      · rename_i hl
        cases ra with
        | tup sa rsa =>
          cases rb' with
          | tup sb rsb =>
            refine .inl (.inr ⟨_, _, _, _, rfl, rfl, sa.sq, sb.sq, by rw [← rsa.length, ← rsb.length]; exact hl, fun e => ?_, fun e1 e2 => ?_, fun e1 e2 p its hp => ?_⟩)
            · subst e; cases rsa; exact q.ok s (.tup sb rsb)
            · subst e2; cases rsb; rw [List.append_nil] at q; exact q.ok s (.tup sa rsa)
            · exact new_tup s (rsa.append rsb) q p its hp
      · exact False.elim q
    · exact .inr (catl_rd s ra rb' q)
  | sub =>
    simp only [binD] at q
    split at q
    · cases ra; cases rb'; exact ⟨_, _, rfl, rfl, q.ok s (.int _)⟩
    · exact False.elim q
  | mul =>
    simp only [binD] at q
    split at q
    · split at q
      · rename_i hm
        cases ra; cases rb'; exact .inl (.inl ⟨_, _, rfl, rfl, mulOk_of hm, q.ok s (.int _)⟩)
      · exact False.elim q
    · split at q
      · rename_i hm
        cases ra with
        | tup sa rsa =>
          cases rb'
          refine .inl (.inr ⟨_, _, _, rfl, rfl, sa.sq, fun e => ?_, hm.1, hm.2.1, by rw [← rsa.length]; exact hm.2.2.2, fun p its hp => new_tup s (rsa.rep _) q p its hp⟩)
          have := rsa.length
          rw [e] at this
          simp at this
          rw [this] at hm
          simp at hm
      · exact False.elim q
    · rename_i x' k _ _
      cases e1 : lstOf h a with
      | none => rw [e1] at q; exact False.elim q
      | some xs =>
        rw [e1] at q
        simp only at q
        split at q
        · rename_i hm
          cases rb'
          obtain ⟨p, vs, rfl, hp, rs⟩ := Rp.lstOf s ra e1
          refine .inr ⟨p, _, vs, rfl, rfl, hp, by omega, by omega, ?_, fun l hl => new_lst s (rs.rep _) q l hl⟩
          rw [sizeLine_eq, ← rs.length]
          have : xs.length * k.toNat ≤ 100 * 100000 := Nat.mul_le_mul hm.2.2 (by omega)
          omega
        · exact False.elim q
    · exact False.elim q
  | fdiv =>
    simp only [binD] at q
    split at q
    · split at q
      · rename_i hm
        cases ra; cases rb'; exact ⟨_, _, rfl, rfl, hm, q.ok s (.int _)⟩
      · exact False.elim q
    · exact False.elim q
  | mod =>
    simp only [binD] at q
    split at q
    · split at q
      · rename_i hm
        cases ra; cases rb'; exact ⟨_, _, rfl, rfl, hm, q.ok s (.int _)⟩
      · exact False.elim q
    · exact False.elim q
  | pow =>
    simp only [binD] at q
    split at q
    · split at q
      · rename_i hm
        cases ra; cases rb'; exact ⟨_, _, rfl, rfl, ⟨hm.1, hm.2.1, by simpa using hm.2.2⟩, q.ok s (.int _)⟩
      · exact False.elim q
    · exact False.elim q
end
end G8

set_option Elab.async false
set_option linter.all false
set_option maxRecDepth 100000
set_option maxHeartbeats 1000000
namespace G8
open PySem PySem.Spec L2
section
variable {K : PySem.W.Frag} {T : Tb} {W : WX} {σ : St} {ρ : Rho} {H : Hp} {h : Sto} {Q : VK}
/-! ### a op= b -/
def ra (K : PySem.W.Frag) : BOp → R2
  | .add => fun x y H Q => (rI0 fun i j => .int (i + j)) x y H Q ∨ rExt2 x y H Q
  | .sub => rI0 fun i j => .int (i - j)
  | .mul => rI CMul fun i j => .int (i * j)
  | _ => fun _ _ _ _ => False
theorem aug_ok {X : Cx} : ∀ op : BOp, OpR X (inplaceOp (opb op)) (ra X.K op)
  | .add => OpR.or iop_add iop_ext
  | .sub => iop_sub
  | .mul => iop_mul
  | .fdiv => fun _ _ _ _ _ _ _ _ _ _ _ _ h => False.elim h
  | .mod => fun _ _ _ _ _ _ _ _ _ _ _ _ h => False.elim h
  | .pow => fun _ _ _ _ _ _ _ _ _ _ _ _ h => False.elim h
theorem get_lt {α : Type} {xs : List α} {n : Nat} {o : α} (e : xs[n]? = some o) : n < xs.length := (List.getElem?_eq_some_iff.mp e).1
theorem SR.lst {n : Nat} {fl : Bool} {xs : List D} (s : SR K T H ρ h) (e : h[n]? = some (.lst fl xs)) {p : Addr} (hp : ρ.ix[n]? = some p) : ∃ vs, H p = some (.lst vs) ∧ Rps K T H ρ xs vs ∧ flOk fl xs := s.at_ n _ p e hp
theorem aug_rd {op : BOp} {a b : D} {x y : V} (s : SR K T H ρ h) (rx : Rp K T H ρ a x) (ry : Rp K T H ρ b y) (q : Aft K T W σ ρ H (augD op a b h) (Rp K T) Q) : ra K op x y H Q := by
  unfold augD at q
  split at q
  · cases rx; cases ry; exact .inl ⟨_, _, rfl, rfl, q.ok s (.int _)⟩
  · cases rx; cases ry; exact ⟨_, _, rfl, rfl, q.ok s (.int _)⟩
  · split at q
    · rename_i hm
      cases rx; cases ry; exact ⟨_, _, rfl, rfl, mulOk_of hm, q.ok s (.int _)⟩
    · exact False.elim q
  · rename_i n
    cases e1 : h[n]? with
    | none => rw [e1] at q; exact False.elim q
    | some o =>
      cases o with
      | lst fl xs =>
        cases e2 : lstOf h b with
        | none => rw [e1, e2] at q; exact False.elim q
        | some ys =>
          rw [e1, e2] at q
          simp only at q
          split at q
          · rename_i hl
            cases rx with
            | ref hp =>
              obtain ⟨vs, hv, rs, fo⟩ := s.lst e1 hp
              obtain ⟨p2, vs2, rfl, hp2, rs2⟩ := Rp.lstOf s ry e2
              exact .inr ⟨_, p2, vs, vs2, rfl, rfl, hv, hp2, by rw [← rs.length, ← rs2.length, sizeLine_eq]; exact hl.1, set_lst s hp (get_lt e1) (rs.append rs2) (fo.app hl.2) (.ref hp) q⟩
          · exact False.elim q
      | _ => rw [e1] at q; exact False.elim q
  · exact False.elim q
/-! ### built-in functions -/
theorem ints_rps : ∀ {xs : List D} {vs : List V} {ns : List Int}, Rps K T H ρ xs vs → intsD xs = some ns → vs = ns.map V.int
  | [], _, ns, .nil, e => by simp [intsD] at e; subst e; rfl
  | .int i :: xs, _, ns, .cons a b, e => by
    simp only [intsD, Option.map_eq_some_iff] at e
    obtain ⟨ms, e1, rfl⟩ := e
    cases a
    rw [ints_rps b e1]
    rfl
  | .non :: _, _, _, _, e => by simp [intsD] at e
  | .bl _ :: _, _, _, _, e => by simp [intsD] at e
  | .str _ :: _, _, _, _, e => by simp [intsD] at e
  | .tup _ :: _, _, _, _, e => by simp [intsD] at e
  | .lst _ :: _, _, _, _, e => by simp [intsD] at e
  | .scr _ :: _, _, _, _, e => by simp [intsD] at e
  | .dct _ _ :: _, _, _, _, e => by simp [intsD] at e
  | .ref _ :: _, _, _, _, e => by simp [intsD] at e
  | .exc _ :: _, _, _, _, e => by simp [intsD] at e
theorem bools_rps : ∀ {xs : List D} {vs : List V} {ns : List Bool}, Rps K T H ρ xs vs → boolsD xs = some ns → vs = ns.map V.bl
  | [], _, ns, .nil, e => by simp [boolsD] at e; subst e; rfl
  | .bl i :: xs, _, ns, .cons a b, e => by
    simp only [boolsD, Option.map_eq_some_iff] at e
    obtain ⟨ms, e1, rfl⟩ := e
    cases a
    rw [bools_rps b e1]
    rfl
  | .non :: _, _, _, _, e => by simp [boolsD] at e
  | .int _ :: _, _, _, _, e => by simp [boolsD] at e
  | .str _ :: _, _, _, _, e => by simp [boolsD] at e
  | .tup _ :: _, _, _, _, e => by simp [boolsD] at e
  | .lst _ :: _, _, _, _, e => by simp [boolsD] at e
  | .scr _ :: _, _, _, _, e => by simp [boolsD] at e
  | .dct _ _ :: _, _, _, _, e => by simp [boolsD] at e
  | .ref _ :: _, _, _, _, e => by simp [boolsD] at e
  | .exc _ :: _, _, _, _, e => by simp [boolsD] at e
theorem insI_perm (x : Int) : ∀ l : List Int, (insI x l).Perm (x :: l)
  | [] => .refl _
  | y :: ys => by
    unfold insI
    split
    · exact .refl _
    · exact ((insI_perm x ys).cons y).trans (.swap x y ys)
theorem sortI_perm : ∀ l : List Int, (sortI l).Perm l
  | [] => .refl _
  | x :: xs => (insI_perm x (sortI xs)).trans ((sortI_perm xs).cons x)
theorem insI_sorted (x : Int) : ∀ l : List Int, l.Pairwise (· ≤ ·) → (insI x l).Pairwise (· ≤ ·)
  | [], _ => by simp [insI]
  | y :: ys, hl => by
    rw [List.pairwise_cons] at hl
    unfold insI
    split
    · rename_i hxy
      rw [List.pairwise_cons]
      refine ⟨fun z hz => ?_, List.pairwise_cons.mpr hl⟩
      rcases List.mem_cons.mp hz with e | e
      · omega
      · have := hl.1 z e; omega
    · rename_i hxy
      rw [List.pairwise_cons]
      refine ⟨fun z hz => ?_, insI_sorted x ys hl.2⟩
      have hz' := (insI_perm x ys).mem_iff.mp hz
      rcases List.mem_cons.mp hz' with e | e
      · omega
      · exact hl.1 z e
theorem sortI_sorted : ∀ l : List Int, (sortI l).Pairwise (· ≤ ·)
  | [] => .nil
  | x :: xs => insI_sorted x _ (sortI_sorted xs)
theorem sorted_one {l m : List Int} (p : l.Perm m) (hl : l.Pairwise (· ≤ ·)) (hm : m.Pairwise (· ≤ ·)) : l = m :=
  List.Perm.eq_of_pairwise (fun a b _ _ h1 h2 => Int.le_antisymm h1 h2) hl hm p
theorem maxI_ge : ∀ (ns : List Int) (m : Int), m ≤ maxI m ns ∧ ∀ y ∈ ns, y ≤ maxI m ns
  | [], m => ⟨Int.le_refl _, fun y hy => nomatch hy⟩
  | x :: xs, m => by
    obtain ⟨a, b⟩ := maxI_ge xs (if m < x then x else m)
    refine ⟨?_, fun y hy => ?_⟩
    · show m ≤ maxI (if m < x then x else m) xs
      split at a <;> split <;> omega
    · show y ≤ maxI (if m < x then x else m) xs
      rcases List.mem_cons.mp hy with e | e
      · subst e
        split at a <;> split <;> omega
      · exact b y e
theorem maxI_mem : ∀ (ns : List Int) (m : Int), maxI m ns = m ∨ maxI m ns ∈ ns
  | [], m => .inl rfl
  | x :: xs, m => by
    show maxI (if m < x then x else m) xs = m ∨ maxI (if m < x then x else m) xs ∈ x :: xs
    rcases maxI_mem xs (if m < x then x else m) with e | e
    · rw [e]
      split
      · right; simp
      · left; rfl
    · right; exact List.mem_cons_of_mem _ e
theorem minI_le : ∀ (ns : List Int) (m : Int), minI m ns ≤ m ∧ ∀ y ∈ ns, minI m ns ≤ y
  | [], m => ⟨Int.le_refl _, fun y hy => nomatch hy⟩
  | x :: xs, m => by
    obtain ⟨a, b⟩ := minI_le xs (if x < m then x else m)
    refine ⟨?_, fun y hy => ?_⟩
    · show minI (if x < m then x else m) xs ≤ m
      split at a <;> split <;> omega
    · show minI (if x < m then x else m) xs ≤ y
      rcases List.mem_cons.mp hy with e | e
      · subst e
        split at a <;> split <;> omega
      · exact b y e
theorem minI_mem : ∀ (ns : List Int) (m : Int), minI m ns = m ∨ minI m ns ∈ ns
  | [], m => .inl rfl
  | x :: xs, m => by
    show minI (if x < m then x else m) xs = m ∨ minI (if x < m then x else m) xs ∈ x :: xs
    rcases minI_mem xs (if x < m then x else m) with e | e
    · rw [e]
      split
      · right; simp
      · left; rfl
    · right; exact List.mem_cons_of_mem _ e
def rMax2 : List V → Hp → VK → Prop := fun xs H Q => ∃ i j, xs = [.int i, .int j] ∧ Q (.int (if j > i then j else i)) H
def rMin2 : List V → Hp → VK → Prop := fun xs H Q => ∃ i j, xs = [.int i, .int j] ∧ Q (.int (if j < i then j else i)) H
def rLenS (K : PySem.W.Frag) : List V → Hp → VK → Prop := fun xs H Q => ∃ p ys, xs = [.ref p] ∧ (SqL K H p ys ∨ SqT K H p ys) ∧ Q (.int ys.length) H
def rLenT : List V → Hp → VK → Prop := fun xs H Q => ∃ z, xs = [.str z] ∧ z.length ≤ sizeLine ∧ Q (.int z.length) H
def rListO (K : PySem.W.Frag) : List V → Hp → VK → Prop := fun xs H Q => ∃ p ys, xs = [.ref p] ∧ (SqL K H p ys ∨ SqT K H p ys) ∧ ∀ l, H l = none → Q (.ref l) (upd H l (.lst ys))
def rB (K : PySem.W.Frag) : Bi → List V → Hp → VK → Prop
  | .len => fun xs H Q => rLenS K xs H Q ∨ rLenT xs H Q
  | .all => rAll K
  | .any => rAny K
  | .sum => rSum K
  | .max => fun xs H Q => rMax2 xs H Q ∨ rMax K xs H Q
  | .min => fun xs H Q => rMin2 xs H Q ∨ rMin K xs H Q
  | .sorted => fun xs H Q => rSortedI K xs H Q ∨ rSortedT K xs H Q
  | .tuple => rTupF K
  | .list => rListO K
  | _ => fun _ _ _ => False
/-- the value that a built-in name holds -/
def bv : Bi → Value
  | .len => .builtin "len"
  | .all => .builtin "all"
  | .any => .builtin "any"
  | .sum => .builtin "sum"
  | .max => .builtin "max"
  | .min => .builtin "min"
  | .sorted => .builtin "sorted"
  | .tuple => .type "tuple"
  | .list => .type "list"
  | .str => .type "str"
  | .int => .type "int"
theorem bi_ok {X : Cx} (hc : X.calm = true) : ∀ b : Bi, CallR X (bv b) (rB X.K b)
  | .len => CallR.or call_len_seq call_len_str
  | .all => cr_all hc
  | .any => cr_any hc
  | .sum => cr_sum hc
  | .max => CallR.or (call_max2 hc) (cr_max hc)
  | .min => CallR.or (call_min2 hc) (cr_min hc)
  | .sorted => CallR.or cr_sortedI cr_sortedT
  | .tuple => call_tupF
  | .list => call_list_of
  | .str => fun _ _ _ _ _ _ _ _ _ h => False.elim h
  | .int => fun _ _ _ _ _ _ _ _ _ h => False.elim h
theorem seq_sq {d : D} {v : V} {xs : List D} (s : SR K T H ρ h) (r : Rp K T H ρ d v) (e : seqOf h d = some xs) : ∃ a vs, v = .ref a ∧ (SqL K H a vs ∨ SqT K H a vs) ∧ Rps K T H ρ xs vs := by
  obtain ⟨a, vs, rfl, q, rs⟩ := r.seqOf s e
  rcases q with q | ⟨q, _⟩
  · exact ⟨a, vs, rfl, .inl (SqL.of q), rs⟩
  · exact ⟨a, vs, rfl, .inr q.sq, rs⟩
theorem bi_rd {b : Bi} {as : List D} {vs : List V} (s : SR K T H ρ h) (r : Rps K T H ρ as vs) (q : Aft K T W σ ρ H (biD b as h) (Rp K T) Q) : rB K b vs H Q := by
  cases b with
  | len =>
    simp only [biD] at q
    split at q
    · split at q
      · rename_i x hl
        cases r with
        | cons a b =>
          cases a; cases b
          right
          refine ⟨_, rfl, by rw [sizeLine_eq]; simpa [Str.length] using hl, ?_⟩
          have e : ((⟨x.toArray⟩ : Str).length : Int) = (x.length : Int) := by simp [Str.length]
          rw [e]
          exact q.ok s (.int _)
      · exact False.elim q
    · rename_i d _
      cases e : seqOf h d with
      | none => rw [e] at q; exact False.elim q
      | some xs =>
        rw [e] at q
        cases r with
        | cons a b =>
          cases b
          obtain ⟨p, us, rfl, sq, rs⟩ := seq_sq s a e
          refine .inl ⟨p, us, rfl, sq, ?_⟩
          rw [← rs.length]
          exact q.ok s (.int _)
    · exact False.elim q
  | all =>
    simp only [biD] at q
    split at q
    · rename_i d
      cases e : lstOf h d with
      | none => rw [e] at q; exact False.elim q
      | some xs =>
        rw [e] at q
        simp only [Option.bind_some] at q
        cases e2 : boolsD xs with
        | none => rw [e2] at q; exact False.elim q
        | some bs =>
          rw [e2] at q
          cases r with
          | cons a b =>
            cases b
            obtain ⟨p, us, rfl, hp, rs⟩ := Rp.lstOf s a e
            have := bools_rps rs e2
            subst this
            exact ⟨p, bs, rfl, SqL.of hp, q.ok s (.bl _)⟩
    · exact False.elim q
  | any =>
    simp only [biD] at q
    split at q
    · rename_i d
      cases e : lstOf h d with
      | none => rw [e] at q; exact False.elim q
      | some xs =>
        rw [e] at q
        simp only [Option.bind_some] at q
        cases e2 : boolsD xs with
        | none => rw [e2] at q; exact False.elim q
        | some bs =>
          rw [e2] at q
          cases r with
          | cons a b =>
            cases b
            obtain ⟨p, us, rfl, hp, rs⟩ := Rp.lstOf s a e
            have := bools_rps rs e2
            subst this
            exact ⟨p, bs, rfl, SqL.of hp, q.ok s (.bl _)⟩
    · exact False.elim q
  | sum =>
    simp only [biD] at q
    split at q
    · rename_i d
      cases e : lstOf h d with
      | none => rw [e] at q; exact False.elim q
      | some xs =>
        rw [e] at q
        simp only [Option.bind_some] at q
        cases e2 : intsD xs with
        | none => rw [e2] at q; exact False.elim q
        | some ns =>
          rw [e2] at q
          cases r with
          | cons a b =>
            cases b
            obtain ⟨p, us, rfl, hp, rs⟩ := Rp.lstOf s a e
            have := ints_rps rs e2
            subst this
            exact ⟨p, ns, rfl, SqL.of hp, q.ok s (.int _)⟩
    · exact False.elim q
  | max =>
    simp only [biD] at q
    split at q
    · cases r with
      | cons a b =>
        cases b with
        | cons a2 b2 => cases a; cases a2; cases b2; exact .inl ⟨_, _, rfl, q.ok s (.int _)⟩
    · rename_i d
      cases e : lstOf h d with
      | none => rw [e] at q; exact False.elim q
      | some xs =>
        rw [e] at q
        simp only [Option.bind_some] at q
        cases e2 : intsD xs with
        | none => rw [e2] at q; exact False.elim q
        | some ns =>
          cases ns with
          | nil => rw [e2] at q; exact False.elim q
          | cons n ns =>
            rw [e2] at q
            cases r with
            | cons a b =>
              cases b
              obtain ⟨p, us, rfl, hp, rs⟩ := Rp.lstOf s a e
              have := ints_rps rs e2
              subst this
              refine .inr ⟨p, n :: ns, rfl, SqL.of hp, Nat.succ_pos _, fun m hm hmax => ?_⟩
              have h1 := maxI_ge ns n
              have h2 : maxI n ns ∈ n :: ns := by
                rcases maxI_mem ns n with e | e
                · rw [e]; exact List.mem_cons_self
                · exact List.mem_cons_of_mem _ e
              have h3 := hmax _ h2
              have h4 : m ≤ maxI n ns := by
                rcases List.mem_cons.mp hm with e | e
                · rw [e]; exact h1.1
                · exact h1.2 m e
              have h5 : m = maxI n ns := Int.le_antisymm h4 h3
              rw [h5]
              exact q.ok s (.int _)
    · exact False.elim q
  | min =>
    simp only [biD] at q
    split at q
    · cases r with
      | cons a b =>
        cases b with
        | cons a2 b2 => cases a; cases a2; cases b2; exact .inl ⟨_, _, rfl, q.ok s (.int _)⟩
    · rename_i d
      cases e : lstOf h d with
      | none => rw [e] at q; exact False.elim q
      | some xs =>
        rw [e] at q
        simp only [Option.bind_some] at q
        cases e2 : intsD xs with
        | none => rw [e2] at q; exact False.elim q
        | some ns =>
          cases ns with
          | nil => rw [e2] at q; exact False.elim q
          | cons n ns =>
            rw [e2] at q
            cases r with
            | cons a b =>
              cases b
              obtain ⟨p, us, rfl, hp, rs⟩ := Rp.lstOf s a e
              have := ints_rps rs e2
              subst this
              refine .inr ⟨p, n :: ns, rfl, SqL.of hp, Nat.succ_pos _, fun m hm hmax => ?_⟩
              have h1 := minI_le ns n
              have h2 : minI n ns ∈ n :: ns := by
                rcases minI_mem ns n with e | e
                · rw [e]; exact List.mem_cons_self
                · exact List.mem_cons_of_mem _ e
              have h3 := hmax _ h2
              have h4 : minI n ns ≤ m := by
                rcases List.mem_cons.mp hm with e | e
                · rw [e]; exact h1.1
                · exact h1.2 m e
              have h5 : m = minI n ns := Int.le_antisymm h3 h4
              rw [h5]
              exact q.ok s (.int _)
    · exact False.elim q
  | sorted =>
    simp only [biD] at q
    split at q
    · rename_i d
      cases e : seqOf h d with
      | none => rw [e] at q; exact False.elim q
      | some xs =>
        rw [e] at q
        simp only [Option.bind_some] at q
        cases e2 : intsD xs with
        | none => rw [e2] at q; exact False.elim q
        | some ns =>
          rw [e2] at q
          cases r with
          | cons a b =>
            cases b
            obtain ⟨p, us, rfl, sq, rs⟩ := seq_sq s a e
            have := ints_rps rs e2
            subst this
            have fin : ∀ (ns' : List Int) (l : Addr), ns'.Perm ns → ns'.Pairwise (· ≤ ·) → H l = none → Q (.ref l) (upd H l (.lst (ns'.map V.int))) := fun ns' l hp hs hl => by
              have e3 : ns' = sortI ns := sorted_one (hp.trans (sortI_perm ns).symm) hs (sortI_sorted ns)
              subst e3
              exact new_lst s (Rps.ints _) q l hl
            rcases sq with sq | sq
            · exact .inl ⟨p, ns, rfl, sq, fin⟩
            · exact .inr ⟨p, ns, rfl, sq, fin⟩
    · exact False.elim q
  | tuple =>
    simp only [biD] at q
    split at q
    · rename_i d
      cases e : seqOf h d with
      | none => rw [e] at q; exact False.elim q
      | some xs =>
        rw [e] at q
        cases r with
        | cons a b =>
          cases b
          obtain ⟨p, us, rfl, sq, rs⟩ := a.seqOf s e
          rcases sq with sq | ⟨sq, ed⟩
          · exact ⟨p, us, rfl, .inl ⟨SqL.of sq, fun l its hl => new_tup s rs q l its hl⟩⟩
          · exact ⟨p, us, rfl, .inr ⟨sq.sq, q.ok s (.tup sq rs)⟩⟩
    · exact False.elim q
  | list =>
    simp only [biD] at q
    split at q
    · cases r with
      | cons a b =>
        cases b
        cases a with
        | scr sq rs => exact ⟨_, _, rfl, .inl sq.sq, fun l hl => new_lst s rs q l hl⟩
    · rename_i d _
      cases e : seqOf h d with
      | none => rw [e] at q; exact False.elim q
      | some xs =>
        rw [e] at q
        cases r with
        | cons a b =>
          cases b
          obtain ⟨p, us, rfl, sq, rs⟩ := seq_sq s a e
          exact ⟨p, us, rfl, sq, fun l hl => new_lst s rs q l hl⟩
    · exact False.elim q
  | str => exact False.elim q
  | int => exact False.elim q
end
end G8

set_option Elab.async false
set_option linter.all false
set_option maxRecDepth 100000
set_option maxHeartbeats 1000000
namespace G8
open PySem PySem.Spec L2
section
variable {K : PySem.W.Frag} {T : Tb} {W : WX} {σ : St} {ρ : Rho} {H : Hp} {h : Sto} {Q : VK}
/-! ### items, slices -/
theorem ixN_eq : G8.ixN = L2.ixN := rfl
theorem sIx_eq (n d : Nat) (o : Option Int) : G8.sIx n d o = HT.sIx n d o := by cases o <;> rfl
theorem atI_of {xs : List D} {vs : List V} {i : Int} {k : Nat} {y : D} (r : Rps K T H ρ xs vs) (e1 : G8.ixN xs.length i = some k) (e2 : xs[k]? = some y) : ∃ v, atI vs i = some v ∧ Rp K T H ρ y v := by
  obtain ⟨v, h1, h2⟩ := r.get e2
  refine ⟨v, ?_, h2⟩
  unfold atI
  rw [← r.length]
  show (L2.ixN xs.length i).bind _ = _
  rw [← ixN_eq, e1]
  exact h1
theorem idx_seq {a : D} {x : V} {i : Int} (s : SR K T H ρ h) (ra : Rp K T H ρ a x)
    (q : Aft K T W σ ρ H (match seqOf h a with
      | some xs => (match G8.ixN xs.length i with
        | some k => (match xs[k]? with
          | some y => R.ok y h
          | none => .stuck)
        | none => .stuck)
      | none => .stuck) (Rp K T) Q) : rIx K x (.int i) H Q := by
  cases e : seqOf h a with
  | none => rw [e] at q; exact False.elim q
  | some xs =>
    rw [e] at q
    simp only at q
    cases e1 : G8.ixN xs.length i with
    | none => rw [e1] at q; exact False.elim q
    | some k =>
      rw [e1] at q
      simp only at q
      cases e2 : xs[k]? with
      | none => rw [e2] at q; exact False.elim q
      | some y =>
        rw [e2] at q
        obtain ⟨p, us, rfl, sq, rs⟩ := seq_sq s ra e
        obtain ⟨v, h1, h2⟩ := atI_of rs e1 e2
        rcases sq with sq | sq
        · exact .inl ⟨p, us, i, v, rfl, rfl, sq, h1, q.ok s h2⟩
        · exact .inr (.inl ⟨p, us, i, v, rfl, rfl, sq, h1, q.ok s h2⟩)
theorem idx_rd {a b : D} {x y : V} (s : SR K T H ρ h) (rx : Rp K T H ρ a x) (ry : Rp K T H ρ b y) (q : Aft K T W σ ρ H (idxD a b h) (Rp K T) Q) : rIx K x y H Q := by
  unfold idxD at q
  split at q
  · rename_i z i
    cases e1 : G8.ixN z.length i with
    | none => rw [e1] at q; exact False.elim q
    | some k =>
      rw [e1] at q
      simp only at q
      cases e2 : z[k]? with
      | none => rw [e2] at q; exact False.elim q
      | some c =>
        rw [e2] at q
        simp only at q
        split at q
        · rename_i hl
          cases rx; cases ry
          refine .inr (.inr ⟨_, _, c, rfl, rfl, by rw [sizeLine_eq]; simpa [Str.length] using hl, ?_, q.ok s (.str [c])⟩)
          show atI z i = some c
          unfold atI
          rw [← ixN_eq, e1]
          exact e2
        · exact False.elim q
  · cases ry; exact idx_seq s rx q
  · exact False.elim q
theorem cut_rps {xs : List D} {vs : List V} (r : Rps K T H ρ xs vs) (lo hi : Option Int) : Rps K T H ρ (cut xs lo hi) (cutV vs lo hi) := by
  unfold cut cutV
  rw [sIx_eq, sIx_eq, r.length]
  exact (r.drop _).take _
theorem cut_whole {xs : List D} {lo hi : Option Int} (e : G8.sIx xs.length 0 lo = 0 ∧ G8.sIx xs.length xs.length hi = xs.length) : cut xs lo hi = xs := by
  unfold cut
  rw [e.1, e.2, List.drop_zero, Nat.sub_zero, List.take_length]
def rSl (K : PySem.W.Frag) : V → Option Int → Option Int → Hp → VK → Prop := fun x lo hi H Q => rSlL K x lo hi H Q ∨ rSlF K x lo hi H Q
theorem sl_ok {X : Cx} : SlR X (rSl X.K) := SlR.or sl_list sl_tupF
theorem sl_rd {a : D} {x : V} {lo hi : Option Int} (s : SR K T H ρ h) (rx : Rp K T H ρ a x) (q : Aft K T W σ ρ H (slD a lo hi h) (Rp K T) Q) : rSl K x lo hi H Q := by
  unfold slD at q
  split at q
  · rename_i xs
    cases rx with
    | tup sa rs =>
      rename_i p vs
      refine .inr ⟨p, vs, rfl, sa.sq, fun e => ?_, fun e l its hl => new_tup s (cut_rps rs lo hi) q l its hl⟩
      rw [← rs.length, ← sIx_eq, ← sIx_eq] at e
      rw [cut_whole e] at q
      exact q.ok s (.tup sa rs)
  · cases e : lstOf h a with
    | none => rw [e] at q; exact False.elim q
    | some xs =>
      rw [e] at q
      obtain ⟨p, us, rfl, hp, rs⟩ := Rp.lstOf s rx e
      exact .inl ⟨p, us, rfl, SqL.of hp, fun l hl => new_lst s (cut_rps rs lo hi) q l hl⟩
/-! ### fields -/
structure Own (K : PySem.W.Frag) (T : Tb) : Prop where
  nd : T.fl.Nodup
  cl : ∀ c, T.ow c = true → Cls K (T.ca c)
  na : ∀ c f, T.ow c = true → f ∈ T.fl → NoAttr K (T.ca c) f
theorem flN_mem {f : Nat} (h : f < T.fl.length) : flN T f ∈ T.fl := by
  unfold flN
  rw [List.getD_eq_getElem?_getD, List.getElem?_eq_getElem h]
  exact List.getElem_mem h
theorem flN_inj (hn : T.fl.Nodup) {f g : Nat} (hf : f < T.fl.length) (hg : g < T.fl.length) (e : flN T f = flN T g) : f = g := by
  unfold flN at e
  rw [List.getD_eq_getElem?_getD, List.getElem?_eq_getElem hf, List.getD_eq_getElem?_getD, List.getElem?_eq_getElem hg] at e
  exact (List.getElem_inj hn).mp e
theorem Rf.lookup (hn : T.fl.Nodup) {f : Nat} {d : D} : ∀ {fs : List (Nat × D)} {vs : List (Str × V)}, Rf K T H ρ fs vs → fs.lookup f = some d → ∃ v, vs.lookup (flN T f) = some v ∧ Rp K T H ρ d v ∧ f < T.fl.length
  | _, _, .nil, e => by simp at e
  | _, _, .cons (f := g) (v := v) lt r t, e => by
    by_cases hfg : f = g
    · subst hfg
      simp only [List.lookup, beq_self_eq_true, Option.some.injEq] at e ⊢
      subst e
      exact ⟨v, rfl, r, lt⟩
    · have hb : (f == g) = false := beq_eq_false_iff_ne.mpr hfg
      simp only [List.lookup, hb] at e
      obtain ⟨u, h1, h2, h3⟩ := Rf.lookup hn t e
      refine ⟨u, ?_, h2, h3⟩
      have hb2 : (flN T f == flN T g) = false := beq_eq_false_iff_ne.mpr fun z => hfg (flN_inj hn h3 lt z)
      simp only [List.lookup, hb2]
      exact h1
theorem Rf.none {m : Str} (hm : m ∉ T.fl) : ∀ {fs : List (Nat × D)} {vs : List (Str × V)}, Rf K T H ρ fs vs → vs.lookup m = none
  | _, _, .nil => rfl
  | _, _, .cons (f := g) lt r t => by
    have hb : (m == flN T g) = false := beq_eq_false_iff_ne.mpr fun z => hm (z ▸ flN_mem lt)
    simp only [List.lookup, hb]
    exact Rf.none hm t
theorem Rf.put (hn : T.fl.Nodup) {f : Nat} {d : D} {v : V} (hf : f < T.fl.length) (r : Rp K T H ρ d v) : ∀ {fs : List (Nat × D)} {vs : List (Str × V)}, Rf K T H ρ fs vs → Rf K T H ρ (G8.putF f d fs) (L2.putF (flN T f) v vs)
  | _, _, .nil => .cons hf r .nil
  | _, _, .cons (f := g) lt q t => by
    unfold G8.putF L2.putF
    by_cases hfg : g = f
    · subst hfg
      rw [if_pos rfl, if_pos rfl]
      exact .cons lt r t
    · rw [if_neg hfg, if_neg fun z => hfg (flN_inj hn lt hf z)]
      exact .cons lt q (Rf.put hn hf r t)
theorem Rf.length : ∀ {fs : List (Nat × D)} {vs : List (Str × V)}, Rf K T H ρ fs vs → fs.length = vs.length
  | _, _, .nil => rfl
  | _, _, .cons _ _ t => by rw [List.length_cons, List.length_cons, Rf.length t]
theorem _root_.List.mem_of_mem_dropLast' {α : Type} {y : α} {xs : List α} (h : y ∈ xs.dropLast) : y ∈ xs := by
  rw [List.dropLast_eq_take] at h
  exact List.mem_of_mem_take h
theorem put_top {f : Nat} {d : D} (hd : D.top d = true) : ∀ {fs : List (Nat × D)}, (∀ p ∈ fs, D.top p.2 = true) → ∀ p ∈ G8.putF f d fs, D.top p.2 = true
  | [], _, p, hp => by
    simp only [G8.putF, List.mem_singleton] at hp
    rw [hp]; exact hd
  | (g, x) :: r, h, p, hp => by
    unfold G8.putF at hp
    split at hp
    · rcases List.mem_cons.mp hp with e | e
      · rw [e]; exact hd
      · exact h p (List.mem_cons_of_mem _ e)
    · rcases List.mem_cons.mp hp with e | e
      · rw [e]; exact h _ List.mem_cons_self
      · exact put_top hd (fun q hq => h q (List.mem_cons_of_mem _ hq)) p e
theorem fld_rd {a : D} {x : V} {f : Nat} (ow : Own K T) (s : SR K T H ρ h) (rx : Rp K T H ρ a x) (q : Aft K T W σ ρ H (fldD a f h) (Rp K T) Q) :
    ∃ p C dx fs v, x = .ref p ∧ H p = some (.ins C dx fs) ∧ Cls K C ∧ NoAttr K C (flN T f) ∧ fs.lookup (flN T f) = some v ∧ Q v H := by
  unfold fldD at q
  split at q
  · rename_i n
    cases e1 : h[n]? with
    | none => rw [e1] at q; exact False.elim q
    | some o =>
      cases o with
      | ins c fs =>
        rw [e1] at q
        simp only at q
        cases e2 : fs.lookup f with
        | none => rw [e2] at q; exact False.elim q
        | some d =>
          rw [e2] at q
          cases rx with
          | ref hp =>
            obtain ⟨o, tp, dx, fvs, e3, rf⟩ := s.at_ n _ _ e1 hp
            obtain ⟨v, h1, h2, h3⟩ := rf.lookup ow.nd e2
            exact ⟨_, _, dx, fvs, v, rfl, e3, ow.cl c o, ow.na c _ o (flN_mem h3), h1, q.ok s h2⟩
      | _ => rw [e1] at q; exact False.elim q
  · exact False.elim q
theorem setFld_rd {a d : D} {x y : V} {f : Nat} {Qn : Hp → Prop} (ow : Own K T) (hf : f < T.fl.length) (s : SR K T H ρ h) (rx : Rp K T H ρ a x) (ry : Rp K T H ρ d y)
    (q : Aft K T W σ ρ H (setFldD a f d h) (fun _ _ (_ : Unit) (_ : Unit) => True) (fun _ H' => Qn H')) :
    ∃ p C dx fs, x = .ref p ∧ H p = some (.ins C dx fs) ∧ Cls K C ∧ NoAttr K C (flN T f) ∧ fs.length < 1000 ∧ Qn (upd H p (.ins C dx (L2.putF (flN T f) y fs))) := by
  unfold setFldD at q
  split at q
  · rename_i n
    cases e1 : h[n]? with
    | none => rw [e1] at q; exact False.elim q
    | some o =>
      cases o with
      | ins c fs =>
        rw [e1] at q
        simp only at q
        split at q
        · rename_i hl
          cases rx with
          | ref hp =>
            obtain ⟨o, tp, dx, fvs, e3, rf⟩ := s.at_ n _ _ e1 hp
            refine ⟨_, _, dx, fvs, rfl, e3, ow.cl c o, ow.na c _ o (flN_mem hf), by rw [← rf.length]; have := hl.1; omega, ?_⟩
            have xt : Ext ρ H ρ (upd H _ (.ins (T.ca c) dx (L2.putF (flN T f) y fvs))) := Ext.write s hp
            exact q () _ ρ xt (s.write hp (get_lt e1) ⟨o, put_top hl.2 tp, dx, _, upd_same, (rf.put ow.nd hf ry).ext xt⟩) trivial
        · exact False.elim q
      | _ => rw [e1] at q; exact False.elim q
  · exact False.elim q
/-- o.f = .. as a target -/
def gFld (K : PySem.W.Frag) (to : TE) (f : Str) : TG := fun v σ H Q => to σ H fun x H2 => ∃ a C dx fs, x = .ref a ∧ H2 a = some (.ins C dx fs) ∧ Cls K C ∧ NoAttr K C f ∧ fs.length < 1000 ∧ Q σ (upd H2 a (.ins C dx (L2.putF f v fs)))
theorem pg_fld {X : Cx} {o : Expr} {f : Str} {pos : Pos} {to : TE} (ho : PE X o to) : PG X (.Attribute o f pos) (gFld X.K to f) := by
  refine ⟨fun pins s σ H v u Q I r hq => ?_⟩
  show wpAny _ _ (do
    let ov ← holding [u] (eval o X.env)
    standAt pos.atName
    holding [u, ov] (setAttr ov f u)
    release [u, ov] []) _ _ s
  refine wpAny_bind (wpAny_holding (thn (ho.run pins s σ H _ I hq) fun ov s1 ⟨x, H1, I1, r1, a, C, dx, fs, ex, ea, c, n, l, q2⟩ => ?_))
  subst ex
  obtain rfl : ov = Value.ref a := r1
  refine wpAny_bind (wpAny_standAt (wpAny_bind (wpAny_holding (setattr_ok I1 ea c n l r fun s3 I3 => ?_))))
  exact wpAny_release ⟨σ, _, I3, q2⟩
theorem setIdx_rd {a b d : D} {x y v : V} {Qn : Hp → Prop} (s : SR K T H ρ h) (rx : Rp K T H ρ a x) (ry : Rp K T H ρ b y) (rv : Rp K T H ρ d v)
    (q : Aft K T W σ ρ H (setIdxD a b d h) (fun _ _ (_ : Unit) (_ : Unit) => True) (fun _ H' => Qn H')) : rSetL x y v H Qn := by
  unfold setIdxD at q
  split at q
  · rename_i n i
    cases e1 : h[n]? with
    | none => rw [e1] at q; exact False.elim q
    | some o =>
      cases o with
      | lst fl xs =>
        rw [e1] at q
        simp only at q
        cases e2 : G8.ixN xs.length i with
        | none => rw [e2] at q; exact False.elim q
        | some k =>
          rw [e2] at q
          simp only at q
          split at q
          · rename_i ht
            cases rx with
            | ref hp =>
              cases ry
              obtain ⟨vs, hv, rs, fo⟩ := s.lst e1 hp
              refine ⟨_, vs, i, k, rfl, rfl, hv, by rw [← rs.length, ← ixN_eq]; exact e2, ?_⟩
              have xt : Ext ρ H ρ (upd H _ (.lst (vs.set k v))) := Ext.write s hp
              exact q () _ ρ xt (s.write hp (get_lt e1) ⟨_, upd_same, (rs.set rv k).ext xt, fo.set ht⟩) trivial
          · exact False.elim q
      | _ => rw [e1] at q; exact False.elim q
  · exact False.elim q
/-! ### isinstance -/
def tyS : Ty → String
  | .int => "int"
  | .bool => "bool"
  | .str => "str"
  | .tuple => "tuple"
  | .list => "list"
  | .exc _ => "?"
  | .verr => "ValueError"
def isB : Ty → Bool
  | .exc _ => false
  | .verr => false
  | _ => true
theorem kits : ∀ t : Ty, isB t = true →
    kitB "NoneType" (tyS t) = some false ∧ kitB "bool" (tyS t) = some (t == .bool || t == .int) ∧ kitB "int" (tyS t) = some (t == .int) ∧ kitB "str" (tyS t) = some (t == .str) ∧
    kitB "tuple" (tyS t) = some (t == .tuple) ∧ kitB "list" (tyS t) = some (t == .list)
  | .int, _ => ⟨by decide +kernel, by decide +kernel, by decide +kernel, by decide +kernel, by decide +kernel, by decide +kernel⟩
  | .bool, _ => ⟨by decide +kernel, by decide +kernel, by decide +kernel, by decide +kernel, by decide +kernel, by decide +kernel⟩
  | .str, _ => ⟨by decide +kernel, by decide +kernel, by decide +kernel, by decide +kernel, by decide +kernel, by decide +kernel⟩
  | .tuple, _ => ⟨by decide +kernel, by decide +kernel, by decide +kernel, by decide +kernel, by decide +kernel, by decide +kernel⟩
  | .list, _ => ⟨by decide +kernel, by decide +kernel, by decide +kernel, by decide +kernel, by decide +kernel, by decide +kernel⟩
  | .exc _, h => by cases h
  | .verr, h => by cases h
theorem isi_rd {P : Prg} {d : D} {x : V} {t : Ty} {b : Bool} (ht : isB t = true) (s : SR K T H ρ h) (rx : Rp K T H ρ d x) (e : isiD P h d t = some b) (q : Q (.bl b) H) : rIsi K [x, .ty (tyS t)] H Q := by
  obtain ⟨k1, k2, k3, k4, k5, k6⟩ := kits t ht
  have fin : ∀ (n : String) (c : Bool), TyX K H x (.type n) → kitB n (tyS t) = some c → c = b → rIsi K [x, .ty (tyS t)] H Q := fun n c ty k ec => by
    subst ec
    exact ⟨x, .ty (tyS t), .type n, .type (tyS t), c, rfl, .ty _, ty, kit_ty k, q⟩
  cases rx with
  | non => exact fin _ _ (.base .non) k1 (by cases t <;> simp_all [isiD, isB])
  | bl c => exact fin _ _ (.base (.bl c)) k2 (by cases t <;> simp_all [isiD, isB])
  | int i => exact fin _ _ (.base (.int i)) k3 (by cases t <;> simp_all [isiD, isB])
  | str y => exact fin _ _ (.base (.str _)) k4 (by cases t <;> simp_all [isiD, isB])
  | tup sa rs => obtain ⟨its, e1, _⟩ := sa; exact fin _ _ (.fTuple e1) k5 (by cases t <;> simp_all [isiD, isB])
  | lst sa rs => exact fin _ _ (.base (.lst sa.1)) k6 (by cases t <;> simp_all [isiD, isB])
  | scr _ _ => simp [isiD] at e
  | exc _ _ => cases t <;> simp_all [isiD, isB]
  | ref hp =>
    rename_i n p
    simp only [isiD] at e
    cases e1 : h[n]? with
    | none => rw [e1] at e; cases e
    | some o =>
      cases o with
      | lst fl xs =>
        rw [e1] at e
        obtain ⟨vs, hv, rs, fo⟩ := s.lst e1 hp
        exact fin _ _ (.base (.lst hv)) k6 (by cases t <;> simp_all [isB])
      | _ => rw [e1] at e; cases e
/-! ### methods of lists and tuples -/
def rM (K : PySem.W.Frag) : Mb → V → List V → Hp → VK → Prop
  | .append => rAppend
  | .pop => rPop
  | .popAt => rPopAt
  | .index => rIndexD K
  | .count => rCountD K
  | _ => fun _ _ _ _ => False
def mid : Mb → String
  | .append => "list.append"
  | .pop => "list.pop"
  | .popAt => "list.pop"
  | .index => "list.index"
  | .count => "list.count"
  | .remove => "list.remove"
  | .join => "str.join"
  | .split => "str.split"
theorem m_ok {X : Cx} (hu : X.A.units + 65 < cLine) : ∀ m : Mb, MtR X (mid m) (rM X.K m)
  | .append => mt_append
  | .pop => mt_pop
  | .popAt => mt_popAt
  | .index => mt_indexD hu
  | .count => mt_countD hu
  | .remove => fun _ _ _ _ _ _ _ _ _ _ _ _ h => False.elim h
  | .join => fun _ _ _ _ _ _ _ _ _ _ _ _ h => False.elim h
  | .split => fun _ _ _ _ _ _ _ _ _ _ _ _ h => False.elim h
theorem idxOf_some {y : D} : ∀ {xs : List D} {k : Nat}, idxOf y xs = some k → ∃ z, xs[k]? = some z ∧ D.eqv z y = true ∧ ∀ (m : Nat) (z' : D), m < k → xs[m]? = some z' → D.eqv z' y = false
  | [], k, e => by simp [idxOf] at e
  | x :: xs, k, e => by
    simp only [idxOf] at e
    split at e
    · rename_i hx
      cases e
      exact ⟨x, rfl, hx, fun m z' hm => by omega⟩
    · rename_i hx
      simp only [Option.map_eq_some_iff] at e
      obtain ⟨j, e1, rfl⟩ := e
      obtain ⟨z, h1, h2, h3⟩ := idxOf_some e1
      refine ⟨z, by simpa using h1, h2, fun m z' hm hz => ?_⟩
      cases m with
      | zero => simp at hz; subst hz; simpa using hx
      | succ m => exact h3 m z' (by omega) (by simpa using hz)
theorem fits_get {n : Nat} : ∀ {xs : List D} {k : Nat} {z : D}, D.fits n xs = true → xs[k]? = some z → D.fit n z = true
  | [], k, z, _, e => by simp at e
  | x :: xs, 0, z, h, e => by
    have h1 : D.fit n x = true ∧ D.fits n xs = true := by simpa [D.fits] using h
    simp at e; subst e; exact h1.1
  | x :: xs, k + 1, z, h, e => by
    have h1 : D.fit n x = true ∧ D.fits n xs = true := by simpa [D.fits] using h
    exact fits_get h1.2 (by simpa using e)
theorem idxT_rd {y : D} {xs : List D} {x : V} {v : V} {k : Nat} (s : SR K T H ρ h) (rx : Rp K T H ρ (.tup xs) x) (ry : Rp K T H ρ y v) (hc : contD y (.tup xs) h = some true) (e : idxOf y xs = some k) (q : Q (.int (k : Nat)) H) : rIndexT K x [v] H Q := by
  simp only [contD] at hc
  split at hc
  · rename_i hf
    simp only [Bool.and_eq_true] at hf
    cases rx with
    | tup sa rs =>
      obtain ⟨z, h1, h2, h3⟩ := idxOf_some e
      obtain ⟨zv, g1, g2⟩ := rs.get h1
      have fz : flatD z = true := (List.all_eq_true.mp hf.2) z (List.mem_of_getElem? h1)
      refine ⟨_, _, v, k, zv, rfl, rfl, sa.sq, flat_of ry hf.1, flats_of rs hf.2, g1, by rw [eqV_of g2 ry fz hf.1]; exact h2, fun m z' hm hz => ?_, q⟩
      have hml : m < xs.length := by rw [rs.length]; exact get_lt hz
      obtain ⟨w, g3, g4⟩ := rs.get (List.getElem?_eq_getElem hml)
      rw [hz] at g3; cases g3
      have fm : flatD xs[m] = true := (List.all_eq_true.mp hf.2) _ (List.getElem_mem hml)
      rw [eqV_of g4 ry fm hf.1]
      exact h3 m _ hm (List.getElem?_eq_getElem hml)
  · cases hc
theorem countP_py (y : D) (n m : Nat) (hy : D.fit n y = true) : ∀ xs : List D, D.fits m xs = true → (D.pys xs).countP (fun z => PyData.eqv z y.py) = xs.countP fun z => D.eqv z y
  | [], _ => rfl
  | x :: xs, h => by
    have h1 : D.fit m x = true ∧ D.fits m xs = true := by simpa [D.fits] using h
    simp only [D.pys, List.countP_cons]
    rw [py_eqv m n x y h1.1 hy, countP_py y n m hy xs h1.2]
theorem mb_rd {m : Mb} {a : D} {x : V} {as : List D} {vs : List V} (s : SR K T H ρ h) (rx : Rp K T H ρ a x) (r : Rps K T H ρ as vs) (hnt : ∀ xs, a ≠ .tup xs) (q : Aft K T W σ ρ H (mbD m a as h) (Rp K T) Q) : rM K m x vs H Q := by
  cases m with
  | append =>
    simp only [mbD] at q
    split at q
    · rename_i n y
      cases e1 : h[n]? with
      | none => rw [e1] at q; exact False.elim q
      | some o =>
        cases o with
        | lst fl xs =>
          rw [e1] at q
          simp only at q
          split at q
          · rename_i hl
            cases rx with
            | ref hp =>
              cases r with
              | cons r1 r2 =>
                cases r2
                obtain ⟨us, hv, rs, fo⟩ := s.lst e1 hp
                exact ⟨_, us, _, rfl, rfl, hv, by rw [← rs.length, sizeLine_eq]; exact hl.1, set_lst s hp (get_lt e1) (rs.snoc r1) (fo.snoc hl.2) .non q⟩
          · exact False.elim q
        | _ => rw [e1] at q; exact False.elim q
    · exact False.elim q
  | pop =>
    simp only [mbD] at q
    split at q
    · rename_i n
      cases e1 : h[n]? with
      | none => rw [e1] at q; exact False.elim q
      | some o =>
        cases o with
        | lst fl xs =>
          rw [e1] at q
          simp only at q
          cases e2 : xs[xs.length - 1]? with
          | none => rw [e2] at q; exact False.elim q
          | some y =>
            rw [e2] at q
            cases rx with
            | ref hp =>
              cases r
              obtain ⟨us, hv, rs, fo⟩ := s.lst e1 hp
              obtain ⟨yv, g1, g2⟩ := rs.get e2
              rw [rs.length] at g1
              exact ⟨_, us, yv, rfl, rfl, hv, g1, set_lst s hp (get_lt e1) rs.dropLast (fo.sub fun y hy => List.mem_of_mem_dropLast' hy) g2 q⟩
        | _ => rw [e1] at q; exact False.elim q
    · exact False.elim q
  | popAt =>
    simp only [mbD] at q
    split at q
    · rename_i n i
      split at q
      · rename_i hsm
        simp only [small, Bool.and_eq_true, decide_eq_true_eq] at hsm
        cases e1 : h[n]? with
        | none => rw [e1] at q; exact False.elim q
        | some o =>
          cases o with
          | lst fl xs =>
            rw [e1] at q
            simp only at q
            cases e3 : G8.ixN xs.length i with
            | none => rw [e3] at q; exact False.elim q
            | some k =>
              rw [e3] at q
              simp only at q
              cases e2 : xs[k]? with
              | none => rw [e2] at q; exact False.elim q
              | some y =>
                rw [e2] at q
                cases rx with
                | ref hp =>
                  cases r with
                  | cons r1 r2 =>
                    cases r2
                    cases r1
                    obtain ⟨us, hv, rs, fo⟩ := s.lst e1 hp
                    obtain ⟨yv, g1, g2⟩ := rs.get e2
                    obtain ⟨w1, w2, w3, w4⟩ := ixN_seq (show L2.ixN xs.length i = some k from e3)
                    exact ⟨_, us, i, k, yv, rfl, rfl, hv, by omega, by omega, by rw [← rs.length]; exact w1, g1, set_lst s hp (get_lt e1) (rs.eraseIdx k) (fo.sub fun y hy => List.mem_of_mem_eraseIdx hy) g2 q⟩
          | _ => rw [e1] at q; exact False.elim q
      · exact False.elim q
    · exact False.elim q
  | index =>
    simp only [mbD] at q
    split at q
    · rename_i y
      cases e1 : contD y a h with
      | none => rw [e1] at q; exact False.elim q
      | some c =>
        cases c with
        | false => rw [e1] at q; exact False.elim q
        | true =>
          cases e2 : seqOf h a with
          | none => rw [e1, e2] at q; exact False.elim q
          | some xs =>
            rw [e1, e2] at q
            simp only at q
            cases e3 : idxOf y xs with
            | none => rw [e3] at q; exact False.elim q
            | some k =>
              rw [e3] at q
              cases r with
              | cons r1 r2 =>
                cases r2
                have e4 : lstOf h a = some xs := by
                  cases a <;> simp_all [seqOf, lstOf]
                have e5 : contD y a h = (if D.fit 40 y && D.fits 40 xs then some (inD y xs) else none) := by
                  unfold contD
                  split
                  · rename_i ys; exact absurd rfl (hnt ys)
                  · rw [e4]
                rw [e5] at e1
                split at e1
                · rename_i hf
                  simp only [Bool.and_eq_true] at hf
                  obtain ⟨p, us, rfl, hp, rs⟩ := Rp.lstOf s rx e4
                  obtain ⟨z, h1, h2, h3⟩ := idxOf_some e3
                  have s2 : SeqAt.shaped (.list (D.pys xs)) = true := by
                    have := py_shaped (n := 41) (a := .lst xs) (by decide) (by simp only [D.fit]; exact hf.2)
                    simpa only [D.py] using this
                  refine ⟨p, _, y.py, D.pys xs, k, z.py, rfl, rfl, .lst (SqL.of hp) (rs.dp hf.2), r1.dp hf.1, s2, py_shaped (by decide) hf.1, by rw [pys_get, h1]; rfl, ?_, fun m z' hm hz => ?_, q.ok s (.int _)⟩
                  · rw [py_eqv 40 40 z y (fits_get hf.2 h1) hf.1]; exact h2
                  · rw [pys_get] at hz
                    cases e6 : xs[m]? with
                    | none => rw [e6] at hz; cases hz
                    | some w =>
                      rw [e6] at hz
                      cases hz
                      rw [py_eqv 40 40 w y (fits_get hf.2 e6) hf.1]
                      exact h3 m w hm e6
                · cases e1
    · exact False.elim q
  | count =>
    simp only [mbD] at q
    split at q
    · rename_i y
      cases e4 : lstOf h a with
      | none => rw [e4] at q; exact False.elim q
      | some xs =>
        rw [e4] at q
        simp only at q
        split at q
        · rename_i hf
          simp only [Bool.and_eq_true] at hf
          cases r with
          | cons r1 r2 =>
            cases r2
            obtain ⟨p, us, rfl, hp, rs⟩ := Rp.lstOf s rx e4
            have s2 : SeqAt.shaped (.list (D.pys xs)) = true := by
              have := py_shaped (n := 41) (a := .lst xs) (by decide) (by simp only [D.fit]; exact hf.2)
              simpa only [D.py] using this
            refine ⟨p, _, y.py, D.pys xs, rfl, rfl, .lst (SqL.of hp) (rs.dp hf.2), r1.dp hf.1, s2, py_shaped (by decide) hf.1, ?_⟩
            rw [countP_py y 40 40 hf.1 xs hf.2]
            exact q.ok s (.int _)
        · exact False.elim q
    · exact False.elim q
  | remove => exact False.elim q
  | join => exact False.elim q
  | split => exact False.elim q
end
end G8

set_option Elab.async false
set_option linter.all false
set_option maxRecDepth 100000
set_option maxHeartbeats 1000000
namespace G8
open PySem PySem.Spec L2
theorem _root_.L2.PE.imp {X : Cx} {e : Expr} {t t' : TE} (h : PE X e t) (k : ∀ σ H Q, t' σ H Q → t σ H Q) : PE X e t' := ⟨fun pins s σ H Q I q => h.run pins s σ H Q I (k σ H Q q)⟩
theorem _root_.L2.PE.or {X : Cx} {e : Expr} {t u : TE} (h : PE X e t) (h' : PE X e u) : PE X e (fun σ H Q => t σ H Q ∨ u σ H Q) :=
  ⟨fun pins s σ H Q I q => q.elim (h.run pins s σ H Q I) (h'.run pins s σ H Q I)⟩
theorem _root_.L2.PE.ex {ι : Type} {X : Cx} {e : Expr} {t : ι → TE} (h : ∀ i, PE X e (t i)) : PE X e (fun σ H Q => ∃ i, t i σ H Q) :=
  ⟨fun pins s σ H Q I ⟨i, q⟩ => (h i).run pins s σ H Q I q⟩
theorem _root_.L2.PT.imp {X : Cx} {e : Expr} {t t' : TT} (h : PT X e t) (k : ∀ σ H Q, t' σ H Q → t σ H Q) : PT X e t' := ⟨fun pins s σ H Q I q => h.run pins s σ H Q I (k σ H Q q)⟩
theorem _root_.L2.PW.imp {X : Cx} {e : Expr} {t t' : TT} (h : PW X e t) (k : ∀ σ H Q, t' σ H Q → t σ H Q) : PW X e t' := ⟨fun w pins s σ H Q I q => h.run w pins s σ H Q I (k σ H Q q)⟩
theorem _root_.L2.PA.imp {X : Cx} {es : List Expr} {t t' : TA} (h : PA X es t) (k : ∀ σ H Q, t' σ H Q → t σ H Q) : PA X es t' := ⟨fun p pins s σ H Q I q => h.run p pins s σ H Q I (k σ H Q q)⟩
theorem _root_.L2.PE.bot {X : Cx} {e : Expr} {t : TE} (k : ∀ σ H Q, ¬ t σ H Q) : PE X e t := ⟨fun _ _ σ H Q _ q => (k σ H Q q).elim⟩
theorem _root_.L2.PT.bot {X : Cx} {e : Expr} {t : TT} (k : ∀ σ H Q, ¬ t σ H Q) : PT X e t := ⟨fun _ _ σ H Q _ q => (k σ H Q q).elim⟩
theorem _root_.L2.PW.bot {X : Cx} {e : Expr} {t : TT} (k : ∀ σ H Q, ¬ t σ H Q) : PW X e t := ⟨fun _ _ _ σ H Q _ q => (k σ H Q q).elim⟩
theorem _root_.L2.PA.bot {X : Cx} {e : List Expr} {t : TA} (k : ∀ σ H Q, ¬ t σ H Q) : PA X e t := ⟨fun _ _ _ σ H Q _ q => (k σ H Q q).elim⟩

section
variable (T : Tb) (K : PySem.W.Frag)
abbrev Rn := IE → Sl → Sto → R D
def tE (r : Rn) (W : WX) (e : IE) : TE := fun σ H Q => ∃ ρ h σa, SR K T H ρ h ∧ RS K T H ρ σa σ ∧ Aft K T W σ ρ H (r e σa h) (Rp K T) Q
def toB (d : D) (h : Sto) : R Bool := match d with
  | .bl b => .ok b h
  | _ => .stuck
def tT (r : Rn) (W : WX) (e : IE) : TT := fun σ H Q => ∃ ρ h σa, SR K T H ρ h ∧ RS K T H ρ σa σ ∧ Aft K T W σ ρ H ((r e σa h).bind toB) (fun _ _ b v => v = b) Q
def tA (r : Rn) (W : WX) (es : List IE) : TA := fun σ H Q => ∃ ρ h σa, SR K T H ρ h ∧ RS K T H ρ σa σ ∧ Aft K T W σ ρ H (evs r es σa h) (Rps K T) Q
end
section
variable (P : Prg) (T : Tb)
def GE (X : Cx) (W : WX) (d : Nat) (e : Expr) (ie : IE) : Prop := ∀ F, PE X e (tE T X.K ((ev P F).e d) W ie)
def GT (X : Cx) (W : WX) (d : Nat) (e : Expr) (ie : IE) : Prop := ∀ F, PT X e (tT T X.K ((ev P F).e d) W ie)
def GW (X : Cx) (W : WX) (d : Nat) (e : Expr) (ie : IE) : Prop := ∀ F, PW X e (tT T X.K ((ev P F).e d) W ie)
def GA (X : Cx) (W : WX) (d : Nat) (es : List Expr) (ies : List IE) : Prop := ∀ F, PA X es (tA T X.K ((ev P F).e d) W ies)
end
structure XO (X : Cx) (W : WX) (d : Nat) : Prop where
  calm : X.calm = true
  room : Room d X.A
  tk : Takes X W
  nd : X.N.Nodup
theorem XO.hu {X : Cx} {W : WX} {d : Nat} (x : XO X W d) : X.A.units + 65 < cLine := by have := x.room.un; omega

section
variable {P : Prg} {T : Tb} {X : Cx} {W : WX} {d : Nat} {a b c : Expr} {ia ib ic : IE} {pos : Pos}
theorem bot_e {K : PySem.W.Frag} {e : IE} (σ : St) (H : Hp) (Q : VK) : ¬ tE T K ((ev P 0).e d) W e σ H Q := fun ⟨_, _, _, _, _, q⟩ => q
theorem bot_t {K : PySem.W.Frag} {e : IE} (σ : St) (H : Hp) (Q : Bool → Hp → Prop) : ¬ tT T K ((ev P 0).e d) W e σ H Q := fun ⟨_, _, _, _, _, q⟩ => q
/-- from fuel F + 1 -/
theorem GE.of {e : Expr} {ie : IE} (k : ∀ F, PE X e (tE T X.K (stepE P (ev P F) d) W ie)) : GE P T X W d e ie := fun F => match F with
  | 0 => PE.bot bot_e
  | F + 1 => k F
theorem GT.of {e : Expr} {ie : IE} (k : ∀ F, PT X e (tT T X.K (stepE P (ev P F) d) W ie)) : GT P T X W d e ie := fun F => match F with
  | 0 => PT.bot bot_t
  | F + 1 => k F
theorem GW.of {e : Expr} {ie : IE} (k : ∀ F, PW X e (tT T X.K (stepE P (ev P F) d) W ie)) : GW P T X W d e ie := fun F => match F with
  | 0 => PW.bot bot_t
  | F + 1 => k F
theorem GW.gt {e : Expr} {ie : IE} (h : GW P T X W d e ie) : GT P T X W d e ie := fun F => (h F).pt
/-- a test's reading as a value's -/
theorem tT_tE {K : PySem.W.Frag} {r : Rn} {e : IE} {σ : St} {H : Hp} {Q : Bool → Hp → Prop} (q : tT T K r W e σ H Q) : tE T K r W e σ H (fun x H' => ∃ k, x = .bl k ∧ Q k H') := by
  obtain ⟨ρ, h, σa, s, rs, a⟩ := q
  refine ⟨ρ, h, σa, s, rs, a.bind fun dd h1 v H1 ρ1 x1 s1 rp m => ?_⟩
  cases rp with
  | bl c => exact ⟨c, rfl, m.ok s1 rfl⟩
  | _ => exact False.elim m
theorem GT.of_val {e : Expr} {ie : IE} (h : GE P T X W d e ie) (he : ∀ whole, isTrue e X.env whole = (do let v ← whole; standAt e.pos; holding [v] (truthy v))) : GT P T X W d e ie :=
  fun F => (pt_val (h F) he).imp fun σ H Q q => tT_tE q

/-! ### constants and names -/
theorem g_int {i : Int} {j : Nat} : GE P T X W d (.Constant (.int i) j pos) (.cst (.int i)) := .of fun F => pe_int.imp fun σ H Q ⟨ρ, h, σa, s, rs, q⟩ => q.ok s (.int i)
theorem g_bl {i : Bool} {j : Nat} : GE P T X W d (.Constant (.bool i) j pos) (.cst (.bl i)) := .of fun F => pe_bl.imp fun σ H Q ⟨ρ, h, σa, s, rs, q⟩ => q.ok s (.bl i)
theorem g_non {j : Nat} : GE P T X W d (.Constant .none j pos) (.cst .non) := .of fun F => pe_non.imp fun σ H Q ⟨ρ, h, σa, s, rs, q⟩ => q.ok s .non
theorem g_str {x : Str} {y : List Nat} {j : Nat} (e : x = ⟨y.toArray⟩) : GE P T X W d (.Constant (.str x) j pos) (.cst (.str y)) := .of fun F => pe_str.imp fun σ H Q ⟨ρ, h, σa, s, rs, q⟩ => by
  subst e; exact q.ok s (.str y)
theorem g_gint {x : Str} {i : Int} {t : Tok} (hg : Gl X x) (hm : X.mg x = some (.int i t)) (hd : (x == ("__debug__" : Str)) = false) : GE P T X W d (.Name x pos) (.cst (.int i)) :=
  .of fun F => (pe_glob (v := .int i) hg hm ⟨t, rfl⟩ hd).imp fun σ H Q ⟨ρ, h, σa, s, rs, q⟩ => q.ok s (.int i)
theorem g_var {i : Nat} {x : Str} (hN : X.N[i]? = some x) (hv : Vis X.env.scope x) (hd : (x == ("__debug__" : Str)) = false) (hcd : (x == ("__classdict__" : Str)) = false) : GE P T X W d (.Name x pos) (.var i) :=
  .of fun F => (pe_var hN hv hd hcd).imp fun σ H Q ⟨ρ, h, σa, s, rs, q⟩ => by
    simp only [stepE] at q
    cases e : σa[i]? with
    | none => rw [e] at q; exact False.elim q
    | some o =>
      cases o with
      | none => rw [e] at q; exact False.elim q
      | some v =>
        rw [e] at q
        obtain ⟨u, h1, h2⟩ := rs.at_ i v e
        exact ⟨u, h1, q.ok s h2⟩
/-! ### operators -/
theorem two {K : PySem.W.Frag} {r : Rn} {σ : St} {H : Hp} {Q : VK} {ρ : Rho} {h : Sto} {σa : Sl} {Φ : V → V → Hp → Prop} {f : D → D → Sto → R D} (s : SR K T H ρ h) (rs : RS K T H ρ σa σ)
    (q : Aft K T W σ ρ H ((r ia σa h).bind fun x h1 => (r ib σa h1).bind fun y h2 => f x y h2) (Rp K T) Q)
    (k : ∀ x y v u H2 ρ2 h2, SR K T H2 ρ2 h2 → Rp K T H2 ρ2 x v → Rp K T H2 ρ2 y u → Aft K T W σ ρ2 H2 (f x y h2) (Rp K T) Q → Φ v u H2) :
    tE T K r W ia σ H fun x H1 => tE T K r W ib σ H1 fun y H2 => Φ x y H2 :=
  ⟨ρ, h, σa, s, rs, q.bind fun x h1 v H1 ρ1 x1 s1 r1 q1 => ⟨ρ1, h1, σa, s1, rs.ext x1, q1.bind fun y h2 u H2 ρ2 x2 s2 r2 q2 => k x y v u H2 ρ2 h2 s2 (r1.ext x2) r2 q2⟩⟩
theorem g_bin {op : BOp} {o : Operator} (ho : opb op = o) (ha : GE P T X W d a ia) (hb : GE P T X W d b ib) : GE P T X W d (.BinOp a o b pos) (.bin op ia ib) := .of fun F => by
  subst ho
  refine (pe_op (bin_ok op) (ha F) (hb F)).imp fun σ H Q ⟨ρ, h, σa, s, rs, q⟩ => ?_
  exact two (Φ := fun x y H2 => rb X.K op x y H2 Q) s rs q fun x y v u H2 ρ2 h2 s2 r1 r2 q2 => bin_rd s2 r1 r2 q2
theorem g_neg (ha : GE P T X W d a ia) : GE P T X W d (.UnaryOp .USub a pos) (.neg ia) := .of fun F => by
  refine (pe_un un_neg (ha F)).imp fun σ H Q ⟨ρ, h, σa, s, rs, q⟩ => ?_
  refine ⟨ρ, h, σa, s, rs, q.bind fun x h1 v H1 ρ1 x1 s1 r1 q1 => ?_⟩
  cases r1 with
  | int i => exact ⟨i, rfl, q1.ok s1 (.int _)⟩
  | _ => exact False.elim q1
theorem cmp_imp {K : PySem.W.Frag} {op : COp} {F : Nat} {σ : St} {H : Hp} {Q : VK} (q : tE T K (stepE P (ev P F) d) W (.cmp op ia ib) σ H Q) : tOp (rc K op) (tE T K ((ev P F).e d) W ia) (tE T K ((ev P F).e d) W ib) σ H Q := by
  obtain ⟨ρ, h, σa, s, rs, q⟩ := q
  refine two (Φ := fun x y H2 => rc K op x y H2 Q) s rs q fun x y v u H2 ρ2 h2 s2 r1 r2 q2 => ?_
  cases e : cmpD op x y h2 with
  | none => rw [e] at q2; exact False.elim q2
  | some c => rw [e] at q2; exact cmp_rd s2 r1 r2 e (q2.ok s2 (.bl _))
theorem g_cmp (hx : XO X W d) {op : COp} {o : CmpOp} (ho : opc op = o) (ha : GE P T X W d a ia) (hb : GE P T X W d b ib) (hm : behindInMarks o b = false) : GE P T X W d (.Compare a [o] [b] pos) (.cmp op ia ib) := .of fun F => by
  subst ho
  exact (pe_cmpR (cmp_ok hx.hu op) (ha F) (hb F) hm).imp fun σ H Q q => cmp_imp q
theorem gt_cmp (hx : XO X W d) {op : COp} {o : CmpOp} (ho : opc op = o) (ha : GE P T X W d a ia) (hb : GE P T X W d b ib) (hm : behindInMarks o b = false) : GT P T X W d (.Compare a [o] [b] pos) (.cmp op ia ib) := .of fun F => by
  subst ho
  exact (pt_cmpR (cmp_ok hx.hu op) (ha F) (hb F) hm).imp fun σ H Q q => cmp_imp (tT_tE q)
theorem chn_imp {K : PySem.W.Frag} {o1 o2 : COp} {F : Nat} {σ : St} {H : Hp} {Q : VK} (q : tE T K (stepE P (ev P F) d) W (.chn o1 o2 ia ib ic) σ H Q) : tChain (rc K o1) (rc K o2) (tE T K ((ev P F).e d) W ia) (tE T K ((ev P F).e d) W ib) (tE T K ((ev P F).e d) W ic) σ H Q := by
  obtain ⟨ρ, h, σa, s, rs, q⟩ := q
  refine ⟨ρ, h, σa, s, rs, q.bind fun x h1 v H1 ρ1 x1 s1 r1 q1 => ⟨ρ1, h1, σa, s1, rs.ext x1, q1.bind fun y h2 u H2 ρ2 x2 s2 r2 q2 => ?_⟩⟩
  cases e : cmpD o1 x y h2 with
  | none => rw [e] at q2; exact False.elim q2
  | some c =>
    rw [e] at q2
    cases c with
    | true =>
      refine cmp_rd s2 (r1.ext x2) r2 e ⟨true, rfl, ?_⟩
      rw [if_pos rfl]
      refine ⟨ρ2, h2, σa, s2, (rs.ext x1).ext x2, Aft.bind (Rel2 := Rp K T) (Q := Q) (show Aft K T W σ ρ2 H2 (((ev P F).e d ic σa h2).bind _) (Rp K T) Q from q2) fun z h3 w H3 ρ3 x3 s3 r3 q3 => ?_⟩
      cases e2 : cmpD o2 y z h3 with
      | none => rw [e2] at q3; exact False.elim q3
      | some c' => rw [e2] at q3; exact cmp_rd s3 (r2.ext x3) r3 e2 (q3.ok s3 (.bl _))
    | false =>
      refine cmp_rd s2 (r1.ext x2) r2 e ⟨false, rfl, ?_⟩
      rw [if_neg (by simp)]
      exact q2.ok s2 (.bl _)
theorem g_chn (hx : XO X W d) {p1 p2 : COp} {o1 o2 : CmpOp} (h1 : opc p1 = o1) (h2 : opc p2 = o2) (ha : GE P T X W d a ia) (hb : GE P T X W d b ib) (hc : GE P T X W d c ic) (hm : lastMarks [o1, o2] [b, c] = false) : GE P T X W d (.Compare a [o1, o2] [b, c] pos) (.chn p1 p2 ia ib ic) := .of fun F => by
  subst h1 h2
  exact (pe_chain (cmp_ok hx.hu p1) (cmp_ok hx.hu p2) (ha F) (hb F) (hc F) hm).imp fun σ H Q q => chn_imp q
theorem gt_chn (hx : XO X W d) {p1 p2 : COp} {o1 o2 : CmpOp} (h1 : opc p1 = o1) (h2 : opc p2 = o2) (ha : GE P T X W d a ia) (hb : GE P T X W d b ib) (hc : GE P T X W d c ic) (hm : lastMarks [o1, o2] [b, c] = false) : GT P T X W d (.Compare a [o1, o2] [b, c] pos) (.chn p1 p2 ia ib ic) := .of fun F => by
  subst h1 h2
  exact (pt_chain (cmp_ok hx.hu p1) (cmp_ok hx.hu p2) (ha F) (hb F) (hc F) hm).imp fun σ H Q q => chn_imp (tT_tE q)
theorem isn_v {K : PySem.W.Frag} {H : Hp} {ρ : Rho} {x : D} {v : V} (r : Rp K T H ρ x v) : decide (v = .non) = (match x with | .non => true | _ => false) := by
  cases r <;> simp
theorem isn_imp {K : PySem.W.Frag} {ps : Bool} {F : Nat} {σ : St} {H : Hp} {Q : VK} (q : tE T K (stepE P (ev P F) d) W (.isn ps ia) σ H Q) :
    if ps then tIsN (tE T K ((ev P F).e d) W ia) σ H Q else tNotN (tE T K ((ev P F).e d) W ia) σ H Q := by
  obtain ⟨ρ, h, σa, s, rs, q⟩ := q
  cases ps with
  | true =>
    rw [if_pos rfl]
    refine ⟨ρ, h, σa, s, rs, q.bind fun x h1 v H1 ρ1 x1 s1 r1 q1 => ?_⟩
    rw [isn_v r1]
    cases x <;> exact q1.ok s1 (.bl _)
  | false =>
    rw [if_neg (by simp)]
    refine ⟨ρ, h, σa, s, rs, q.bind fun x h1 v H1 ρ1 x1 s1 r1 q1 => ?_⟩
    rw [isn_v r1]
    cases x <;> exact q1.ok s1 (.bl _)
theorem g_isn {ps : Bool} {o : CmpOp} {j : Nat} {p2 : Pos} (ho : o = if ps then .Is else .IsNot) (ha : GE P T X W d a ia) : GE P T X W d (.Compare a [o] [.Constant .none j p2] pos) (.isn ps ia) := .of fun F => by
  subst ho
  cases ps with
  | true => exact (pe_cmp (pc_isN (ha F)) rfl).imp fun σ H Q q => by have := isn_imp q; rwa [if_pos rfl] at this
  | false => exact (pe_cmp (pc_notN (ha F)) rfl).imp fun σ H Q q => by have := isn_imp q; rwa [if_neg (by simp)] at this
theorem gt_isn {ps : Bool} {o : CmpOp} {j : Nat} {p2 : Pos} (ho : o = if ps then .Is else .IsNot) (ha : GE P T X W d a ia) : GT P T X W d (.Compare a [o] [.Constant .none j p2] pos) (.isn ps ia) := .of fun F => by
  subst ho
  cases ps with
  | true => exact (pt_cmp (pc_isN (ha F)) rfl).imp fun σ H Q q => by have := isn_imp (tT_tE q); rwa [if_pos rfl] at this
  | false => exact (pt_cmp (pc_notN (ha F)) rfl).imp fun σ H Q q => by have := isn_imp (tT_tE q); rwa [if_neg (by simp)] at this
theorem isb_imp {K : PySem.W.Frag} {ps v0 : Bool} {F : Nat} {σ : St} {H : Hp} {Q : VK} (q : tE T K (stepE P (ev P F) d) W (.isb ps v0 ia) σ H Q) :
    tOp (if ps then rIsB else rNotB) (tE T K ((ev P F).e d) W ia) (tC (.bl v0)) σ H Q := by
  obtain ⟨ρ, h, σa, s, rs, q⟩ := q
  refine ⟨ρ, h, σa, s, rs, q.bind fun x h1 v H1 ρ1 x1 s1 r1 q1 => ?_⟩
  cases r1 with
  | bl c =>
    cases ps with
    | true =>
      refine ⟨c, v0, rfl, rfl, ?_⟩
      have e : decide (c = v0) = (c == v0) := by cases c <;> cases v0 <;> rfl
      rw [e]
      exact q1.ok s1 (.bl _)
    | false =>
      refine ⟨c, v0, rfl, rfl, ?_⟩
      have e : decide (c = v0) = (c == v0) := by cases c <;> cases v0 <;> rfl
      rw [e]
      exact q1.ok s1 (.bl _)
  | _ => exact False.elim q1
theorem isb_op {ps : Bool} : OpR X (compareOp (if ps then .Is else .IsNot)) (if ps then rIsB else rNotB) := by
  cases ps
  · exact op_notBl
  · exact op_isBl
theorem g_isb {ps v0 : Bool} {o : CmpOp} {j : Nat} {p2 : Pos} (ho : o = if ps then .Is else .IsNot) (ha : GE P T X W d a ia) : GE P T X W d (.Compare a [o] [.Constant (.bool v0) j p2] pos) (.isb ps v0 ia) := .of fun F => by
  subst ho
  exact (pe_cmpR isb_op (ha F) pe_bl rfl).imp fun σ H Q q => isb_imp q
theorem gt_isb {ps v0 : Bool} {o : CmpOp} {j : Nat} {p2 : Pos} (ho : o = if ps then .Is else .IsNot) (ha : GE P T X W d a ia) : GT P T X W d (.Compare a [o] [.Constant (.bool v0) j p2] pos) (.isb ps v0 ia) := .of fun F => by
  subst ho
  exact (pt_cmpR isb_op (ha F) pe_bl rfl).imp fun σ H Q q => isb_imp (tT_tE q)
/-! ### and, or, not -/
theorem g_not (ha : GE P T X W d a ia) : GE P T X W d (.UnaryOp .Not a pos) (.not ia) := .of fun F => (pe_not (ha F)).imp fun σ H Q ⟨ρ, h, σa, s, rs, q⟩ =>
  ⟨ρ, h, σa, s, rs, q.bind fun x h1 v H1 ρ1 x1 s1 r1 q1 => by
    cases r1 with
    | bl c => exact ⟨c, rfl, q1.ok s1 (.bl _)⟩
    | _ => exact False.elim q1⟩
theorem bb {r : R D} {f : D → Sto → R D} : (r.bind f).bind toB = r.bind fun x h => (f x h).bind toB := by cases r <;> rfl
theorem gt_not (ha : GT P T X W d a ia) : GT P T X W d (.UnaryOp .Not a pos) (.not ia) := .of fun F => (pt_not (ha F)).imp fun σ H Q ⟨ρ, h, σa, s, rs, q⟩ => by
  refine ⟨ρ, h, σa, s, rs, ?_⟩
  have q' : Aft X.K T W σ ρ H (((ev P F).e d ia σa h).bind toB |>.bind fun b h => .ok (!b) h) (fun _ _ b v => v = b) Q := by
    simp only [stepE] at q
    cases e : (ev P F).e d ia σa h with
    | ok x h1 => rw [e] at q; cases x <;> exact q
    | err c h1 => rw [e] at q; exact q
    | stuck => rw [e] at q; exact q
  exact q'.bind fun b h1 v H1 ρ1 x1 s1 r1 q1 => by subst r1; exact q1.ok s1 rfl
theorem and_imp {K : PySem.W.Frag} {F : Nat} {σ : St} {H : Hp} {Q : VK} {r2 : Rn} (hr : ∀ x h, (ev P F).e d ib x h = r2 ib x h) (q : tE T K (stepE P (ev P F) d) W (.and ia ib) σ H Q) : tAndV (tE T K ((ev P F).e d) W ia) (tE T K r2 W ib) σ H Q := by
  obtain ⟨ρ, h, σa, s, rs, q⟩ := q
  refine ⟨ρ, h, σa, s, rs, q.bind fun x h1 v H1 ρ1 x1 s1 r1 q1 => ?_⟩
  cases r1 with
  | bl c =>
    refine ⟨c, rfl, ?_⟩
    cases c with
    | true => rw [if_pos rfl]; exact ⟨ρ1, h1, σa, s1, rs.ext x1, by rw [← hr]; exact q1⟩
    | false => rw [if_neg (by simp)]; exact q1.ok s1 (.bl _)
  | _ => exact False.elim q1
theorem g_and {rest : List Expr} (ha : GE P T X W d a ia) (hb : GE P T X W d (.BoolOp .And (b :: rest) pos) ib) : GE P T X W d (.BoolOp .And (a :: b :: rest) pos) (.and ia ib) := .of fun F =>
  (pe_and (ha F) (hb F)).imp fun σ H Q q => and_imp (fun _ _ => rfl) q
theorem g_or {rest : List Expr} (ha : GE P T X W d a ia) (hb : GE P T X W d (.BoolOp .Or (b :: rest) pos) ib) : GE P T X W d (.BoolOp .Or (a :: b :: rest) pos) (.or ia ib) := .of fun F =>
  (pe_or (ha F) (hb F)).imp fun σ H Q ⟨ρ, h, σa, s, rs, q⟩ => ⟨ρ, h, σa, s, rs, q.bind fun x h1 v H1 ρ1 x1 s1 r1 q1 => by
    cases r1 with
    | bl c =>
      refine ⟨c, rfl, ?_⟩
      cases c with
      | true => rw [if_pos rfl]; exact q1.ok s1 (.bl _)
      | false => rw [if_neg (by simp)]; exact ⟨ρ1, h1, σa, s1, rs.ext x1, q1⟩
    | _ => exact False.elim q1⟩
theorem g_one {op : BoolOp} (ha : GE P T X W d a ia) : GE P T X W d (.BoolOp op [a] pos) ia := fun F => pe_one (ha F)
theorem gw_and1 (ha : GT P T X W d a ia) : GW P T X W d (.BoolOp .And [a] pos) ia := fun F => pw_and1 (ha F)
theorem gw_or1 (ha : GT P T X W d a ia) : GW P T X W d (.BoolOp .Or [a] pos) ia := fun F => pw_or1 (ha F)
theorem gw_and {rest : List Expr} (ha : GT P T X W d a ia) (hb : GW P T X W d (.BoolOp .And (b :: rest) pos) ib) : GW P T X W d (.BoolOp .And (a :: b :: rest) pos) (.and ia ib) := .of fun F =>
  (pw_and (ha F) (hb F)).imp fun σ H Q ⟨ρ, h, σa, s, rs, q⟩ => by
    refine ⟨ρ, h, σa, s, rs, ?_⟩
    have q' : Aft X.K T W σ ρ H ((((ev P F).e d ia σa h).bind toB).bind fun b h => if b then ((ev P F).e d ib σa h).bind toB else .ok false h) (fun _ _ b v => v = b) Q := by
      simp only [stepE] at q
      cases e : (ev P F).e d ia σa h with
      | ok x h1 =>
        rw [e] at q
        cases x with
        | bl b => cases b <;> exact q
        | _ => exact q
      | err c h1 => rw [e] at q; exact q
      | stuck => rw [e] at q; exact q
    exact q'.bind fun b h1 v H1 ρ1 x1 s1 r1 q1 => by
      subst r1
      cases v with
      | true => rw [if_pos rfl]; exact ⟨ρ1, h1, σa, s1, rs.ext x1, q1⟩
      | false => rw [if_neg (by simp)]; exact q1.ok s1 rfl
theorem gw_or {rest : List Expr} (ha : GT P T X W d a ia) (hb : GW P T X W d (.BoolOp .Or (b :: rest) pos) ib) : GW P T X W d (.BoolOp .Or (a :: b :: rest) pos) (.or ia ib) := .of fun F =>
  (pw_or (ha F) (hb F)).imp fun σ H Q ⟨ρ, h, σa, s, rs, q⟩ => by
    refine ⟨ρ, h, σa, s, rs, ?_⟩
    have q' : Aft X.K T W σ ρ H ((((ev P F).e d ia σa h).bind toB).bind fun b h => if b then .ok true h else ((ev P F).e d ib σa h).bind toB) (fun _ _ b v => v = b) Q := by
      simp only [stepE] at q
      cases e : (ev P F).e d ia σa h with
      | ok x h1 =>
        rw [e] at q
        cases x with
        | bl b => cases b <;> exact q
        | _ => exact q
      | err c h1 => rw [e] at q; exact q
      | stuck => rw [e] at q; exact q
    exact q'.bind fun b h1 v H1 ρ1 x1 s1 r1 q1 => by
      subst r1
      cases v with
      | true => rw [if_pos rfl]; exact q1.ok s1 rfl
      | false => rw [if_neg (by simp)]; exact ⟨ρ1, h1, σa, s1, rs.ext x1, q1⟩
theorem g_ite (hc : GT P T X W d c ic) (ha : GE P T X W d a ia) (hb : GE P T X W d b ib) : GE P T X W d (.IfExp c a b pos) (.ite ic ia ib) := .of fun F =>
  (pe_ifExp (hc F) (ha F) (hb F)).imp fun σ H Q ⟨ρ, h, σa, s, rs, q⟩ => by
    refine ⟨ρ, h, σa, s, rs, ?_⟩
    have q' : Aft X.K T W σ ρ H ((((ev P F).e d ic σa h).bind toB).bind fun b h => if b then (ev P F).e d ia σa h else (ev P F).e d ib σa h) (Rp X.K T) Q := by
      simp only [stepE] at q
      cases e : (ev P F).e d ic σa h with
      | ok x h1 =>
        rw [e] at q
        cases x with
        | bl b => cases b <;> exact q
        | _ => exact q
      | err c h1 => rw [e] at q; exact q
      | stuck => rw [e] at q; exact q
    exact q'.bind fun b h1 v H1 ρ1 x1 s1 r1 q1 => by
      subst r1
      cases v with
      | true => rw [if_pos rfl]; exact ⟨ρ1, h1, σa, s1, rs.ext x1, q1⟩
      | false => rw [if_neg (by simp)]; exact ⟨ρ1, h1, σa, s1, rs.ext x1, q1⟩
/-! ### argument lists, displays -/
def noStar : Expr → Bool
  | .Starred .. => false
  | _ => true
theorem star_cons {e : Expr} {es : List Expr} {env : Env} (h : noStar e = true) : starEach (e :: es) env = (false, eval e env) :: starEach es env := by
  cases e <;> first | rfl | (simp [noStar] at h)
theorem star_any {env : Env} {pos : Pos} : ∀ {es : List Expr}, es.all noStar = true → (backTo pos (starEach es env)).any (·.1) = false
  | [], _ => rfl
  | e :: es, h => by
    simp only [List.all_cons, Bool.and_eq_true] at h
    rw [star_cons h.1]
    have := star_any (env := env) (pos := pos) h.2
    simp only [backTo, List.map_cons, List.any_cons] at this ⊢
    rw [this]
    rfl
theorem ga_nil : GA P T X W d [] [] := fun F => pa_nil.imp fun σ H Q ⟨ρ, h, σa, s, rs, q⟩ => q.ok s .nil
theorem ga_cons {e : Expr} {es : List Expr} {ie : IE} {ies : List IE} (ha : GE P T X W d e ie) (hr : GA P T X W d es ies) (hs : noStar e = true) : GA P T X W d (e :: es) (ie :: ies) := fun F =>
  (pa_cons (ha F) (hr F) (star_cons hs)).imp fun σ H Q ⟨ρ, h, σa, s, rs, q⟩ =>
    ⟨ρ, h, σa, s, rs, Aft.bind (Rel2 := Rps X.K T) q fun x h1 v H1 ρ1 x1 s1 r1 q1 => ⟨ρ1, h1, σa, s1, rs.ext x1, Aft.bind (Rel2 := Rps X.K T) q1 fun y h2 u H2 ρ2 x2 s2 r2 q2 => q2.ok s2 (.cons (r1.ext x2) r2)⟩⟩
theorem evs_len {r : Rn} : ∀ {es : List IE} {σa : Sl} {h : Sto} {xs : List D} {h' : Sto}, evs r es σa h = .ok xs h' → xs.length = es.length
  | [], _, _, _, _, e => by simp [evs] at e; rw [e.1]; rfl
  | x :: es, σa, h, xs, h', e => by
    simp only [evs] at e
    cases e1 : r x σa h with
    | ok dd h1 =>
      rw [e1] at e
      simp only [R.bind] at e
      cases e2 : evs r es σa h1 with
      | ok ds h2 =>
        rw [e2] at e
        simp at e
        rw [← e.1, List.length_cons, evs_len e2]
        rfl
      | err c h2 => rw [e2] at e; cases e
      | stuck => rw [e2] at e; cases e
    | err c h1 => rw [e1] at e; cases e
    | stuck => rw [e1] at e; cases e
theorem Aft.len {K : PySem.W.Frag} {r : Rn} {es : List IE} {σa : Sl} {h : Sto} {σ : St} {ρ : Rho} {H : Hp} {α β : Type} {f : List D → Sto → R α} {Rel : Hp → Rho → α → β → Prop} {Q : β → Hp → Prop} (n : Nat) (hn : es.length ≤ n)
    (q : Aft K T W σ ρ H ((evs r es σa h).bind f) Rel Q) : Aft K T W σ ρ H ((evs r es σa h).bind fun xs h1 => if xs.length ≤ n then f xs h1 else .stuck) Rel Q := by
  cases e : evs r es σa h with
  | ok xs h1 =>
    rw [e] at q
    have := evs_len e
    show Aft K T W σ ρ H (if xs.length ≤ n then f xs h1 else .stuck) Rel Q
    rw [if_pos (by omega)]
    exact q
  | err c h1 => rw [e] at q; exact q
  | stuck => rw [e] at q; exact q
theorem g_tup {es : List Expr} {ies : List IE} {k : Nat} (ha : GA P T X W d es ies) (hl : ies.length ≤ 16777216) : GE P T X W d (.Tuple es k pos) (.tup ies) := .of fun F =>
  (pe_tupF (ha F)).imp fun σ H Q ⟨ρ, h, σa, s, rs, q⟩ => ⟨ρ, h, σa, s, rs, Aft.bind (Rel2 := Rp X.K T) (Aft.len 16777216 hl q) fun xs h1 vs H1 ρ1 x1 s1 r1 q1 => by
    split at q1
    · rename_i hz
      exact ⟨by rw [← r1.length, sizeLine_eq]; exact hz, fun p its hp => new_tup s1 r1 q1 p its hp⟩
    · exact False.elim q1⟩
theorem g_lst {es : List Expr} {ies : List IE} (ha : GA P T X W d es ies) (hl : ies.length ≤ 16777216) : GE P T X W d (.List es pos) (.lst ies) := .of fun F =>
  (pe_lst (ha F)).imp fun σ H Q ⟨ρ, h, σa, s, rs, q⟩ => ⟨ρ, h, σa, s, rs, Aft.bind (Rel2 := Rp X.K T) (Aft.len 16777216 hl q) fun xs h1 vs H1 ρ1 x1 s1 r1 q1 => by
    split at q1
    · rename_i hz
      exact ⟨by rw [← r1.length, sizeLine_eq]; exact hz, fun p hp => new_lst s1 r1 q1 p hp⟩
    · exact False.elim q1⟩
/-! ### items, slices, fields -/
def plainIx : Expr → Bool
  | .Slice .. => false
  | _ => true
theorem plain_ix {b : Expr} (h : plainIx b = true) : PlainIx b := fun o i => by
  cases b <;> first | rfl | (simp [plainIx] at h)
theorem g_idx (ha : GE P T X W d a ia) (hb : GE P T X W d b ib) (hs : plainIx b = true) : GE P T X W d (.Subscript a b pos) (.idx ia ib) := .of fun F => by
  refine (pe_ix ix_seq (ha F) (hb F) (plain_ix hs)).imp fun σ H Q ⟨ρ, h, σa, s, rs, q⟩ => ?_
  exact two (Φ := fun x y H2 => rIx X.K x y H2 Q) s rs q fun x y v u H2 ρ2 h2 s2 r1 r2 q2 => idx_rd s2 r1 r2 q2
def tO_ (K : PySem.W.Frag) (T : Tb) (r : Rn) (W : WX) (o : Option IE) : TO := fun σ H Q => ∃ ρ h σa, SR K T H ρ h ∧ RS K T H ρ σa σ ∧ Aft K T W σ ρ H (evO r o σa h) (fun _ _ a b => b = a) Q
def GO (P : Prg) (T : Tb) (X : Cx) (W : WX) (d : Nat) (e : Option Expr) (ie : Option IE) : Prop := ∀ F, PO X e (tO_ X.K T ((ev P F).e d) W ie)
theorem _root_.L2.PO.imp {e : Option Expr} {t t' : TO} (h : PO X e t) (k : ∀ σ H Q, t' σ H Q → t σ H Q) : PO X e t' := ⟨fun pins s σ H Q I q => h.run pins s σ H Q I (k σ H Q q)⟩
theorem go_none : GO P T X W d none none := fun F => PO.imp po_none fun σ H Q ⟨ρ, h, σa, s, rs, q⟩ => q.ok s rfl
theorem go_some (ha : GE P T X W d a ia) : GO P T X W d (some a) (some ia) := fun F => PO.imp (po_some (ha F)) fun σ H Q ⟨ρ, h, σa, s, rs, q⟩ =>
  ⟨ρ, h, σa, s, rs, Aft.bind q fun x h1 v H1 ρ1 x1 s1 r1 q1 => by
    cases r1 with
    | int i => exact ⟨i, rfl, q1.ok s1 rfl⟩
    | _ => exact False.elim q1⟩
theorem g_sl {lo hi : Option Expr} {ilo ihi : Option IE} {p2 : Pos} (ha : GE P T X W d a ia) (hl : GO P T X W d lo ilo) (hh : GO P T X W d hi ihi) : GE P T X W d (.Subscript a (.Slice lo hi none p2) pos) (.sl ia ilo ihi) := .of fun F => by
  refine (pe_slice sl_ok (ha F) (hl F) (hh F)).imp fun σ H Q ⟨ρ, h, σa, s, rs, q⟩ => ?_
  refine ⟨ρ, h, σa, s, rs, q.bind fun x h1 v H1 ρ1 x1 s1 r1 q1 => ⟨ρ1, h1, σa, s1, rs.ext x1, Aft.bind (Rel2 := Rp X.K T) q1 fun l h2 l' H2 ρ2 x2 s2 e2 q2 => ⟨ρ2, h2, σa, s2, (rs.ext x1).ext x2, Aft.bind (Rel2 := Rp X.K T) q2 fun u h3 u' H3 ρ3 x3 s3 e3 q3 => ?_⟩⟩⟩
  subst e2 e3
  exact sl_rd s3 ((r1.ext x2).ext x3) q3
theorem g_rev {k : Nat} {p1 p2 p3 : Pos} (ha : GE P T X W d a ia) : GE P T X W d (.Subscript a (.Slice none none (some (.UnaryOp .USub (.Constant (.int 1) k p1) p2)) p3) pos) (.rev ia) := .of fun F =>
  (pe_revL (ha F)).imp fun σ H Q ⟨ρ, h, σa, s, rs, q⟩ => ⟨ρ, h, σa, s, rs, q.bind fun x h1 v H1 ρ1 x1 s1 r1 q1 => by
    unfold revD at q1
    cases e : lstOf h1 x with
    | none => rw [e] at q1; exact False.elim q1
    | some xs =>
      rw [e] at q1
      obtain ⟨p, us, rfl, hp, rs'⟩ := Rp.lstOf s1 r1 e
      exact ⟨p, us, rfl, SqL.of hp, fun l hl => new_lst s1 rs'.reverse q1 l hl⟩⟩
def noCall : Expr → Bool
  | .Call (.Name _ _) [] [] _ => false
  | _ => true
theorem attr_base {e : Expr} {f : Str} {env : Env} (h : noCall e = true) (w : Sem Value) : attributeBase e f env w = w := by
  unfold attributeBase
  split
  · simp [noCall] at h
  · rfl
theorem g_fld {f : Nat} (ow : Own X.K T) (hc : noCall a = true) (ha : GE P T X W d a ia) : GE P T X W d (.Attribute a (flN T f) pos) (.fld ia f) := .of fun F =>
  (pe_fld (ha F) (attr_base hc _)).imp fun σ H Q ⟨ρ, h, σa, s, rs, q⟩ => ⟨ρ, h, σa, s, rs, q.bind fun x h1 v H1 ρ1 x1 s1 r1 q1 => fld_rd ow s1 r1 q1⟩
end
end G8

set_option Elab.async false
set_option linter.all false
set_option maxRecDepth 100000
set_option maxHeartbeats 1000000
namespace G8
open PySem PySem.Spec L2
/-! ### slots of a block -/
theorem wipe_in {σ : L2.St} {i : Nat} : ∀ {vs : List Nat}, i ∈ vs → i < σ.length → (L2.wipe σ vs)[i]? = some none
  | v :: vs, h, hl => by
    unfold L2.wipe
    by_cases e : v = i
    · subst e
      rw [List.getElem?_set_self (by rw [L2.wipe_length]; exact hl)]
    · rw [List.getElem?_set_ne e]
      rcases List.mem_cons.mp h with h | h
      · exact absurd h.symm e
      · exact wipe_in h hl
theorem wipe_ext {σ τ : L2.St} {vs : List Nat} (hl : σ.length = τ.length) (h : ∀ j, j ∉ vs → σ[j]? = τ[j]?) : L2.wipe σ vs = L2.wipe τ vs := by
  refine List.ext_getElem? fun j => ?_
  by_cases hj : j ∈ vs
  · by_cases hjl : j < σ.length
    · rw [wipe_in hj hjl, wipe_in hj (by omega)]
    · rw [List.getElem?_eq_none (by rw [L2.wipe_length]; omega), List.getElem?_eq_none (by rw [L2.wipe_length]; omega)]
  · rw [L2.wipe_out hj, L2.wipe_out hj]
    exact h j hj
theorem wipe_set {σ : L2.St} {vs : List Nat} {i : Nat} {o : Option V} (hi : i ∈ vs) : L2.wipe (σ.set i o) vs = L2.wipe σ vs :=
  wipe_ext (List.length_set ..) fun j hj => List.getElem?_set_ne fun e => hj (by rw [← e]; exact hi)
theorem wipe_wipe {σ : L2.St} {vs ws : List Nat} (hs : ∀ i ∈ ws, i ∈ vs) : L2.wipe (L2.wipe σ ws) vs = L2.wipe σ vs :=
  wipe_ext (L2.wipe_length ..) fun j hj => L2.wipe_out fun h => hj (hs j h)

/-! ### moves -/
theorem Mv.trans {ρ ρ1 ρ2 : Rho} {H H1 H2 : Hp} (x : Mv ρ H ρ1 H1) (y : Mv ρ1 H1 ρ2 H2) : Mv ρ H ρ2 H2 :=
  ⟨fun n a e => y.ix n a (x.ix n a e), fun a o hn e => y.fr a o (x.no a o hn e) (x.fr a o hn e), fun a o hn e => y.no a o (x.no a o hn e) (x.fr a o hn e)⟩
theorem Mv.refl {ρ : Rho} {H : Hp} : Mv ρ H ρ H := ⟨fun _ _ e => e, fun _ _ _ e => e, fun _ _ h _ => h⟩

/-! ### what a walk gives -/
section
variable (K : PySem.W.Frag) (T : Tb)
/-- the next item: none where it ends -/
def nxt (it : Itv) (i : Nat) (h : Sto) : Option (Option D) := match it with
  | .items xs => some xs[i]?
  | .dyn n en => itemAt h n en i
  | .dct n l => keyAt h n l i
def ItOk (ρ : Rho) (H : Hp) (it : Itv) (J : It) : Prop := ∀ ρ1 H1 h1, Mv ρ H ρ1 H1 → SR K T H1 ρ1 h1 → ∀ i,
  (∀ x, nxt it i h1 = some (some x) → J.go i H1 ∧ ∀ v H2, J.yld i H1 v H2 → Ext ρ1 H1 ρ1 H2 ∧ SR K T H2 ρ1 h1 ∧ Rp K T H2 ρ1 x v) ∧ (nxt it i h1 = some none → (∀ xs, it = .items xs → i = xs.length) → J.stop i H1)
def tI (r : Rn) (W : WX) (it : IE) : TI := fun σ H R' => ∃ ρ h σa, SR K T H ρ h ∧ RS K T H ρ σa σ ∧ Aft K T W σ ρ H (evIt r it σa h) (fun H' ρ' x J => ItOk K T ρ' H' x J) (fun J H' => R' J H')
end
def GI (P : Prg) (T : Tb) (X : Cx) (W : WX) (d : Nat) (tg iter : Expr) (it : IE) : Prop := ∀ F, PI X tg iter (tI X.K T ((ev P F).e d) W it)
theorem _root_.L2.PI.imp {X : Cx} {tg e : Expr} {t t' : TI} (h : PI X tg e t) (k : ∀ σ H Q, t' σ H Q → t σ H Q) : PI X tg e t' := ⟨fun pins s σ H Q I q => h.run pins s σ H Q I (k σ H Q q)⟩
theorem _root_.L2.PI.or {X : Cx} {tg e : Expr} {t u : TI} (h : PI X tg e t) (h' : PI X tg e u) : PI X tg e (fun σ H Q => t σ H Q ∨ u σ H Q) :=
  ⟨fun pins s σ H Q I q => q.elim (h.run pins s σ H Q I) (h'.run pins s σ H Q I)⟩
section
variable {K : PySem.W.Frag} {T : Tb} {ρ : Rho} {H : Hp} {h : Sto}
theorem itok_list {a : Addr} {xs : List D} {vs : List V} (s : Sl_ H ρ a vs) (r : Rps K T H ρ xs vs) : ItOk K T ρ H (.items xs) (Itl K a) := fun ρ1 H1 h1 m s1 i => by
  have e := (s.mv m).1
  have r1 := r.mv m
  refine ⟨fun x hx => ?_, fun hx hi0 => ?_⟩
  · have hx' : xs[i]? = some x := Option.some.inj hx
    obtain ⟨v, g1, g2⟩ := r1.get hx'
    refine ⟨⟨vs, v, SqL.of e, g1⟩, fun u H2 ⟨e2, hy⟩ => ?_⟩
    subst e2
    have := hy vs (SqL.of e)
    rw [g1] at this; cases this
    exact ⟨Ext.refl _ _, s1, g2⟩
  · have hx' : xs[i]? = none := Option.some.inj hx
    exact ⟨vs, SqL.of e, by rw [← r1.length]; exact List.getElem?_eq_none_iff.mp hx'⟩
theorem itok_tup {a : Addr} {xs : List D} {vs : List V} (s : ST H ρ a vs) (r : Rps K T H ρ xs vs) : ItOk K T ρ H (.items xs) (Itt K a) := fun ρ1 H1 h1 m s1 i => by
  have e : SqT K H1 a vs := (s.mv m).sq
  have r1 := r.mv m
  refine ⟨fun x hx => ?_, fun hx hi0 => ?_⟩
  · have hx' : xs[i]? = some x := Option.some.inj hx
    obtain ⟨v, g1, g2⟩ := r1.get hx'
    refine ⟨⟨vs, v, e, g1⟩, fun u H2 ⟨e2, hy⟩ => ?_⟩
    subst e2
    have := hy vs e
    rw [g1] at this; cases this
    exact ⟨Ext.refl _ _, s1, g2⟩
  · have hx' : xs[i]? = none := Option.some.inj hx
    exact ⟨vs, e, by rw [← r1.length]; exact List.getElem?_eq_none_iff.mp hx'⟩
theorem itok_dyn {n : Nat} {a : Addr} (hp : ρ.ix[n]? = some a) : ItOk K T ρ H (.dyn n false) (Itl K a) := fun ρ1 H1 h1 m s1 i => by
  have hp1 := m.ix n a hp
  show (∀ x, itemAt h1 n false i = some (some x) → _) ∧ (itemAt h1 n false i = some none → _ → _)
  unfold itemAt
  cases e : h1[n]? with
  | none => exact ⟨fun x hx => by simp at hx, fun hx _ => by simp at hx⟩
  | some o =>
    cases o with
    | lst fl xs =>
      obtain ⟨vs, hv, rs, _⟩ := s1.lst e hp1
      refine ⟨fun x hx => ?_, fun hx hi0 => ?_⟩
      · cases e2 : xs[i]? with
        | none => simp [e2] at hx
        | some y =>
          simp [e2] at hx
          subst hx
          obtain ⟨v, g1, g2⟩ := rs.get e2
          refine ⟨⟨vs, v, SqL.of hv, g1⟩, fun u H2 ⟨e3, hy⟩ => ?_⟩
          subst e3
          have := hy vs (SqL.of hv)
          rw [g1] at this; cases this
          exact ⟨Ext.refl _ _, s1, g2⟩
      · cases e2 : xs[i]? with
        | none => exact ⟨vs, SqL.of hv, by rw [← rs.length]; exact List.getElem?_eq_none_iff.mp e2⟩
        | some y => simp [e2] at hx
    | _ => exact ⟨fun x hx => by simp at hx, fun hx _ => by simp at hx⟩
theorem rg_get (a b : Int) (i : Nat) : (rg a b)[i]? = if i < (b - a).toNat then some (.int (a + (i : Nat))) else none := by
  unfold rg
  rw [List.getElem?_map]
  by_cases h : i < (b - a).toNat
  · rw [if_pos h, List.getElem?_range h]; rfl
  · rw [if_neg h, List.getElem?_eq_none (by rw [List.length_range]; omega)]; rfl
theorem itok_rng {a b : Int} : ItOk K T ρ H (.items (rg a b)) (Itr a (b - a).toNat) := fun ρ1 H1 h1 m s1 i => by
  refine ⟨fun x hx => ?_, fun hx hi0 => ?_⟩
  · have hx' : (rg a b)[i]? = some x := Option.some.inj hx
    rw [rg_get] at hx'
    split at hx'
    · rename_i hi
      cases hx'
      refine ⟨hi, fun v H2 ⟨e1, e2⟩ => ?_⟩
      subst e1 e2
      exact ⟨Ext.refl _ _, s1, .int _⟩
    · cases hx'
  · have hx' : (rg a b)[i]? = none := Option.some.inj hx
    rw [rg_get] at hx'
    split at hx'
    · cases hx'
    · rename_i hi; exact Nat.le_of_not_lt hi
theorem itok_str {x : List Nat} : ItOk K T ρ H (.items (x.map fun c => .str [c])) (Its ⟨x.toArray⟩) := fun ρ1 H1 h1 m s1 i => by
  refine ⟨fun d hx => ?_, fun hx hi0 => ?_⟩
  · have hx' : (x.map fun c => D.str [c])[i]? = some d := Option.some.inj hx
    rw [List.getElem?_map, Option.map_eq_some_iff] at hx'
    obtain ⟨c, e1, rfl⟩ := hx'
    refine ⟨by show i < x.toArray.size; simpa using get_lt e1, fun v H2 ⟨e2, c', e3, e4⟩ => ?_⟩
    subst e2 e4
    have : x[i]? = some c' := by simpa using e3
    rw [e1] at this; cases this
    exact ⟨Ext.refl _ _, s1, .str [c]⟩
  · have hx' : (x.map fun c => D.str [c])[i]? = none := Option.some.inj hx
    rw [List.getElem?_map, Option.map_eq_none_iff] at hx'
    show x.toArray.size ≤ i
    simpa using List.getElem?_eq_none_iff.mp hx'
theorem enum_get : ∀ (xs : List D) (k i : Nat), (enumD k xs)[i]? = (xs[i]?).map fun x => .tup [.int ((k + i : Nat) : Int), x]
  | [], k, i => by simp [enumD]
  | x :: xs, k, 0 => by simp [enumD]
  | x :: xs, k, i + 1 => by
    simp only [enumD, List.getElem?_cons_succ]
    rw [enum_get xs (k + 1) i, Nat.add_right_comm, Nat.add_assoc]
theorem enum_len : ∀ (xs : List D) (k : Nat), (enumD k xs).length = xs.length
  | [], _ => rfl
  | x :: xs, k => by simp only [enumD, List.length_cons, enum_len xs (k + 1)]
theorem pair_new {ρ1 : Rho} {H1 : Hp} {h1 : Sto} {TT : Addr} {its : List Value} {i : Nat} {x : D} {v : V} (s1 : SR K T H1 ρ1 h1) (hn : H1 TT = none) (r : Rp K T H1 ρ1 x v) :
    Ext ρ1 H1 ρ1 (upd H1 TT (tH its [.int (i : Nat), v])) ∧ SR K T (upd H1 TT (tH its [.int (i : Nat), v])) ρ1 h1 ∧ Rp K T (upd H1 TT (tH its [.int (i : Nat), v])) ρ1 (.tup [.int (i : Nat), x]) (.ref TT) :=
  ⟨Ext.new_obj s1 hn, s1.new_obj hn, .tup ⟨its, upd_same, s1.fresh hn⟩ (.cons (.int _) (.cons (r.ext (Ext.new_obj s1 hn)) .nil))⟩
theorem itok_enumT {a : Addr} {xs : List D} {vs : List V} (s : ST H ρ a vs) (r : Rps K T H ρ xs vs) : ItOk K T ρ H (.items (enumD 0 xs)) (IteT K a) := fun ρ1 H1 h1 m s1 i => by
  have e : SqT K H1 a vs := (s.mv m).sq
  have r1 := r.mv m
  refine ⟨fun x hx => ?_, fun hx hi0 => ?_⟩
  · have hx' : (enumD 0 xs)[i]? = some x := Option.some.inj hx
    rw [enum_get, Option.map_eq_some_iff] at hx'
    obtain ⟨y, e1, rfl⟩ := hx'
    obtain ⟨v, g1, g2⟩ := r1.get e1
    refine ⟨⟨vs, v, e, g1⟩, fun u H2 ⟨TT, its, z, eu, hn, e2, hy⟩ => ?_⟩
    subst eu e2
    have := hy vs e
    rw [g1] at this; cases this
    rw [Nat.zero_add]
    exact pair_new s1 hn g2
  · have := hi0 _ rfl
    rw [enum_len] at this
    exact ⟨vs, e, by rw [← r1.length]; exact this.symm⟩
theorem itok_enumL {a : Addr} {xs : List D} {vs : List V} (s : Sl_ H ρ a vs) (r : Rps K T H ρ xs vs) : ItOk K T ρ H (.items (enumD 0 xs)) (IteL K a) := fun ρ1 H1 h1 m s1 i => by
  have e : SqL K H1 a vs := (s.mv m).sq
  have r1 := r.mv m
  refine ⟨fun x hx => ?_, fun hx hi0 => ?_⟩
  · have hx' : (enumD 0 xs)[i]? = some x := Option.some.inj hx
    rw [enum_get, Option.map_eq_some_iff] at hx'
    obtain ⟨y, e1, rfl⟩ := hx'
    obtain ⟨v, g1, g2⟩ := r1.get e1
    refine ⟨⟨vs, v, e, g1⟩, fun u H2 ⟨TT, its, z, eu, hn, e2, hy⟩ => ?_⟩
    subst eu e2
    have := hy vs e
    rw [g1] at this; cases this
    rw [Nat.zero_add]
    exact pair_new s1 hn g2
  · have := hi0 _ rfl
    rw [enum_len] at this
    exact ⟨vs, e, by rw [← r1.length]; exact this.symm⟩
end
/-! ### what a for or a comprehension walks -/
section
variable {P : Prg} {T : Tb} {X : Cx} {W : WX} {d : Nat} {a b tg : Expr} {ia ib : IE} {pos p : Pos}
theorem gi_rng1 (hg : Gl X "range") (hm : X.mg "range" = none) (ha : GE P T X W d a ia) (hs : noStar a = true) : GI P T X W d tg (.Call (.Name "range" p) [a] [] pos) (.rng1 ia) := fun F => by
  refine (pi_range1 hg hm (ga_cons ha ga_nil hs F) (star_cons hs)).imp fun σ H R' ⟨ρ, h, σa, s, rs, q⟩ => ?_
  have q' : Aft X.K T W σ ρ H ((evs ((ev P F).e d) [ia] σa h).bind fun xs h1 => match xs with
      | [.int j] => if small j then R.ok (Itv.items (rg 0 j)) h1 else .stuck
      | _ => .stuck) (fun H' ρ' x J => ItOk X.K T ρ' H' x J) (fun J H' => R' J H') := by
    simp only [evIt] at q
    simp only [evs]
    cases e : (ev P F).e d ia σa h with
    | ok x h1 => rw [e] at q; cases x <;> exact q
    | err c h1 => rw [e] at q; exact q
    | stuck => rw [e] at q; exact q
  refine ⟨ρ, h, σa, s, rs, q'.bind fun xs h1 vs H1 ρ1 x1 s1 r1 q1 => ?_⟩
  cases r1 with
  | nil => exact False.elim q1
  | cons r2 r3 =>
    cases r3 with
    | cons _ _ => cases r2 <;> exact False.elim q1
    | nil =>
      cases r2 with
      | int j =>
        simp only at q1
        split at q1
        · rename_i hj
          simp only [small, Bool.and_eq_true, decide_eq_true_eq] at hj
          refine ⟨j, rfl, by omega, by omega, q1.ok s1 ?_⟩
          have := itok_rng (K := X.K) (T := T) (ρ := ρ1) (H := H1) (a := 0) (b := j)
          rwa [Int.sub_zero] at this
        · exact False.elim q1
      | _ => exact False.elim q1
theorem gi_rng2 (hg : Gl X "range") (hm : X.mg "range" = none) (ha : GE P T X W d a ia) (hb : GE P T X W d b ib) (hs : noStar a = true) (hs2 : noStar b = true) : GI P T X W d tg (.Call (.Name "range" p) [a, b] [] pos) (.rng2 ia ib) := fun F => by
  refine (pi_range2 hg hm (ga_cons ha (ga_cons hb ga_nil hs2) hs F) (by rw [star_cons hs, star_cons hs2]; rfl) (star_cons hs2)).imp fun σ H R' ⟨ρ, h, σa, s, rs, q⟩ => ?_
  have q' : Aft X.K T W σ ρ H ((evs ((ev P F).e d) [ia, ib] σa h).bind fun xs h1 => match xs with
      | [.int i, .int j] => if small i && small j then R.ok (Itv.items (rg i j)) h1 else .stuck
      | _ => .stuck) (fun H' ρ' x J => ItOk X.K T ρ' H' x J) (fun J H' => R' J H') := by
    simp only [evIt] at q
    simp only [evs]
    cases e : (ev P F).e d ia σa h with
    | ok x h1 =>
      rw [e] at q
      simp only [R.bind] at q ⊢
      cases e2 : (ev P F).e d ib σa h1 with
      | ok y h2 => rw [e2] at q; cases x <;> cases y <;> exact q
      | err c h2 => rw [e2] at q; exact q
      | stuck => rw [e2] at q; exact q
    | err c h1 => rw [e] at q; exact q
    | stuck => rw [e] at q; exact q
  refine ⟨ρ, h, σa, s, rs, q'.bind fun xs h1 vs H1 ρ1 x1 s1 r1 q1 => ?_⟩
  cases r1 with
  | nil => exact False.elim q1
  | cons r2 r3 =>
    cases r3 with
    | nil => cases r2 <;> exact False.elim q1
    | cons r4 r5 =>
      cases r5 with
      | cons _ _ => cases r2 <;> cases r4 <;> exact False.elim q1
      | nil =>
        cases r2 with
        | int i =>
          cases r4 with
          | int j =>
            simp only at q1
            split at q1
            · rename_i hj
              simp only [small, Bool.and_eq_true, decide_eq_true_eq] at hj
              exact ⟨i, j, rfl, ⟨by omega, by omega, by omega, by omega⟩, q1.ok s1 itok_rng⟩
            · exact False.elim q1
          | _ => exact False.elim q1
        | _ => cases r4 <;> exact False.elim q1
theorem gi_enm {elts : List Expr} {kk : Nat} {tpos : Pos} (hg : Gl X "enumerate") (hm : X.mg "enumerate" = none) (ha : GE P T X W d a ia) (hs : noStar a = true) : GI P T X W d (.Tuple elts kk tpos) (.Call (.Name "enumerate" p) [a] [] pos) (.enm ia) := fun F => by
  have hs' : starEach [a] X.env = [(false, eval a X.env)] := star_cons hs
  refine (PI.or (pi_enumT hg hm (ga_cons ha ga_nil hs F) hs') (pi_enumL hg hm (ga_cons ha ga_nil hs F) hs')).imp fun σ H R' ⟨ρ, h, σa, s, rs, q⟩ => ?_
  have q' : Aft X.K T W σ ρ H ((evs ((ev P F).e d) [ia] σa h).bind fun xs h1 => match xs with
      | [x] => (match itOf h1 true x with
        | some y => R.ok y h1
        | none => .stuck)
      | _ => .stuck) (fun H' ρ' x J => ItOk X.K T ρ' H' x J) (fun J H' => R' J H') := by
    simp only [evIt] at q
    simp only [evs]
    cases e : (ev P F).e d ia σa h with
    | ok x h1 => rw [e] at q; exact q
    | err c h1 => rw [e] at q; exact q
    | stuck => rw [e] at q; exact q
  by_cases ht : ∃ ys h1, (ev P F).e d ia σa h = .ok (.lst ys) h1
  · obtain ⟨ys, h1', e⟩ := ht
    refine .inr ⟨ρ, h, σa, s, rs, ?_⟩
    have e' : evs ((ev P F).e d) [ia] σa h = .ok [.lst ys] h1' := by simp only [evs, e, R.bind]
    rw [e'] at q' ⊢
    intro vs H1 ρ1 x1 s1 r1
    cases r1 with
    | cons r2 r3 =>
      cases r3
      cases r2 with
      | lst sl rs2 => exact ⟨_, _, rfl, sl.sq, Aft.ok' (Rel := fun H' ρ' x J => ItOk X.K T ρ' H' x J) (Q := fun J H' => R' J H') (d := .items (enumD 0 ys)) q' x1 s1 (itok_enumL sl rs2)⟩
  · refine .inl ⟨ρ, h, σa, s, rs, ?_⟩
    cases e : (ev P F).e d ia σa h with
    | ok x h1 =>
      have e' : evs ((ev P F).e d) [ia] σa h = .ok [x] h1 := by simp only [evs, e, R.bind]
      rw [e'] at q' ⊢
      intro vs H1 ρ1 x1 s1 r1
      cases r1 with
      | cons r2 r3 =>
        cases r3
        cases r2 with
        | tup st rs2 => exact ⟨_, _, rfl, st.sq, Aft.ok' (Rel := fun H' ρ' x J => ItOk X.K T ρ' H' x J) (Q := fun J H' => R' J H') (d := .items (enumD 0 _)) q' x1 s1 (itok_enumT st rs2)⟩
        | lst sl rs2 => exact absurd ⟨_, _, e⟩ ht
        | ref hp =>
          exfalso
          rename_i n p
          change Aft X.K T W σ ρ H (match itOf h1 true (.ref n) with | some y => R.ok y h1 | none => .stuck) _ _ at q'
          exact q'
        | _ => exact False.elim q'
    | err c h1 =>
      have e' : evs ((ev P F).e d) [ia] σa h = .err c h1 := by simp only [evs, e, R.bind]
      rw [e'] at q' ⊢
      exact q'
    | stuck =>
      have e' : evs ((ev P F).e d) [ia] σa h = .stuck := by simp only [evs, e, R.bind]
      rw [e'] at q'
      exact False.elim q'
def seqIt : IE → Bool
  | .rng1 _ => false
  | .rng2 _ _ => false
  | .enm _ => false
  | .dks _ => false
  | _ => true
theorem evIt_seq {r : Rn} {σa : Sl} {h : Sto} (hi : seqIt ia = true) : evIt r ia σa h = (r ia σa h).bind fun d h1 => match itOf h1 false d with
    | some x => .ok x h1
    | none => .stuck := by
  cases ia <;> first | rfl | (simp [seqIt] at hi)
theorem gi_seq (hi : seqIt ia = true) (ha : GE P T X W d a ia) : GI P T X W d tg a ia := fun F => by
  refine (PI.or (pi_tup (ha F)) (PI.or (pi_list (ha F)) (pi_str (ha F)))).imp fun σ H R' ⟨ρ, h, σa, s, rs, q⟩ => ?_
  rw [evIt_seq hi] at q
  cases e : (ev P F).e d ia σa h with
  | stuck => rw [e] at q; exact False.elim q
  | err c h1 =>
    refine .inl ⟨ρ, h, σa, s, rs, ?_⟩
    rw [e] at q ⊢
    exact q
  | ok x h1 =>
    rw [e] at q
    change Aft X.K T W σ ρ H (match itOf h1 false x with | some x => R.ok x h1 | none => .stuck) _ _ at q
    cases x with
    | tup xs =>
      refine .inl ⟨ρ, h, σa, s, rs, ?_⟩
      rw [e]
      intro v H1 ρ1 x1 s1 r1
      cases r1 with
      | tup st rs2 => exact ⟨_, rfl, ⟨_, st.sq⟩, Aft.ok' (Rel := fun H' ρ' x J => ItOk X.K T ρ' H' x J) (Q := fun J H' => R' J H') (d := .items xs) q x1 s1 (itok_tup st rs2)⟩
    | lst xs =>
      refine .inr (.inl ⟨ρ, h, σa, s, rs, ?_⟩)
      rw [e]
      intro v H1 ρ1 x1 s1 r1
      cases r1 with
      | lst sl rs2 => exact ⟨_, rfl, ⟨_, sl.sq⟩, Aft.ok' (Rel := fun H' ρ' x J => ItOk X.K T ρ' H' x J) (Q := fun J H' => R' J H') (d := .items xs) q x1 s1 (itok_list sl rs2)⟩
    | str x =>
      refine .inr (.inr ⟨ρ, h, σa, s, rs, ?_⟩)
      rw [e]
      intro v H1 ρ1 x1 s1 r1
      cases r1
      exact ⟨_, rfl, Aft.ok' (Rel := fun H' ρ' x J => ItOk X.K T ρ' H' x J) (Q := fun J H' => R' J H') (d := .items (x.map fun c => .str [c])) q x1 s1 itok_str⟩
    | ref n =>
      refine .inr (.inl ⟨ρ, h, σa, s, rs, ?_⟩)
      rw [e]
      intro v H1 ρ1 x1 s1 r1
      cases r1 with
      | ref hp =>
        cases e1 : h1[n]? with
        | none => simp only [itOf, e1] at q; exact False.elim q
        | some o =>
          cases o with
          | lst fl ys =>
            simp only [itOf, e1] at q
            obtain ⟨vs, hv, _, _⟩ := s1.lst e1 hp
            exact ⟨_, rfl, ⟨_, SqL.of hv⟩, Aft.ok' (Rel := fun H' ρ' x J => ItOk X.K T ρ' H' x J) (Q := fun J H' => R' J H') (d := .dyn n false) q x1 s1 (itok_dyn hp)⟩
          | _ => simp only [itOf, e1] at q; exact False.elim q
    | _ => exact False.elim q
end
end G8

set_option Elab.async false
set_option linter.all false
set_option maxRecDepth 100000
set_option maxHeartbeats 1000000
namespace G8
open PySem PySem.Spec L2
/-! ### targets of names -/
def gCs : List IE → TGs
  | [] => gNil
  | .var i :: ts => gCons (gName i) (gCs ts)
  | _ => fun _ _ _ _ => False
def gC (K : PySem.W.Frag) : IE → TG
  | .var i => gName i
  | .tup ts => gTup K ts.length (gCs ts)
  | _ => fun _ _ _ _ => False
def slotsV : List IE → List Nat
  | .var i :: ts => i :: slotsV ts
  | _ => []
def slotsC : IE → List Nat
  | .var i => [i]
  | .tup ts => slotsV ts
  | _ => []
section
variable {K : PySem.W.Frag} {T : Tb} {ρ : Rho} {H : Hp} {h : Sto} {vs : List Nat}
theorem gCs_rd : ∀ {ts : List IE} {ds : List D} {us : List V} {σa σ1 : Sl} {σ : L2.St} {Φ : L2.St → Hp → Prop}, asgVs ts ds σa = some σ1 → RS K T H ρ σa σ → Rps K T H ρ ds us → (∀ i ∈ slotsV ts, i ∈ vs) →
    (∀ σ2, RS K T H ρ σ1 σ2 → L2.wipe σ2 vs = L2.wipe σ vs → Φ σ2 H) → gCs ts us σ H Φ
  | [], [], _, σa, σ1, σ, Φ, e, rs, .nil, _, k => by
    simp [asgVs] at e; subst e
    exact ⟨rfl, k σ rs rfl⟩
  | [], _ :: _, _, σa, σ1, σ, Φ, e, rs, r, _, k => by simp [asgVs] at e
  | .var i :: ts, [], _, σa, σ1, σ, Φ, e, rs, r, _, k => by simp [asgVs] at e
  | .var i :: ts, d :: ds, _, σa, σ1, σ, Φ, e, rs, .cons r1 r2, hv, k => by
    simp only [asgVs, asgV, Option.bind_some] at e
    refine ⟨_, _, rfl, ?_⟩
    refine gCs_rd e (rs.set i r1) r2 (fun j hj => hv j (List.mem_cons_of_mem _ hj)) fun σ2 rs2 hw => k σ2 rs2 ?_
    rw [hw, wipe_set (hv i List.mem_cons_self)]
  | .cst _ :: _, d :: ds, _, _, _, _, _, e, _, _, _, _ => by simp [asgVs, asgV] at e
  | .cst _ :: _, [], _, _, _, _, _, e, _, _, _, _ => by simp [asgVs, asgV] at e
  | .bin .. :: _, ds, _, _, _, _, _, e, _, _, _, _ => by cases ds <;> simp [asgVs, asgV] at e
  | .neg .. :: _, ds, _, _, _, _, _, e, _, _, _, _ => by cases ds <;> simp [asgVs, asgV] at e
  | .cmp .. :: _, ds, _, _, _, _, _, e, _, _, _, _ => by cases ds <;> simp [asgVs, asgV] at e
  | .chn .. :: _, ds, _, _, _, _, _, e, _, _, _, _ => by cases ds <;> simp [asgVs, asgV] at e
  | .isn .. :: _, ds, _, _, _, _, _, e, _, _, _, _ => by cases ds <;> simp [asgVs, asgV] at e
  | .isb .. :: _, ds, _, _, _, _, _, e, _, _, _, _ => by cases ds <;> simp [asgVs, asgV] at e
  | .not .. :: _, ds, _, _, _, _, _, e, _, _, _, _ => by cases ds <;> simp [asgVs, asgV] at e
  | .and .. :: _, ds, _, _, _, _, _, e, _, _, _, _ => by cases ds <;> simp [asgVs, asgV] at e
  | .or .. :: _, ds, _, _, _, _, _, e, _, _, _, _ => by cases ds <;> simp [asgVs, asgV] at e
  | .ite .. :: _, ds, _, _, _, _, _, e, _, _, _, _ => by cases ds <;> simp [asgVs, asgV] at e
  | .tup .. :: _, ds, _, _, _, _, _, e, _, _, _, _ => by cases ds <;> simp [asgVs, asgV] at e
  | .lst .. :: _, ds, _, _, _, _, _, e, _, _, _, _ => by cases ds <;> simp [asgVs, asgV] at e
  | .idx .. :: _, ds, _, _, _, _, _, e, _, _, _, _ => by cases ds <;> simp [asgVs, asgV] at e
  | .sl .. :: _, ds, _, _, _, _, _, e, _, _, _, _ => by cases ds <;> simp [asgVs, asgV] at e
  | .rev .. :: _, ds, _, _, _, _, _, e, _, _, _, _ => by cases ds <;> simp [asgVs, asgV] at e
  | .bi .. :: _, ds, _, _, _, _, _, e, _, _, _, _ => by cases ds <;> simp [asgVs, asgV] at e
  | .call .. :: _, ds, _, _, _, _, _, e, _, _, _, _ => by cases ds <;> simp [asgVs, asgV] at e
  | .mb .. :: _, ds, _, _, _, _, _, e, _, _, _, _ => by cases ds <;> simp [asgVs, asgV] at e
  | .mu .. :: _, ds, _, _, _, _, _, e, _, _, _, _ => by cases ds <;> simp [asgVs, asgV] at e
  | .mk .. :: _, ds, _, _, _, _, _, e, _, _, _, _ => by cases ds <;> simp [asgVs, asgV] at e
  | .fld .. :: _, ds, _, _, _, _, _, e, _, _, _, _ => by cases ds <;> simp [asgVs, asgV] at e
  | .isi .. :: _, ds, _, _, _, _, _, e, _, _, _, _ => by cases ds <;> simp [asgVs, asgV] at e
  | .comp .. :: _, ds, _, _, _, _, _, e, _, _, _, _ => by cases ds <;> simp [asgVs, asgV] at e
  | .comp2 .. :: _, ds, _, _, _, _, _, e, _, _, _, _ => by cases ds <;> simp [asgVs, asgV] at e
  | .dlen .. :: _, ds, _, _, _, _, _, e, _, _, _, _ => by cases ds <;> simp [asgVs, asgV] at e
  | .mut .. :: _, ds, _, _, _, _, _, e, _, _, _, _ => by cases ds <;> simp [asgVs, asgV] at e
  | .rng1 .. :: _, ds, _, _, _, _, _, e, _, _, _, _ => by cases ds <;> simp [asgVs, asgV] at e
  | .rng2 .. :: _, ds, _, _, _, _, _, e, _, _, _, _ => by cases ds <;> simp [asgVs, asgV] at e
  | .enm .. :: _, ds, _, _, _, _, _, e, _, _, _, _ => by cases ds <;> simp [asgVs, asgV] at e
  | .unk :: _, ds, _, _, _, _, _, e, _, _, _, _ => by cases ds <;> simp [asgVs, asgV] at e
  | .dnew :: _, ds, _, _, _, _, _, e, _, _, _, _ => by cases ds <;> simp [asgVs, asgV] at e
  | .ddis .. :: _, ds, _, _, _, _, _, e, _, _, _, _ => by cases ds <;> simp [asgVs, asgV] at e
  | .dcmp .. :: _, ds, _, _, _, _, _, e, _, _, _, _ => by cases ds <;> simp [asgVs, asgV] at e
  | .didx .. :: _, ds, _, _, _, _, _, e, _, _, _, _ => by cases ds <;> simp [asgVs, asgV] at e
  | .din .. :: _, ds, _, _, _, _, _, e, _, _, _, _ => by cases ds <;> simp [asgVs, asgV] at e
  | .dln .. :: _, ds, _, _, _, _, _, e, _, _, _, _ => by cases ds <;> simp [asgVs, asgV] at e
  | .dks .. :: _, ds, _, _, _, _, _, e, _, _, _, _ => by cases ds <;> simp [asgVs, asgV] at e
  | .dls .. :: _, ds, _, _, _, _, _, e, _, _, _, _ => by cases ds <;> simp [asgVs, asgV] at e
  | .dst .. :: _, ds, _, _, _, _, _, e, _, _, _, _ => by cases ds <;> simp [asgVs, asgV] at e
  | .sset .. :: _, ds, _, _, _, _, _, e, _, _, _, _ => by cases ds <;> simp [asgVs, asgV] at e
  | .lset .. :: _, ds, _, _, _, _, _, e, _, _, _, _ => by cases ds <;> simp [asgVs, asgV] at e
  | .skey .. :: _, ds, _, _, _, _, _, e, _, _, _, _ => by cases ds <;> simp [asgVs, asgV] at e
  | .mrk .. :: _, ds, _, _, _, _, _, e, _, _, _, _ => by cases ds <;> simp [asgVs, asgV] at e
  | .fst .. :: _, ds, _, _, _, _, _, e, _, _, _, _ => by cases ds <;> simp [asgVs, asgV] at e
  | .leno .. :: _, ds, _, _, _, _, _, e, _, _, _, _ => by cases ds <;> simp [asgVs, asgV] at e
  | .sjoin .. :: _, ds, _, _, _, _, _, e, _, _, _, _ => by cases ds <;> simp [asgVs, asgV] at e
  | .ssplit .. :: _, ds, _, _, _, _, _, e, _, _, _, _ => by cases ds <;> simp [asgVs, asgV] at e
  | .sstr .. :: _, ds, _, _, _, _, _, e, _, _, _, _ => by cases ds <;> simp [asgVs, asgV] at e
  | .sint .. :: _, ds, _, _, _, _, _, e, _, _, _, _ => by cases ds <;> simp [asgVs, asgV] at e
  | .ssl .. :: _, ds, _, _, _, _, _, e, _, _, _, _ => by cases ds <;> simp [asgVs, asgV] at e
  | .sin .. :: _, ds, _, _, _, _, _, e, _, _, _, _ => by cases ds <;> simp [asgVs, asgV] at e
  | .lrem .. :: _, ds, _, _, _, _, _, e, _, _, _, _ => by cases ds <;> simp [asgVs, asgV] at e
  | .maxt .. :: _, ds, _, _, _, _, _, e, _, _, _, _ => by cases ds <;> simp [asgVs, asgV] at e
  | .tin .. :: _, ds, _, _, _, _, _, e, _, _, _, _ => by cases ds <;> simp [asgVs, asgV] at e
theorem asgVs_len : ∀ {ts : List IE} {ds : List D} {σa σ1 : Sl}, asgVs ts ds σa = some σ1 → ts.length = ds.length
  | [], [], _, _, _ => rfl
  | [], _ :: _, _, _, e => by simp [asgVs] at e
  | _ :: _, [], _, _, e => by simp [asgVs] at e
  | t :: ts, d :: ds, σa, σ1, e => by
    simp only [asgVs, Option.bind_eq_some_iff] at e
    obtain ⟨σ2, _, e2⟩ := e
    rw [List.length_cons, List.length_cons, asgVs_len e2]
theorem gC_rd {t : IE} {x : D} {v : V} {σa σ1 : Sl} {σ : L2.St} {Φ : L2.St → Hp → Prop} (e : asgC t x σa = some σ1) (rs : RS K T H ρ σa σ) (r : Rp K T H ρ x v) (hv : ∀ i ∈ slotsC t, i ∈ vs)
    (k : ∀ σ2, RS K T H ρ σ1 σ2 → L2.wipe σ2 vs = L2.wipe σ vs → Φ σ2 H) : gC K t v σ H Φ := by
  unfold asgC at e
  split at e
  · rename_i ts ds
    cases r with
    | tup st rr => exact ⟨_, _, rfl, st.sq, by rw [← rr.length, asgVs_len e], gCs_rd e rs rr hv k⟩
  · cases e
    exact k _ (rs.set _ r) (wipe_set (hv _ List.mem_cons_self))
  · cases e
end
/-! ### comprehensions: what the evaluator has run -/
inductive CRun (it : Itv) (t : D → Sto → R (Option D)) (ys : List D) (hf : Sto) : Nat → Nat → List D → Sto → Prop
  | stop {i : Nat} : nxt it i hf = some none → CRun it t ys hf 0 i ys hf
  | yes {n i : Nat} {acc : List D} {h h1 : Sto} {x y : D} : nxt it i h = some (some x) → t x h = .ok (some y) h1 → acc.length < LIM → CRun it t ys hf n (i + 1) (acc ++ [y]) h1 → CRun it t ys hf (n + 1) i acc h
  | no {n i : Nat} {acc : List D} {h h1 : Sto} {x : D} : nxt it i h = some (some x) → t x h = .ok none h1 → CRun it t ys hf n (i + 1) acc h1 → CRun it t ys hf (n + 1) i acc h
theorem bind_ok {α β : Type} {r : R α} {f : α → Sto → R β} {b : β} {h' : Sto} (e : r.bind f = .ok b h') : ∃ a h1, r = .ok a h1 ∧ f a h1 = .ok b h' := by
  cases r with
  | ok a h1 => exact ⟨a, h1, rfl, e⟩
  | err c h1 => cases e
  | stuck => cases e
theorem compS_run {t : D → Sto → R (Option D)} {ys : List D} {hf : Sto} (xs0 : List D) : ∀ (xs : List D) (i : Nat) (acc : List D) (h : Sto), xs0.drop i = xs → compS t xs acc h = .ok ys hf → ∃ n, CRun (.items xs0) t ys hf n i acc h
  | [], i, acc, h, hd, e => by
    simp only [compS] at e
    cases e
    refine ⟨0, .stop ?_⟩
    show some xs0[i]? = some none
    rw [List.getElem?_eq_none (List.drop_eq_nil_iff.mp hd)]
  | x :: xs, i, acc, h, hd, e => by
    have hx : nxt (.items xs0) i h = some (some x) := by
      show some xs0[i]? = some (some x)
      have := congrArg (fun l => l[0]?) hd
      simp only [List.getElem?_drop, Nat.add_zero, List.getElem?_cons_zero] at this
      rw [this]
    have hd' : xs0.drop (i + 1) = xs := by
      rw [← List.drop_drop, hd]; rfl
    simp only [compS] at e
    obtain ⟨o, h1, e1, e2⟩ := bind_ok e
    cases o with
    | some y =>
      simp only at e2
      split at e2
      · rename_i hl
        obtain ⟨n, c⟩ := compS_run xs0 xs (i + 1) (acc ++ [y]) h1 hd' e2
        exact ⟨n + 1, .yes hx e1 hl c⟩
      · cases e2
    | none =>
      obtain ⟨n, c⟩ := compS_run xs0 xs (i + 1) acc h1 hd' e2
      exact ⟨n + 1, .no hx e1 c⟩
theorem compD_run {t : D → Sto → R (Option D)} {ys : List D} {hf : Sto} {m : Nat} {en : Bool} : ∀ (k i : Nat) (acc : List D) (h : Sto), compD t m en k i acc h = .ok ys hf → ∃ n, CRun (.dyn m en) t ys hf n i acc h
  | k, i, acc, h, e => by
    unfold compD at e
    cases e1 : itemAt h m en i with
    | none => rw [e1] at e; cases e
    | some o =>
      cases o with
      | none => rw [e1] at e; cases e; exact ⟨0, .stop e1⟩
      | some x =>
        rw [e1] at e
        cases k with
        | zero => cases e
        | succ k =>
          simp only at e
          obtain ⟨o, h1, e2, e3⟩ := bind_ok e
          cases o with
          | some y =>
            simp only at e3
            split at e3
            · rename_i hl
              obtain ⟨n, c⟩ := compD_run k (i + 1) (acc ++ [y]) h1 e3
              exact ⟨n + 1, .yes e1 e2 hl c⟩
            · cases e3
          | none =>
            obtain ⟨n, c⟩ := compD_run k (i + 1) acc h1 e3
            exact ⟨n + 1, .no e1 e2 c⟩
theorem compI_run {t : D → Sto → R (Option D)} {ys : List D} {hf : Sto} {it : Itv} {acc : List D} {h : Sto} (e : compI t it acc h = .ok ys hf) : ∃ n, CRun it t ys hf n 0 acc h := by
  cases it with
  | items xs => exact compS_run xs xs 0 acc h rfl e
  | dyn m en => exact compD_run _ 0 acc h e
  | dct m l => cases e
theorem turn_ok {r : Rn} {tg elt : IE} {ifs : List IE} {σ : Sl} {x : D} {h h2 : Sto} {o : Option D} (e : turn r tg ifs elt σ x h = .ok o h2) :
    ∃ σ1 b h1, asgC tg x σ = some σ1 ∧ tests r ifs σ1 h = .ok b h1 ∧ (if b = true then ∃ y, o = some y ∧ r elt σ1 h1 = .ok y h2 else o = none ∧ h2 = h1) := by
  unfold turn at e
  cases e1 : asgC tg x σ with
  | none => rw [e1] at e; cases e
  | some σ1 =>
    rw [e1] at e
    obtain ⟨b, h1, e2, e3⟩ := bind_ok e
    refine ⟨σ1, b, h1, rfl, e2, ?_⟩
    cases b with
    | true =>
      rw [if_pos rfl]
      simp only [if_true] at e3
      obtain ⟨y, h3, e4, e5⟩ := bind_ok e3
      cases e5
      exact ⟨y, rfl, e4⟩
    | false =>
      rw [if_neg (by simp)]
      simp only [Bool.false_eq_true, if_false] at e3
      cases e3
      exact ⟨rfl, rfl⟩
abbrev WF : WX := fun _ _ _ _ => False
theorem takesF {X : Cx} : Takes X WF := fun _ _ ⟨_, _, _, _, _, _, _, _, _, _, _, _, _, _, _, _, z⟩ => z.elim
/-- a clause's tests -/
def tTs (T : Tb) (K : PySem.W.Frag) (r : Rn) : List IE → TT
  | [] => tYes
  | t :: _ => tT T K r WF t
section
variable {T : Tb} {K : PySem.W.Frag} {r : Rn} {ρ : Rho} {H : Hp}
theorem tTs_rd {ifs : List IE} {σa : Sl} {σ : L2.St} {h h1 : Sto} {b : Bool} {Φ : Bool → Hp → Prop} (e : tests r ifs σa h = .ok b h1) (s : SR K T H ρ h) (rs : RS K T H ρ σa σ)
    (k : ∀ H1 ρ1, Ext ρ H ρ1 H1 → SR K T H1 ρ1 h1 → Φ b H1) : tTs T K r ifs σ H Φ := by
  cases ifs with
  | nil => simp [tests] at e; obtain ⟨e1, e2⟩ := e; subst e1 e2; exact k H ρ (Ext.refl _ _) s
  | cons t ts =>
    cases ts with
    | nil =>
      simp only [tests] at e
      refine ⟨ρ, h, σa, s, rs, ?_⟩
      obtain ⟨x, h2, e1, e2⟩ := bind_ok e
      rw [e1]
      cases x with
      | bl c => cases e2; exact fun v H1 ρ1 x1 s1 hv => by subst hv; exact k H1 ρ1 x1 s1
      | _ => cases e2
    | cons _ _ => simp [tests] at e
theorem tE_rd {e : IE} {σa : Sl} {σ : L2.St} {h h1 : Sto} {y : D} {Φ : VK} {W : WX} (e1 : r e σa h = .ok y h1) (s : SR K T H ρ h) (rs : RS K T H ρ σa σ)
    (k : ∀ v H1 ρ1, Ext ρ H ρ1 H1 → SR K T H1 ρ1 h1 → Rp K T H1 ρ1 y v → Φ v H1) : tE T K r W e σ H Φ := ⟨ρ, h, σa, s, rs, by rw [e1]; exact k⟩
/-- while the new list at D is filled -/
structure Fil (T : Tb) (K : PySem.W.Frag) (ρ0 : Rho) (H0 : Hp) (DD : Addr) (H : Hp) (ix : List Addr) (acc : List D) (h : Sto) : Prop where
  ext : Ext ρ0 H0 ⟨ix, ρ0.bz⟩ H
  sr : SR K T H ⟨ix, ρ0.bz ++ [DD]⟩ h
  lst : ∃ vs, H DD = some (.lst vs) ∧ Rps K T H ⟨ix, ρ0.bz ++ [DD]⟩ acc vs
theorem Fil.start {ρ0 : Rho} {H0 : Hp} {DD : Addr} {h : Sto} (s : SR K T H0 ρ0 h) (hD : H0 DD = none) : Fil T K ρ0 H0 DD (upd H0 DD (.lst [])) ρ0.ix [] h :=
  ⟨Ext.new_obj s hD, s.busy hD, [], upd_same, .nil⟩
theorem Fil.mv {ρ0 : Rho} {H0 : Hp} {DD : Addr} {ix : List Addr} {acc : List D} {h : Sto} (f : Fil T K ρ0 H0 DD H ix acc h) (hD : H0 DD = none) : Mv ρ0 H0 ⟨ix, ρ0.bz ++ [DD]⟩ H :=
  ⟨fun n a e => f.ext.get e, f.ext.fr, fun a o hn e => ⟨(f.ext.notin hn e).1, fun hm => by
    rcases List.mem_append.mp hm with h | h
    · exact hn.2 h
    · rw [List.mem_singleton.mp h, hD] at e; cases e⟩⟩
/-- .. a piece of evaluation goes on -/
theorem Fil.step {ρ0 : Rho} {H0 H1 : Hp} {DD : Addr} {ix : List Addr} {acc : List D} {h h1 : Sto} {ρ1 : Rho} (f : Fil T K ρ0 H0 DD H ix acc h) (hD : H0 DD = none) (x : Ext ⟨ix, ρ0.bz ++ [DD]⟩ H ρ1 H1) (s1 : SR K T H1 ρ1 h1) :
    ρ1 = ⟨ρ1.ix, ρ0.bz ++ [DD]⟩ ∧ Fil T K ρ0 H0 DD H1 ρ1.ix acc h1 := by
  have e : ρ1 = ⟨ρ1.ix, ρ0.bz ++ [DD]⟩ := by cases ρ1; simp only [Rho.mk.injEq, true_and]; exact x.bz
  obtain ⟨vs, hv, rs⟩ := f.lst
  have hDb : DD ∈ (⟨ix, ρ0.bz ++ [DD]⟩ : Rho).bz := List.mem_append_right _ List.mem_cons_self
  refine ⟨e, ⟨?_, by rw [← e]; exact s1, vs, (x.kp DD hDb).trans hv, by rw [← e]; exact rs.ext x⟩⟩
  refine ⟨List.IsPrefix.trans f.ext.pre x.pre, rfl, fun a o hn eo => ?_, fun a ha => ?_, fun a ha => ?_⟩
  · have h1 := f.ext.fr a o hn eo
    by_cases hd : a = DD
    · subst hd; rw [hD] at eo; cases eo
    · exact x.fr a o ⟨(f.ext.notin hn eo).1, fun hm => by
        rcases List.mem_append.mp hm with h | h
        · exact hn.2 h
        · exact hd (List.mem_singleton.mp h)⟩ h1
  · exact (x.kp a (List.mem_append_left _ ha)).trans (f.ext.kp a ha)
  · rcases x.new a ha with h | ⟨h, hb⟩
    · exact f.ext.new a h
    · have hb0 : a ∉ ρ0.bz := fun z => hb (List.mem_append_left _ z)
      by_cases hr : a ∈ ρ0.ix
      · exact .inl hr
      · refine .inr ⟨?_, hb0⟩
        cases eo : H0 a with
        | none => rfl
        | some o => rw [f.ext.fr a o ⟨hr, hb0⟩ eo] at h; cases h
theorem Fil.app {ρ0 : Rho} {H0 : Hp} {DD : Addr} {ix : List Addr} {acc : List D} {h : Sto} {y : D} {v : V} (f : Fil T K ρ0 H0 DD H ix acc h) (hD : H0 DD = none) (r : Rp K T H ⟨ix, ρ0.bz ++ [DD]⟩ y v) :
    ∃ vs, H DD = some (.lst vs) ∧ vs.length = acc.length ∧ Fil T K ρ0 H0 DD (upd H DD (.lst (vs ++ [v]))) ix (acc ++ [y]) h := by
  obtain ⟨vs, hv, rs⟩ := f.lst
  have hDb : DD ∈ (⟨ix, ρ0.bz ++ [DD]⟩ : Rho).bz := List.mem_append_right _ List.mem_cons_self
  refine ⟨vs, hv, rs.length.symm, ⟨?_, f.sr.fill hDb, _, upd_same, (rs.snoc r).mv (Mv.fill hDb)⟩⟩
  refine ⟨f.ext.pre, rfl, fun a o hn eo => ?_, fun a ha => ?_, f.ext.new⟩
  · rw [upd_ne (ne_of_none eo hD)]; exact f.ext.fr a o hn eo
  · have ne : a ≠ DD := fun z => by
      subst z
      have := f.sr.nd
      rw [List.nodup_append] at this
      have h2 := this.2.1
      rw [List.nodup_append] at h2
      exact h2.2.2 a ha a List.mem_cons_self rfl
    rw [upd_ne ne]; exact f.ext.kp a ha
theorem Fil.done {ρ0 : Rho} {H0 : Hp} {DD : Addr} {ix : List Addr} {acc : List D} {h : Sto} (f : Fil T K ρ0 H0 DD H ix acc h) : SR K T H ⟨ix, ρ0.bz⟩ h ∧ Rp K T H ⟨ix, ρ0.bz⟩ (.lst acc) (.ref DD) := by
  obtain ⟨vs, hv, rs⟩ := f.lst
  refine ⟨f.sr.unbusy rfl, .lst ⟨hv, ?_, ?_⟩ (rs.mv (Mv.unbusy rfl))⟩
  · intro hm
    exact (List.nodup_append.mp f.sr.nd).2.2 DD hm DD (List.mem_append_right _ List.mem_cons_self) rfl
  · intro hm
    have h2 := (List.nodup_append.mp f.sr.nd).2.1
    rw [List.nodup_append] at h2
    exact h2.2.2 DD hm DD List.mem_cons_self rfl
end
end G8

set_option Elab.async false
set_option linter.all false
set_option maxRecDepth 100000
set_option maxHeartbeats 1000000
namespace G8
open PySem PySem.Spec L2
/-- how far a walk has come -/
def upto (it : Itv) (i : Nat) : Prop := ∀ xs, it = .items xs → i ≤ xs.length
theorem upto0 (it : Itv) : upto it 0 := fun _ _ => Nat.zero_le _
theorem upto_next {it : Itv} {i : Nat} {h : Sto} {x : D} (e : nxt it i h = some (some x)) : upto it (i + 1) := fun xs z => by
  subst z
  have e' : xs[i]? = some x := Option.some.inj e
  exact (List.getElem?_eq_some_iff.mp e').1
theorem upto_end {it : Itv} {i : Nat} {h : Sto} (u : upto it i) (e : nxt it i h = some none) : ∀ xs, it = .items xs → i = xs.length := fun xs z => by
  have := u xs z
  subst z
  have e' : xs[i]? = none := Option.some.inj e
  have := List.getElem?_eq_none_iff.mp e'
  omega
theorem szl (n : Nat) (h : n < LIM) : n < sizeLine := by rw [sizeLine_eq]; exact h
section
variable {K : PySem.W.Frag} {T : Tb} {r : Rn}
theorem comp_core {tg elt : IE} {ifs : List IE} {own : List Nat} {it : Itv} {J : It} {σ : L2.St} {σa : Sl} {ρ : Rho} {H : Hp} {h h2 : Sto} {ys : List D} {Q : VK} (io : ItOk K T ρ H it J) (s : SR K T H ρ h) (rs : RS K T H ρ σa σ)
    (e : compI (turn r tg ifs elt (G8.wipe σa own)) it [] h = .ok ys h2) (hv : ∀ i ∈ slotsC tg, i ∈ own) (q : ∀ DD H' ix, H DD = none → Fil T K ρ H DD H' ix ys h2 → Q (.ref DD) H') :
    ∀ DD, H DD = none → ∃ W : Nat → Nat → Hp → Prop, (∃ m, W 0 m (upd H DD (.lst []))) ∧ ∀ i m H, W i m H →
      (J.stop i H ∧ Q (.ref DD) H) ∨ (J.go i H ∧ ∃ Nx : Hp → Prop, (∀ H', Nx H' → ∃ m', m' < m ∧ W (i + 1) m' H') ∧ ∀ x H', J.yld i H x H' → gC K tg x (L2.wipe σ own) H' fun σ2 H2 => L2.wipe σ2 own = L2.wipe σ own ∧ tTs T K r ifs σ2 H2 fun b H3 =>
        if b = true then tE T K r WF elt σ2 H3 fun y H4 => ∃ acc, H4 DD = some (.lst acc) ∧ acc.length < sizeLine ∧ Nx (upd H4 DD (.lst (acc ++ [y]))) else Nx H3) := by
  intro DD hD
  obtain ⟨n0, c0⟩ := compI_run e
  refine ⟨fun i m H1 => ∃ ix acc h1, Fil T K ρ H DD H1 ix acc h1 ∧ CRun it (turn r tg ifs elt (G8.wipe σa own)) ys h2 m i acc h1 ∧ upto it i, ⟨n0, _, _, _, Fil.start s hD, c0, upto0 it⟩, ?_⟩
  rintro i m H1 ⟨ix, acc, h1, f, c, u⟩
  obtain ⟨i1, i2⟩ := io ⟨ix, ρ.bz ++ [DD]⟩ H1 h1 (f.mv hD) f.sr i
  have turns : ∀ {x : D} {o : Option D} {h3 : Sto} {m' : Nat} {Nx : Hp → Prop}, nxt it i h1 = some (some x) → turn r tg ifs elt (G8.wipe σa own) x h1 = .ok o h3 →
      (match o with
        | some y => acc.length < LIM ∧ ∀ ix H2, Fil T K ρ H DD H2 ix (acc ++ [y]) h3 → Nx H2
        | none => ∀ ix H2, Fil T K ρ H DD H2 ix acc h3 → Nx H2) →
      ∀ v H', J.yld i H1 v H' → gC K tg v (L2.wipe σ own) H' fun σ2 H2 => L2.wipe σ2 own = L2.wipe σ own ∧ tTs T K r ifs σ2 H2 fun b H3 =>
        if b = true then tE T K r WF elt σ2 H3 fun y H4 => ∃ acc, H4 DD = some (.lst acc) ∧ acc.length < sizeLine ∧ Nx (upd H4 DD (.lst (acc ++ [y]))) else Nx H3 := by
    intro x o h3 m' Nx ex et nx v H' hy
    obtain ⟨x2, s2, r2⟩ := (i1 x ex).2 v H' hy
    obtain ⟨_, f2⟩ := f.step hD x2 s2
    obtain ⟨σ1, b, h4, e1, e2, e3⟩ := turn_ok et
    refine gC_rd e1 ((rs.wipe own).mv (f2.mv hD)) r2 hv fun σ2 rs2 hw => ⟨hw.trans (wipe_wipe fun _ h => h), ?_⟩
    refine tTs_rd e2 f2.sr rs2 fun H3 ρ3 x3 s3 => ?_
    obtain ⟨q3, f3⟩ := f2.step hD x3 s3
    cases b with
    | true =>
      rw [if_pos rfl] at e3 ⊢
      obtain ⟨y, rfl, e4⟩ := e3
      refine tE_rd e4 s3 (rs2.ext x3) fun w H4 ρ4 x4 s4 r4 => ?_
      rw [q3] at x4
      obtain ⟨q4, f4⟩ := f3.step hD x4 s4
      rw [q4] at r4
      obtain ⟨vs, hv4, hl4, f5⟩ := f4.app hD r4
      exact ⟨vs, hv4, by rw [hl4]; exact szl _ nx.1, nx.2 _ _ f5⟩
    | false =>
      rw [if_neg (by simp)] at e3 ⊢
      obtain ⟨rfl, rfl⟩ := e3
      exact nx _ _ f3
  cases c with
  | stop ex => exact .inl ⟨i2 ex (upto_end u ex), q _ _ _ hD f⟩
  | yes ex et hl c' =>
    rename_i n' h3 x y
    refine .inr ⟨(i1 x ex).1, fun H2 => ∃ ix, Fil T K ρ H DD H2 ix (acc ++ [y]) h3, fun H2 ⟨ix2, f2⟩ => ⟨n', Nat.lt_succ_self _, ix2, _, _, f2, c', upto_next ex⟩, turns (m' := n') ex et ⟨hl, fun ix2 H2 f2 => ⟨ix2, f2⟩⟩⟩
  | no ex et c' =>
    rename_i n' h3 x
    refine .inr ⟨(i1 x ex).1, fun H2 => ∃ ix, Fil T K ρ H DD H2 ix acc h3, fun H2 ⟨ix2, f2⟩ => ⟨n', Nat.lt_succ_self _, ix2, _, _, f2, c', upto_next ex⟩, turns (m' := n') ex et fun ix2 H2 f2 => ⟨ix2, f2⟩⟩
end
/-! ### the block of a comprehension -/
section
variable {P : Prg} {T : Tb} {X : Cx} {W : WX} {d : Nat}
/-- what holds in every block of the comprehension -/
def Blk (X : Cx) (scope : Scope) (p : Cx → Prop) : Prop := ∀ (s : Shared) (H : Hp) (C : Addr) (cl : List (Str × Addr)) (fp : List Addr), p (X.blk s H scope (compEnvC scope cl C X.env) fp)
theorem XO.blk (hx : XO X W d) (scope : Scope) : Blk X scope fun Y => XO Y WF d := fun s H C cl fp => ⟨hx.calm, hx.room, takesF, hx.nd⟩
inductive IfsOk (P : Prg) (T : Tb) (Y : Cx) (d : Nat) : List Expr → List IE → Prop
  | nil : IfsOk P T Y d [] []
  | one {c : Expr} {ic : IE} : GT P T Y WF d c ic → IfsOk P T Y d [c] [ic]
theorem IfsOk.pts {Y : Cx} {ifs : List Expr} {iifs : List IE} (h : IfsOk P T Y d ifs iifs) (F : Nat) : PTs Y ifs (tTs T Y.K ((ev P F).e d) iifs) := by
  cases h with
  | nil => exact pts_nil
  | one h => exact pts_one (h F)
/-- behind what is walked -/
theorem lc_imp {K : PySem.W.Frag} {tg it elt : IE} {ifs : List IE} {own : List Nat} {F : Nat} {σ : L2.St} {H : Hp} {Q : VK} (hv : ∀ i ∈ slotsC tg, i ∈ own) (q : tE T K (stepE P (ev P F) d) W (.comp tg it ifs elt own) σ H Q) :
    tLc (tI K T ((ev P F).e d) W it) (gC K tg) (tTs T K ((ev P F).e d) ifs) (tE T K ((ev P F).e d) WF elt) own σ H Q := by
  obtain ⟨ρ, h, σa, s, rs, q⟩ := q
  refine ⟨ρ, h, σa, s, rs, Aft.bind (Rel2 := Rp K T) (Q := Q) (show Aft K T W σ ρ H ((evIt ((ev P F).e d) it σa h).bind _) (Rp K T) Q from q) fun x h1 J H1 ρ1 x1 s1 io q1 => ?_⟩
  cases e : compI (turn ((ev P F).e d) tg ifs elt (G8.wipe σa own)) x [] h1 with
  | ok ys h2 =>
    rw [e] at q1
    exact comp_core io s1 (rs.ext x1) e hv fun DD H' ix hD f => let ⟨s3, r3⟩ := f.done; Aft.ok' (Rel := Rp K T) (Q := Q) (d := .lst ys) q1 f.ext s3 r3
  | err c h2 => rw [e] at q1; exact False.elim q1
  | stuck => rw [e] at q1; exact False.elim q1
theorem g_comp (hx : XO X W d) {elt tg iter : Expr} {ifs : List Expr} {scope : Scope} {own : List (Str × Nat)} {pos : Pos} {itg iit ielt : IE} {iifs : List IE} {io : List Nat} (hio : own.map (·.2) = io) (hv : ∀ i ∈ slotsC itg, i ∈ io)
    (hi : GI P T X W d tg iter iit) (ok : BlkOk X.N X.env.scope scope own) (hg : Blk X scope fun Y => PG Y tg (gC X.K itg)) (ht : Blk X scope fun Y => IfsOk P T Y d ifs iifs) (he : Blk X scope fun Y => GE P T Y WF d elt ielt)
    (hs : ∀ x, foldedSetIterable iter X.env x = pure x) : GE P T X W d (.ListComp elt [⟨tg, iter, ifs, 0⟩] scope pos) (.comp itg iit iifs ielt io) := .of fun F => by
  subst hio
  exact (pe_lc hx.calm hx.nd (hi F) ok hg (fun s H C cl fp => (ht s H C cl fp).pts F) (fun s H C cl fp => he s H C cl fp F) hs).imp fun σ H Q q => lc_imp hv q
end
/-! ### two clauses -/
section
variable {K : PySem.W.Frag} {T : Tb} {r : Rn}
theorem inner_core {tg elt : IE} {ifs : List IE} {own : List Nat} {it : Itv} {J : It} {σ : L2.St} {σa : Sl} {ρ : Rho} {H0 H : Hp} {DD : Addr} {ix0 : List Addr} {acc0 : List D} {h h2 : Sto} {ys : List D} {Nx : Hp → Prop} (hD : H0 DD = none) (f0 : Fil T K ρ H0 DD H ix0 acc0 h)
    (io : ItOk K T ⟨ix0, ρ.bz ++ [DD]⟩ H it J) (rs : RS K T H ⟨ix0, ρ.bz ++ [DD]⟩ σa σ)
    (e : compI (turn r tg ifs elt (G8.wipe σa own)) it acc0 h = .ok ys h2) (hv : ∀ i ∈ slotsC tg, i ∈ own) (q : ∀ H' ix, Fil T K ρ H0 DD H' ix ys h2 → Nx H') :
    ∃ W : Nat → Nat → Hp → Prop, (∃ m, W 0 m H) ∧ ∀ i m H, W i m H →
      (J.stop i H ∧ Nx H) ∨ (J.go i H ∧ ∃ Nx1 : Hp → Prop, (∀ H', Nx1 H' → ∃ m', m' < m ∧ W (i + 1) m' H') ∧ ∀ x H', J.yld i H x H' → gC K tg x (L2.wipe σ own) H' fun σ2 H2 => L2.wipe σ2 own = L2.wipe σ own ∧ tTs T K r ifs σ2 H2 fun b H3 =>
        if b = true then tE T K r WF elt σ2 H3 fun y H4 => ∃ acc, H4 DD = some (.lst acc) ∧ acc.length < sizeLine ∧ Nx1 (upd H4 DD (.lst (acc ++ [y]))) else Nx1 H3) := by
  obtain ⟨n0, c0⟩ := compI_run e
  refine ⟨fun i m H1 => ∃ ix acc h1, Fil T K ρ H0 DD H1 ix acc h1 ∧ Mv ⟨ix0, ρ.bz ++ [DD]⟩ H ⟨ix, ρ.bz ++ [DD]⟩ H1 ∧ CRun it (turn r tg ifs elt (G8.wipe σa own)) ys h2 m i acc h1 ∧ upto it i, ⟨n0, _, _, _, f0, Mv.refl, c0, upto0 it⟩, ?_⟩
  rintro i m H1 ⟨ix, acc, h1, f, mv, c, u⟩
  obtain ⟨i1, i2⟩ := io ⟨ix, ρ.bz ++ [DD]⟩ H1 h1 mv f.sr i
  have turns : ∀ {x : D} {o : Option D} {h3 : Sto} {m' : Nat} {Nx : Hp → Prop}, nxt it i h1 = some (some x) → turn r tg ifs elt (G8.wipe σa own) x h1 = .ok o h3 →
      (match o with
        | some y => acc.length < LIM ∧ ∀ ix H2, Fil T K ρ H0 DD H2 ix (acc ++ [y]) h3 → Mv ⟨ix0, ρ.bz ++ [DD]⟩ H ⟨ix, ρ.bz ++ [DD]⟩ H2 → Nx H2
        | none => ∀ ix H2, Fil T K ρ H0 DD H2 ix acc h3 → Mv ⟨ix0, ρ.bz ++ [DD]⟩ H ⟨ix, ρ.bz ++ [DD]⟩ H2 → Nx H2) →
      ∀ v H', J.yld i H1 v H' → gC K tg v (L2.wipe σ own) H' fun σ2 H2 => L2.wipe σ2 own = L2.wipe σ own ∧ tTs T K r ifs σ2 H2 fun b H3 =>
        if b = true then tE T K r WF elt σ2 H3 fun y H4 => ∃ acc, H4 DD = some (.lst acc) ∧ acc.length < sizeLine ∧ Nx (upd H4 DD (.lst (acc ++ [y]))) else Nx H3 := by
    intro x o h3 m' Nx ex et nx v H' hy
    obtain ⟨x2, s2, r2⟩ := (i1 x ex).2 v H' hy
    obtain ⟨_, f2⟩ := f.step hD x2 s2
    obtain ⟨σ1, b, h4, e1, e2, e3⟩ := turn_ok et
    have mv2 := mv.trans x2.mv
    refine gC_rd e1 ((rs.wipe own).mv mv2) r2 hv fun σ2 rs2 hw => ⟨hw.trans (wipe_wipe fun _ h => h), ?_⟩
    refine tTs_rd e2 f2.sr rs2 fun H3 ρ3 x3 s3 => ?_
    obtain ⟨q3, f3⟩ := f2.step hD x3 s3
    have mv3 := mv2.trans x3.mv
    cases b with
    | true =>
      rw [if_pos rfl] at e3 ⊢
      obtain ⟨y, rfl, e4⟩ := e3
      refine tE_rd e4 s3 (rs2.ext x3) fun w H4 ρ4 x4 s4 r4 => ?_
      rw [q3] at x4 mv3
      obtain ⟨q4, f4⟩ := f3.step hD x4 s4
      have mv4 := mv3.trans x4.mv
      rw [q4] at r4 mv4
      obtain ⟨vs, hv4, hl4, f5⟩ := f4.app hD r4
      exact ⟨vs, hv4, by rw [hl4]; exact szl _ nx.1, nx.2 _ _ f5 (mv4.trans (Mv.fill (List.mem_append_right _ List.mem_cons_self)))⟩
    | false =>
      rw [if_neg (by simp)] at e3 ⊢
      obtain ⟨rfl, rfl⟩ := e3
      rw [q3] at mv3
      exact nx _ _ f3 mv3
  cases c with
  | stop ex => exact .inl ⟨i2 ex (upto_end u ex), q _ _ f⟩
  | yes ex et hl c' =>
    rename_i n' h3 x y
    refine .inr ⟨(i1 x ex).1, fun H2 => ∃ ix, Fil T K ρ H0 DD H2 ix (acc ++ [y]) h3 ∧ Mv ⟨ix0, ρ.bz ++ [DD]⟩ H ⟨ix, ρ.bz ++ [DD]⟩ H2, fun H2 ⟨ix2, f2, m2⟩ => ⟨n', Nat.lt_succ_self _, ix2, _, _, f2, m2, c', upto_next ex⟩, turns (m' := n') ex et ⟨hl, fun ix2 H2 f2 m2 => ⟨ix2, f2, m2⟩⟩⟩
  | no ex et c' =>
    rename_i n' h3 x
    refine .inr ⟨(i1 x ex).1, fun H2 => ∃ ix, Fil T K ρ H0 DD H2 ix acc h3 ∧ Mv ⟨ix0, ρ.bz ++ [DD]⟩ H ⟨ix, ρ.bz ++ [DD]⟩ H2, fun H2 ⟨ix2, f2, m2⟩ => ⟨n', Nat.lt_succ_self _, ix2, _, _, f2, m2, c', upto_next ex⟩, turns (m' := n') ex et fun ix2 H2 f2 m2 => ⟨ix2, f2, m2⟩⟩
inductive C2Run (xs : List D) (t : D → List D → Sto → R (List D)) (ys : List D) (hf : Sto) : Nat → Nat → List D → Sto → Prop
  | stop {i : Nat} : i = xs.length → C2Run xs t ys hf 0 i ys hf
  | go {n i : Nat} {acc acc1 : List D} {h h1 : Sto} {x : D} : xs[i]? = some x → t x acc h = .ok acc1 h1 → C2Run xs t ys hf n (i + 1) acc1 h1 → C2Run xs t ys hf (n + 1) i acc h
theorem comp2S_run {t : D → List D → Sto → R (List D)} {ys : List D} {hf : Sto} (xs0 : List D) : ∀ (xs : List D) (i : Nat) (acc : List D) (h : Sto), i ≤ xs0.length → xs0.drop i = xs → comp2S t xs acc h = .ok ys hf → ∃ n, C2Run xs0 t ys hf n i acc h
  | [], i, acc, h, hi, hd, e => by
    simp only [comp2S] at e
    cases e
    exact ⟨0, .stop (by have := List.drop_eq_nil_iff.mp hd; omega)⟩
  | x :: xs, i, acc, h, hi, hd, e => by
    have hx : xs0[i]? = some x := by
      have := congrArg (fun l => l[0]?) hd
      simpa only [List.getElem?_drop, Nat.add_zero, List.getElem?_cons_zero] using this
    have hd' : xs0.drop (i + 1) = xs := by rw [← List.drop_drop, hd]; rfl
    simp only [comp2S] at e
    obtain ⟨acc1, h1, e1, e2⟩ := bind_ok e
    obtain ⟨n, c⟩ := comp2S_run xs0 xs (i + 1) acc1 h1 (List.getElem?_eq_some_iff.mp hx).1 hd' e2
    exact ⟨n + 1, .go hx e1 c⟩
theorem turn2_ok {tg it1 tg1 elt : IE} {ifs ifs1 : List IE} {own1 : List Nat} {σ : Sl} {x : D} {h h2 : Sto} {acc acc1 : List D} (e : turn2 r tg ifs tg1 it1 ifs1 elt own1 σ x acc h = .ok acc1 h2) :
    ∃ σ1 b h1, asgC tg x σ = some σ1 ∧ tests r ifs σ1 h = .ok b h1 ∧ (if b = true then ∃ it h3, evIt r it1 σ1 h1 = .ok it h3 ∧ compI (turn r tg1 ifs1 elt (G8.wipe σ1 own1)) it acc h3 = .ok acc1 h2 else acc1 = acc ∧ h2 = h1) := by
  unfold turn2 at e
  cases e1 : asgC tg x σ with
  | none => rw [e1] at e; cases e
  | some σ1 =>
    rw [e1] at e
    obtain ⟨b, h1, e2, e3⟩ := bind_ok e
    refine ⟨σ1, b, h1, rfl, e2, ?_⟩
    cases b with
    | true =>
      rw [if_pos rfl]
      simp only [if_true] at e3
      exact bind_ok e3
    | false =>
      rw [if_neg (by simp)]
      simp only [Bool.false_eq_true, if_false] at e3
      cases e3
      exact ⟨rfl, rfl⟩
theorem comp2_core {tg it1 tg1 elt : IE} {ifs ifs1 : List IE} {own own1 : List Nat} {xs : List D} {J : It} {σ : L2.St} {σa : Sl} {ρ : Rho} {H : Hp} {h h2 : Sto} {ys : List D} {Q : VK} (io : ItOk K T ρ H (.items xs) J) (s : SR K T H ρ h) (rs : RS K T H ρ σa σ)
    (e : comp2S (turn2 r tg ifs tg1 it1 ifs1 elt own1 (G8.wipe σa own)) xs [] h = .ok ys h2) (hv : ∀ i ∈ slotsC tg, i ∈ own) (hv1 : ∀ i ∈ slotsC tg1, i ∈ own1) (q : ∀ DD H' ix, H DD = none → Fil T K ρ H DD H' ix ys h2 → Q (.ref DD) H') :
    ∀ DD, H DD = none → ∃ W : Nat → Nat → Hp → Prop, (∃ m, W 0 m (upd H DD (.lst []))) ∧ ∀ i m H, W i m H →
      (J.stop i H ∧ Q (.ref DD) H) ∨ (J.go i H ∧ ∃ Nx : Hp → Prop, (∀ H', Nx H' → ∃ m', m' < m ∧ W (i + 1) m' H') ∧ ∀ x H', J.yld i H x H' → gC K tg x (L2.wipe σ own) H' fun σ2 H2 => L2.wipe σ2 own = L2.wipe σ own ∧ tTs T K r ifs σ2 H2 fun b H3 =>
        if b = true then tI K T r WF it1 σ2 H3 fun J1 H4 => ∃ W1 : Nat → Nat → Hp → Prop, (∃ m, W1 0 m H4) ∧ ∀ j k H, W1 j k H →
          (J1.stop j H ∧ Nx H) ∨ (J1.go j H ∧ ∃ Nx1 : Hp → Prop, (∀ H', Nx1 H' → ∃ k', k' < k ∧ W1 (j + 1) k' H') ∧ ∀ x H', J1.yld j H x H' → gC K tg1 x (L2.wipe σ2 own1) H' fun σ3 H5 => L2.wipe σ3 own1 = L2.wipe σ2 own1 ∧ tTs T K r ifs1 σ3 H5 fun b H6 =>
            if b = true then tE T K r WF elt σ3 H6 fun y H7 => ∃ acc, H7 DD = some (.lst acc) ∧ acc.length < sizeLine ∧ Nx1 (upd H7 DD (.lst (acc ++ [y]))) else Nx1 H6)
        else Nx H3) := by
  intro DD hD
  obtain ⟨n0, c0⟩ := comp2S_run xs xs 0 [] h (Nat.zero_le _) rfl e
  refine ⟨fun i m H1 => ∃ ix acc h1, Fil T K ρ H DD H1 ix acc h1 ∧ C2Run xs (turn2 r tg ifs tg1 it1 ifs1 elt own1 (G8.wipe σa own)) ys h2 m i acc h1, ⟨n0, _, _, _, Fil.start s hD, c0⟩, ?_⟩
  rintro i m H1 ⟨ix, acc, h1, f, c⟩
  obtain ⟨i1, i2⟩ := io ⟨ix, ρ.bz ++ [DD]⟩ H1 h1 (f.mv hD) f.sr i
  cases c with
  | stop ex =>
    refine .inl ⟨i2 (by show some xs[i]? = some none; rw [List.getElem?_eq_none (by omega)]) (fun ys z => by cases z; exact ex), q _ _ _ hD f⟩
  | go ex et c' =>
    rename_i n' acc1 h3 x
    have ex' : nxt (.items xs) i h1 = some (some x) := congrArg some ex
    refine .inr ⟨(i1 x ex').1, fun H2 => ∃ ix, Fil T K ρ H DD H2 ix acc1 h3, fun H2 ⟨ix2, f2⟩ => ⟨n', Nat.lt_succ_self _, ix2, _, _, f2, c'⟩, fun v H' hy => ?_⟩
    obtain ⟨x2, s2, r2⟩ := (i1 x ex').2 v H' hy
    obtain ⟨_, f2⟩ := f.step hD x2 s2
    obtain ⟨σ1, b, h4, e1, e2, e3⟩ := turn2_ok et
    refine gC_rd e1 ((rs.wipe own).mv (f2.mv hD)) r2 hv fun σ2 rs2 hw => ⟨hw.trans (wipe_wipe fun _ h => h), ?_⟩
    refine tTs_rd e2 f2.sr rs2 fun H3 ρ3 x3 s3 => ?_
    obtain ⟨q3, f3⟩ := f2.step hD x3 s3
    cases b with
    | true =>
      rw [if_pos rfl] at e3 ⊢
      obtain ⟨it, h5, e4, e5⟩ := e3
      refine ⟨ρ3, h4, σ1, s3, rs2.ext x3, ?_⟩
      rw [e4]
      intro J1 H4 ρ4 x4 s4 io4
      rw [q3] at x4
      obtain ⟨q4, f4⟩ := f3.step hD x4 s4
      rw [q4] at io4
      have rs4 : RS K T H4 ⟨ρ4.ix, ρ.bz ++ [DD]⟩ σ1 σ2 := by
        have := (rs2.ext x3)
        rw [q3] at this
        rw [← q4]
        exact this.ext x4
      exact inner_core hD f4 io4 rs4 e5 hv1 fun H' ix' f' => ⟨ix', f'⟩
    | false =>
      rw [if_neg (by simp)] at e3 ⊢
      obtain ⟨rfl, rfl⟩ := e3
      exact ⟨_, f3⟩
end
section
variable {P : Prg} {T : Tb} {X : Cx} {W : WX} {d : Nat}
theorem lc2_imp {K : PySem.W.Frag} {tg it tg1 it1 elt : IE} {ifs ifs1 : List IE} {own own1 : List Nat} {F : Nat} {σ : L2.St} {H : Hp} {Q : VK} (hv : ∀ i ∈ slotsC tg, i ∈ own) (hv1 : ∀ i ∈ slotsC tg1, i ∈ own1) (q : tE T K (stepE P (ev P F) d) W (.comp2 tg it ifs tg1 it1 ifs1 elt own own1) σ H Q) :
    tLc2 (tI K T ((ev P F).e d) W it) (gC K tg) (tTs T K ((ev P F).e d) ifs) (tI K T ((ev P F).e d) WF it1) (gC K tg1) (tTs T K ((ev P F).e d) ifs1) (tE T K ((ev P F).e d) WF elt) own own1 σ H Q := by
  obtain ⟨ρ, h, σa, s, rs, q⟩ := q
  refine ⟨ρ, h, σa, s, rs, Aft.bind (Rel2 := Rp K T) (Q := Q) (show Aft K T W σ ρ H ((evIt ((ev P F).e d) it σa h).bind _) (Rp K T) Q from q) fun x h1 J H1 ρ1 x1 s1 io q1 => ?_⟩
  cases x with
  | dyn n en => exact False.elim q1
  | dct n l => exact False.elim q1
  | items xs =>
    simp only at q1
    cases e : comp2S (turn2 ((ev P F).e d) tg ifs tg1 it1 ifs1 elt own1 (G8.wipe σa own)) xs [] h1 with
    | ok ys h2 =>
      rw [e] at q1
      exact comp2_core io s1 (rs.ext x1) e hv hv1 fun DD H' ix hD f => let ⟨s3, r3⟩ := f.done; Aft.ok' (Rel := Rp K T) (Q := Q) (d := .lst ys) q1 f.ext s3 r3
    | err c h2 => rw [e] at q1; exact False.elim q1
    | stuck => rw [e] at q1; exact False.elim q1
theorem g_comp2 (hx : XO X W d) {elt tg iter tg1 iter1 : Expr} {ifs ifs1 : List Expr} {scope : Scope} {own : List (Str × Nat)} {pos : Pos} {itg iit itg1 iit1 ielt : IE} {iifs iifs1 : List IE} {io io1 : List Nat} (hio : own.map (·.2) = io) (hv : ∀ i ∈ slotsC itg, i ∈ io) (hv1 : ∀ i ∈ slotsC itg1, i ∈ io1)
    (hvv : ∀ i ∈ io1, i ∈ io) (hi : GI P T X W d tg iter iit) (ok : BlkOk X.N X.env.scope scope own) (hg : Blk X scope fun Y => PG Y tg (gC X.K itg)) (ht : Blk X scope fun Y => IfsOk P T Y d ifs iifs)
    (hi1 : Blk X scope fun Y => GI P T Y WF d tg1 iter1 iit1) (hg1 : Blk X scope fun Y => PG Y tg1 (gC X.K itg1)) (ht1 : Blk X scope fun Y => IfsOk P T Y d ifs1 iifs1) (he : Blk X scope fun Y => GE P T Y WF d elt ielt)
    (hs : ∀ x, foldedSetIterable iter X.env x = pure x) (hs1 : ∀ env x, foldedSetIterable iter1 env x = pure x) : GE P T X W d (.ListComp elt [⟨tg, iter, ifs, 0⟩, ⟨tg1, iter1, ifs1, 0⟩] scope pos) (.comp2 itg iit iifs itg1 iit1 iifs1 ielt io io1) := .of fun F => by
  subst hio
  exact (pe_lc2 hx.calm hx.nd (hi F) ok hvv hg (fun s H C cl fp => (ht s H C cl fp).pts F) (fun s H C cl fp => hi1 s H C cl fp F) hg1 (fun s H C cl fp => (ht1 s H C cl fp).pts F) (fun s H C cl fp => he s H C cl fp F) hs hs1).imp fun σ H Q q => lc2_imp hv hv1 q
end
end G8

set_option Elab.async false
set_option linter.all false
set_option maxRecDepth 100000
set_option maxHeartbeats 1000000
namespace G8
open PySem PySem.Spec L2
section
variable {P : Prg} {T : Tb} {X : Cx} {W : WX} {d : Nat} {a b c : Expr} {ia ib ic : IE} {pos p : Pos}
/-! ### built-in functions -/
def biGen : Bi → List IE → Bool
  | .list, [.rng1 _] => false
  | .tuple, [.rng1 _] => false
  | _, _ => true
theorem biGen_step {r : Ev} {bb : Bi} {es : List IE} {σ : Sl} {h : Sto} (hb : biGen bb es = true) : stepE P r d (.bi bb es) σ h = (evs (r.e d) es σ h).bind fun xs h1 => biD bb xs h1 := by
  simp only [stepE]
  split
  · simp [biGen] at hb
  · simp [biGen] at hb
  · rfl
theorem bi_imp {K : PySem.W.Frag} {F : Nat} {bb : Bi} {ies : List IE} {σ : L2.St} {H : Hp} {Q : VK} (hb : biGen bb ies = true) (q : tE T K (stepE P (ev P F) d) W (.bi bb ies) σ H Q) : tCB (rB K bb) (tA T K ((ev P F).e d) W ies) σ H Q := by
  obtain ⟨ρ, h, σa, s, rs, q⟩ := q
  rw [biGen_step hb] at q
  exact ⟨ρ, h, σa, s, rs, Aft.bind q fun xs h1 vs H1 ρ1 x1 s1 r1 q1 => bi_rd s1 r1 q1⟩
theorem g_bi (hx : XO X W d) {bb : Bi} {x : Str} {e : Expr} {es : List Expr} {ies : List IE} (hb : biGen bb ies = true) (hg : Gl X x) (hm : X.mg x = none) (hv : bootBuiltins x = some (bv bb)) (ha : GA P T X W d (e :: es) ies) (hn : x ≠ "__name__") (hdb : (x == ("__debug__" : Str)) = false)
    (hs : (e :: es).all noStar = true) : GE P T X W d (.Call (.Name x p) (e :: es) [] pos) (.bi bb ies) := .of fun F => by
  simp only [List.all_cons, Bool.and_eq_true] at hs
  have he := star_cons (es := es) (env := X.env) hs.1
  have hpl := star_any (env := X.env) (pos := pos) hs.2
  have ok := bi_ok hx.calm bb
  cases bb
  all_goals first
    | exact (pe_callB ok hg hm hv (ha F) hn hdb he hpl).imp fun σ H Q q => bi_imp hb q
    | exact (pe_callTy ok hg hm hv (ha F) hn hdb he hpl).imp fun σ H Q q => bi_imp hb q
theorem rg_rps {K : PySem.W.Frag} {H : Hp} {ρ : Rho} (j : Int) : Rps K T H ρ (rg 0 j) (rgV 0 j) := by
  have : ∀ l : List Nat, Rps K T H ρ (l.map fun i => D.int (0 + (i : Nat))) (l.map fun i => V.int (0 + (i : Nat))) := fun l => by
    induction l with
    | nil => exact .nil
    | cons x l ih => exact .cons (.int _) ih
  exact this _
theorem rg_ok {j : Int} (h : 0 ≤ j ∧ j ≤ 16777216) : RgOk 0 j := by
  refine ⟨by omega, by omega, by omega, by omega, by omega⟩
theorem g_rgL (hx : XO X W d) {p2 p3 : Pos} (hg : Gl X "list") (hm : X.mg "list" = none) (hg2 : Gl X "range") (hm2 : X.mg "range" = none) (ha : GE P T X W d a ia) (hs : noStar a = true) :
    GE P T X W d (.Call (.Name "list" p) [.Call (.Name "range" p2) [a] [] p3] [] pos) (.bi .list [.rng1 ia]) := .of fun F =>
  (pe_listRg hx.calm hg hm (prg_1 hg2 hm2 (ha F) (star_cons hs)) (star_cons rfl)).imp fun σ H Q ⟨ρ, h, σa, s, rs, q⟩ => ⟨ρ, h, σa, s, rs, Aft.bind (Rel2 := Rp X.K T) (Q := Q) (show Aft X.K T W σ ρ H (((ev P F).e d ia σa h).bind _) (Rp X.K T) Q from q) fun x h1 v H1 ρ1 x1 s1 r1 q1 => by
    cases r1 with
    | int j =>
      refine ⟨j, rfl, ?_⟩
      simp only at q1
      split at q1
      · rename_i hj
        exact ⟨rg_ok hj, fun l hl => new_lst s1 (rg_rps j) q1 l hl⟩
      · exact False.elim q1
    | _ => exact False.elim q1⟩
theorem g_rgT (hx : XO X W d) {p2 p3 : Pos} (hg : Gl X "tuple") (hm : X.mg "tuple" = none) (hg2 : Gl X "range") (hm2 : X.mg "range" = none) (ha : GE P T X W d a ia) (hs : noStar a = true) :
    GE P T X W d (.Call (.Name "tuple" p) [.Call (.Name "range" p2) [a] [] p3] [] pos) (.bi .tuple [.rng1 ia]) := .of fun F =>
  (pe_tupRgF hx.calm hg hm (prg_1 hg2 hm2 (ha F) (star_cons hs)) (star_cons rfl)).imp fun σ H Q ⟨ρ, h, σa, s, rs, q⟩ => ⟨ρ, h, σa, s, rs, Aft.bind (Rel2 := Rp X.K T) (Q := Q) (show Aft X.K T W σ ρ H (((ev P F).e d ia σa h).bind _) (Rp X.K T) Q from q) fun x h1 v H1 ρ1 x1 s1 r1 q1 => by
    cases r1 with
    | int j =>
      refine ⟨j, rfl, ?_⟩
      simp only at q1
      split at q1
      · rename_i hj
        exact ⟨rg_ok hj, fun l its hl => new_tup s1 (rg_rps j) q1 l its hl⟩
      · exact False.elim q1
    | _ => exact False.elim q1⟩
/-! ### isinstance -/
theorem tC_last {K : PySem.W.Frag} {r : Rn} {σ : L2.St} {H : Hp} {v : V} {Φ : List V → Hp → Prop} (q : tE T K r W ia σ H fun x H1 => Φ [x, v] H1) : tCons (tE T K r W ia) (tCons (tC v) tNil) σ H Φ := q
theorem g_isi {t : Ty} {x : Str} {p2 : Pos} (ht : isB t = true) (hg : Gl X "isinstance") (hm : X.mg "isinstance" = none) (hg2 : Gl X x) (hm2 : X.mg x = none) (hv : bootBuiltins x = some (.type (tyS t))) (ha : GE P T X W d a ia) (hn : x ≠ "__name__") (hdb : (x == ("__debug__" : Str)) = false)
    (hs : noStar a = true) : GE P T X W d (.Call (.Name "isinstance" p) [a, .Name x p2] [] pos) (.isi ia t) := .of fun F => by
  refine (pe_callB call_isi hg hm (by decide +kernel) (pa_cons (ha F) (pa_cons (pe_bltn (v := .ty (tyS t)) hg2 hm2 hv rfl hn hdb) pa_nil (star_cons rfl)) (star_cons hs)) (by decide) (by decide) (star_cons hs) (star_any rfl)).imp fun σ H Q ⟨ρ, h, σa, s, rs, q⟩ => ?_
  refine tC_last ⟨ρ, h, σa, s, rs, Aft.bind (Rel2 := Rp X.K T) (Q := Q) q fun y h1 v H1 ρ1 x1 s1 r1 q1 => ?_⟩
  cases e : isiD P h1 y t with
  | none => rw [e] at q1; exact False.elim q1
  | some b =>
    rw [e] at q1
    exact isi_rd ht s1 r1 e (q1.ok s1 (.bl b))
/-! ### methods of lists and tuples -/
theorem all_star {env : Env} {cpos : Pos} : ∀ {es : List Expr}, es.all noStar = true → (backTo cpos (starEach es env)).all (fun x => !x.1) = true
  | [], _ => rfl
  | e :: es, h => by
    simp only [List.all_cons, Bool.and_eq_true] at h
    rw [star_cons h.1]
    have := all_star (env := env) (cpos := cpos) h.2
    simp only [backTo, List.map_cons, List.all_cons] at this ⊢
    rw [this]
    rfl
theorem few {env : Env} {cpos : Pos} {es : List Expr} (h : es.all noStar = true) (hl : es.length < 30) : ((backTo cpos (starEach es env)).all (fun x => !x.1) && (backToKw cpos (keywordEach [] env)).all (fun x => x.1.isSome)
      && decide (es.length + ([] : List Keyword).length + (if ([] : List Keyword).isEmpty then 0 else 1) < 30)) = true := by
  rw [all_star h]
  have : decide (es.length + ([] : List Keyword).length + (if ([] : List Keyword).isEmpty then 0 else 1) < 30) = true := by
    rw [decide_eq_true_eq]
    show es.length + 0 + 0 < 30
    omega
  rw [this]
  rfl
def mn : Mb → Str
  | .append => "append"
  | .pop => "pop"
  | .popAt => "pop"
  | .index => "index"
  | .count => "count"
  | .remove => "remove"
  | .join => "join"
  | .split => "split"
/-- those of lists, with arguments -/
def mList : Mb → Bool
  | .append => true
  | .popAt => true
  | .index => true
  | .count => true
  | _ => false
theorem m_slot : ∀ m : Mb, mList m = true → Slot "list" (mn m) (mid m)
  | .append, _ => PySem.F.slot_list_append
  | .popAt, _ => PySem.F.slot_list_pop
  | .index, _ => PySem.F.slot_list_index
  | .count, _ => PySem.F.slot_list_count
theorem m_ty : ∀ m : Mb, mList m = true → typeOf (.builtin (mid m)) = pure (.type "method_descriptor")
  | .append, _ => PySem.F.type_list_append
  | .popAt, _ => PySem.F.type_list_pop
  | .index, _ => PySem.F.type_list_index
  | .count, _ => PySem.F.type_list_count
theorem lst_ty {K : PySem.W.Frag} {x : D} {v : V} {H : Hp} {ρ : Rho} {h : Sto} (s : SR K T H ρ h) (r : Rp K T H ρ x v) (e : (lstOf h x).isSome = true) : tyV K "list" v H := by
  obtain ⟨xs, e⟩ := Option.isSome_iff_exists.mp e
  obtain ⟨p, us, rfl, hp, _⟩ := Rp.lstOf s r e
  exact .inl ⟨rfl, us, SqL.of hp⟩
/-- methods of lists alone -/
def mNo : Mb → Bool
  | .append => true
  | .pop => true
  | .popAt => true
  | .count => true
  | _ => false
theorem mNo_pre {m : Mb} (hm : mNo m = true) {h : Sto} {x : D} : mbPre h x m = (lstOf h x).isSome := by
  cases m <;> first | rfl | (simp [mNo] at hm)
theorem lst_nt {h : Sto} {x : D} (e : (lstOf h x).isSome = true) : ∀ xs, x ≠ .tup xs := fun xs z => by subst z; simp [lstOf] at e
theorem pre_tup {K : PySem.W.Frag} {xs : List D} {v : V} {H : Hp} {ρ : Rho} (r : Rp K T H ρ (.tup xs) v) : tyT v H := by
  cases r with
  | tup st _ => obtain ⟨its, e, _⟩ := st; exact ⟨_, its, _, rfl, e⟩
theorem g_mb (hx : XO X W d) {m : Mb} {e : Expr} {es : List Expr} {ies : List IE} {apos : Pos} (hl : mList m = true) (hno : mNo m = true) (ha : GE P T X W d a ia) (hr : GA P T X W d (e :: es) ies) (hc : noCall a = true) (hline : (apos.endLine == pos.line) = true) (hs : (e :: es).all noStar = true) (hn : (e :: es).length < 30) :
    GE P T X W d (.Call (.Attribute a (mn m) apos) (e :: es) [] pos) (.mb m ia ies) := .of fun F => by
  have hs' := hs
  simp only [List.all_cons, Bool.and_eq_true] at hs'
  refine (pe_bm PySem.F.plainAttrs_list (m_slot m hl) (m_ty m hl) (m_ok hx.hu m) (ha F) (hr F) (attr_base hc _) (few hs hn) hline (star_cons hs'.1) (star_any hs'.2)).imp fun σ H Q ⟨ρ, h, σa, s, rs, q⟩ => ?_
  refine ⟨ρ, h, σa, s, rs, Aft.bind (Rel2 := Rp X.K T) (Q := Q) q fun x h1 v H1 ρ1 x1 s1 r1 q1 => ?_⟩
  rw [mNo_pre hno] at q1
  by_cases hp : (lstOf h1 x).isSome = true
  · rw [if_pos hp] at q1
    exact ⟨lst_ty s1 r1 hp, ρ1, h1, σa, s1, rs.ext x1, Aft.bind (Rel2 := Rp X.K T) (Q := Q) q1 fun xs h2 vs H2 ρ2 x2 s2 r2 q2 => mb_rd s2 (r1.ext x2) r2 (lst_nt hp) q2⟩
  · rw [if_neg hp] at q1; exact False.elim q1
theorem g_pop (hx : XO X W d) {apos : Pos} (ha : GE P T X W d a ia) (hc : noCall a = true) (hline : (apos.endLine == pos.line) = true) : GE P T X W d (.Call (.Attribute a "pop" apos) [] [] pos) (.mb .pop ia []) := .of fun F => by
  refine (pe_bm0 PySem.F.plainAttrs_list PySem.F.slot_list_pop PySem.F.type_list_pop (m_ok hx.hu .pop) (ha F) (attr_base hc _) hline).imp fun σ H Q ⟨ρ, h, σa, s, rs, q⟩ => ?_
  refine ⟨ρ, h, σa, s, rs, Aft.bind (Rel2 := Rp X.K T) (Q := Q) q fun x h1 v H1 ρ1 x1 s1 r1 q1 => ?_⟩
  rw [mNo_pre (m := .pop) rfl] at q1
  by_cases hp : (lstOf h1 x).isSome = true
  · rw [if_pos hp] at q1
    exact ⟨lst_ty s1 r1 hp, mb_rd s1 r1 .nil (lst_nt hp) q1⟩
  · rw [if_neg hp] at q1; exact False.elim q1
theorem g_index (hx : XO X W d) {e : Expr} {ie : IE} {apos : Pos} (ha : GE P T X W d a ia) (hr : GE P T X W d e ie) (hc : noCall a = true) (hline : (apos.endLine == pos.line) = true) (hs : noStar e = true) :
    GE P T X W d (.Call (.Attribute a "index" apos) [e] [] pos) (.mb .index ia [ie]) := .of fun F => by
  have hs1 : [e].all noStar = true := by simp [hs]
  have hA := ga_cons hr ga_nil hs F
  refine (PE.or (pe_bm PySem.F.plainAttrs_list PySem.F.slot_list_index PySem.F.type_list_index (m_ok hx.hu .index) (ha F) hA (attr_base hc _) (few hs1 (by show 1 < 30; omega)) hline (star_cons hs) (star_any rfl))
    (pe_bmT PySem.F.slot_tuple_index PySem.F.type_tuple_index mt_indexT (ha F) hA (attr_base hc _) (few hs1 (by show 1 < 30; omega)) hline (star_cons hs) (star_any rfl))).imp fun σ H Q ⟨ρ, h, σa, s, rs, q⟩ => ?_
  by_cases ht : ∃ ys h1, (ev P F).e d ia σa h = .ok (.tup ys) h1
  · obtain ⟨ys, h1, e1⟩ := ht
    refine .inr ⟨ρ, h, σa, s, rs, ?_⟩
    simp only [stepE] at q
    rw [e1] at q ⊢
    intro v H1 ρ1 x1 s1 r1
    have q1 := Aft.ext q x1
    refine ⟨pre_tup r1, ρ1, h1, σa, s1, rs.ext x1, Aft.bind (Rel2 := Rp X.K T) (Q := Q) (show Aft X.K T W σ ρ1 H1 ((evs ((ev P F).e d) [ie] σa h1).bind _) (Rp X.K T) Q from q1) fun xs h2 vs H2 ρ2 x2 s2 r2 q2 => ?_⟩
    cases r2 with
    | nil => exact False.elim q2
    | cons r3 r4 =>
      rename_i y u ys' us'
      cases r4 with
      | cons _ _ => exact False.elim q2
      | nil =>
        simp only [mbD] at q2
        cases e2 : contD y (.tup ys) h2 with
        | none => rw [e2] at q2; exact False.elim q2
        | some b =>
          rw [e2] at q2
          cases b with
          | false => exact False.elim q2
          | true =>
            simp only [seqOf] at q2
            cases e3 : idxOf y ys with
            | none => rw [e3] at q2; exact False.elim q2
            | some k =>
              rw [e3] at q2
              exact idxT_rd s2 (r1.ext x2) r3 e2 e3 (q2.ok s2 (.int _))
  · refine .inl ⟨ρ, h, σa, s, rs, ?_⟩
    simp only [stepE] at q
    cases e1 : (ev P F).e d ia σa h with
    | stuck => rw [e1] at q; exact False.elim q
    | err c h1 => rw [e1] at q; exact q
    | ok x h1 =>
      rw [e1] at q
      intro v H1 ρ1 x1 s1 r1
      have q1 : Aft X.K T W σ ρ1 H1 (if mbPre h1 x .index = true then (evs ((ev P F).e d) [ie] σa h1).bind fun xs h2 => mbD .index x xs h2 else .stuck) (Rp X.K T) Q := Aft.ext q x1
      have hnt : ∀ xs, x ≠ .tup xs := fun xs z => ht ⟨xs, h1, by rw [e1, z]⟩
      have hpre : mbPre h1 x .index = (lstOf h1 x).isSome := by cases x <;> first | rfl | exact absurd rfl (hnt _)
      rw [hpre] at q1
      by_cases hp : (lstOf h1 x).isSome = true
      · rw [if_pos hp] at q1
        exact ⟨lst_ty s1 r1 hp, ρ1, h1, σa, s1, rs.ext x1, Aft.bind (Rel2 := Rp X.K T) (Q := Q) q1 fun xs h2 vs H2 ρ2 x2 s2 r2 q2 => mb_rd s2 (r1.ext x2) r2 hnt q2⟩
      · rw [if_neg hp] at q1; exact False.elim q1
end
end G8

set_option Elab.async false
set_option linter.all false
set_option maxRecDepth 100000
set_option maxHeartbeats 1000000
namespace G8
open PySem PySem.Spec L2
/-! ### calls of the program's own functions -/
/-- what my function f promises at depth d -/
def spF (P : Prg) (T : Tb) (K : PySem.W.Frag) (d f : Nat) : Sp := fun vs H Q E => ∃ F ρ h ds, SR K T H ρ h ∧ Rps K T H ρ ds vs ∧ Aft K T (fun c dd _ H' => E c dd H') [] ρ H ((ev P F).c d f ds h) (Rp K T) Q
theorem Aft.toE {K : PySem.W.Frag} {T : Tb} {W : WX} {σ : L2.St} {ρ : Rho} {H : Hp} {α β : Type} {r : R α} {Rel : Hp → Rho → α → β → Prop} {Q : β → Hp → Prop} (a : Aft K T W σ ρ H r Rel Q) : Aft K T (fun c dd _ H' => WE W σ c dd H') [] ρ H r Rel Q := by
  cases r <;> exact a
/-- where a function stands -/
structure Fi where
  ad : Addr
  fd : FuncData
  ps : List Str
abbrev FOk (P : Prg) (T : Tb) (X : Cx) (d f : Nat) (fi : Fi) : Prop := FnOk X.prog X.w X.K X.mg X.base (L2.CX X.prog X.w) d fi.ad fi.fd fi.ps (spF P T X.K d f)
section
variable {X : Cx} {CX : CXT} {k : Nat} {f C : Addr} {fd : FuncData} {ps : List Str} {sp : Sp} {E : L2.St → XK} {x m : Str} {p pos apos : Pos} {e o : Expr} {es : List Expr} {ta : TE} {t : TA}
theorem pe_callS0 (F : FnOk X.prog X.w X.K X.mg X.base CX k f fd ps sp) (hr : Room k X.A) (hg : Gl X x) (hm : X.mg x = some (.ref f)) (hk : PySem.W.keepIn X.K (.ref f) = true) (hb : Binds X.K fd ps []) (hx : ∀ σ, PassesAt CX X σ (E σ))
    (hdb : (x == ("__debug__" : Str)) = false) : PE X (.Call (.Name x p) [] [] pos) (tCallS sp E tNil) := by
  refine ⟨fun pins s σ H Q I h => ?_⟩
  refine wpAny_Call_Name_kw (ld_glob I hg hm ?_ hdb)
  exact PySem.W.callWith_K0 I.kIn hk (run_fnS (us := []) F hr hb (hx σ) I .nil h)
theorem wp_meth {M : Model} {A : Around} {En : Value → Shared → Prop} {s : Shared} {env : Env} {name : Str} {args : List Expr} {Q : Value → Shared → Prop} (hbase : attributeBase o name env (eval o env) = eval o env)
    (hfew : methodCallForm (args.length + ([] : List Keyword).length) (backTo pos (starEach args env)) (backToKw pos (keywordEach [] env)) = true) (hline : (apos.endLine == pos.line) = true)
    (h : wpAny M A (eval o env) (fun ov s1 => ∀ pl, wpAny M A (getMethod ov name pl) (fun fx s2 => wpAny M A (callWith pos fx.1 fx.2 (backTo pos (starEach args env)) (backToKw pos (keywordEach [] env))) Q En s2) En s1) En s) :
    wpAny M A (eval (.Call (.Attribute o name apos) args [] pos) env) Q En s := by
  rw [arm_eval_Call, hbase]
  refine wpAny_bind (wpAny_mono h (fun ov s₁ h₁ => ?_) fun _ _ e => e)
  refine wpAny_bind (wpAny_standAt ?_)
  have hpos : methodCallPos true o env apos pos = pure pos := by unfold methodCallPos; simp [hline]
  unfold methodCall
  rw [hfew]
  refine wpAny_bind (wpAny_holding (wpAny_mono (h₁ _) (fun fx s₂ h₂ => ?_) fun _ _ x => x))
  exact wpAny_bind (wpAny_of_eq hpos h₂)
/-- o.m(..) of an instance of the class at C -/
def tMethS (C : Addr) (m : Str) (sp : Sp) (E : L2.St → XK) (ta : TE) (t : TA) : TE := fun σ H Q => ta σ H fun x H1 => ∃ a dx fs, x = .ref a ∧ H1 a = some (.ins C dx fs) ∧ fs.lookup m = none ∧
  t σ H1 fun vs H2 => sp (x :: vs) H2 Q (E σ)
theorem pe_methS (he : PE X o ta) (c : Cls X.K C) (hm : Meth X.K C m f) (F : FnOk X.prog X.w X.K X.mg X.base CX k f fd ps sp) (hr : Room k X.A) (hb : Binds X.K fd ps []) (hx : ∀ σ, PassesAt CX X σ (E σ)) (ha : PA X (e :: es) t)
    (hbase : attributeBase o m X.env (eval o X.env) = eval o X.env) (hfew : methodCallForm ((e :: es).length + ([] : List Keyword).length) (backTo pos (starEach (e :: es) X.env)) (backToKw pos (keywordEach [] X.env)) = true) (hline : (apos.endLine == pos.line) = true)
    (hst : starEach (e :: es) X.env = (false, eval e X.env) :: starEach es X.env) (hpl : (backTo pos (starEach es X.env)).any (·.1) = false) :
    PE X (.Call (.Attribute o m apos) (e :: es) [] pos) (tMethS C m sp E ta t) := by
  refine ⟨fun pins s σ H Q I h => ?_⟩
  refine wp_meth hbase hfew hline (thn (he.run pins s σ H _ I h) fun u s1 ⟨x, H1, I1, rx, a, dx, fs, ex, ea, l, q⟩ => fun pl => ?_)
  subst ex
  obtain rfl : u = Value.ref a := rx
  refine getmeth_ok I1 ea c hm l ?_
  refine PySem.W.callWith_K (first := [.ref a]) (h₀ := X.base) I.ok.mod.kin hm.kp (thn (ha.run pos pins s1 σ H1 _ I1 q) fun us s2 ⟨vs, H2, I2, r, q2⟩ => ⟨I2.kIn, ?_⟩) hst hpl
  exact run_fnS (us := .ref a :: us) (vs := .ref a :: vs) F hr hb (hx σ) I2 (.cons rfl r) q2
theorem pe_methS0 (he : PE X o ta) (c : Cls X.K C) (hm : Meth X.K C m f) (F : FnOk X.prog X.w X.K X.mg X.base CX k f fd ps sp) (hr : Room k X.A) (hb : Binds X.K fd ps []) (hx : ∀ σ, PassesAt CX X σ (E σ))
    (hbase : attributeBase o m X.env (eval o X.env) = eval o X.env) (hline : (apos.endLine == pos.line) = true) : PE X (.Call (.Attribute o m apos) [] [] pos) (tMethS C m sp E ta tNil) := by
  refine ⟨fun pins s σ H Q I h => ?_⟩
  refine wp_meth hbase rfl hline (thn (he.run pins s σ H _ I h) fun u s1 ⟨x, H1, I1, rx, a, dx, fs, ex, ea, l, q⟩ => fun pl => ?_)
  subst ex
  obtain rfl : u = Value.ref a := rx
  refine getmeth_ok I1 ea c hm l ?_
  exact PySem.W.callWith_K0 (first := [.ref a]) I1.kIn hm.kp (run_fnS (us := [.ref a]) (vs := [.ref a]) F hr hb (hx σ) I1 (.cons rfl .nil) q)
/-- C(..): a new instance and its dict, then __init__ -/
def tMakeS (C : Addr) (sp : Sp) (E : L2.St → XK) (t : TA) : TE := fun σ H Q => t σ H fun vs H1 => ∀ x dx, H1 x = none → H1 dx = none → dx ≠ x →
  sp (.ref x :: vs) (upd (upd H1 dx (.own x)) x (.ins C dx [])) (fun v H2 => v = .non ∧ Q (.ref x) H2) (E σ)
theorem run_makeS {pins : List (Addr × Obj)} {σ : L2.St} {H : Hp} {s : Shared} {Q : VK} {us : List Value} {vs : List V} (M : Mk X.K C f) (F : FnOk X.prog X.w X.K X.mg X.base CX k f fd ps sp) (hr : Room (k + 1) X.A) (hb : Binds X.K fd ps [])
    (hx : PassesAt CX X σ (E σ)) (I : Inv X pins σ H s) (r : Vals vs us)
    (h : ∀ x dx, H x = none → H dx = none → dx ≠ x → sp (.ref x :: vs) (upd (upd H dx (.own x)) x (.ins C dx [])) (fun v H2 => v = .non ∧ Q (.ref x) H2) (E σ)) :
    wpAny (model X.prog X.w) X.A (call (.ref C) us) (EP X pins σ Q) X.xe s := by
  have hq := h (s.heap.objs.size + 1) s.heap.objs.size (I.hok.fresh (Nat.le_succ _)) (I.hok.fresh (Nat.le_refl _)) (Nat.ne_of_lt (Nat.lt_succ_self _))
  have I2 := Inv.made (C := C) I
  have r2 : Vals (V.ref (s.heap.objs.size + 1) :: vs) (Value.ref (s.heap.objs.size + 1) :: us) := .cons rfl r
  have hl : (Value.ref (s.heap.objs.size + 1) :: us).length = ps.length := by
    have e := r2.length
    rw [F.len _ _ _ _ hq] at e
    exact e.symm
  have b := hb _ (Value.ref (s.heap.objs.size + 1) :: us) I2.kIn (by rw [List.append_nil]; exact hl)
  rw [List.append_nil] at b
  refine wpAny_call (make_map (f := f) I.kIn M.makes M.init (beq_iff_eq.mp M.fn) (codeAny_mono (F.run _ X.stack _ _ ⟨Value.ref (s.heap.objs.size + 1) :: us, []⟩ (Value.ref (s.heap.objs.size + 1) :: us) _ _ (E σ) (hr.make C us [])
    (I2.env0.make C us []) b r2 hq) fun r s' hq' => ?_))
  cases r with
  | error e => exact hx pins _ _ e s' I2 hq'
  | ok fl =>
    cases fl with
    | ret u =>
      obtain ⟨v, H', I3, rv, ev, q3⟩ := I2.after hq'
      subst ev
      exact ⟨rv, ⟨V.ref (s.heap.objs.size + 1), H', I3, rfl, q3⟩⟩
    | next => exact False.elim hq'
    | brk => exact False.elim hq'
    | cont => exact False.elim hq'
theorem pe_makeS (M : Mk X.K C f) (F : FnOk X.prog X.w X.K X.mg X.base CX k f fd ps sp) (hr : Room (k + 1) X.A) (hg : Gl X x) (hm : X.mg x = some (.ref C)) (hb : Binds X.K fd ps []) (hx : ∀ σ, PassesAt CX X σ (E σ))
    (ha : PA X (e :: es) t) (hdb : (x == ("__debug__" : Str)) = false) (he : starEach (e :: es) X.env = (false, eval e X.env) :: starEach es X.env) (hpl : (backTo pos (starEach es X.env)).any (·.1) = false) :
    PE X (.Call (.Name x p) (e :: es) [] pos) (tMakeS C sp E t) := by
  refine ⟨fun pins s σ H Q I h => ?_⟩
  refine wpAny_Call_Name_kw (ld_glob I hg hm ?_ hdb)
  refine PySem.W.callWith_K (h₀ := X.base) I.ok.mod.kin M.kp (thn (ha.run pos pins s σ H _ I h) fun us s1 ⟨vs, H1, I1, r, q⟩ => ⟨I1.kIn, ?_⟩) he hpl
  exact run_makeS M F hr hb (hx σ) I1 r q
theorem pe_makeS0 (M : Mk X.K C f) (F : FnOk X.prog X.w X.K X.mg X.base CX k f fd ps sp) (hr : Room (k + 1) X.A) (hg : Gl X x) (hm : X.mg x = some (.ref C)) (hb : Binds X.K fd ps []) (hx : ∀ σ, PassesAt CX X σ (E σ))
    (hdb : (x == ("__debug__" : Str)) = false) : PE X (.Call (.Name x p) [] [] pos) (tMakeS C sp E tNil) := by
  refine ⟨fun pins s σ H Q I h => ?_⟩
  refine wpAny_Call_Name_kw (ld_glob I hg hm ?_ hdb)
  exact PySem.W.callWith_K0 I.kIn M.kp (run_makeS (us := []) M F hr hb (hx σ) I .nil h)
end
section
variable {P : Prg} {T : Tb} {X : Cx} {W : WX} {d : Nat} {a b c : Expr} {ia ib ic : IE} {pos p : Pos}
theorem call_imp {K : PySem.W.Frag} {F f : Nat} {ies : List IE} {σ : L2.St} {H : Hp} {Q : VK} (q : tE T K (stepE P (ev P F) d) W (.call f ies) σ H Q) : tCallS (spF P T K d f) (WE W) (tA T K ((ev P F).e d) W ies) σ H Q := by
  obtain ⟨ρ, h, σa, s, rs, q⟩ := q
  exact ⟨ρ, h, σa, s, rs, Aft.bind q fun xs h1 vs H1 ρ1 x1 s1 r1 q1 => ⟨F, ρ1, h1, xs, s1, r1, q1.toE⟩⟩
theorem g_call (hx : XO X W d) {f : Nat} {fi : Fi} {x : Str} {es : List Expr} {ies : List IE} (hF : FOk P T X d f fi) (hg : Gl X x) (hm : X.mg x = some (.ref fi.ad)) (hk : PySem.W.keepIn X.K (.ref fi.ad) = true) (hb : Binds X.K fi.fd fi.ps []) (ha : GA P T X W d es ies)
    (hdb : (x == ("__debug__" : Str)) = false) (hs : es.all noStar = true) (hz : ies.length = es.length) : GE P T X W d (.Call (.Name x p) es [] pos) (.call f ies) := .of fun F => by
  cases es with
  | nil =>
    cases ies with
    | cons _ _ => cases hz
    | nil =>
      refine (pe_callS0 (E := WE W) hF hx.room hg hm hk hb (passAt hx.tk) hdb).imp fun σ H Q ⟨ρ, h, σa, s, rs, q⟩ => ?_
      exact ⟨F, ρ, h, [], s, .nil, Aft.toE q⟩
  | cons e es =>
    simp only [List.all_cons, Bool.and_eq_true] at hs
    exact (pe_callS (E := WE W) hF hx.room hg hm hk hb (passAt hx.tk) (ha F) hdb (star_cons hs.1) (star_any hs.2)).imp fun σ H Q q => call_imp q
/-- an instance's reading -/
theorem ins_rd {K : PySem.W.Frag} {h : Sto} {ρ : Rho} {H : Hp} {n cc : Nat} {fs : List (Nat × D)} {v : V} (s : SR K T H ρ h) (r : Rp K T H ρ (.ref n) v) (e : h[n]? = some (.ins cc fs)) : ∃ a dx fvs, v = .ref a ∧ T.ow cc = true ∧ H a = some (.ins (T.ca cc) dx fvs) ∧ Rf K T H ρ fs fvs := by
  cases r with
  | ref hp =>
    obtain ⟨o, tp, dx, fvs, e2, rf⟩ := s.at_ n _ _ e hp
    exact ⟨_, dx, fvs, rfl, o, e2, rf⟩
theorem methOf_mem {h : Sto} {m f : Nat} {x : D} (e : methOf P h m x = some f) : ∃ n cc fs, x = .ref n ∧ h[n]? = some (.ins cc fs) ∧ (cc, m, f) ∈ P.meth := by
  unfold methOf at e
  split at e
  · rename_i n
    split at e
    · rename_i c fs e1
      obtain ⟨p, hp, e2⟩ := Option.map_eq_some_iff.mp e
      have h1 := List.mem_of_find?_eq_some hp
      have h2 := List.find?_some hp
      simp only [Bool.and_eq_true, beq_iff_eq] at h2
      obtain ⟨p1, p2, p3⟩ := p
      simp only at h2 e2
      obtain ⟨rfl, rfl⟩ := h2
      subst e2
      exact ⟨n, p1, fs, rfl, e1, h1⟩
    · cases e
  · cases e
/-- a method, whichever class -/
theorem g_mu (hx : XO X W d) {m : Nat} {mm : Str} {es : List Expr} {ies : List IE} {apos : Pos} {fi : Nat → Fi} {c0 f0 : Nat} (h0 : (c0, m, f0) ∈ P.meth) (hmf : mm ∉ T.fl)
    (hM : ∀ cc f, (cc, m, f) ∈ P.meth → Cls X.K (T.ca cc) ∧ Meth X.K (T.ca cc) mm (fi f).ad ∧ FOk P T X d f (fi f) ∧ Binds X.K (fi f).fd (fi f).ps [])
    (he : GE P T X W d a ia) (ha : GA P T X W d es ies) (hc : noCall a = true) (hline : (apos.endLine == pos.line) = true) (hs : es.all noStar = true) (hn : es.length < 30) (hz : ies.length = es.length) :
    GE P T X W d (.Call (.Attribute a mm apos) es [] pos) (.mu m ia ies) := .of fun F => by
  -- each class by itself
  have one : ∀ i : { p : Nat × Nat // (p.1, m, p.2) ∈ P.meth }, PE X (.Call (.Attribute a mm apos) es [] pos) (tMethS (T.ca i.1.1) mm (spF P T X.K d i.1.2) (WE W) (tE T X.K ((ev P F).e d) W ia) (match es with | [] => tNil | _ => tA T X.K ((ev P F).e d) W ies)) := fun i => by
    obtain ⟨h4, h1, h2, h3⟩ := hM _ _ i.2
    cases es with
    | nil => exact pe_methS0 (he F) h4 h1 h2 hx.room h3 (passAt hx.tk) (attr_base hc _) hline
    | cons e es =>
      have hs' := hs
      simp only [List.all_cons, Bool.and_eq_true] at hs'
      exact pe_methS (he F) h4 h1 h2 hx.room h3 (passAt hx.tk) (ha F) (attr_base hc _) (few hs hn) hline (star_cons hs'.1) (star_any hs'.2)
  refine (PE.ex one).imp fun σ H Q ⟨ρ, h, σa, s, rs, q⟩ => ?_
  simp only [stepE] at q
  cases e1 : (ev P F).e d ia σa h with
  | stuck => rw [e1] at q; exact False.elim q
  | err c h1 =>
    rw [e1] at q
    refine ⟨⟨(c0, f0), h0⟩, ρ, h, σa, s, rs, ?_⟩
    rw [e1]
    exact q
  | ok x h1 =>
    rw [e1] at q
    cases e2 : methOf P h1 m x with
    | none => simp only [R.bind, e2] at q; exact False.elim q
    | some f =>
      simp only [R.bind, e2] at q
      obtain ⟨n, cc, fs, rfl, e3, e4⟩ := methOf_mem e2
      refine ⟨⟨(cc, f), e4⟩, ρ, h, σa, s, rs, ?_⟩
      rw [e1]
      intro v H1 ρ1 x1 s1 r1
      obtain ⟨p, dx, fvs, rfl, _, hp, rf⟩ := ins_rd s1 r1 e3
      refine ⟨p, dx, fvs, rfl, hp, rf.none hmf, ?_⟩
      have q1 := Aft.ext (ρ1 := ρ1) (H1 := H1) q x1
      cases es with
      | nil =>
        cases ies with
        | cons _ _ => cases hz
        | nil => exact ⟨F, ρ1, h1, [.ref n], s1, .cons r1 .nil, Aft.toE q1⟩
      | cons e es =>
        exact ⟨ρ1, h1, σa, s1, rs.ext x1, Aft.bind (Rel2 := Rp X.K T) (Q := Q) q1 fun xs h2 vs H2 ρ2 x2 s2 r2 q2 => ⟨F, ρ2, h2, .ref n :: xs, s2, .cons (r1.ext x2) r2, Aft.toE q2⟩⟩
/-! ### a new instance -/
theorem new_ins {K : PySem.W.Frag} {h : Sto} {ρ : Rho} {H : Hp} {cc : Nat} {x dx : Addr} (ho : T.ow cc = true) (s : SR K T H ρ h) (hx : H x = none) (hdx : H dx = none) (hne : dx ≠ x) :
    Ext ρ H (ρ.push x) (upd (upd H dx (.own x)) x (.ins (T.ca cc) dx [])) ∧ SR K T (upd (upd H dx (.own x)) x (.ins (T.ca cc) dx [])) (ρ.push x) (h ++ [.ins cc []]) := by
  have s1 : SR K T (upd H dx (.own x)) ρ h := s.new_obj hdx
  have x1 : Ext ρ H ρ (upd H dx (.own x)) := Ext.new_obj s hdx
  have hx1 : upd H dx (.own x) x = none := by rw [upd_ne (Ne.symm hne)]; exact hx
  refine ⟨x1.trans (Ext.push s1 hx1), s1.push hx1 ?_⟩
  exact ⟨ho, ⟨(fun p hp => by cases hp), ⟨dx, [], upd_same, Rf.nil⟩⟩⟩
theorem mk_imp {K : PySem.W.Frag} {F cc f : Nat} {ies : List IE} {σ : L2.St} {H : Hp} {Q : VK} (ho : T.ow cc = true) (hi : P.init.lookup cc = some f) (q : tE T K (stepE P (ev P F) (d + 1)) W (.mk cc ies) σ H Q) :
    tMakeS (T.ca cc) (spF P T K d f) (WE W) (tA T K ((ev P F).e (d + 1)) W ies) σ H Q := by
  obtain ⟨ρ, h, σa, s, rs, q⟩ := q
  simp only [stepE, hi] at q
  refine ⟨ρ, h, σa, s, rs, Aft.bind (Rel2 := Rp K T) (Q := Q) q fun xs h1 vs H1 ρ1 x1 s1 r1 q1 => ?_⟩
  intro x dx hx hdx hne
  obtain ⟨x2, s2⟩ := new_ins ho s1 hx hdx hne
  refine ⟨F, ρ1.push x, _, .ref h1.length :: xs, s2, .cons (.ref (push_get s1)) (r1.ext x2), ?_⟩
  have q2 := q1.ext x2
  cases e : (ev P F).c d f (.ref h1.length :: xs) (h1 ++ [.ins cc []]) with
  | stuck => rw [e] at q2; exact False.elim q2
  | err c h2 => rw [e] at q2; exact q2
  | ok v h2 =>
    rw [e] at q2
    intro u H3 ρ3 x3 s3 r3
    cases v with
    | non => cases r3; exact ⟨rfl, q2 _ H3 ρ3 x3 s3 (.ref (x3.get (push_get s1)))⟩
    | _ => exact False.elim q2
theorem g_mk0 {cc : Nat} {e : Expr} {ies : List IE} : GE P T X W 0 e (.mk cc ies) := .of fun F => PE.bot fun σ H Q ⟨ρ, h, σa, s, rs, q⟩ => by
  simp only [stepE] at q
  cases e : P.init.lookup cc with
  | none => rw [e] at q; exact q
  | some f => rw [e] at q; exact q
theorem g_mk (hx : XO X W (d + 1)) {cc f : Nat} {fi : Fi} {x : Str} {es : List Expr} {ies : List IE} (ho : T.ow cc = true) (hi : P.init.lookup cc = some f) (M : Mk X.K (T.ca cc) fi.ad) (hF : FOk P T X d f fi) (hg : Gl X x) (hm : X.mg x = some (.ref (T.ca cc))) (hb : Binds X.K fi.fd fi.ps []) (ha : GA P T X W (d + 1) es ies)
    (hdb : (x == ("__debug__" : Str)) = false) (hs : es.all noStar = true) (hz : ies.length = es.length) : GE P T X W (d + 1) (.Call (.Name x p) es [] pos) (.mk cc ies) := .of fun F => by
  cases es with
  | nil =>
    cases ies with
    | cons _ _ => cases hz
    | nil =>
      refine (pe_makeS0 (E := WE W) M hF hx.room hg hm hb (passAt hx.tk) hdb).imp fun σ H Q q => ?_
      obtain ⟨ρ, h, σa, s, rs, a⟩ := mk_imp ho hi q
      exact Aft.ok a s .nil
  | cons e es =>
    simp only [List.all_cons, Bool.and_eq_true] at hs
    exact (pe_makeS (E := WE W) M hF hx.room hg hm hb (passAt hx.tk) (ha F) hdb (star_cons hs.1) (star_any hs.2)).imp fun σ H Q q => mk_imp ho hi q
end
end G8

set_option Elab.async false
set_option linter.all false
set_option maxRecDepth 100000
set_option maxHeartbeats 1000000
namespace G8
open PySem PySem.Spec L2
/-! ### new lists that will change -/
section
variable (T : Tb) (K : PySem.W.Frag)
def AftF (W : WX) (σ : L2.St) (ρ : Rho) (H : Hp) (r : R D) (Q : VK) : Prop := match r with
  | .ok x h' => ∃ xs, x = .lst xs ∧ ∀ DD H' ix, H DD = none → Fil T K ρ H DD H' ix xs h' → Q (.ref DD) H'
  | .err c h' => ∀ H' ρ', Ext ρ H ρ' H' → SR K T H' ρ' h' → W (.ref (T.ca c)) none σ H'
  | .stuck => False
def tFr (r : Rn) (W : WX) (e : IE) : TE := fun σ H Q => ∃ ρ h σa, SR K T H ρ h ∧ RS K T H ρ σa σ ∧ AftF T K W σ ρ H (r e σa h) Q
end
def GF (P : Prg) (T : Tb) (X : Cx) (W : WX) (d : Nat) (e : Expr) (ie : IE) : Prop := ∀ F, PE X e (tFr T X.K ((ev P F).e d) W ie)
section
variable {T : Tb} {K : PySem.W.Frag} {W : WX} {σ : L2.St} {ρ ρ1 : Rho} {H H1 : Hp} {h h1 : Sto} {Q : VK}
theorem Ext.none {p : Addr} (x : Ext ρ H ρ1 H1) (s : SR K T H ρ h) (s1 : SR K T H1 ρ1 h1) (hp : H1 p = none) : H p = none := by
  cases e : H p with
  | none => rfl
  | some o =>
    have hf := s1.fresh hp
    by_cases hb : p ∈ ρ.bz
    · rw [x.kp p hb, e] at hp; cases hp
    · by_cases hi : p ∈ ρ.ix
      · exact absurd (x.pre.subset hi) hf.1
      · rw [x.fr p o ⟨hi, hb⟩ e] at hp; cases hp
/-- a list laid behind an evaluation -/
theorem Fil.laid {xs : List D} {vs : List V} {p : Addr} (x : Ext ρ H ρ1 H1) (s1 : SR K T H1 ρ1 h1) (r : Rps K T H1 ρ1 xs vs) (hp : H1 p = none) : Fil T K ρ H p (upd H1 p (.lst vs)) ρ1.ix xs h1 := by
  have e : ρ1.busy p = ⟨ρ1.ix, ρ.bz ++ [p]⟩ := by unfold Rho.busy; rw [x.bz]
  have e2 : (⟨ρ1.ix, ρ.bz⟩ : Rho) = ρ1 := by cases ρ1; rw [← x.bz]
  refine ⟨by rw [e2]; exact x.trans (Ext.new_obj s1 hp), by rw [← e]; exact s1.busy hp, vs, upd_same, by rw [← e]; exact r.mv (Mv.busy hp)⟩
/-- what is new behind an evaluation, seen from ahead of it -/
theorem Fil.from {xs : List D} {DD : Addr} {ix : List Addr} {H2 : Hp} {h2 : Sto} (x : Ext ρ H ρ1 H1) (f : Fil T K ρ1 H1 DD H2 ix xs h2) : Fil T K ρ H DD H2 ix xs h2 := by
  have eb := x.bz
  obtain ⟨fe, fs, fl⟩ := f
  rw [eb] at fe fs fl
  exact ⟨x.trans fe, fs, fl⟩
theorem AftF.bind {α β : Type} {r : R α} {f : α → Sto → R D} {Rel1 : Hp → Rho → α → β → Prop} {Φ : β → Hp → Prop} (s : SR K T H ρ h)
    (a : AftF T K W σ ρ H (r.bind f) Q) (k : ∀ d h1 v H1 ρ1, Ext ρ H ρ1 H1 → SR K T H1 ρ1 h1 → Rel1 H1 ρ1 d v → AftF T K W σ ρ1 H1 (f d h1) Q → Φ v H1) : Aft K T W σ ρ H r Rel1 Φ := by
  cases r with
  | ok d h1 =>
    refine fun v H1 ρ1 x s1 rl => k d h1 v H1 ρ1 x s1 rl ?_
    have a' : AftF T K W σ ρ H (f d h1) Q := a
    cases e : f d h1 with
    | ok y h2 =>
      rw [e] at a'
      obtain ⟨xs, hy, k2⟩ := a'
      exact ⟨xs, hy, fun DD H' ix hD fl => k2 DD H' ix (x.none s s1 hD) (fl.from x)⟩
    | err c h2 =>
      rw [e] at a'
      exact fun H' ρ' x2 s2 => a' H' ρ' (x.trans x2) s2
    | stuck => rw [e] at a'; exact a'
  | err c h1 => exact a
  | stuck => exact a
theorem AftF.new {xs : List D} {vs : List V} (s : SR K T H ρ h) (r : Rps K T H ρ xs vs) (a : AftF T K W σ ρ H (.ok (.lst xs) h) Q) (p : Addr) (hp : H p = none) : Q (.ref p) (upd H p (.lst vs)) := by
  obtain ⟨ys, e, k⟩ := a
  cases e
  exact k p _ _ hp (Fil.laid (Ext.refl _ _) s r hp)
/-- the new list becomes one of the store -/
theorem Fil.toMut {xs : List D} {DD : Addr} {ix : List Addr} {H2 : Hp} {h2 : Sto} {fl : Bool} (s : SR K T H ρ h) (hD : H DD = none) (f : Fil T K ρ H DD H2 ix xs h2) (fo : flOk fl xs) :
    Ext ρ H (Rho.mk (ix ++ [DD]) ρ.bz) H2 ∧ SR K T H2 ⟨ix ++ [DD], ρ.bz⟩ (h2 ++ [.lst fl xs]) ∧ (ix ++ [DD])[h2.length]? = some DD := by
  obtain ⟨vs, hv, rs⟩ := f.lst
  have mv : Mv ⟨ix, ρ.bz ++ [DD]⟩ H2 ⟨ix ++ [DD], ρ.bz⟩ H2 := ⟨fun n a e => by
      show (ix ++ [DD])[n]? = some a
      rw [List.getElem?_append_left (List.getElem?_eq_some_iff.mp e).1]; exact e, fun _ _ _ e => e, fun a o hn e => ⟨fun hm => by
        rcases List.mem_append.mp hm with h | h
        · exact hn.1 h
        · exact hn.2 (List.mem_append_right _ h), fun hm => hn.2 (List.mem_append_left _ hm)⟩⟩
  have hl : ix.length = h2.length := f.sr.len
  have get : (ix ++ [DD])[h2.length]? = some DD := by rw [← hl, List.getElem?_append_right (Nat.le_refl _), Nat.sub_self]; rfl
  refine ⟨⟨List.IsPrefix.trans f.ext.pre (List.prefix_append _ _), rfl, f.ext.fr, f.ext.kp, fun a ha => ?_⟩, ⟨?_, by show (ix ++ [DD]).length = _; rw [List.length_append, List.length_append, hl]; rfl, fun n o a e1 e2 => ?_, fun a ha => f.sr.bz a (List.mem_append_left _ ha)⟩, get⟩
  · rcases List.mem_append.mp ha with h1 | h1
    · exact f.ext.new a h1
    · rw [List.mem_singleton.mp h1]; exact .inr ⟨hD, (s.fresh hD).2⟩
  · have := f.sr.nd
    show ((ix ++ [DD]) ++ ρ.bz).Nodup
    have h1 : (ix ++ (ρ.bz ++ [DD])).Nodup := this
    have h2 : (ix ++ ([DD] ++ ρ.bz)).Perm (ix ++ (ρ.bz ++ [DD])) := List.Perm.append_left _ (List.perm_append_comm)
    rw [List.append_assoc]
    exact h2.nodup_iff.mpr h1
  · by_cases hn : n < h2.length
    · rw [List.getElem?_append_left hn] at e1
      have e2' : (ix ++ [DD])[n]? = some a := e2
      rw [List.getElem?_append_left (by rw [hl]; exact hn)] at e2'
      exact (f.sr.at_ n o a e1 e2').mv mv rfl
    · have hne : n = h2.length := by
        have := (List.getElem?_eq_some_iff.mp e1).1
        rw [List.length_append] at this
        simp at this
        omega
      subst hne
      rw [List.getElem?_append_right (Nat.le_refl _), Nat.sub_self] at e1
      cases e1
      have e2' : (ix ++ [DD])[h2.length]? = some a := e2
      rw [get] at e2'
      cases e2'
      exact ⟨vs, hv, rs.mv mv, fo⟩
end
section
variable {P : Prg} {T : Tb} {X : Cx} {W : WX} {d : Nat} {a b c : Expr} {ia ib ic : IE} {pos p : Pos}
theorem bot_f {K : PySem.W.Frag} {e : IE} (σ : L2.St) (H : Hp) (Q : VK) : ¬ tFr T K ((ev P 0).e d) W e σ H Q := fun ⟨_, _, _, _, _, q⟩ => q
theorem GF.of {e : Expr} {ie : IE} (k : ∀ F, PE X e (tFr T X.K (stepE P (ev P F) d) W ie)) : GF P T X W d e ie := fun F => match F with
  | 0 => PE.bot bot_f
  | F + 1 => k F
theorem mut_imp {K : PySem.W.Frag} {F : Nat} {σ : L2.St} {H : Hp} {Q : VK} (q : tE T K (stepE P (ev P F) d) W (.mut ia) σ H Q) : tFr T K ((ev P F).e d) W ia σ H Q := by
  obtain ⟨ρ, h, σa, s, rs, q⟩ := q
  refine ⟨ρ, h, σa, s, rs, ?_⟩
  simp only [stepE] at q
  cases e : (ev P F).e d ia σa h with
  | stuck => rw [e] at q; exact False.elim q
  | err c h1 => rw [e] at q; exact q
  | ok x h1 =>
    rw [e] at q
    cases x with
    | lst xs =>
      refine ⟨xs, rfl, fun DD H' ix hD f => ?_⟩
      simp only [R.bind] at q
      split at q
      · rename_i hn
        obtain ⟨x1, s1, g⟩ := f.toMut s hD (fl := true) hn
        exact Aft.ok' (Rel := Rp K T) (Q := Q) q x1 s1 (.ref g)
      · split at q
        · rename_i _ ht
          obtain ⟨x1, s1, g⟩ := f.toMut s hD (fl := false) ht
          exact Aft.ok' (Rel := Rp K T) (Q := Q) q x1 s1 (.ref g)
        · exact False.elim q
    | _ => exact False.elim q
theorem g_mut (ha : GF P T X W d a ia) : GE P T X W d a (.mut ia) := .of fun F => (ha F).imp fun σ H Q q => mut_imp q
/-! ### the forms that lay a list -/
theorem f_lst {es : List Expr} {ies : List IE} (ha : GA P T X W d es ies) (hl : ies.length ≤ 16777216) : GF P T X W d (.List es pos) (.lst ies) := .of fun F =>
  (pe_lst (ha F)).imp fun σ H Q ⟨ρ, h, σa, s, rs, q⟩ => by
    refine ⟨ρ, h, σa, s, rs, ?_⟩
    have q' : AftF T X.K W σ ρ H ((evs ((ev P F).e d) ies σa h).bind fun xs h1 => if xs.length ≤ 16777216 then .ok (.lst xs) h1 else .stuck) Q := by
      simp only [stepE] at q
      cases e : evs ((ev P F).e d) ies σa h with
      | ok xs h1 =>
        rw [e] at q
        have := evs_len e
        simp only [R.bind] at q ⊢
        rw [if_pos (by omega)]
        exact q
      | err c h1 => rw [e] at q; exact q
      | stuck => rw [e] at q; exact q
    refine AftF.bind s q' fun xs h1 vs H1 ρ1 x1 s1 r1 q1 => ?_
    split at q1
    · rename_i hz
      exact ⟨by rw [← Rps.length r1, sizeLine_eq]; exact hz, fun p hp => AftF.new s1 r1 q1 p hp⟩
    · exact False.elim q1
theorem f_rep (ha : GE P T X W d a ia) (hb : GE P T X W d b ib) : GF P T X W d (.BinOp a .Mult b pos) (.bin .mul ia ib) := .of fun F => by
  refine (pe_op op_rep (ha F) (hb F)).imp fun σ H Q ⟨ρ, h, σa, s, rs, q⟩ => ?_
  refine ⟨ρ, h, σa, s, rs, AftF.bind s q fun x h1 v H1 ρ1 x1 s1 r1 q1 => ⟨ρ1, h1, σa, s1, rs.ext x1, AftF.bind s1 q1 fun y h2 u H2 ρ2 x2 s2 r2 q2 => ?_⟩⟩
  have r1' := Rp.ext x2 r1
  cases r2 with
  | int k =>
    have q3 : AftF T X.K W σ ρ2 H2 (match lstOf h2 x with
      | some xs => if 0 ≤ k ∧ k ≤ 100000 ∧ xs.length ≤ 100 then .ok (.lst (List.replicate k.toNat xs).flatten) h2 else .stuck
      | none => .stuck) Q := by
      cases x with
      | int i =>
        simp only [binD] at q2
        split at q2
        · obtain ⟨_, z, _⟩ := q2; cases z
        · exact False.elim q2
      | tup xs =>
        simp only [binD] at q2
        split at q2
        · obtain ⟨_, z, _⟩ := q2; cases z
        · exact False.elim q2
      | _ => exact q2
    cases e : lstOf h2 x with
    | none => rw [e] at q3; exact False.elim q3
    | some xs =>
      rw [e] at q3
      simp only at q3
      split at q3
      · rename_i hm
        obtain ⟨l, vs, rfl, hp, rs'⟩ := Rp.lstOf s2 r1' e
        refine ⟨l, k, vs, rfl, rfl, hp, by omega, by omega, ?_, fun p hp => AftF.new s2 (Rps.rep rs' _) q3 p hp⟩
        rw [← rs'.length, sizeLine_eq]
        have : xs.length * k.toNat ≤ 100 * 100000 := Nat.mul_le_mul hm.2.2 (by omega)
        omega
      · exact False.elim q3
  | _ =>
    exfalso
    cases x <;> first | exact q2 | (cases q2)
theorem fcomp_imp {K : PySem.W.Frag} {tg it elt : IE} {ifs : List IE} {own : List Nat} {F : Nat} {σ : L2.St} {H : Hp} {Q : VK} (hv : ∀ i ∈ slotsC tg, i ∈ own) (q : tFr T K (stepE P (ev P F) d) W (.comp tg it ifs elt own) σ H Q) :
    tLc (tI K T ((ev P F).e d) W it) (gC K tg) (tTs T K ((ev P F).e d) ifs) (tE T K ((ev P F).e d) WF elt) own σ H Q := by
  obtain ⟨ρ, h, σa, s, rs, q⟩ := q
  refine ⟨ρ, h, σa, s, rs, AftF.bind s q fun x h1 J H1 ρ1 x1 s1 io q1 => ?_⟩
  cases e : compI (turn ((ev P F).e d) tg ifs elt (G8.wipe σa own)) x [] h1 with
  | ok ys h2 =>
    rw [e] at q1
    obtain ⟨zs, e2, k⟩ := q1
    cases e2
    exact comp_core io s1 (rs.ext x1) e hv fun DD H' ix hD f => k DD H' ix hD f
  | err c h2 => rw [e] at q1; exact False.elim q1
  | stuck => rw [e] at q1; exact False.elim q1
theorem f_comp (hx : XO X W d) {elt tg iter : Expr} {ifs : List Expr} {scope : Scope} {own : List (Str × Nat)} {pos : Pos} {itg iit ielt : IE} {iifs : List IE} {io : List Nat} (hio : own.map (·.2) = io) (hv : ∀ i ∈ slotsC itg, i ∈ io)
    (hi : GI P T X W d tg iter iit) (ok : BlkOk X.N X.env.scope scope own) (hg : Blk X scope fun Y => PG Y tg (gC X.K itg)) (ht : Blk X scope fun Y => IfsOk P T Y d ifs iifs) (he : Blk X scope fun Y => GE P T Y WF d elt ielt)
    (hs : ∀ x, foldedSetIterable iter X.env x = pure x) : GF P T X W d (.ListComp elt [⟨tg, iter, ifs, 0⟩] scope pos) (.comp itg iit iifs ielt io) := .of fun F => by
  subst hio
  exact (pe_lc (tt := tTs T X.K ((ev P F).e d) iifs) (te := tE T X.K ((ev P F).e d) WF ielt) hx.calm hx.nd (hi F) ok hg (fun s H C cl fp => (ht s H C cl fp).pts F) (fun s H C cl fp => he s H C cl fp F) hs).imp fun σ H Q q => fcomp_imp hv q
theorem fcomp2_imp {K : PySem.W.Frag} {tg it tg1 it1 elt : IE} {ifs ifs1 : List IE} {own own1 : List Nat} {F : Nat} {σ : L2.St} {H : Hp} {Q : VK} (hv : ∀ i ∈ slotsC tg, i ∈ own) (hv1 : ∀ i ∈ slotsC tg1, i ∈ own1) (q : tFr T K (stepE P (ev P F) d) W (.comp2 tg it ifs tg1 it1 ifs1 elt own own1) σ H Q) :
    tLc2 (tI K T ((ev P F).e d) W it) (gC K tg) (tTs T K ((ev P F).e d) ifs) (tI K T ((ev P F).e d) WF it1) (gC K tg1) (tTs T K ((ev P F).e d) ifs1) (tE T K ((ev P F).e d) WF elt) own own1 σ H Q := by
  obtain ⟨ρ, h, σa, s, rs, q⟩ := q
  refine ⟨ρ, h, σa, s, rs, AftF.bind s q fun x h1 J H1 ρ1 x1 s1 io q1 => ?_⟩
  cases x with
  | dyn n en => exact False.elim q1
  | dct n l => exact False.elim q1
  | items xs =>
    simp only at q1
    cases e : comp2S (turn2 ((ev P F).e d) tg ifs tg1 it1 ifs1 elt own1 (G8.wipe σa own)) xs [] h1 with
    | ok ys h2 =>
      rw [e] at q1
      obtain ⟨zs, e2, k⟩ := q1
      cases e2
      exact comp2_core io s1 (rs.ext x1) e hv hv1 fun DD H' ix hD f => k DD H' ix hD f
    | err c h2 => rw [e] at q1; exact False.elim q1
    | stuck => rw [e] at q1; exact False.elim q1
theorem f_list (hx : XO X W d) {e : Expr} {ie : IE} (hb : biGen .list [ie] = true) (hg : Gl X "list") (hm : X.mg "list" = none) (ha : GE P T X W d e ie) (hs : noStar e = true) : GF P T X W d (.Call (.Name "list" p) [e] [] pos) (.bi .list [ie]) := .of fun F => by
  refine (pe_callTy (bi_ok hx.calm .list) hg hm (by decide +kernel) (ga_cons ha ga_nil hs F) (by decide) (by decide) (star_cons hs) (star_any rfl)).imp fun σ H Q ⟨ρ, h, σa, s, rs, q⟩ => ?_
  rw [biGen_step hb] at q
  refine ⟨ρ, h, σa, s, rs, AftF.bind s q fun xs h1 vs H1 ρ1 x1 s1 r1 q1 => ?_⟩
  have r1' : Rps X.K T H1 ρ1 xs vs := r1
  cases r1' with
  | nil => exact False.elim q1
  | cons r2 r3 =>
    rename_i y u ys us
    cases r3 with
    | cons _ _ => exfalso; cases y <;> exact q1
    | nil =>
      have : ∃ zs, AftF T X.K W σ ρ1 H1 (.ok (.lst zs) h1) Q ∧ ∃ a vs, u = .ref a ∧ (SqL X.K H1 a vs ∨ SqT X.K H1 a vs) ∧ Rps X.K T H1 ρ1 zs vs := by
        cases y with
        | scr zs =>
          cases r2 with
          | scr sl rr => exact ⟨zs, q1, _, _, rfl, .inl sl.sq, rr⟩
        | tup zs => exact ⟨zs, q1, seq_sq s1 r2 rfl⟩
        | lst zs => exact ⟨zs, q1, seq_sq s1 r2 rfl⟩
        | ref n =>
          simp only [biD] at q1
          cases e : seqOf h1 (.ref n) with
          | none => rw [e] at q1; exact False.elim q1
          | some zs => rw [e] at q1; exact ⟨zs, q1, seq_sq s1 r2 e⟩
        | _ => exact False.elim q1
      obtain ⟨zs, q2, a, ws, rfl, sq, rr⟩ := this
      exact ⟨a, ws, rfl, sq, fun l hl => AftF.new s1 rr q2 l hl⟩
theorem f_cat (ha : GE P T X W d a ia) (hb : GE P T X W d b ib) : GF P T X W d (.BinOp a .Add b pos) (.bin .add ia ib) := .of fun F => by
  refine (pe_op op_cat (ha F) (hb F)).imp fun σ H Q ⟨ρ, h, σa, s, rs, q⟩ => ?_
  refine ⟨ρ, h, σa, s, rs, AftF.bind s q fun x h1 v H1 ρ1 x1 s1 r1 q1 => ⟨ρ1, h1, σa, s1, rs.ext x1, AftF.bind s1 q1 fun y h2 u H2 ρ2 x2 s2 r2 q2 => ?_⟩⟩
  have r1' := Rp.ext x2 r1
  have q3 : AftF T X.K W σ ρ2 H2 (match lstOf h2 x, lstOf h2 y with
    | some xs, some ys => if xs.length + ys.length ≤ LIM then .ok (.lst (xs ++ ys)) h2 else .stuck
    | _, _ => .stuck) Q := by
    cases x with
    | int i =>
      cases y with
      | int j => obtain ⟨_, z, _⟩ := q2; cases z
      | _ => exact q2
    | str i =>
      cases y with
      | str j =>
        simp only [binD] at q2
        split at q2
        · obtain ⟨_, z, _⟩ := q2; cases z
        · exact False.elim q2
      | _ => exact q2
    | tup xs =>
      cases y with
      | tup ys =>
        simp only [binD] at q2
        split at q2
        · obtain ⟨_, z, _⟩ := q2; cases z
        · exact False.elim q2
      | _ => exact q2
    | _ => exact q2
  cases e1 : lstOf h2 x with
  | none => rw [e1] at q3; exact False.elim q3
  | some xs =>
    cases e2 : lstOf h2 y with
    | none => rw [e1, e2] at q3; exact False.elim q3
    | some ys =>
      rw [e1, e2] at q3
      simp only at q3
      split at q3
      · rename_i hl
        obtain ⟨p, vs, rfl, hp, rs1⟩ := Rp.lstOf s2 r1' e1
        obtain ⟨p2, vs2, rfl, hp2, rs2⟩ := Rp.lstOf s2 r2 e2
        exact ⟨p, p2, vs, vs2, rfl, rfl, hp, hp2, by rw [← rs1.length, ← rs2.length]; exact hl, fun l hl => AftF.new s2 (rs1.append rs2) q3 l hl⟩
      · exact False.elim q3
theorem f_rgL (hx : XO X W d) {p2 p3 : Pos} (hg : Gl X "list") (hm : X.mg "list" = none) (hg2 : Gl X "range") (hm2 : X.mg "range" = none) (ha : GE P T X W d a ia) (hs : noStar a = true) :
    GF P T X W d (.Call (.Name "list" p) [.Call (.Name "range" p2) [a] [] p3] [] pos) (.bi .list [.rng1 ia]) := .of fun F =>
  (pe_listRg hx.calm hg hm (prg_1 hg2 hm2 (ha F) (star_cons hs)) (star_cons rfl)).imp fun σ H Q ⟨ρ, h, σa, s, rs, q⟩ => ⟨ρ, h, σa, s, rs, AftF.bind s (show AftF T X.K W σ ρ H (((ev P F).e d ia σa h).bind _) Q from q) fun x h1 v H1 ρ1 x1 s1 r1 q1 => by
    have r1' : Rp X.K T H1 ρ1 x v := r1
    cases r1' with
    | int j =>
      refine ⟨j, rfl, ?_⟩
      simp only at q1
      split at q1
      · rename_i hj
        exact ⟨rg_ok hj, fun l hl => AftF.new s1 (rg_rps j) q1 l hl⟩
      · exact False.elim q1
    | _ => exact False.elim q1⟩
end
end G8

set_option Elab.async false
set_option linter.all false
set_option maxRecDepth 100000
set_option maxHeartbeats 1000000
namespace G8
open PySem PySem.Spec L2
/-! ### len of a dict comprehension -/
def keyD : Key → D
  | .inl i => .int i
  | .inr x => .str x.cps.toList
theorem key_of {K : PySem.W.Frag} {T : Tb} {H : Hp} {ρ : Rho} {y : D} {v : V} (r : Rp K T H ρ y v) (h : leafKey y = true) : ∃ k, v = kV k ∧ keyD k = y := by
  cases r with
  | int i => exact ⟨.inl i, rfl, rfl⟩
  | str x => exact ⟨.inr ⟨x.toArray⟩, rfl, by simp [keyD]⟩
  | _ => simp [leafKey] at h
theorem keyD_eqv : ∀ a b : Key, D.eqv (keyD a) (keyD b) = decide (a = b)
  | .inl i, .inl j => by
    simp only [keyD, D.eqv]
    by_cases h : i = j
    · subst h; simp
    · rw [decide_eq_false (by simpa using h)]; simpa using h
  | .inl i, .inr x => by simp [keyD, D.eqv]
  | .inr x, .inl j => by simp [keyD, D.eqv]
  | .inr ⟨x⟩, .inr ⟨y⟩ => by
    simp only [keyD, D.eqv]
    by_cases h : x = y
    · subst h; simp
    · rw [decide_eq_false (by simpa using h)]
      simpa using fun z => h (by simpa using z)
theorem inD_keys (k : Key) : ∀ ks : List Key, inD (keyD k) (ks.map keyD) = ks.any fun z => decide (z = k)
  | [] => rfl
  | z :: ks => by
    have ih := inD_keys k ks
    unfold inD at ih ⊢
    rw [List.map_cons, List.any_cons, List.any_cons, ih, keyD_eqv]
theorem putK_keys (kvs : List (Key × V)) (k : Key) (z : V) : (putK kvs k z).map (·.1) = if (kvs.map (·.1)).any (fun z => decide (z = k)) then kvs.map (·.1) else kvs.map (·.1) ++ [k] := by
  unfold putK
  have e : (kvs.any fun kv => decide (kv.1 = k)) = (kvs.map (·.1)).any (fun z => decide (z = k)) := by rw [List.any_map]; rfl
  rw [e]
  split
  · rw [List.map_map]
    congr 1
    funext p
    simp only [Function.comp]
    split <;> rfl
  · rw [List.map_append]; rfl
theorem putK_acc {kvs : List (Key × V)} {k : Key} {z : V} {acc : List D} {y : D} (h : (kvs.map (·.1)).map keyD = acc) (hy : keyD k = y) : ((putK kvs k z).map (·.1)).map keyD = addKey y acc := by
  subst h hy
  unfold addKey
  rw [inD_keys, putK_keys]
  split <;> simp
structure FilD (T : Tb) (K : PySem.W.Frag) (ρ0 : Rho) (H0 : Hp) (DD : Addr) (H : Hp) (ix : List Addr) (acc : List D) (h : Sto) : Prop where
  ext : Ext ρ0 H0 ⟨ix, ρ0.bz⟩ H
  sr : SR K T H ⟨ix, ρ0.bz ++ [DD]⟩ h
  dct : ∃ kvs, H DD = some (.dK kvs) ∧ (kvs.map (·.1)).map keyD = acc
section
variable {T : Tb} {K : PySem.W.Frag} {r : Rn} {H : Hp}
theorem FilD.start {ρ0 : Rho} {H0 : Hp} {DD : Addr} {h : Sto} (s : SR K T H0 ρ0 h) (hD : H0 DD = none) : FilD T K ρ0 H0 DD (upd H0 DD (.dK [])) ρ0.ix [] h :=
  ⟨Ext.new_obj s hD, s.busy hD, [], upd_same, rfl⟩
theorem FilD.mv {ρ0 : Rho} {H0 : Hp} {DD : Addr} {ix : List Addr} {acc : List D} {h : Sto} (f : FilD T K ρ0 H0 DD H ix acc h) (hD : H0 DD = none) : Mv ρ0 H0 ⟨ix, ρ0.bz ++ [DD]⟩ H :=
  ⟨fun n a e => f.ext.get e, f.ext.fr, fun a o hn e => ⟨(f.ext.notin hn e).1, fun hm => by
    rcases List.mem_append.mp hm with h | h
    · exact hn.2 h
    · rw [List.mem_singleton.mp h, hD] at e; cases e⟩⟩
theorem FilD.step {ρ0 : Rho} {H0 H1 : Hp} {DD : Addr} {ix : List Addr} {acc : List D} {h h1 : Sto} {ρ1 : Rho} (f : FilD T K ρ0 H0 DD H ix acc h) (hD : H0 DD = none) (x : Ext ⟨ix, ρ0.bz ++ [DD]⟩ H ρ1 H1) (s1 : SR K T H1 ρ1 h1) :
    ρ1 = ⟨ρ1.ix, ρ0.bz ++ [DD]⟩ ∧ FilD T K ρ0 H0 DD H1 ρ1.ix acc h1 := by
  have e : ρ1 = ⟨ρ1.ix, ρ0.bz ++ [DD]⟩ := by cases ρ1; simp only [Rho.mk.injEq, true_and]; exact x.bz
  obtain ⟨vs, hv, rs⟩ := f.dct
  have hDb : DD ∈ (⟨ix, ρ0.bz ++ [DD]⟩ : Rho).bz := List.mem_append_right _ List.mem_cons_self
  refine ⟨e, ⟨?_, by rw [← e]; exact s1, vs, (x.kp DD hDb).trans hv, rs⟩⟩
  refine ⟨List.IsPrefix.trans f.ext.pre x.pre, rfl, fun a o hn eo => ?_, fun a ha => ?_, fun a ha => ?_⟩
  · have h1 := f.ext.fr a o hn eo
    by_cases hd : a = DD
    · subst hd; rw [hD] at eo; cases eo
    · exact x.fr a o ⟨(f.ext.notin hn eo).1, fun hm => by
        rcases List.mem_append.mp hm with h | h
        · exact hn.2 h
        · exact hd (List.mem_singleton.mp h)⟩ h1
  · exact (x.kp a (List.mem_append_left _ ha)).trans (f.ext.kp a ha)
  · rcases x.new a ha with h | ⟨h, hb⟩
    · exact f.ext.new a h
    · have hb0 : a ∉ ρ0.bz := fun z => hb (List.mem_append_left _ z)
      by_cases hr : a ∈ ρ0.ix
      · exact .inl hr
      · refine .inr ⟨?_, hb0⟩
        cases eo : H0 a with
        | none => rfl
        | some o => rw [f.ext.fr a o ⟨hr, hb0⟩ eo] at h; cases h
theorem FilD.put {ρ0 : Rho} {H0 : Hp} {DD : Addr} {ix : List Addr} {acc : List D} {h : Sto} {y : D} {k : Key} {z : V} (f : FilD T K ρ0 H0 DD H ix acc h) (hD : H0 DD = none) (hy : keyD k = y) :
    ∃ kvs, H DD = some (.dK kvs) ∧ kvs.length = acc.length ∧ FilD T K ρ0 H0 DD (upd H DD (.dK (putK kvs k z))) ix (addKey y acc) h := by
  obtain ⟨kvs, hv, rs⟩ := f.dct
  have hDb : DD ∈ (⟨ix, ρ0.bz ++ [DD]⟩ : Rho).bz := List.mem_append_right _ List.mem_cons_self
  refine ⟨kvs, hv, by rw [← rs, List.length_map, List.length_map], ⟨?_, f.sr.fill hDb, _, upd_same, putK_acc rs hy⟩⟩
  refine ⟨f.ext.pre, rfl, fun a o hn eo => ?_, fun a ha => ?_, f.ext.new⟩
  · rw [upd_ne (ne_of_none eo hD)]; exact f.ext.fr a o hn eo
  · have ne : a ≠ DD := fun z => by
      subst z
      have := f.sr.nd
      rw [List.nodup_append] at this
      have h2 := this.2.1
      rw [List.nodup_append] at h2
      exact h2.2.2 a ha a List.mem_cons_self rfl
    rw [upd_ne ne]; exact f.ext.kp a ha
inductive DRun (xs : List D) (t : D → Sto → R D) (ys : List D) (hf : Sto) : Nat → Nat → List D → Sto → Prop
  | stop {i : Nat} : i = xs.length → DRun xs t ys hf 0 i ys hf
  | go {n i : Nat} {acc : List D} {h h1 : Sto} {x y : D} : xs[i]? = some x → t x h = .ok y h1 → acc.length < LIM → DRun xs t ys hf n (i + 1) (addKey y acc) h1 → DRun xs t ys hf (n + 1) i acc h
theorem dlenS_run {t : D → Sto → R D} {ys : List D} {hf : Sto} (xs0 : List D) : ∀ (xs : List D) (i : Nat) (acc : List D) (h : Sto), i ≤ xs0.length → xs0.drop i = xs → dlenS t xs acc h = .ok ys hf → ∃ n, DRun xs0 t ys hf n i acc h
  | [], i, acc, h, hi, hd, e => by
    simp only [dlenS] at e
    cases e
    exact ⟨0, .stop (by have := List.drop_eq_nil_iff.mp hd; omega)⟩
  | x :: xs, i, acc, h, hi, hd, e => by
    have hx : xs0[i]? = some x := by
      have := congrArg (fun l => l[0]?) hd
      simpa only [List.getElem?_drop, Nat.add_zero, List.getElem?_cons_zero] using this
    have hd' : xs0.drop (i + 1) = xs := by rw [← List.drop_drop, hd]; rfl
    simp only [dlenS] at e
    obtain ⟨y, h1, e1, e2⟩ := bind_ok e
    split at e2
    · rename_i hl
      obtain ⟨n, c⟩ := dlenS_run xs0 xs (i + 1) (addKey y acc) h1 (List.getElem?_eq_some_iff.mp hx).1 hd' e2
      exact ⟨n + 1, .go hx e1 hl c⟩
    · cases e2
theorem dturn_ok {tg ik iv : IE} {σ : Sl} {x y : D} {h h2 : Sto} (e : dturn r tg ik iv σ x h = .ok y h2) : ∃ σ1 h1 z, asgC tg x σ = some σ1 ∧ r ik σ1 h = .ok y h1 ∧ r iv σ1 h1 = .ok z h2 ∧ leafKey y = true := by
  unfold dturn at e
  cases e1 : asgC tg x σ with
  | none => rw [e1] at e; cases e
  | some σ1 =>
    rw [e1] at e
    obtain ⟨y1, h1, e2, e3⟩ := bind_ok e
    obtain ⟨z, h3, e4, e5⟩ := bind_ok e3
    split at e5
    · rename_i hk
      cases e5
      exact ⟨σ1, h1, z, rfl, e2, e4, hk⟩
    · cases e5
theorem dlen_core {tg ik iv : IE} {own : List Nat} {xs : List D} {J : It} {σ : L2.St} {σa : Sl} {ρ : Rho} {H : Hp} {h h2 : Sto} {ys : List D} {Q : VK} (io : ItOk K T ρ H (.items xs) J) (s : SR K T H ρ h) (rs : RS K T H ρ σa σ)
    (e : dlenS (dturn r tg ik iv (G8.wipe σa own)) xs [] h = .ok ys h2) (hv : ∀ i ∈ slotsC tg, i ∈ own) (q : ∀ DD H' ix, H DD = none → FilD T K ρ H DD H' ix ys h2 → Q (.ref DD) H') :
    ∀ DD, H DD = none → ∃ W : Nat → Nat → Hp → Prop, (∃ m, W 0 m (upd H DD (.dK []))) ∧ ∀ i m H, W i m H →
      (J.stop i H ∧ Q (.ref DD) H) ∨ (J.go i H ∧ ∃ Nx : Hp → Prop, (∀ H', Nx H' → ∃ m', m' < m ∧ W (i + 1) m' H') ∧ ∀ x H', J.yld i H x H' → gC K tg x (L2.wipe σ own) H' fun σ2 H2 => L2.wipe σ2 own = L2.wipe σ own ∧ tYes σ2 H2 fun b H3 =>
        if b = true then tE T K r WF ik σ2 H3 fun y H4 => tE T K r WF iv σ2 H4 fun z H5 => ∃ kvs k, y = kV k ∧ H5 DD = some (.dK kvs) ∧ kvs.length < sizeLine ∧ Nx (upd H5 DD (.dK (putK kvs k z))) else Nx H3) := by
  intro DD hD
  obtain ⟨n0, c0⟩ := dlenS_run xs xs 0 [] h (Nat.zero_le _) rfl e
  refine ⟨fun i m H1 => ∃ ix acc h1, FilD T K ρ H DD H1 ix acc h1 ∧ DRun xs (dturn r tg ik iv (G8.wipe σa own)) ys h2 m i acc h1, ⟨n0, _, _, _, FilD.start s hD, c0⟩, ?_⟩
  rintro i m H1 ⟨ix, acc, h1, f, c⟩
  obtain ⟨i1, i2⟩ := io ⟨ix, ρ.bz ++ [DD]⟩ H1 h1 (f.mv hD) f.sr i
  cases c with
  | stop ex => exact .inl ⟨i2 (by show some xs[i]? = some none; rw [List.getElem?_eq_none (by omega)]) (fun ys z => by cases z; exact ex), q _ _ _ hD f⟩
  | go ex et hl c' =>
    rename_i n' h3 x y
    have ex' : nxt (.items xs) i h1 = some (some x) := congrArg some ex
    refine .inr ⟨(i1 x ex').1, fun H2 => ∃ ix, FilD T K ρ H DD H2 ix (addKey y acc) h3, fun H2 ⟨ix2, f2⟩ => ⟨n', Nat.lt_succ_self _, ix2, _, _, f2, c'⟩, fun v H' hy => ?_⟩
    obtain ⟨x2, s2, r2⟩ := (i1 x ex').2 v H' hy
    obtain ⟨_, f2⟩ := f.step hD x2 s2
    obtain ⟨σ1, h4, z, e1, e2, e3, hk⟩ := dturn_ok et
    refine gC_rd e1 ((rs.wipe own).mv (f2.mv hD)) r2 hv fun σ2 rs2 hw => ⟨hw.trans (wipe_wipe fun _ h => h), ?_⟩
    unfold tYes
    dsimp only
    rw [if_pos rfl]
    refine tE_rd e2 f2.sr rs2 fun u H4 ρ4 x4 s4 r4 => ?_
    obtain ⟨q4, f4⟩ := f2.step hD x4 s4
    refine tE_rd e3 s4 (rs2.ext x4) fun w H5 ρ5 x5 s5 r5 => ?_
    rw [q4] at x5
    obtain ⟨q5, f5⟩ := f4.step hD x5 s5
    obtain ⟨k, hku, hky⟩ := key_of r4 hk
    obtain ⟨kvs, g1, g2, g3⟩ := f5.put (z := w) hD hky
    exact ⟨kvs, k, hku, g1, by rw [g2]; exact szl _ hl, _, g3⟩
end
section
variable {P : Prg} {T : Tb} {X : Cx} {W : WX} {d : Nat} {pos p : Pos}
theorem g_dlen (hx : XO X W d) {kx vx tg iter : Expr} {scope : Scope} {own : List (Str × Nat)} {dpos : Pos} {itg iit ik iv : IE} {io : List Nat} (hgl : Gl X "len") (hml : X.mg "len" = none) (hio : own.map (·.2) = io) (hv : ∀ i ∈ slotsC itg, i ∈ io)
    (hi : GI P T X W d tg iter iit) (ok : BlkOk X.N X.env.scope scope own) (hg : Blk X scope fun Y => PG Y tg (gC X.K itg)) (hk : Blk X scope fun Y => GE P T Y WF d kx ik) (he : Blk X scope fun Y => GE P T Y WF d vx iv)
    (hs : ∀ x, foldedSetIterable iter X.env x = pure x) : GE P T X W d (.Call (.Name "len" p) [.DictComp kx vx [⟨tg, iter, [], 0⟩] scope dpos] [] pos) (.dlen itg iit ik iv io) := .of fun F => by
  subst hio
  have pd := pe_dc (pos := dpos) (tt := tYes) (tk := tE T X.K ((ev P F).e d) WF ik) (tv := tE T X.K ((ev P F).e d) WF iv) hx.calm hx.nd (hi F) ok hg (fun s H C cl fp => pts_nil) (fun s H C cl fp => hk s H C cl fp F) (fun s H C cl fp => he s H C cl fp F) hs
  refine (pe_callB call_lenD hgl hml (by decide +kernel) (pa_cons pd pa_nil (star_cons rfl)) (by decide) (by decide) (star_cons rfl) (star_any rfl)).imp fun σ H Q ⟨ρ, h, σa, s, rs, q⟩ => ?_
  show tDc (tI X.K T ((ev P F).e d) W iit) (gC X.K itg) tYes _ _ (own.map (·.2)) σ H fun x H1 => ∃ a kvs, [x] = [V.ref a] ∧ H1 a = some (.dK kvs) ∧ Q (.int kvs.length) H1
  refine ⟨ρ, h, σa, s, rs, Aft.bind (Rel2 := Rp X.K T) (Q := Q) (show Aft X.K T W σ ρ H ((evIt ((ev P F).e d) iit σa h).bind _) (Rp X.K T) Q from q) fun x h1 J H1 ρ1 x1 s1 io q1 => ?_⟩
  cases x with
  | dyn n en => exact False.elim q1
  | dct n l => exact False.elim q1
  | items xs =>
    simp only at q1
    cases e : dlenS (dturn ((ev P F).e d) itg ik iv (G8.wipe σa (own.map (·.2)))) xs [] h1 with
    | ok ys h2 =>
      rw [e] at q1
      refine dlen_core (Q := fun x H1 => ∃ a kvs, [x] = [V.ref a] ∧ H1 a = some (.dK kvs) ∧ Q (.int kvs.length) H1) io s1 (rs.ext x1) e hv fun DD H' ix hD f => ?_
      obtain ⟨kvs, g1, g2⟩ := f.dct
      refine ⟨DD, kvs, rfl, g1, ?_⟩
      have : kvs.length = ys.length := by rw [← g2, List.length_map, List.length_map]
      rw [this]
      exact Aft.ok' (Rel := Rp X.K T) (Q := Q) (d := .int (ys.length : Nat)) q1 f.ext (f.sr.unbusy rfl) (.int _)
    | err c h2 => rw [e] at q1; exact False.elim q1
    | stuck => rw [e] at q1; exact False.elim q1
end
end G8

set_option Elab.async false
set_option linter.all false
set_option maxRecDepth 100000
set_option maxHeartbeats 1000000
namespace G8
open PySem PySem.Spec L2
/-! ### statements -/
section
variable (K : PySem.W.Frag) (T : Tb)
def AftS (W : WX) (ρ : Rho) (H : Hp) (r : F) (D : Ends) : Prop := match r with
  | .next σa h' => ∀ σ' H' ρ', Ext ρ H ρ' H' → SR K T H' ρ' h' → RS K T H' ρ' σa σ' → D.nx σ' H'
  | .brk σa h' => ∀ σ' H' ρ', Ext ρ H ρ' H' → SR K T H' ρ' h' → RS K T H' ρ' σa σ' → D.bk σ' H'
  | .cnt σa h' => ∀ σ' H' ρ', Ext ρ H ρ' H' → SR K T H' ρ' h' → RS K T H' ρ' σa σ' → D.ct σ' H'
  | .ret d h' => ∀ v H' ρ', Ext ρ H ρ' H' → SR K T H' ρ' h' → Rp K T H' ρ' d v → D.rt v H'
  | .err c σa h' => ∀ σ' H' ρ', Ext ρ H ρ' H' → SR K T H' ρ' h' → RS K T H' ρ' σa σ' → W (.ref (T.ca c)) none σ' H'
  | .stuck => False
def AftG (ρ : Rho) (H : Hp) (r : R Sl) (Q : L2.St → Hp → Prop) : Prop := match r with
  | .ok σa h' => ∀ σ' H' ρ', Ext ρ H ρ' H' → SR K T H' ρ' h' → RS K T H' ρ' σa σ' → Q σ' H'
  | _ => False
abbrev RnS := IS → Sl → Sto → F
def tS (r : RnS) (W : WX) (s : IS) : TS := fun D σ H => ∃ ρ h σa, SR K T H ρ h ∧ RS K T H ρ σa σ ∧ AftS K T W ρ H (r s σa h) D
def tB (r : RnS) (W : WX) (b : List IS) : TS := fun D σ H => ∃ ρ h σa, SR K T H ρ h ∧ RS K T H ρ σa σ ∧ AftS K T W ρ H (blk r b σa h) D
end
theorem _root_.L2.PS.imp {X : Cx} {st : Stmt} {t t' : TS} (h : PS X st t) (k : ∀ D σ H, t' D σ H → t D σ H) : PS X st t' := ⟨fun pins s σ H D I q => h.run pins s σ H D I (k D σ H q)⟩
theorem _root_.L2.PSs.imp {X : Cx} {st : List Stmt} {t t' : TS} (h : PSs X st t) (k : ∀ D σ H, t' D σ H → t D σ H) : PSs X st t' := ⟨fun pins s σ H D I q => h.run pins s σ H D I (k D σ H q)⟩
theorem _root_.L2.PS.bot {X : Cx} {st : Stmt} {t : TS} (k : ∀ D σ H, ¬ t D σ H) : PS X st t := ⟨fun _ _ σ H D _ q => (k D σ H q).elim⟩
theorem _root_.L2.PSs.ex {ι : Type} {X : Cx} {st : List Stmt} {t : ι → TS} (h : ∀ i, PSs X st (t i)) : PSs X st (fun D σ H => ∃ i, t i D σ H) := ⟨fun pins s σ H D I ⟨i, q⟩ => (h i).run pins s σ H D I q⟩
theorem _root_.L2.PT.ex {ι : Type} {X : Cx} {e : Expr} {t : ι → TT} (h : ∀ i, PT X e (t i)) : PT X e (fun σ H Q => ∃ i, t i σ H Q) := ⟨fun pins s σ H Q I ⟨i, q⟩ => (h i).run pins s σ H Q I q⟩
def GS (P : Prg) (T : Tb) (X : Cx) (W : WX) (d : Nat) (st : Stmt) (is : IS) : Prop := ∀ F, PS X st (tS X.K T ((ev P F).s d) W is)
def GB (P : Prg) (T : Tb) (X : Cx) (W : WX) (d : Nat) (st : List Stmt) (is : List IS) : Prop := ∀ F, PSs X st (tB X.K T ((ev P F).s d) W is)
section
variable {K : PySem.W.Frag} {T : Tb} {W : WX} {σ : L2.St} {ρ ρ1 : Rho} {H H1 : Hp} {D : Ends}
theorem AftS.ext {r : F} (a : AftS K T W ρ H r D) (x : Ext ρ H ρ1 H1) : AftS K T W ρ1 H1 r D := by
  cases r with
  | next σa h' => exact fun σ' H' ρ' y s r => a σ' H' ρ' (x.trans y) s r
  | brk σa h' => exact fun σ' H' ρ' y s r => a σ' H' ρ' (x.trans y) s r
  | cnt σa h' => exact fun σ' H' ρ' y s r => a σ' H' ρ' (x.trans y) s r
  | ret d h' => exact fun v H' ρ' y s r => a v H' ρ' (x.trans y) s r
  | err c σa h' => exact fun σ' H' ρ' y s r => a σ' H' ρ' (x.trans y) s r
  | stuck => exact a
theorem AftS.to {α β : Type} {r : R α} {f : α → Sto → F} {σa : Sl} {Rel : Hp → Rho → α → β → Prop} {Φ : β → Hp → Prop} (rs : RS K T H ρ σa σ) (a : AftS K T W ρ H (r.to σa f) D)
    (k : ∀ d h1 v H1 ρ1, Ext ρ H ρ1 H1 → SR K T H1 ρ1 h1 → Rel H1 ρ1 d v → AftS K T W ρ1 H1 (f d h1) D → Φ v H1) : Aft K T W σ ρ H r Rel Φ := by
  cases r with
  | ok d h1 => exact fun v H1 ρ1 x s rl => k d h1 v H1 ρ1 x s rl (AftS.ext (r := f d h1) a x)
  | err c h1 => exact fun H' ρ' x s => a σ H' ρ' x s (rs.ext x)
  | stuck => exact a
theorem AftS.next {σa : Sl} {h : Sto} (a : AftS K T W ρ H (.next σa h) D) (s : SR K T H ρ h) (rs : RS K T H ρ σa σ) : D.nx σ H := a σ H ρ (Ext.refl _ _) s rs
theorem AftS.then {r : F} {f : Sl → Sto → F} {N : L2.St → Hp → Prop} (a : AftS K T W ρ H (r.then f) D) (k : ∀ σa h1 σ' H1 ρ1, Ext ρ H ρ1 H1 → SR K T H1 ρ1 h1 → RS K T H1 ρ1 σa σ' → AftS K T W ρ1 H1 (f σa h1) D → N σ' H1) : AftS K T W ρ H r { D with nx := N } := by
  cases r with
  | next σa h1 => exact fun σ' H1 ρ1 x s rs => k σa h1 σ' H1 ρ1 x s rs (AftS.ext (r := f σa h1) a x)
  | _ => exact a
theorem AftG.ext {r : R Sl} {Q : L2.St → Hp → Prop} (a : AftG K T ρ H r Q) (x : Ext ρ H ρ1 H1) : AftG K T ρ1 H1 r Q := by
  cases r with
  | ok σa h' => exact fun σ' H' ρ' y s r => a σ' H' ρ' (x.trans y) s r
  | err c h' => exact a
  | stuck => exact a
theorem AftG.bind {α β : Type} {r : R α} {f : α → Sto → R Sl} {Rel : Hp → Rho → α → β → Prop} {Φ : β → Hp → Prop} {Q : L2.St → Hp → Prop} (a : AftG K T ρ H (r.bind f) Q)
    (k : ∀ d h1 v H1 ρ1, Ext ρ H ρ1 H1 → SR K T H1 ρ1 h1 → Rel H1 ρ1 d v → AftG K T ρ1 H1 (f d h1) Q → Φ v H1) : Aft K T W σ ρ H r Rel Φ := by
  cases r with
  | ok d h1 => exact fun v H1 ρ1 x s rl => k d h1 v H1 ρ1 x s rl (AftG.ext (r := f d h1) a x)
  | err c h1 => exact False.elim a
  | stuck => exact False.elim a
/-- a store's result in a statement -/
theorem AftS.noErr {r : R Sl} {σa : Sl} {f : Sl → Sto → F} {Q : L2.St → Hp → Prop} (a : AftS K T W ρ H (r.noErr.to σa f) D) (k : ∀ σ1 h1 σ' H1 ρ1, Ext ρ H ρ1 H1 → SR K T H1 ρ1 h1 → RS K T H1 ρ1 σ1 σ' → AftS K T W ρ1 H1 (f σ1 h1) D → Q σ' H1) : AftG K T ρ H r Q := by
  cases r with
  | ok σ1 h1 => exact fun σ' H1 ρ1 x s rs => k σ1 h1 σ' H1 ρ1 x s rs (AftS.ext (r := f σ1 h1) a x)
  | err c h1 => exact False.elim a
  | stuck => exact False.elim a
end
/-! ### targets -/
section
variable (K : PySem.W.Frag) (T : Tb)
def tG1 (r : Rn) (t : IE) : TG := fun v σ H Q => ∃ ρ h σa d, SR K T H ρ h ∧ RS K T H ρ σa σ ∧ Rp K T H ρ d v ∧ AftG K T ρ H (asg1 r t d σa h) Q
def tGs (r : Rn) (ts : List IE) : TGs := fun vs σ H Q => ∃ ρ h σa ds, SR K T H ρ h ∧ RS K T H ρ σa σ ∧ Rps K T H ρ ds vs ∧ AftG K T ρ H (asgs r ts ds σa h) Q
def tG (r : Rn) (t : IE) : TG := fun v σ H Q => ∃ ρ h σa d, SR K T H ρ h ∧ RS K T H ρ σa σ ∧ Rp K T H ρ d v ∧ AftG K T ρ H (asgT r t d σa h) Q
end
theorem _root_.L2.PG.imp {X : Cx} {e : Expr} {t t' : TG} (h : PG X e t) (k : ∀ v σ H Q, t' v σ H Q → t v σ H Q) : PG X e t' := ⟨fun pins s σ H v u Q I r q => h.run pins s σ H v u Q I r (k v σ H Q q)⟩
theorem _root_.L2.PG.bot {X : Cx} {e : Expr} {t : TG} (k : ∀ v σ H Q, ¬ t v σ H Q) : PG X e t := ⟨fun pins s σ H v u Q I r q => (k v σ H Q q).elim⟩
theorem _root_.L2.PGs.imp {X : Cx} {e : List Expr} {t t' : TGs} (h : PGs X e t) (k : ∀ v σ H Q, t' v σ H Q → t v σ H Q) : PGs X e t' := ⟨fun pins s σ H v u Q I r q => h.run pins s σ H v u Q I r (k v σ H Q q)⟩
def G1 (P : Prg) (T : Tb) (X : Cx) (d : Nat) (e : Expr) (t : IE) : Prop := ∀ F, PG X e (tG1 X.K T ((ev P F).e d) t)
def Gs (P : Prg) (T : Tb) (X : Cx) (d : Nat) (es : List Expr) (ts : List IE) : Prop := ∀ F, PGs X es (tGs X.K T ((ev P F).e d) ts)
def GG (P : Prg) (T : Tb) (X : Cx) (d : Nat) (e : Expr) (t : IE) : Prop := ∀ F, PG X e (tG X.K T ((ev P F).e d) t)
section
variable {P : Prg} {T : Tb} {X : Cx} {W : WX} {d : Nat} {a b : Expr} {ia ib : IE} {pos : Pos}
theorem g1_var {i : Nat} {x : Str} (hN : X.N.Nodup) (hi : X.N[i]? = some x) (hx : Loc X.env.scope x) (hf : X.fn x = true ∨ X.env.scope.names.lookup x = some .local) : G1 P T X d (.Name x pos) (.var i) := fun F =>
  (pg_name hN hi hx hf).imp fun v σ H Q ⟨ρ, h, σa, dd, s, rs, r, q⟩ => q _ H ρ (Ext.refl _ _) s (rs.set i r)
theorem g1_fld {f : Nat} (ow : Own X.K T) (hf : f < T.fl.length) (ha : GE P T X W d a ia) : G1 P T X d (.Attribute a (flN T f) pos) (.fld ia f) := fun F =>
  (pg_fld (ha F)).imp fun v σ H Q ⟨ρ, h, σa, dd, s, rs, r, q⟩ => ⟨ρ, h, σa, s, rs, AftG.bind q fun x h1 u H1 ρ1 x1 s1 r1 q1 => by
    refine setFld_rd (W := WF) (σ := σ) (Qn := fun H' => Q σ H') ow hf s1 r1 (r.ext x1) (AftG.bind (W := WF) (σ := σ) (Rel := fun _ _ (_ : Unit) (_ : Unit) => True) (Φ := fun _ H' => Q σ H') q1 fun _ h2 _ H2 ρ2 x2 s2 _ q2 => ?_)
    exact q2 σ H2 ρ2 (Ext.refl _ _) s2 ((rs.ext x1).ext x2)⟩
theorem asg_sub {o i : Expr} {env : Env} (hs : plainIx i = true) : ∀ v, assign (.Subscript o i pos) env v = (do
      let ov ← holding [v] (eval o env)
      let iv ← holding [v, ov] (eval i env)
      standAt pos
      holding [v, ov, iv] (setItem ov iv v)
      release [v, ov, iv] []) := fun v => by
  cases i <;> first | rfl | (simp [plainIx] at hs)
theorem g1_idx (ha : GE P T X W d a ia) (hb : GE P T X W d b ib) (hs : plainIx b = true) : G1 P T X d (.Subscript a b pos) (.idx ia ib) := fun F =>
  (pg_sub (ha F) (hb F) set_list (asg_sub hs)).imp fun v σ H Q ⟨ρ, h, σa, dd, s, rs, r, q⟩ => ⟨ρ, h, σa, s, rs, AftG.bind q fun x h1 u H1 ρ1 x1 s1 r1 q1 => ⟨ρ1, h1, σa, s1, rs.ext x1, AftG.bind q1 fun y h2 w H2 ρ2 x2 s2 r2 q2 => by
    refine setIdx_rd (W := WF) (σ := σ) (Qn := fun H' => Q σ H') s2 (Rp.ext x2 r1) r2 ((r.ext x1).ext x2) (AftG.bind (W := WF) (σ := σ) (Rel := fun _ _ (_ : Unit) (_ : Unit) => True) (Φ := fun _ H' => Q σ H') q2 fun _ h3 _ H3 ρ3 x3 s3 _ q3 => ?_)
    exact q3 σ H3 ρ3 (Ext.refl _ _) s3 (((rs.ext x1).ext x2).ext x3)⟩⟩
theorem gs_nil : Gs P T X d [] [] := fun F => pgs_nil.imp fun v σ H Q ⟨ρ, h, σa, ds, s, rs, r, q⟩ => by
  cases r with
  | nil => exact ⟨rfl, q σ H ρ (Ext.refl _ _) s rs⟩
  | cons _ _ => exact False.elim q
theorem asgEach_cons {e : Expr} {es : List Expr} {env : Env} (h : noStar e = true) : assignEach (e :: es) env = (false, assign e env) :: assignEach es env := by
  cases e <;> first | rfl | (simp [noStar] at h)
theorem gs_cons {e : Expr} {es : List Expr} {t : IE} {ts : List IE} (h1 : G1 P T X d e t) (h2 : Gs P T X d es ts) (hs : noStar e = true) : Gs P T X d (e :: es) (t :: ts) := fun F =>
  (pgs_cons (h1 F) (h2 F) (by rw [asgEach_cons hs]; rfl)).imp fun v σ H Q ⟨ρ, h, σa, ds, s, rs, r, q⟩ => by
    cases r with
    | nil => exact False.elim q
    | cons r1 r2 =>
      refine ⟨_, _, rfl, ρ, h, σa, _, s, rs, r1, ?_⟩
      simp only [asgs] at q
      cases e1 : asg1 ((ev P F).e d) t _ σa h with
      | ok σ1 h1 =>
        rw [e1] at q
        exact fun σ' H' ρ' x1 s1 rs1 => ⟨ρ', h1, σ1, _, s1, rs1, Rps.ext x1 r2, AftG.ext (r := asgs ((ev P F).e d) ts _ σ1 h1) q x1⟩
      | err c h1 => rw [e1] at q; exact False.elim q
      | stuck => rw [e1] at q; exact False.elim q
def isTup : IE → Bool
  | .tup _ => true
  | _ => false
theorem asgT_one {r : Rn} {t : IE} {x : D} {σ : Sl} {h : Sto} (ht : isTup t = false) : asgT r t x σ h = asg1 r t x σ h := by
  cases t <;> first | rfl | (simp [isTup] at ht)
theorem gg_one {e : Expr} {t : IE} (ht : isTup t = false) (h : G1 P T X d e t) : GG P T X d e t := fun F => (h F).imp fun v σ H Q ⟨ρ, h, σa, dd, s, rs, r, q⟩ => ⟨ρ, h, σa, dd, s, rs, r, by rw [← asgT_one ht]; exact q⟩
theorem asgEach_len {env : Env} : ∀ {es : List Expr}, es.all noStar = true → (assignEach es env).length = es.length ∧ (assignEach es env).findIdx? (·.1) = none
  | [], _ => ⟨rfl, rfl⟩
  | e :: es, h => by
    simp only [List.all_cons, Bool.and_eq_true] at h
    rw [asgEach_cons h.1]
    obtain ⟨h1, h2⟩ := asgEach_len (env := env) h.2
    refine ⟨by rw [List.length_cons, List.length_cons, h1], ?_⟩
    rw [List.findIdx?_cons]
    simp [h2]
theorem asgs_len {r : Rn} : ∀ {ts : List IE} {ds : List D} {σ σ' : Sl} {h h' : Sto}, asgs r ts ds σ h = .ok σ' h' → ts.length = ds.length
  | [], [], _, _, _, _, _ => rfl
  | [], _ :: _, _, _, _, _, e => by simp [asgs] at e
  | _ :: _, [], _, _, _, _, e => by simp [asgs] at e
  | t :: ts, x :: ds, σ, σ', h, h', e => by
    simp only [asgs] at e
    obtain ⟨σ1, h1, _, e2⟩ := bind_ok e
    rw [List.length_cons, List.length_cons, asgs_len e2]
theorem gg_tup {es : List Expr} {ts : List IE} {k : Nat} (hc : X.calm = true) (h : Gs P T X d es ts) (hs : es.all noStar = true) (hl : ts.length = es.length) : GG P T X d (.Tuple es k pos) (.tup ts) := fun F => by
  obtain ⟨h1, h2⟩ := asgEach_len (env := X.env) hs
  refine (pg_tup hc (h F) h1 h2).imp fun v σ H Q ⟨ρ, h, σa, dd, s, rs, r, q⟩ => ?_
  cases r with
  | tup st rr =>
    cases e : asgs ((ev P F).e d) ts _ σa h with
    | ok σ' h' =>
      refine ⟨_, _, rfl, st.sq, ?_, ρ, h, σa, _, s, rs, rr, q⟩
      rw [← rr.length, ← asgs_len e, hl]
    | err c h' => simp only [asgT] at q; rw [e] at q; exact False.elim q
    | stuck => simp only [asgT] at q; rw [e] at q; exact False.elim q
  | _ => exact False.elim q
end
/-! ### the statements themselves -/
structure XS (X : Cx) (W : WX) (d : Nat) : Prop extends XO X W d where
  po : PassesOwn (model X.prog X.w) X.A X.env X.xe
section
variable {P : Prg} {T : Tb} {X : Cx} {W : WX} {d : Nat} {a b c e : Expr} {ia ib ic ie : IE} {pos : Pos}
theorem bot_s {K : PySem.W.Frag} {is : IS} (D : Ends) (σ : L2.St) (H : Hp) : ¬ tS K T ((ev P 0).s d) W is D σ H := fun ⟨_, _, _, _, _, q⟩ => q
theorem GS.of {st : Stmt} {is : IS} (k : ∀ F, PS X st (tS X.K T (stepS P (ev P F) d) W is)) : GS P T X W d st is := fun F => match F with
  | 0 => PS.bot bot_s
  | F + 1 => k F
theorem gb_nil : GB P T X W d [] [] := fun F => pss_nil.imp fun D σ H ⟨ρ, h, σa, s, rs, q⟩ => AftS.next q s rs
theorem gb_cons {st : Stmt} {sts : List Stmt} {is : IS} {iss : List IS} (h1 : GS P T X W d st is) (h2 : GB P T X W d sts iss) : GB P T X W d (st :: sts) (is :: iss) := fun F =>
  (pss_cons (h1 F) (h2 F)).imp fun D σ H ⟨ρ, h, σa, s, rs, q⟩ => ⟨ρ, h, σa, s, rs, AftS.then q fun σ1 h1 σ' H1 ρ1 x1 s1 rs1 q1 => ⟨ρ1, h1, σ1, s1, rs1, q1⟩⟩
theorem gs_pass : GS P T X W d (.Pass pos) .pass := .of fun F => ps_pass.imp fun D σ H ⟨ρ, h, σa, s, rs, q⟩ => AftS.next q s rs
theorem gs_brk : GS P T X W d (.Break pos) .brk := .of fun F => ps_break.imp fun D σ H ⟨ρ, h, σa, s, rs, q⟩ => q σ H ρ (Ext.refl _ _) s rs
theorem gs_cnt : GS P T X W d (.Continue pos) .cnt := .of fun F => ps_continue.imp fun D σ H ⟨ρ, h, σa, s, rs, q⟩ => q σ H ρ (Ext.refl _ _) s rs
theorem gs_exp (he : GE P T X W d e ie) (hs : swapsWith e none pos.line X.env = pure false) : GS P T X W d (.Expr e pos) (.exp ie) := .of fun F => (ps_expr (he F) hs).imp fun D σ H ⟨ρ, h, σa, s, rs, q⟩ =>
  ⟨ρ, h, σa, s, rs, AftS.to rs q fun x h1 v H1 ρ1 x1 s1 r1 q1 => AftS.next q1 s1 (rs.ext x1)⟩
theorem gs_ret (he : GE P T X W d e ie) : GS P T X W d (.Return (some e) pos) (.ret ie) := .of fun F => (ps_ret (he F)).imp fun D σ H ⟨ρ, h, σa, s, rs, q⟩ =>
  ⟨ρ, h, σa, s, rs, AftS.to rs q fun x h1 v H1 ρ1 x1 s1 r1 q1 => q1 v H1 ρ1 (Ext.refl _ _) s1 r1⟩
theorem gs_if {p q : List Stmt} {ip iq : List IS} (hc : GT P T X W d c ic) (hp : GB P T X W d p ip) (hq : GB P T X W d q iq) : GS P T X W d (.If c p q pos) (.ite ic ip iq) := .of fun F => (ps_if (hc F) (hp F) (hq F)).imp fun D σ H ⟨ρ, h, σa, s, rs, q⟩ => by
  refine ⟨ρ, h, σa, s, rs, ?_⟩
  have q' : AftS X.K T W ρ H ((((ev P F).e d ic σa h).bind toB).to σa fun b h => if b then blk ((ev P F).s d) ip σa h else blk ((ev P F).s d) iq σa h) D := by
    simp only [stepS] at q
    cases e : (ev P F).e d ic σa h with
    | ok x h1 =>
      rw [e] at q
      cases x with
      | bl b => cases b <;> exact q
      | _ => exact q
    | err c h1 => rw [e] at q; exact q
    | stuck => rw [e] at q; exact q
  exact AftS.to rs q' fun b h1 v H1 ρ1 x1 s1 r1 q1 => by
    have r1' : v = b := r1
    subst r1'
    cases v with
    | true => rw [if_pos rfl]; exact ⟨ρ1, h1, σa, s1, rs.ext x1, q1⟩
    | false => rw [if_neg (by simp)]; exact ⟨ρ1, h1, σa, s1, rs.ext x1, q1⟩
theorem gs_asg {tg : Expr} {it : IE} (he : GE P T X W d e ie) (hg : GG P T X d tg it) (hs : swapsWithSole [tg] e pos.line X.env = pure false) (hw : swappedStores [tg] e X.env = pure none) (hn : noStar tg = true) : GS P T X W d (.Assign [tg] e pos) (.asg it ie) := .of fun F =>
  (ps_asg (he F) (hg F) hs hw (by rw [asgEach_cons hn]; rfl)).imp fun D σ H ⟨ρ, h, σa, s, rs, q⟩ =>
    ⟨ρ, h, σa, s, rs, AftS.to rs q fun x h1 v H1 ρ1 x1 s1 r1 q1 => ⟨ρ1, h1, σa, x, s1, rs.ext x1, r1, AftS.noErr q1 fun σ1 h2 σ' H2 ρ2 x2 s2 rs2 q2 => AftS.next q2 s2 rs2⟩⟩
theorem _root_.L2.PS.ex {ι : Type} {X : Cx} {st : Stmt} {t : ι → TS} (h : ∀ i, PS X st (t i)) : PS X st (fun D σ H => ∃ i, t i D σ H) := ⟨fun pins s σ H D I ⟨i, q⟩ => (h i).run pins s σ H D I q⟩
/-- name = e, by the value's reading -/
theorem asg_val {K : PySem.W.Frag} {F i : Nat} {D : Ends} {σ : L2.St} {H : Hp} (q : tS K T (stepS P (ev P F) d) W (.asg (.var i) ie) D σ H) : tE T K ((ev P F).e d) W ie σ H (fun v H1 => D.nx (σ.set i (some v)) H1) := by
  obtain ⟨ρ, h, σa, s, rs, q⟩ := q
  exact ⟨ρ, h, σa, s, rs, AftS.to rs q fun x h1 v H1 ρ1 x1 s1 r1 q1 => AftS.next q1 s1 ((rs.ext x1).set i r1)⟩
theorem up_e {K : PySem.W.Frag} {F : Nat} {σ : L2.St} {H : Hp} {Q : VK} (q : tE T K ((ev P F).e d) W ie σ H Q) : ∃ G, F = G + 1 ∧ tE T K (stepE P (ev P G) d) W ie σ H Q := by
  cases F with
  | zero => exact (bot_e σ H Q q).elim
  | succ G => exact ⟨G, rfl, q⟩
theorem up_f {K : PySem.W.Frag} {F : Nat} {σ : L2.St} {H : Hp} {Q : VK} (q : tFr T K ((ev P F).e d) W ie σ H Q) : ∃ G, F = G + 1 ∧ tFr T K (stepE P (ev P G) d) W ie σ H Q := by
  cases F with
  | zero => exact (bot_f σ H Q q).elim
  | succ G => exact ⟨G, rfl, q⟩
theorem gs_setLc (hx : XO X W d) (mu : Bool) {i : Nat} {y : Str} {py : Pos} {elt tg iter : Expr} {ifs : List Expr} {scope : Scope} {own : List (Str × Nat)} {lpos : Pos} {itg iit ielt : IE} {iifs : List IE} {io : List Nat} (hy : X.N[i]? = some y) (hyl : X.env.scope.names.lookup y = some .local)
    (hsw : swapsWith (.ListComp elt [⟨tg, iter, ifs, 0⟩] scope lpos) (some (.Name y py)) pos.line X.env = pure true) (hio : own.map (·.2) = io) (hv : ∀ i ∈ slotsC itg, i ∈ io)
    (hi : GI P T X W d tg iter iit) (ok : BlkOk X.N X.env.scope scope own) (hg : Blk X scope fun Y => PG Y tg (gC X.K itg)) (ht : Blk X scope fun Y => IfsOk P T Y d ifs iifs) (he : Blk X scope fun Y => GE P T Y WF d elt ielt)
    (hs : ∀ x, foldedSetIterable iter X.env x = pure x) : GS P T X W d (.Assign [.Name y py] (.ListComp elt [⟨tg, iter, ifs, 0⟩] scope lpos) pos) (.asg (.var i) (if mu then .mut (.comp itg iit iifs ielt io) else .comp itg iit iifs ielt io)) := .of fun F => by
  subst hio
  refine (PS.ex fun F => ps_setLc (tt := tTs T X.K ((ev P F).e d) iifs) (te := tE T X.K ((ev P F).e d) WF ielt) hx.calm hx.nd hy hyl hsw (hi F) ok hg (fun s H C cl fp => (ht s H C cl fp).pts F) (fun s H C cl fp => he s H C cl fp F) hs).imp fun D σ H q => ?_
  obtain ⟨G, _, q1⟩ := up_e (asg_val q)
  cases mu with
  | false => exact ⟨G, lc_imp hv q1⟩
  | true =>
    obtain ⟨G2, _, q2⟩ := up_f (mut_imp q1)
    exact ⟨G2, fcomp_imp hv q2⟩
theorem gs_setLc2 (hx : XO X W d) (mu : Bool) {i : Nat} {y : Str} {py : Pos} {elt tg iter tg1 iter1 : Expr} {ifs ifs1 : List Expr} {scope : Scope} {own : List (Str × Nat)} {lpos : Pos} {itg iit itg1 iit1 ielt : IE} {iifs iifs1 : List IE} {io io1 : List Nat} (hy : X.N[i]? = some y) (hyl : X.env.scope.names.lookup y = some .local)
    (hsw : swapsWith (.ListComp elt [⟨tg, iter, ifs, 0⟩, ⟨tg1, iter1, ifs1, 0⟩] scope lpos) (some (.Name y py)) pos.line X.env = pure true) (hio : own.map (·.2) = io) (hv : ∀ i ∈ slotsC itg, i ∈ io) (hv1 : ∀ i ∈ slotsC itg1, i ∈ io1)
    (hvv : ∀ i ∈ io1, i ∈ io) (hi : GI P T X W d tg iter iit) (ok : BlkOk X.N X.env.scope scope own) (hg : Blk X scope fun Y => PG Y tg (gC X.K itg)) (ht : Blk X scope fun Y => IfsOk P T Y d ifs iifs)
    (hi1 : Blk X scope fun Y => GI P T Y WF d tg1 iter1 iit1) (hg1 : Blk X scope fun Y => PG Y tg1 (gC X.K itg1)) (ht1 : Blk X scope fun Y => IfsOk P T Y d ifs1 iifs1) (he : Blk X scope fun Y => GE P T Y WF d elt ielt)
    (hs : ∀ x, foldedSetIterable iter X.env x = pure x) (hs1 : ∀ env x, foldedSetIterable iter1 env x = pure x) :
    GS P T X W d (.Assign [.Name y py] (.ListComp elt [⟨tg, iter, ifs, 0⟩, ⟨tg1, iter1, ifs1, 0⟩] scope lpos) pos) (.asg (.var i) (if mu then .mut (.comp2 itg iit iifs itg1 iit1 iifs1 ielt io io1) else .comp2 itg iit iifs itg1 iit1 iifs1 ielt io io1)) := .of fun F => by
  subst hio
  refine (PS.ex fun F => ps_setLc2 (wi1 := tI X.K T ((ev P F).e d) WF iit1) (tt := tTs T X.K ((ev P F).e d) iifs) (tt1 := tTs T X.K ((ev P F).e d) iifs1) (te := tE T X.K ((ev P F).e d) WF ielt) hx.calm hx.nd hy hyl hsw (hi F) ok hvv hg (fun s H C cl fp => (ht s H C cl fp).pts F) (fun s H C cl fp => hi1 s H C cl fp F) hg1
    (fun s H C cl fp => (ht1 s H C cl fp).pts F) (fun s H C cl fp => he s H C cl fp F) hs hs1).imp fun D σ H q => ?_
  obtain ⟨G, _, q1⟩ := up_e (asg_val q)
  cases mu with
  | false => exact ⟨G, lc2_imp hv hv1 q1⟩
  | true =>
    obtain ⟨G2, _, q2⟩ := up_f (mut_imp q1)
    exact ⟨G2, fcomp2_imp hv hv1 q2⟩
/-! ### op= -/
theorem gs_aug {i : Nat} {x : Str} {pos' : Pos} {op : BOp} {o : Operator} (ho : opb op = o) (hN : X.N.Nodup) (hi : X.N[i]? = some x) (hx : Loc X.env.scope x) (hf : X.fn x = true ∨ X.env.scope.names.lookup x = some .local) (he : GE P T X W d e ie) :
    GS P T X W d (.AugAssign (.Name x pos') o e pos) (.aug i op ie) := .of fun F => by
  subst ho
  refine (ps_aug (ti := ra X.K op) hN hi hx (he F) (aug_ok op) hf).imp fun D σ H ⟨ρ, h, σa, s, rs, q⟩ => ?_
  simp only [stepS] at q
  cases e1 : σa[i]? with
  | none => rw [e1] at q; exact False.elim q
  | some oo =>
    cases oo with
    | none => rw [e1] at q; exact False.elim q
    | some x =>
      rw [e1] at q
      obtain ⟨v, hv, r⟩ := rs.at_ i x e1
      refine ⟨v, hv, ρ, h, σa, s, rs, AftS.to rs q fun y h1 u H1 ρ1 x1 s1 r1 q1 => ?_⟩
      refine aug_rd (W := W) (σ := σ) (Q := fun z H2 => D.nx (σ.set i (some z)) H2) s1 (r.ext x1) r1 ?_
      exact AftS.to (rs.ext x1) q1 fun z h2 w H2 ρ2 x2 s2 r2 q2 => AftS.next q2 s2 (((rs.ext x1).ext x2).set i r2)
end
end G8

set_option Elab.async false
set_option linter.all false
set_option maxRecDepth 100000
set_option maxHeartbeats 1000000
namespace G8
open PySem PySem.Spec L2
/-! ### for -/
def ends : F → Prop
  | .ret _ _ => True
  | .err _ _ _ => True
  | .stuck => True
  | _ => False
inductive FRun (it : Itv) (body : D → Sl → Sto → F) (out : F) : Nat → Nat → Sl → Sto → Prop
  | stop {i : Nat} {σ : Sl} {h : Sto} : nxt it i h = some none → out = .next σ h → FRun it body out 0 i σ h
  | go {n i : Nat} {σ σ1 : Sl} {h h1 : Sto} {x : D} : nxt it i h = some (some x) → (body x σ h = .next σ1 h1 ∨ body x σ h = .cnt σ1 h1) → FRun it body out n (i + 1) σ1 h1 → FRun it body out (n + 1) i σ h
  | brk {i : Nat} {σ σ1 : Sl} {h h1 : Sto} {x : D} : nxt it i h = some (some x) → body x σ h = .brk σ1 h1 → out = .next σ1 h1 → FRun it body out 1 i σ h
  | out {i : Nat} {σ : Sl} {h : Sto} {x : D} : nxt it i h = some (some x) → body x σ h = out → ends out → FRun it body out 1 i σ h
  | bad {i : Nat} {σ : Sl} {h : Sto} : out = .stuck → FRun it body out 0 i σ h
theorem forS_run {body : D → Sl → Sto → F} {out : F} (xs0 : List D) : ∀ (xs : List D) (i : Nat) (σ : Sl) (h : Sto), xs0.drop i = xs → forS body xs σ h = out → ∃ n, FRun (.items xs0) body out n i σ h
  | [], i, σ, h, hd, e => by
    simp only [forS] at e
    refine ⟨0, .stop ?_ e.symm⟩
    show some xs0[i]? = some none
    rw [List.getElem?_eq_none (List.drop_eq_nil_iff.mp hd)]
  | x :: xs, i, σ, h, hd, e => by
    have hx : nxt (.items xs0) i h = some (some x) := by
      show some xs0[i]? = some (some x)
      have := congrArg (fun l => l[0]?) hd
      simp only [List.getElem?_drop, Nat.add_zero, List.getElem?_cons_zero] at this
      rw [this]
    have hd' : xs0.drop (i + 1) = xs := by rw [← List.drop_drop, hd]; rfl
    simp only [forS] at e
    cases e1 : body x σ h with
    | next σ1 h1 =>
      rw [e1] at e
      obtain ⟨n, c⟩ := forS_run xs0 xs (i + 1) σ1 h1 hd' e
      exact ⟨n + 1, .go hx (.inl e1) c⟩
    | cnt σ1 h1 =>
      rw [e1] at e
      obtain ⟨n, c⟩ := forS_run xs0 xs (i + 1) σ1 h1 hd' e
      exact ⟨n + 1, .go hx (.inr e1) c⟩
    | brk σ1 h1 => rw [e1] at e; exact ⟨1, .brk hx e1 e.symm⟩
    | ret v h1 => rw [e1] at e; exact ⟨1, .out hx (e1.trans e) (by rw [← e]; trivial)⟩
    | err c σ1 h1 => rw [e1] at e; exact ⟨1, .out hx (e1.trans e) (by rw [← e]; trivial)⟩
    | stuck => rw [e1] at e; exact ⟨1, .out hx (e1.trans e) (by rw [← e]; trivial)⟩
theorem forD_run {body : D → Sl → Sto → F} {out : F} {m : Nat} {en : Bool} : ∀ (k i : Nat) (σ : Sl) (h : Sto), forD body m en k i σ h = out → ∃ n, FRun (.dyn m en) body out n i σ h
  | k, i, σ, h, e => by
    unfold forD at e
    cases e1 : itemAt h m en i with
    | none => rw [e1] at e; exact ⟨0, .bad e.symm⟩
    | some o =>
      cases o with
      | none => rw [e1] at e; exact ⟨0, .stop e1 e.symm⟩
      | some x =>
        rw [e1] at e
        cases k with
        | zero => exact ⟨0, .bad e.symm⟩
        | succ k =>
          simp only at e
          cases e2 : body x σ h with
          | next σ1 h1 =>
            rw [e2] at e
            obtain ⟨n, c⟩ := forD_run k (i + 1) σ1 h1 e
            exact ⟨n + 1, .go e1 (.inl e2) c⟩
          | cnt σ1 h1 =>
            rw [e2] at e
            obtain ⟨n, c⟩ := forD_run k (i + 1) σ1 h1 e
            exact ⟨n + 1, .go e1 (.inr e2) c⟩
          | brk σ1 h1 => rw [e2] at e; exact ⟨1, .brk e1 e2 e.symm⟩
          | ret v h1 => rw [e2] at e; exact ⟨1, .out e1 (e2.trans e) (by rw [← e]; trivial)⟩
          | err c σ1 h1 => rw [e2] at e; exact ⟨1, .out e1 (e2.trans e) (by rw [← e]; trivial)⟩
          | stuck => rw [e2] at e; exact ⟨1, .out e1 (e2.trans e) (by rw [← e]; trivial)⟩
theorem forK_run {body : D → Sl → Sto → F} {out : F} {m l : Nat} : ∀ (k i : Nat) (σ : Sl) (h : Sto), forK body m l k i σ h = out → ∃ n, FRun (.dct m l) body out n i σ h
  | k, i, σ, h, e => by
    unfold forK at e
    cases e1 : keyAt h m l i with
    | none => rw [e1] at e; exact ⟨0, .bad e.symm⟩
    | some o =>
      cases o with
      | none => rw [e1] at e; exact ⟨0, .stop e1 e.symm⟩
      | some x =>
        rw [e1] at e
        cases k with
        | zero => exact ⟨0, .bad e.symm⟩
        | succ k =>
          simp only at e
          cases e2 : body x σ h with
          | next σ1 h1 =>
            rw [e2] at e
            obtain ⟨n, c⟩ := forK_run k (i + 1) σ1 h1 e
            exact ⟨n + 1, .go e1 (.inl e2) c⟩
          | cnt σ1 h1 =>
            rw [e2] at e
            obtain ⟨n, c⟩ := forK_run k (i + 1) σ1 h1 e
            exact ⟨n + 1, .go e1 (.inr e2) c⟩
          | brk σ1 h1 => rw [e2] at e; exact ⟨1, .brk e1 e2 e.symm⟩
          | ret v h1 => rw [e2] at e; exact ⟨1, .out e1 (e2.trans e) (by rw [← e]; trivial)⟩
          | err c σ1 h1 => rw [e2] at e; exact ⟨1, .out e1 (e2.trans e) (by rw [← e]; trivial)⟩
          | stuck => rw [e2] at e; exact ⟨1, .out e1 (e2.trans e) (by rw [← e]; trivial)⟩
section
variable {P : Prg} {T : Tb} {X : Cx} {W : WX} {d : Nat} {a b c e : Expr} {ia ib ic ie : IE} {pos : Pos}
/-- a turn's body -/
def turnF (r : Ev) (d : Nat) (t : IE) (b : List IS) : D → Sl → Sto → F := fun x σ h => (asgT (r.e d) t x σ h).noErr.to σ fun σ1 h1 => blk (r.s d) b σ1 h1
theorem for_core {K : PySem.W.Frag} {r : Ev} {t : IE} {bd : List IS} {it : Itv} {J : It} {σ : L2.St} {σa : Sl} {ρ : Rho} {H : Hp} {h : Sto} {D : Ends} {n0 : Nat} {out : F} (io : ItOk K T ρ H it J) (s : SR K T H ρ h) (rs : RS K T H ρ σa σ)
    (c0 : FRun it (turnF r d t bd) out n0 0 σa h) (q : AftS K T W ρ H out D) :
    ∃ Wi : Nat → Nat → L2.St → Hp → Prop, (∃ m, Wi 0 m σ H) ∧ ∀ i m σ H, Wi i m σ H →
      (J.stop i H ∧ D.nx σ H) ∨ (J.go i H ∧ ∃ N : L2.St → Hp → Prop, (∀ σ' H', N σ' H' → ∃ m', m' < m ∧ Wi (i + 1) m' σ' H') ∧ ∀ x H', J.yld i H x H' → tG K T (r.e d) t x σ H' fun σ2 H2 => tB K T (r.s d) W bd { D with nx := N, ct := N, bk := D.nx } σ2 H2) := by
  refine ⟨fun i m σ1 H1 => ∃ ρ1 h1 σa1, Ext ρ H ρ1 H1 ∧ SR K T H1 ρ1 h1 ∧ RS K T H1 ρ1 σa1 σ1 ∧ FRun it (turnF r d t bd) out m i σa1 h1 ∧ upto it i, ⟨n0, ρ, h, σa, Ext.refl _ _, s, rs, c0, upto0 it⟩, ?_⟩
  rintro i m σ1 H1 ⟨ρ1, h1, σa1, x1, s1, rs1, c, u⟩
  obtain ⟨i1, i2⟩ := io ρ1 H1 h1 x1.mv s1 i
  have q1 := q.ext x1
  -- a turn
  have turns : ∀ {x : G8.D} {res : F} {N : L2.St → Hp → Prop}, nxt it i h1 = some (some x) → turnF r d t bd x σa1 h1 = res → (∀ {H2 : Hp}, Ext ρ1 H1 ρ1 H2 → AftS K T W ρ1 H2 res { D with nx := N, ct := N, bk := D.nx }) →
      ∀ v H', J.yld i H1 v H' → tG K T (r.e d) t v σ1 H' fun σ2 H2 => tB K T (r.s d) W bd { D with nx := N, ct := N, bk := D.nx } σ2 H2 := by
    intro x res N ex et q2 v H' hy
    obtain ⟨x2, s2, r2⟩ := (i1 x ex).2 v H' hy
    refine ⟨ρ1, h1, σa1, x, s2, rs1.ext x2, r2, ?_⟩
    have q3 := q2 x2
    rw [← et] at q3
    exact AftS.noErr q3 fun σ2 h2 σ' H2 ρ2 x3 s3 rs3 q4 => ⟨ρ2, h2, σ2, s3, rs3, q4⟩
  cases c with
  | stop ex e => subst e; exact .inl ⟨i2 ex (upto_end u ex), AftS.next q1 s1 rs1⟩
  | bad e => subst e; exact False.elim q1
  | go ex et c' =>
    rename_i n' σ2 h2 x
    refine .inr ⟨(i1 x ex).1, fun σ' H' => ∃ ρ2, Ext ρ1 H1 ρ2 H' ∧ SR K T H' ρ2 h2 ∧ RS K T H' ρ2 σ2 σ', fun σ' H' ⟨ρ2, y1, y2, y3⟩ => ⟨n', Nat.lt_succ_self _, ρ2, h2, σ2, x1.trans y1, y2, y3, c', upto_next ex⟩, ?_⟩
    rcases et with et | et
    · exact turns ex et fun {H2} x2 => fun σ' H' ρ' y1 y2 y3 => ⟨ρ', x2.trans y1, y2, y3⟩
    · exact turns ex et fun {H2} x2 => fun σ' H' ρ' y1 y2 y3 => ⟨ρ', x2.trans y1, y2, y3⟩
  | brk ex et e =>
    subst e
    exact .inr ⟨(i1 _ ex).1, fun _ _ => False, fun _ _ z => z.elim, turns ex et fun {H2} x2 => AftS.ext (r := .next _ _) q1 x2⟩
  | out ex et he =>
    refine .inr ⟨(i1 _ ex).1, fun _ _ => False, fun _ _ z => z.elim, turns ex et fun {H2} x2 => ?_⟩
    have q2 := q1.ext x2
    cases out with
    | ret v h2 => exact q2
    | err c σ2 h2 => exact q2
    | stuck => exact q2
    | next _ _ => exact he.elim
    | brk _ _ => exact he.elim
    | cnt _ _ => exact he.elim
theorem gs_for (hx : XS X W d) {tg iter : Expr} {body : List Stmt} {it iit : IE} {ib : List IS} (hi : GI P T X W d tg iter iit) (hg : GG P T X d tg it) (hb : GB P T X W d body ib) (hs : ∀ x, foldedSetIterable iter X.env x = pure x) :
    GS P T X W d (.For tg iter body [] pos) (.for_ it iit ib) := .of fun F =>
  (ps_for hx.po hx.calm (hi F) (hg F) (hb F) hs).imp fun D σ H ⟨ρ, h, σa, s, rs, q⟩ => ⟨ρ, h, σa, s, rs, AftS.to rs q fun x h1 J H1 ρ1 x1 s1 io q1 => by
    cases x with
    | items xs =>
      obtain ⟨n, c⟩ := forS_run (body := turnF (ev P F) d it ib) xs xs 0 σa h1 rfl rfl
      exact for_core io s1 (rs.ext x1) c q1
    | dyn m en =>
      obtain ⟨n, c⟩ := forD_run (body := turnF (ev P F) d it ib) (m := m) (en := en) (lenAt h1 m) 0 σa h1 rfl
      exact for_core io s1 (rs.ext x1) c q1
    | dct m l =>
      obtain ⟨n, c⟩ := forK_run (body := turnF (ev P F) d it ib) (m := m) (l := l) l 0 σa h1 rfl
      exact for_core io s1 (rs.ext x1) c q1⟩
/-! ### while -/
theorem gs_whl (hx : XS X W d) {body : List Stmt} {ib : List IS} (hc : GT P T X W d c ic) (hb : GB P T X W d body ib) : GS P T X W d (.While c body [] pos) (.whl ic ib) := fun F => by
  refine (ps_while hx.po (PT.ex hc) (PSs.ex hb)).imp fun D σ H q => ?_
  refine ⟨fun m σ H => tS X.K T ((ev P m).s d) W (.whl ic ib) D σ H, ⟨F, q⟩, ?_⟩
  intro m σ1 H1 w
  cases m with
  | zero => exact (bot_s _ _ _ w).elim
  | succ m =>
    obtain ⟨ρ, h, σa, s, rs, q⟩ := w
    refine ⟨m, ρ, h, σa, s, rs, ?_⟩
    have q' : AftS X.K T W ρ H1 ((((ev P m).e d ic σa h).bind toB).to σa fun b h => if b then (match blk ((ev P m).s d) ib σa h with
        | .next σ1 h2 => (ev P m).s d (.whl ic ib) σ1 h2
        | .cnt σ1 h2 => (ev P m).s d (.whl ic ib) σ1 h2
        | .brk σ1 h2 => .next σ1 h2
        | f => f) else .next σa h) D := by
      change AftS X.K T W ρ H1 (stepS P (ev P m) d (.whl ic ib) σa h) D at q
      simp only [stepS] at q
      cases e : (ev P m).e d ic σa h with
      | ok x h1 =>
        rw [e] at q
        cases x with
        | bl b => cases b <;> exact q
        | _ => exact q
      | err c h1 => rw [e] at q; exact q
      | stuck => rw [e] at q; exact q
    refine AftS.to rs q' fun b h1 v H2 ρ2 x1 s1 r1 q1 => ?_
    have r1' : v = b := r1
    subst r1'
    cases v with
    | false => rw [if_neg (by simp)]; exact AftS.next q1 s1 (rs.ext x1)
    | true =>
      rw [if_pos rfl]
      simp only [if_true] at q1
      refine ⟨fun σ' H' => tS X.K T ((ev P m).s d) W (.whl ic ib) D σ' H', fun σ' H' q => ⟨m, Nat.lt_succ_self _, q⟩, m, ρ2, h1, σa, s1, rs.ext x1, ?_⟩
      cases e : blk ((ev P m).s d) ib σa h1 with
      | next σ3 h3 => rw [e] at q1; exact fun σ' H' ρ' y1 y2 y3 => ⟨ρ', h3, σ3, y2, y3, AftS.ext q1 y1⟩
      | cnt σ3 h3 => rw [e] at q1; exact fun σ' H' ρ' y1 y2 y3 => ⟨ρ', h3, σ3, y2, y3, AftS.ext q1 y1⟩
      | brk σ3 h3 => rw [e] at q1; exact q1
      | ret v h3 => rw [e] at q1; exact q1
      | err c σ3 h3 => rw [e] at q1; exact q1
      | stuck => rw [e] at q1; exact q1
end
end G8

set_option Elab.async false
set_option linter.all false
set_option maxRecDepth 100000
set_option maxHeartbeats 1000000
namespace G8
open PySem PySem.Spec L2
/-! ### leaving a def -/
section
variable {K : PySem.W.Frag} {T : Tb} {H : Hp} {ρ ρ0 : Rho}
/-- fewer objects are of the store -/
structure Less (ρ0 ρ : Rho) (n0 : Nat) : Prop where
  ix : ρ.ix.take n0 = ρ0.ix
  len : ρ0.ix.length = n0
  bz : ρ0.bz = ρ.bz
theorem Less.no (l : Less ρ0 ρ n0) {a : Addr} (h : ρ.no a) : ρ0.no a := ⟨fun hm => h.1 (by rw [← l.ix] at hm; exact List.mem_of_mem_take hm), fun hm => h.2 (by rw [← l.bz]; exact hm)⟩
theorem Less.get (l : Less ρ0 ρ n0) {n : Nat} {a : Addr} (hn : n < n0) (e : ρ.ix[n]? = some a) : ρ0.ix[n]? = some a := by
  rw [← l.ix, List.getElem?_take_of_lt hn]; exact e
theorem Less.old (l : Less ρ0 ρ n0) (nd : (ρ.ix ++ ρ.bz).Nodup) {n : Nat} {a : Addr} (hn : ¬ n < n0) (e : ρ.ix[n]? = some a) : ρ0.no a := by
  obtain ⟨n1, n2, n3⟩ := List.nodup_append.mp nd
  refine ⟨fun hm => ?_, fun hm => ?_⟩
  · obtain ⟨m, hm'⟩ := List.getElem?_of_mem hm
    have hml : m < n0 := by rw [← l.len]; exact (List.getElem?_eq_some_iff.mp hm').1
    rw [← l.ix, List.getElem?_take_of_lt hml] at hm'
    obtain ⟨h1, q1⟩ := List.getElem?_eq_some_iff.mp e
    obtain ⟨h2, q2⟩ := List.getElem?_eq_some_iff.mp hm'
    have := (List.getElem_inj n1).mp (q1.trans q2.symm)
    omega
  · rw [l.bz] at hm
    exact n3 a (List.mem_of_getElem? e) a hm rfl
mutual
theorem Rp.less (l : Less ρ0 ρ n0) : ∀ {d : D} {v : V}, D.nr d = true → Rp K T H ρ d v → Rp K T H ρ0 d v
  | _, _, _, .non => .non
  | _, _, _, .bl b => .bl b
  | _, _, _, .int i => .int i
  | _, _, _, .str y => .str y
  | _, _, h, .tup s r => .tup (let ⟨its, e, n⟩ := s; ⟨its, e, l.no n⟩) (Rps.less l (by simpa [D.nr] using h) r)
  | _, _, h, .lst s r => .lst ⟨s.1, l.no s.2⟩ (Rps.less l (by simpa [D.nr] using h) r)
  | _, _, h, .scr s r => .scr (s.imp (fun z => ⟨z.1, l.no z.2⟩) fun z => z) (Rps.less l (by simpa [D.nr] using h) r)
  | _, _, h, .ref e => by simp [D.nr] at h
  | _, _, _, .exc e hn => .exc e (l.no hn)
theorem Rps.less (l : Less ρ0 ρ n0) : ∀ {ds : List D} {vs : List V}, D.nrs ds = true → Rps K T H ρ ds vs → Rps K T H ρ0 ds vs
  | _, _, _, .nil => .nil
  | _, _, h, .cons a b => by
    simp only [D.nrs, Bool.and_eq_true] at h
    exact .cons (Rp.less l h.1 a) (Rps.less l h.2 b)
end
theorem Rp.lessTop (l : Less ρ0 ρ n0) {d : D} {v : V} (ht : D.top d = true) (hr : refLt n0 d = true) (r : Rp K T H ρ d v) : Rp K T H ρ0 d v := by
  cases d with
  | ref m =>
    cases r with
    | ref e => exact .ref (l.get (by simpa [refLt] using hr) e)
  | _ => exact Rp.less l (by simpa [D.top] using ht) r
theorem Rps.lessTop (l : Less ρ0 ρ n0) : ∀ {ds : List D} {vs : List V}, ds.all D.top = true → ds.all (refLt n0) = true → Rps K T H ρ ds vs → Rps K T H ρ0 ds vs
  | _, _, _, _, .nil => .nil
  | _, _, h1, h2, .cons a b => by
    simp only [List.all_cons, Bool.and_eq_true] at h1 h2
    exact .cons (Rp.lessTop l h1.1 h2.1 a) (Rps.lessTop l h1.2 h2.2 b)
theorem Rf.lessTop (l : Less ρ0 ρ n0) : ∀ {fs : List (Nat × D)} {vs : List (Str × V)}, (∀ p ∈ fs, D.top p.2 = true) → (fs.all fun p => refLt n0 p.2) = true → Rf K T H ρ fs vs → Rf K T H ρ0 fs vs
  | _, _, _, _, .nil => .nil
  | _, _, h1, h2, .cons lt a b => by
    simp only [List.all_cons, Bool.and_eq_true] at h2
    exact .cons lt (Rp.lessTop l (h1 _ List.mem_cons_self) h2.1 a) (Rf.lessTop l (fun p hp => h1 p (List.mem_cons_of_mem _ hp)) h2.2 b)
mutual
theorem nr_kf : ∀ (n : Nat) (d : D), D.kf n d = true → D.nr d = true
  | _, .non, _ => by simp only [D.nr]
  | _, .bl _, _ => by simp only [D.nr]
  | _, .int _, _ => by simp only [D.nr]
  | _, .str _, _ => by simp only [D.nr]
  | n + 1, .tup xs, e => by simp only [D.kf] at e; simp only [D.nr]; exact nrs_kfs n xs e
  | 0, .tup xs, e => by simp [D.kf] at e
  | _, .lst xs, e => by simp [D.kf] at e
  | _, .scr xs, e => by simp [D.kf] at e
  | _, .dct _ _, e => by simp [D.kf] at e
  | _, .ref _, e => by simp [D.kf] at e
  | _, .exc _, e => by simp [D.kf] at e
theorem nrs_kfs : ∀ (n : Nat) (ds : List D), D.kfs n ds = true → D.nrs ds = true
  | _, [], _ => by simp only [D.nrs]
  | n, x :: xs, e => by
    simp only [D.kfs, Bool.and_eq_true] at e
    simp only [D.nrs, nr_kf n x e.1, nrs_kfs n xs e.2, Bool.and_self]
end
theorem SR.less {h : Sto} (l : Less ρ0 ρ n0) (s : SR K T H ρ h) (w : wf n0 (h.take n0) = true) (hn : n0 ≤ h.length) : SR K T H ρ0 (h.take n0) := by
  obtain ⟨n1, n2, n3⟩ := List.nodup_append.mp s.nd
  have hsub : ∀ a ∈ ρ0.ix, a ∈ ρ.ix := fun a ha => by rw [← l.ix] at ha; exact List.mem_of_mem_take ha
  refine ⟨List.nodup_append.mpr ⟨by rw [← l.ix]; exact n1.sublist (List.take_sublist _ _), by rw [l.bz]; exact n2, fun a ha b hb => n3 a (hsub a ha) b (by rw [← l.bz]; exact hb)⟩, by rw [l.len, List.length_take]; omega, fun n o a e1 e2 => ?_, fun a ha => s.bz a (by rw [← l.bz]; exact ha)⟩
  have hlt : n < n0 := by rw [← l.len]; exact (List.getElem?_eq_some_iff.mp e2).1
  have hok : okE n0 o = true := List.all_eq_true.mp w o (List.mem_of_getElem? e1)
  rw [List.getElem?_take_of_lt hlt] at e1
  rw [← l.ix, List.getElem?_take_of_lt hlt] at e2
  have r := s.at_ n o a e1 e2
  cases o with
  | lst fl xs =>
    obtain ⟨vs, hv, rs, fo⟩ := r
    refine ⟨vs, hv, ?_, fo⟩
    cases fl with
    | true => exact Rps.less l fo rs
    | false => exact Rps.lessTop l fo (by simpa [okE] using hok) rs
  | ins c fs =>
    obtain ⟨o, tp, dx, fvs, e, rf⟩ := r
    exact ⟨o, tp, dx, fvs, e, Rf.lessTop l tp (by simpa [okE] using hok) rf⟩
  | dct ks vs =>
    obtain ⟨sm, p, es, kvs, vvs, e, rk, rv, en⟩ := r
    exact ⟨sm, p, es, kvs, vvs, e, Rps.less l (nrs_of fun y hy => nr_kf 6 y (Bool.and_eq_true_iff.mp (p.ky y hy)).1) rk, Rps.less l p.nr rv, en⟩
  | dead => exact r
theorem fz_rp {h : Sto} {n0 : Nat} (l : Less ρ0 ρ n0) (s : SR K T H ρ h) : ∀ (k : Nat) {d d' : D} {v : V}, fz h n0 k d = some d' → Rp K T H ρ d v → Rp K T H ρ0 d' v
  | k, d, d', v, e, r => by
    have hs : ∀ j, k = j + 1 → ∀ {ds ds' : List D} {vs : List V}, fzL (fz h n0 j) ds = some ds' → Rps K T H ρ ds vs → Rps K T H ρ0 ds' vs := by
      intro j hj ds
      induction ds with
      | nil =>
        intro ds' vs e r
        cases r
        simp [fzL] at e; subst e; exact .nil
      | cons d ds ih2 =>
        intro ds' vs e r
        cases r with
        | cons a b =>
          simp only [fzL, Option.bind_eq_some_iff, Option.map_eq_some_iff] at e
          obtain ⟨y, e1, ys, e2, rfl⟩ := e
          exact .cons (fz_rp l s j e1 a) (ih2 e2 b)
    cases r with
    | non => simp [fz] at e; subst e; exact .non
    | bl b => simp [fz] at e; subst e; exact .bl b
    | int i => simp [fz] at e; subst e; exact .int i
    | str y => simp [fz] at e; subst e; exact .str y
    | exc e1 hn => simp [fz] at e; subst e; exact .exc e1 (l.no hn)
    | tup st r =>
      cases k with
      | zero => simp [fz] at e
      | succ k =>
        simp only [fz, Option.map_eq_some_iff] at e
        obtain ⟨ys, e1, rfl⟩ := e
        exact .tup (let ⟨its, e, n⟩ := st; ⟨its, e, l.no n⟩) (hs k rfl e1 r)
    | lst st r =>
      cases k with
      | zero => simp [fz] at e
      | succ k =>
        simp only [fz, Option.map_eq_some_iff] at e
        obtain ⟨ys, e1, rfl⟩ := e
        exact .lst ⟨st.1, l.no st.2⟩ (hs k rfl e1 r)
    | scr st r => cases k <;> simp [fz] at e
    | ref hp =>
      rename_i n a
      cases k with
      | zero => simp [fz] at e
      | succ k =>
        simp only [fz] at e
        split at e
        · rename_i hn
          cases e
          exact .ref (l.get hn hp)
        · rename_i hn
          split at e
          · rename_i fl xs e1
            simp only [Option.map_eq_some_iff] at e
            obtain ⟨ys, e2, rfl⟩ := e
            obtain ⟨vs, hv, rs, _⟩ := s.at_ n _ _ e1 hp
            exact .lst ⟨hv, l.old s.nd hn hp⟩ (hs k rfl e2 rs)
          · cases e
termination_by k => k
decreasing_by omega
end
end G8

set_option Elab.async false
set_option linter.all false
set_option maxRecDepth 100000
set_option maxHeartbeats 1000000
namespace G8
open PySem PySem.Spec L2
section
variable {P : Prg} {T : Tb} {K : PySem.W.Frag}
theorem start_rs {H : Hp} {ρ : Rho} {ds : List D} {vs : List V} {N : List Str} {fn : Fn} (r : Rps K T H ρ ds vs) (hns : fn.ns = N.length) : RS K T H ρ (G8.start fn ds) (L2.start N vs) := by
  unfold G8.start L2.start
  have hl := r.length
  refine ⟨by rw [List.length_append, List.length_append, List.length_map, List.length_map, List.length_replicate, List.length_replicate, hns, hl], fun i dd e => ?_⟩
  by_cases hi : i < ds.length
  · rw [List.getElem?_append_left (by rw [List.length_map]; exact hi), List.getElem?_map, Option.map_eq_some_iff] at e
    obtain ⟨d2, e1, e2⟩ := e
    cases e2
    obtain ⟨v, h1, h2⟩ := r.get e1
    exact ⟨v, by rw [List.getElem?_append_left (by rw [List.length_map, ← hl]; exact hi), List.getElem?_map, h1]; rfl, h2⟩
  · rw [List.getElem?_append_right (by rw [List.length_map]; omega), List.getElem?_replicate] at e
    split at e <;> cases e
/-- at the end of a def -/
theorem leave_ok {E : XK} {ρ : Rho} {H : Hp} {h : Sto} {Q : VK} {fn : Fn} {v : D} {h1 : Sto} {u : V} {H1 : Hp} {ρ1 : Rho} (s : SR K T H ρ h) (q : Aft K T (fun c dd _ H' => E c dd H') [] ρ H (leave fn h.length v h1) (Rp K T) Q)
    (x : Ext ρ H ρ1 H1) (s1 : SR K T H1 ρ1 h1) (r : Rp K T H1 ρ1 v u) : Q u H1 := by
  unfold leave at q
  cases hk : fn.keep with
  | true => rw [hk] at q; exact q u H1 ρ1 x s1 r
  | false =>
    rw [hk] at q
    simp only at q
    split at q
    · rename_i hw
      cases e : fz h1 h.length 12 v with
      | none => rw [e] at q; exact False.elim q
      | some v' =>
        rw [e] at q
        have hix : ρ1.ix.take h.length = ρ.ix := by
          obtain ⟨t, ht⟩ := x.pre
          rw [← ht, ← s.len, List.take_left]
        have l : Less ρ ρ1 h.length := ⟨hix, s.len, x.bz.symm⟩
        have hle : h.length ≤ h1.length := by rw [← s.len, ← s1.len]; exact x.pre.length_le
        exact q u H1 ρ ⟨List.prefix_refl _, rfl, x.fr, x.kp, fun a h => .inl h⟩ (SR.less l s1 hw hle) (fz_rp l s1 12 e r)
    · exact False.elim q
theorem c_len {F d f : Nat} {ds : List D} {h : Sto} (hn : (ev P F).c d f ds h ≠ .stuck) : ∃ G d' fn, F = G + 1 ∧ d = d' + 1 ∧ P.fns.lookup f = some fn ∧ ds.length = fn.np := by
  cases F with
  | zero => exact absurd rfl hn
  | succ G =>
    change stepC P (ev P G) d f ds h ≠ .stuck at hn
    unfold stepC at hn
    cases d with
    | zero => exact absurd rfl hn
    | succ d' =>
      simp only at hn
      cases e : P.fns.lookup f with
      | none => rw [e] at hn; exact absurd rfl hn
      | some fn =>
        rw [e] at hn
        simp only at hn
        split at hn
        · rename_i hl; exact ⟨G, d', fn, rfl, rfl, rfl, hl⟩
        · exact absurd rfl hn
theorem aft_ne {α β : Type} {W : WX} {σ : L2.St} {ρ : Rho} {H : Hp} {r : R α} {Rel : Hp → Rho → α → β → Prop} {Q : β → Hp → Prop} (a : Aft K T W σ ρ H r Rel Q) : r ≠ .stuck := fun e => by subst e; exact a
variable {Pr : Program} {w : World} {mg : Str → Option Value} {base : Heap} {x qual : Str} {params : Arguments} {body : List Stmt} {scope : Scope} {dvs : List V} {kws : List (Str × V)} {fa : Addr} {fd : FuncData} {N ps : List Str} {f d : Nat} {fn : Fn}
theorem fn_ok (F : FunD K x qual params body scope dvs kws fa fd) (S : FnScope N ps scope) (hf : P.fns.lookup f = some fn) (hnp : fn.np = ps.length) (hns : fn.ns = N.length)
    (hb : ∀ (cdv : Value) (A : Around) (outer : List Env) (s : Shared) (H : Hp) (E : XK), XS (cxOf (L2.CX Pr w) Pr w K mg base N qual scope fa cdv A outer s H E) (fun c dd _ H' => E c dd H') d →
      GB P T (cxOf (L2.CX Pr w) Pr w K mg base N qual scope fa cdv A outer s H E) (fun c dd _ H' => E c dd H') d body fn.body) : FnOk Pr w K mg base (L2.CX Pr w) (d + 1) fa fd ps (spF P T K (d + 1) f) := by
  refine F.ok S (fun vs H Q E q => ?_) fun cdv A outer s H vs Q E hr q => ?_
  · obtain ⟨G, ρ, h, ds, sr, r, a⟩ := q
    obtain ⟨_, _, fn', _, _, e, hl⟩ := c_len (aft_ne a)
    rw [hf] at e; cases e
    rw [← r.length, hl, hnp]
  · obtain ⟨G, ρ, h, ds, sr, r, a⟩ := q
    obtain ⟨G', d', fn', rfl, hd, e, hl⟩ := c_len (aft_ne a)
    cases hd
    rw [hf] at e; cases e
    have xs : XS (cxOf (L2.CX Pr w) Pr w K mg base N qual scope fa cdv A outer s H E) (fun c dd _ H' => E c dd H') d := ⟨⟨rfl, hr, takes_of rfl rfl rfl rfl, S.nd⟩, passes_of rfl⟩
    refine ⟨_, hb cdv A outer s H E xs G', ρ, h, G8.start fn ds, sr, start_rs r hns, ?_⟩
    change Aft K T _ [] ρ H (stepC P (ev P G') (d + 1) f ds h) (Rp K T) Q at a
    unfold stepC at a
    simp only [hf, if_pos hl] at a
    cases e : blk ((ev P G').s d) fn.body (G8.start fn ds) h with
    | next σ1 h1 => rw [e] at a; exact fun σ' H' ρ' x1 s1 rs1 => leave_ok sr a x1 s1 .non
    | ret v h1 => rw [e] at a; exact fun u H' ρ' x1 s1 r1 => leave_ok sr a x1 s1 r1
    | err c σ1 h1 =>
      rw [e] at a
      simp only at a
      intro σ' H' ρ' x1 s1 rs1
      split at a
      · exact a H' ρ' x1 s1
      · split at a
        · rename_i hw
          have hix : ρ'.ix.take h.length = ρ.ix := by
            obtain ⟨t, ht⟩ := x1.pre
            rw [← ht, ← sr.len, List.take_left]
          have l : Less ρ ρ' h.length := ⟨hix, sr.len, x1.bz.symm⟩
          have hle : h.length ≤ h1.length := by rw [← sr.len, ← s1.len]; exact x1.pre.length_le
          exact a H' ρ ⟨List.prefix_refl _, rfl, x1.fr, x1.kp, fun a h => .inl h⟩ (SR.less l s1 hw hle)
        · exact False.elim a
    | brk _ _ => rw [e] at a; exact False.elim a
    | cnt _ _ => rw [e] at a; exact False.elim a
    | stuck => rw [e] at a; exact False.elim a
theorem fn_none {fi : Fi} (hf : P.fns.lookup f = none ∨ d = 0) : FnOk Pr w K mg base (L2.CX Pr w) d fi.ad fi.fd fi.ps (spF P T K d f) := by
  have no : ∀ vs H Q E, ¬ spF P T K d f vs H Q E := fun vs H Q E ⟨G, ρ, h, ds, sr, r, a⟩ => by
    obtain ⟨_, _, fn', _, hd, e, hl⟩ := c_len (aft_ne a)
    rcases hf with hf | hf
    · rw [hf] at e; cases e
    · omega
  exact ⟨fun vs H Q E q => (no _ _ _ _ q).elim, fun _ _ _ _ _ _ _ _ _ _ _ _ _ q => (no _ _ _ _ q).elim⟩
end
end G8

set_option Elab.async false
set_option linter.all false
set_option maxRecDepth 100000
set_option maxHeartbeats 1000000
namespace G8
open PySem PySem.Spec PyProof.Rows L2
/-! ### keys -/
theorem text_eq (x y : List Nat) : (NestedKey.text ⟨x.toArray⟩ = .text ⟨y.toArray⟩) ↔ x = y := by
  constructor
  · intro h; injection h with h; injection h with h; exact List.toArray_inj h
  · intro h; rw [h]
mutual
theorem eqv_nk : ∀ (n m : Nat) (a b : D), D.kf n a = true → D.kf m b = true → (D.eqv a b = true ↔ nk a = nk b)
  | n, m, .non, b, ha, hb => by cases b <;> simp [D.eqv, nk, D.kf] at * <;> (cases m <;> simp [D.kf] at hb)
  | n, m, .bl a, b, ha, hb => by
    cases b with
    | bl c => cases a <;> cases c <;> simp [D.eqv, nk]
    | int i => cases a <;> simp [D.eqv, nk]
    | lst _ => cases m <;> simp [D.kf] at hb
    | scr _ => cases m <;> simp [D.kf] at hb
    | dct _ _ => cases m <;> simp [D.kf] at hb
    | ref _ => cases m <;> simp [D.kf] at hb
    | exc _ => cases m <;> simp [D.kf] at hb
    | _ => simp [D.eqv, nk]
  | n, m, .int a, b, ha, hb => by
    cases b with
    | bl c => cases c <;> simp [D.eqv, nk]
    | int i => simp [D.eqv, nk]
    | lst _ => cases m <;> simp [D.kf] at hb
    | scr _ => cases m <;> simp [D.kf] at hb
    | dct _ _ => cases m <;> simp [D.kf] at hb
    | ref _ => cases m <;> simp [D.kf] at hb
    | exc _ => cases m <;> simp [D.kf] at hb
    | _ => simp [D.eqv, nk]
  | n, m, .str a, b, ha, hb => by
    cases b with
    | str c => simp only [D.eqv, nk, text_eq, beq_iff_eq]
    | lst _ => cases m <;> simp [D.kf] at hb
    | scr _ => cases m <;> simp [D.kf] at hb
    | dct _ _ => cases m <;> simp [D.kf] at hb
    | ref _ => cases m <;> simp [D.kf] at hb
    | exc _ => cases m <;> simp [D.kf] at hb
    | _ => simp [D.eqv, nk]
  | n, m, .tup a, b, ha, hb => by
    cases n with
    | zero => simp [D.kf] at ha
    | succ n =>
      cases b with
      | tup c =>
        cases m with
        | zero => simp [D.kf] at hb
        | succ m =>
          simp only [D.kf] at ha hb
          simp only [D.eqv, nk, NestedKey.tup.injEq]
          exact eqvs_nk n m a c ha hb
      | lst _ => cases m <;> simp [D.kf] at hb
      | scr _ => cases m <;> simp [D.kf] at hb
      | dct _ _ => cases m <;> simp [D.kf] at hb
      | ref _ => cases m <;> simp [D.kf] at hb
      | exc _ => cases m <;> simp [D.kf] at hb
      | _ => simp [D.eqv, nk]
  | n, m, .lst _, b, ha, hb => by cases n <;> simp [D.kf] at ha
  | n, m, .scr _, b, ha, hb => by cases n <;> simp [D.kf] at ha
  | n, m, .dct _ _, b, ha, hb => by cases n <;> simp [D.kf] at ha
  | n, m, .ref _, b, ha, hb => by cases n <;> simp [D.kf] at ha
  | n, m, .exc _, b, ha, hb => by cases n <;> simp [D.kf] at ha
theorem eqvs_nk : ∀ (n m : Nat) (a b : List D), D.kfs n a = true → D.kfs m b = true → (D.eqvs a b = true ↔ nks a = nks b)
  | n, m, [], [], _, _ => by simp [D.eqvs, nks]
  | n, m, [], _ :: _, _, _ => by simp [D.eqvs, nks]
  | n, m, _ :: _, [], _, _ => by simp [D.eqvs, nks]
  | n, m, x :: xs, y :: ys, ha, hb => by
    simp only [D.kfs, Bool.and_eq_true] at ha hb
    simp only [D.eqvs, nks, Bool.and_eq_true, List.cons.injEq, eqv_nk n m x y ha.1 hb.1, eqvs_nk n m xs ys ha.2 hb.2]
end
theorem kf_of {d : D} (h : dkey d = true) : D.kf 6 d = true := (Bool.and_eq_true_iff.mp h).1
theorem eqv_dk {a b : D} (ha : dkey a = true) (hb : dkey b = true) : D.eqv a b = decide (nk a = nk b) := by
  have := eqv_nk 6 6 a b (kf_of ha) (kf_of hb)
  by_cases e : nk a = nk b
  · rw [decide_eq_true e]; exact this.mpr e
  · rw [decide_eq_false e]
    cases q : D.eqv a b with
    | false => rfl
    | true => exact absurd (this.mp q) e
theorem nks_map : ∀ xs : List D, nks xs = xs.map nk
  | [] => by simp only [nks, List.map_nil]
  | x :: xs => by simp only [nks, List.map_cons, nks_map xs]
/-! a key in the heap -/
mutual
theorem nk_depth : ∀ (n : Nat) (d : D), D.kf n d = true → (nk d).depth ≤ n
  | _, .non, _ => by simp [nk, NestedKey.depth]
  | _, .bl _, _ => by simp [nk, NestedKey.depth]
  | _, .int _, _ => by simp [nk, NestedKey.depth]
  | _, .str _, _ => by simp [nk, NestedKey.depth]
  | n + 1, .tup xs, e => by simp only [D.kf] at e; simp only [nk, NestedKey.depth]; have := nks_depth n xs e; omega
  | 0, .tup xs, e => by simp [D.kf] at e
  | _, .lst xs, e => by simp [D.kf] at e
  | _, .scr xs, e => by simp [D.kf] at e
  | _, .dct _ _, e => by simp [D.kf] at e
  | _, .ref _, e => by simp [D.kf] at e
  | _, .exc _, e => by simp [D.kf] at e
theorem nks_depth : ∀ (n : Nat) (ds : List D), D.kfs n ds = true → NestedKey.depthAll (nks ds) ≤ n
  | _, [], _ => by simp [nks, NestedKey.depthAll]
  | n, x :: xs, e => by
    simp only [D.kfs, Bool.and_eq_true] at e
    simp only [nks, NestedKey.depthAll]
    exact Nat.max_le.mpr ⟨nk_depth n x e.1, nks_depth n xs e.2⟩
end
section
variable {K : PySem.W.Frag} {T : Tb} {H : Hp} {ρ : Rho} {P : Program} {w : World} {h : Heap}
mutual
theorem nis (ok : HOk P w H h) : ∀ {n : Nat} {d : D} {v : V} {u : Value}, D.kf n d = true → Rp K T H ρ d v → RelV v u → NestedIs h (nk d) u
  | _, _, _, _, _, .non, r => by cases r; exact .none
  | _, _, _, _, _, .bl b, r => by cases r; exact .bool rfl
  | _, _, _, _, _, .int i, r => by obtain ⟨t, rfl⟩ := r; exact .int i t
  | _, _, _, _, _, .str x, r => by obtain ⟨t, rfl⟩ := r; exact .text _ t
  | n, _, _, _, e, .tup s rs, r => by
    cases r
    obtain ⟨its, e1, _⟩ := s
    cases n with
    | zero => simp [D.kf] at e
    | succ n =>
      simp only [D.kf] at e
      obtain ⟨g, _, us, vu, ob, g2, c2⟩ := ok _ _ e1
      rw [g] at g2
      cases g2
      obtain ⟨_, n3, c4⟩ := c2
      injection c4 with c5 c6
      have eu : us = its := (List.toArray_inj c5).symm
      subst eu
      exact .tup g rfl rfl (niss ok e rs vu)
  | n, _, _, _, e, .lst _ _, _ => by cases n <;> simp [D.kf] at e
  | n, _, _, _, e, .scr _ _, _ => by cases n <;> simp [D.kf] at e
  | n, _, _, _, e, .ref _, _ => by cases n <;> simp [D.kf] at e
  | n, _, _, _, e, .exc _ _, _ => by cases n <;> simp [D.kf] at e
theorem niss (ok : HOk P w H h) : ∀ {n : Nat} {ds : List D} {vs : List V} {us : List Value}, D.kfs n ds = true → Rps K T H ρ ds vs → Vals vs us → NestedAll h (nks ds) us
  | _, _, _, _, _, .nil, .nil => .nil
  | n, _, _, _, e, .cons a b, .cons q r => by
    simp only [D.kfs, Bool.and_eq_true] at e
    exact .cons (nis ok e.1 a q) (niss ok e.2 b r)
end
end
end G8

set_option Elab.async false
set_option linter.all false
set_option maxRecDepth 100000
set_option maxHeartbeats 1000000
namespace G8
open PySem PySem.Spec PyProof.Rows L2
/-! ### dicts whose keys are tuples -/
def adOf : Value → Addr
  | .ref a => a
  | _ => 0
def xsOf : List DictEntry → List D → List (NestedKey × Addr × Value)
  | e :: es, d :: ds => (nk d, adOf e.key, e.val) :: xsOf es ds
  | _, _ => []
section
variable {K : PySem.W.Frag} {T : Tb} {H : Hp} {ρ : Rho} {P : Program} {w : World} {h : Heap}
theorem tup_key {d : D} {v : V} {u : Value} (hk : kdOf d = 0) (r : Rp K T H ρ d v) (q : RelV v u) : u = .ref (adOf u) ∧ v = .ref (adOf u) := by
  cases r with
  | tup s rs => cases q; exact ⟨rfl, rfl⟩
  | _ => simp [kdOf] at hk
theorem xs_entries : ∀ {es : List DictEntry} {ks : List D} {kvs vvs : List V}, Ent w es ks kvs vvs → Rps K T H ρ ks kvs → (∀ k ∈ ks, kdOf k = 0) → es = (xsOf es ks).map (entryOfKey (nestedKind P w))
  | [], [], [], [], _, _, _ => rfl
  | e :: es, d :: ds, k :: ks, v :: vs, h, r, hk => by
    cases r with
    | cons r1 r2 =>
      obtain ⟨h1, h2, h3, h4⟩ := h
      have ih := xs_entries h4 r2 fun x hx => hk x (List.mem_cons_of_mem _ hx)
      have kk := tup_key (hk d List.mem_cons_self) r1 h2
      simp only [xsOf, List.map_cons]
      rw [← ih]
      congr 1
      obtain ⟨eh, ek, ev⟩ := e
      simp only at h1 kk
      simp only [entryOfKey]
      rw [h1, ← kk.1]
      rfl
  | [], [], [], _ :: _, h, _, _ => False.elim h
  | [], [], _ :: _, _, h, _, _ => False.elim h
  | [], _ :: _, _, _, h, _, _ => False.elim h
  | _ :: _, [], _, _, h, _, _ => False.elim h
  | _ :: _, _ :: _, [], _, h, _, _ => False.elim h
  | _ :: _, _ :: _, _ :: _, [], h, _, _ => False.elim h
theorem xs_keys : ∀ {es : List DictEntry} {ks : List D} {kvs vvs : List V}, Ent w es ks kvs vvs → (xsOf es ks).map (·.1) = nks ks
  | [], [], [], [], _ => by simp [xsOf, nks]
  | e :: es, d :: ds, k :: ks, v :: vs, h => by simp only [xsOf, List.map_cons, nks, xs_keys h.2.2.2]
  | [], [], [], _ :: _, h => False.elim h
  | [], [], _ :: _, _, h => False.elim h
  | [], _ :: _, _, _, h => False.elim h
  | _ :: _, [], _, _, h => False.elim h
  | _ :: _, _ :: _, [], _, h => False.elim h
  | _ :: _, _ :: _, _ :: _, [], h => False.elim h
theorem xs_is (ok : HOk P w H h) : ∀ {es : List DictEntry} {ks : List D} {kvs vvs : List V}, Ent w es ks kvs vvs → Rps K T H ρ ks kvs → (∀ k ∈ ks, kdOf k = 0) → (∀ k ∈ ks, dkey k = true) → ∀ x ∈ xsOf es ks, (nestedKind P w).is h x.1 x.2.1
  | [], [], [], [], _, _, _, _ => by simp [xsOf]
  | e :: es, d :: ds, k :: ks, v :: vs, he, r, hk, hd => by
    cases r with
    | cons r1 r2 =>
      obtain ⟨h1, h2, h3, h4⟩ := he
      intro x hx
      simp only [xsOf, List.mem_cons] at hx
      rcases hx with rfl | hx
      · have kk := tup_key (hk d List.mem_cons_self) r1 h2
        have kf := kf_of (hd d List.mem_cons_self)
        have := nis ok kf r1 h2
        rw [kk.1] at this
        exact ⟨this, Nat.le_trans (nk_depth 6 d kf) (by omega)⟩
      · exact xs_is ok h4 r2 (fun x hx => hk x (List.mem_cons_of_mem _ hx)) (fun x hx => hd x (List.mem_cons_of_mem _ hx)) x hx
  | [], [], [], _ :: _, h, _, _, _ => False.elim h
  | [], [], _ :: _, _, h, _, _, _ => False.elim h
  | [], _ :: _, _, _, h, _, _, _ => False.elim h
  | _ :: _, [], _, _, h, _, _, _ => False.elim h
  | _ :: _, _ :: _, [], _, h, _, _, _ => False.elim h
  | _ :: _, _ :: _, _ :: _, [], h, _, _, _ => False.elim h
/-- what is found -/
theorem xs_find {b : D} (hb : dkey b = true) : ∀ {es : List DictEntry} {ks vs : List D} {kvs vvs : List V}, Ent w es ks kvs vvs → Rps K T H ρ vs vvs → (∀ k ∈ ks, dkey k = true) →
    inD b ks = (atKey (xsOf es ks) (nk b)).isSome ∧ ∀ v, lkD b ks vs = some v → ∃ p u, atKey (xsOf es ks) (nk b) = some p ∧ RelV u p.2 ∧ Rp K T H ρ v u
  | [], [], [], [], [], _, _, _ => ⟨rfl, fun v e => by cases e⟩
  | e :: es, d :: ds, x :: xs, k :: ks, v :: vs, he, r, hd => by
    cases r with
    | cons r1 r2 =>
      obtain ⟨h1, h2, h3, h4⟩ := he
      obtain ⟨i1, i2⟩ := xs_find hb h4 r2 fun y hy => hd y (List.mem_cons_of_mem _ hy)
      have eq := eqv_dk (hd d List.mem_cons_self) hb
      by_cases q : nk d = nk b
      · have eqt : D.eqv d b = true := by rw [eq, decide_eq_true q]
        have a1 : atKey (xsOf (e :: es) (d :: ds)) (nk b) = some (adOf e.key, e.val) := by simp [atKey, xsOf, q]
        refine ⟨?_, fun z hz => ?_⟩
        · rw [a1]; simp [inD, eqt]
        · simp only [lkD, eqt, if_true] at hz
          cases hz
          exact ⟨_, v, a1, h3, r1⟩
      · have eqf : D.eqv d b = false := by rw [eq, decide_eq_false q]
        have a1 : atKey (xsOf (e :: es) (d :: ds)) (nk b) = atKey (xsOf es ds) (nk b) := by simp [atKey, xsOf, q]
        refine ⟨?_, fun z hz => ?_⟩
        · rw [a1, ← i1]; simp [inD, eqf]
        · simp only [lkD, eqf, Bool.false_eq_true, if_false] at hz
          rw [a1]
          exact i2 z hz
  | [], [], _, [], _ :: _, h, _, _ => False.elim h
  | [], [], _, _ :: _, _, h, _, _ => False.elim h
  | [], _ :: _, _, _, _, h, _, _ => False.elim h
  | _ :: _, [], _, _, _, h, _, _ => False.elim h
  | _ :: _, _ :: _, _, [], _, h, _, _ => False.elim h
  | _ :: _, _ :: _, _, _ :: _, [], h, _, _ => False.elim h
  | _ :: _, _ :: _, [], _ :: _, _ :: _, h, r, _ => by cases r
  | [], [], _ :: _, [], [], h, r, _ => by cases r
end
end G8

set_option Elab.async false
set_option linter.all false
set_option maxRecDepth 100000
set_option maxHeartbeats 1000000
namespace G8
open PySem PySem.Spec PyProof.Rows L2
/-! ### a dict after a store -/
theorem pKs_len (b : D) : ∀ ks : List D, (pKs b ks).length ≤ ks.length + 1
  | [] => by simp [pKs]
  | k :: ks => by
    simp only [pKs]
    split
    · simp
    · simp only [List.length_cons]; have := pKs_len b ks; omega
theorem pVs_len (b v : D) : ∀ ks vs : List D, ks.length = vs.length → (pKs b ks).length = (pVs b v ks vs).length
  | [], [], _ => rfl
  | [], _ :: _, h => by simp at h
  | _ :: _, [], h => by simp at h
  | k :: ks, x :: vs, h => by
    simp only [pKs, pVs]
    split
    · simpa using h
    · simp only [List.length_cons]; rw [pVs_len b v ks vs (by simpa using h)]
theorem pKs_mem {b y : D} : ∀ {ks : List D}, y ∈ pKs b ks → y = b ∨ y ∈ ks
  | [], h => by simp [pKs] at h; exact .inl h
  | k :: ks, h => by
    simp only [pKs] at h
    split at h
    · exact .inr h
    · rcases List.mem_cons.mp h with e | e
      · exact .inr (by rw [e]; exact List.mem_cons_self)
      · rcases pKs_mem e with q | q
        · exact .inl q
        · exact .inr (List.mem_cons_of_mem _ q)
theorem pVs_nr {b v : D} (hv : D.nr v = true) : ∀ {ks vs : List D}, D.nrs vs = true → D.nrs (pVs b v ks vs) = true
  | [], [], _ => by simp [pVs, D.nrs, hv]
  | [], _ :: _, _ => by simp [pVs, D.nrs, hv]
  | _ :: _, [], _ => by simp [pVs, D.nrs, hv]
  | k :: ks, x :: vs, h => by
    simp only [D.nrs, Bool.and_eq_true] at h
    simp only [pVs]
    split
    · simp only [D.nrs, hv, h.2, Bool.and_self]
    · simp only [D.nrs, h.1, pVs_nr (ks := ks) hv h.2, Bool.and_self]
theorem pKs_nk {b : D} (hb : dkey b = true) : ∀ {ks : List D}, (∀ k ∈ ks, dkey k = true) → nks (pKs b ks) = if nk b ∈ nks ks then nks ks else nks ks ++ [nk b]
  | [], _ => by simp [pKs, nks]
  | k :: ks, h => by
    have eq := eqv_dk (h k List.mem_cons_self) hb
    have ih := pKs_nk hb fun y hy => h y (List.mem_cons_of_mem _ hy)
    simp only [pKs]
    by_cases q : nk k = nk b
    · rw [if_pos (by rw [eq, decide_eq_true q])]
      rw [if_pos (by simp [nks, q])]
    · rw [if_neg (by rw [eq, decide_eq_false q]; simp)]
      simp only [nks, ih, List.mem_cons]
      by_cases m : nk b ∈ nks ks
      · rw [if_pos m, if_pos (.inr m)]
      · rw [if_neg m, if_neg (by rintro (z | z); exact q z.symm; exact m z)]
        rfl
theorem DctP.put {ks vs : List D} {b v : D} (p : DctP ks vs) (hs : dsame b ks = true) (hv : D.nr v = true) (hl : ks.length < LIM) : DctP (pKs b ks) (pVs b v ks vs) := by
  simp only [dsame, Bool.and_eq_true, List.all_eq_true, beq_iff_eq] at hs
  refine ⟨pVs_len b v ks vs p.len, Nat.le_trans (pKs_len b ks) hl, pVs_nr hv p.nr, fun k hk => ?_, ⟨kdOf b, fun k hk => ?_⟩, ?_⟩
  · rcases pKs_mem hk with e | e
    · rw [e]; exact hs.1
    · exact p.ky k e
  · rcases pKs_mem hk with e | e
    · rw [e]
    · exact hs.2 k e
  · rw [pKs_nk hs.1 p.ky]
    split
    · exact p.nd
    · rename_i hm
      exact List.nodup_append.mpr ⟨p.nd, by simp, fun a ha c hc => by rw [List.mem_singleton.mp hc]; exact fun z => hm (z ▸ ha)⟩
theorem DctP.nil : DctP [] [] := ⟨rfl, Nat.zero_le _, rfl, (fun _ h => by cases h), ⟨0, (fun _ h => by cases h)⟩, by simp [nks]⟩
/-- the store, item by item -/
def stR (k : NestedKey) (a : Addr) (v : Value) : List (NestedKey × Addr × Value) → List (NestedKey × Addr × Value)
  | [] => [(k, a, v)]
  | x :: r => if x.1 = k then (x.1, x.2.1, v) :: r else x :: stR k a v r
theorem putAt_no {k : NestedKey} {v : Value} : ∀ {xs : List (NestedKey × Addr × Value)}, k ∉ xs.map (·.1) → xs.map (putAt k v) = xs
  | [], _ => rfl
  | x :: xs, h => by
    simp only [List.map_cons, List.mem_cons, not_or] at h
    simp only [List.map_cons, putAt_no h.2]
    congr 1
    unfold putAt
    rw [if_neg (Ne.symm h.1)]
theorem stR_eq (k : NestedKey) (a : Addr) (v : Value) : ∀ {xs : List (NestedKey × Addr × Value)}, (xs.map (·.1)).Nodup → storedH xs k a v = stR k a v xs
  | [], _ => by simp [storedH, atKey, stR]
  | x :: xs, h => by
    rw [List.map_cons, List.nodup_cons] at h
    have ih := stR_eq k a v h.2
    simp only [stR]
    by_cases q : x.1 = k
    · rw [if_pos q]
      have : atKey (x :: xs) k = some x.2 := by simp [atKey, q]
      rw [storedH_old this, List.map_cons, putAt_no (by rw [← q]; exact h.1)]
      congr 1
      unfold putAt
      rw [if_pos q]
    · rw [if_neg q, ← ih]
      have e : atKey (x :: xs) k = atKey xs k := by simp [atKey, q]
      unfold storedH
      rw [e]
      split
      · rw [List.map_cons]
        congr 1
        unfold putAt
        rw [if_neg q]
      · rfl
section
variable {K : PySem.W.Frag} {T : Tb} {H : Hp} {ρ : Rho} {P : Program} {w : World} {h : Heap}
theorem ent_put {b d : D} {bv u : V} {a : Addr} {val : Value} (hb : dkey b = true) (hk0 : kdOf b = 0) (rb : Rp K T H ρ b (.ref a)) (rd : Rp K T H ρ d u) (ru : RelV u val) : ∀ {es : List DictEntry} {ks vs : List D} {kvs vvs : List V}, Ent w es ks kvs vvs → Rps K T H ρ ks kvs → Rps K T H ρ vs vvs → (∀ k ∈ ks, dkey k = true) → (∀ k ∈ ks, kdOf k = 0) →
    ∃ kvs' vvs', Ent w ((stR (nk b) a val (xsOf es ks)).map (entryOfKey (nestedKind P w))) (pKs b ks) kvs' vvs' ∧ Rps K T H ρ (pKs b ks) kvs' ∧ Rps K T H ρ (pVs b d ks vs) vvs'
  | [], [], vs, [], [], _, _, r2, _, _ => by
    cases r2
    exact ⟨[.ref a], [u], ⟨rfl, rfl, ru, trivial⟩, .cons rb .nil, .cons rd .nil⟩
  | e :: es, k :: ks, x :: vs, kv :: kvs, vv :: vvs, he, r1, r2, hd, h0 => by
    have he0 := he
    obtain ⟨h1, h2, h3, h4⟩ := he
    cases r1 with
    | cons r1a r1b =>
      cases r2 with
      | cons r2a r2b =>
        have eq := eqv_dk (hd k List.mem_cons_self) hb
        have kk := tup_key (h0 k List.mem_cons_self) r1a h2
        simp only [xsOf, stR, pKs, pVs]
        have e1 : entryOfKey (nestedKind P w) (nk k, adOf e.key, e.val) = e := by
          obtain ⟨eh, ek, ev⟩ := e
          simp only at h1 kk
          simp only [entryOfKey]
          rw [h1, ← kk.1]
          rfl
        have tl := xs_entries (P := P) h4 r1b fun y hy => h0 y (List.mem_cons_of_mem _ hy)
        by_cases q : nk k = nk b
        · rw [if_pos q, if_pos (by rw [eq, decide_eq_true q]), if_pos (by rw [eq, decide_eq_true q])]
          refine ⟨kv :: kvs, u :: vvs, ?_, .cons r1a r1b, .cons rd r2b⟩
          rw [List.map_cons, ← tl]
          exact ⟨by simp only [entryOfKey]; rfl, by simp only [entryOfKey]; rw [← kk.1]; exact h2, ru, h4⟩
        · rw [if_neg q, if_neg (by rw [eq, decide_eq_false q]; simp), if_neg (by rw [eq, decide_eq_false q]; simp)]
          obtain ⟨kvs', vvs', g1, g2, g3⟩ := ent_put (bv := bv) hb hk0 rb rd ru h4 r1b r2b (fun y hy => hd y (List.mem_cons_of_mem _ hy)) fun y hy => h0 y (List.mem_cons_of_mem _ hy)
          refine ⟨kv :: kvs', vv :: vvs', ?_, .cons r1a g2, .cons r2a g3⟩
          rw [List.map_cons, e1]
          exact ⟨h1, h2, h3, g1⟩
  | [], [], _, [], _ :: _, h, _, _, _, _ => False.elim h
  | [], [], _, _ :: _, _, h, _, _, _, _ => False.elim h
  | [], _ :: _, _, _, _, h, _, _, _, _ => False.elim h
  | _ :: _, [], _, _, _, h, _, _, _, _ => False.elim h
  | _ :: _, _ :: _, _, [], _, h, _, _, _, _ => False.elim h
  | _ :: _, _ :: _, _, _ :: _, [], h, _, _, _, _ => False.elim h
  | _ :: _, _ :: _, [], _ :: _, _ :: _, h, _, r, _, _ => by cases r
end
end G8

set_option Elab.async false
set_option linter.all false
set_option maxRecDepth 100000
set_option maxHeartbeats 1000000
namespace G8
open PySem PySem.Spec PyProof.Rows L2
/-! ### dicts whose keys are ints, or bools -/
def flIs (bo : Bool) (k : Int) (v : Value) : Bool := match bo with
  | false => Value.isInt k v
  | true => (match v with
    | .bool b => decide ((if b = true then 1 else 0) = k)
    | _ => false)
theorem flIs_bool {k : Int} {v : Value} (h : flIs true k v = true) : ∃ b, v = .bool b ∧ (if b = true then 1 else 0) = k := by
  unfold flIs at h
  simp only at h
  split at h
  · exact ⟨_, rfl, of_decide_eq_true h⟩
  · cases h
def flKind (bo : Bool) (prog : Program) (w : World) : KeyKind prog w Int where
  is := flIs bo
  hash := hashInt
  inj := fun v a b ha hb => by
    cases bo with
    | false => exact Value.isInt_inj v a b ha hb
    | true =>
      obtain ⟨c, rfl, e1⟩ := flIs_bool ha
      obtain ⟨d, e, e2⟩ := flIs_bool hb
      cases e
      exact e1.symm.trans e2
  byValue := fun k v h => by
    cases bo with
    | false => obtain ⟨t, rfl⟩ := Value.isInt_shape (k := k) (v := v) h; rfl
    | true => obtain ⟨c, rfl, e1⟩ := flIs_bool h; rfl
  pyHash := fun {A E s k v Q} hv h => by
    cases bo with
    | false => obtain ⟨t, rfl⟩ := Value.isInt_shape (k := k) (v := v) hv; exact wpAny_pyHash_int h
    | true =>
      obtain ⟨c, rfl, e1⟩ := flIs_bool hv
      exact pyHash_leaf (k := .num k) (v := .bool c) (decide_eq_true e1) h
  eqBool := fun {A E s a b u v Q} hu hv h => by
    cases bo with
    | false =>
      obtain ⟨t, rfl⟩ := Value.isInt_shape (k := a) (v := u) hu
      obtain ⟨t2, rfl⟩ := Value.isInt_shape (k := b) (v := v) hv
      refine wpAny_eqBool_int ?_
      have : (a == b) = decide (a = b) := by by_cases e : a = b <;> simp [e]
      rw [this]
      exact h
    | true =>
      obtain ⟨c, rfl, e1⟩ := flIs_bool hu
      obtain ⟨d, rfl, e2⟩ := flIs_bool hv
      have : (c == d) = decide (a = b) := by subst e1 e2; cases c <;> cases d <;> rfl
      exact SeqAt.EqAt.bool_bool c d _ _ _ _ (by rw [this]; exact h)
  «strs» := fun k x t v h => by
    cases bo with
    | false => simp [flIs, Value.isInt] at h
    | true => obtain ⟨c, e, _⟩ := flIs_bool h; cases e
def intOf : D → Int
  | .int i => i
  | .bl b => if b = true then 1 else 0
  | _ => 0
def kvOf : D → V
  | .int i => .int i
  | .bl b => .bl b
  | _ => .non
/-- a flat key of kind c -/
def FlK (c : Bool) (d : D) : Prop := kdOf d = if c then 2 else 1
theorem FlK.nk {c : Bool} {d : D} (h : FlK c d) : G8.nk d = .num (intOf d) := by
  unfold FlK at h
  cases d <;> simp [kdOf] at h <;> first | rfl | (cases c <;> simp at h)
theorem FlK.is {c : Bool} {d : D} (h : FlK c d) {u : Value} (r : RelV (kvOf d) u) : flIs c (intOf d) u = true := by
  unfold FlK at h
  cases d with
  | int i =>
    cases c with
    | true => simp [kdOf] at h
    | false => obtain ⟨t, rfl⟩ := r; simp [flIs, intOf, Value.isInt]
  | bl b =>
    cases c with
    | false => simp [kdOf] at h
    | true => cases r; simp [flIs, intOf]
  | _ => cases c <;> simp [kdOf] at h
theorem FlK.of {c : Bool} {d : D} (h : FlK c d) {u : Value} (r : flIs c (intOf d) u = true) : RelV (kvOf d) u := by
  unfold FlK at h
  cases d with
  | int i =>
    cases c with
    | true => simp [kdOf] at h
    | false => obtain ⟨t, rfl⟩ := Value.isInt_shape (k := i) (v := u) r; exact ⟨t, rfl⟩
  | bl b =>
    cases c with
    | false => simp [kdOf] at h
    | true =>
      obtain ⟨e, rfl, e1⟩ := flIs_bool r
      have : e = b := by simp only [intOf] at e1; cases e <;> cases b <;> simp at e1 <;> rfl
      subst this
      rfl
  | _ => cases c <;> simp [kdOf] at h
section
variable {K : PySem.W.Frag} {T : Tb} {H : Hp} {ρ : Rho} {P : Program} {w : World} {h : Heap}
theorem FlK.rp {c : Bool} {d : D} (h : FlK c d) : Rp K T H ρ d (kvOf d) := by
  unfold FlK at h
  cases d with
  | int i => exact .int i
  | bl b => exact .bl b
  | _ => cases c <;> simp [kdOf] at h
theorem FlK.rv {c : Bool} {d : D} (h : FlK c d) {v : V} (r : Rp K T H ρ d v) : v = kvOf d := by
  unfold FlK at h
  cases r with
  | int i => rfl
  | bl b => rfl
  | _ => cases c <;> simp [kdOf] at h
def fsOf : List DictEntry → List D → List (Int × Value)
  | e :: es, d :: ds => (intOf d, e.val) :: fsOf es ds
  | _, _ => []
theorem fs_pairs {c : Bool} : ∀ {es : List DictEntry} {ks : List D} {kvs vvs : List V}, Ent w es ks kvs vvs → Rps K T H ρ ks kvs → (∀ k ∈ ks, FlK c k) → Pairs (flKind c P w) es (fsOf es ks) ∧ (∀ e ∈ es, ∃ k, (flKind c P w).is k e.key = true ∧ e.hash = (flKind c P w).hash k)
  | [], [], [], [], _, _, _ => ⟨.nil, fun _ h => by cases h⟩
  | e :: es, d :: ds, k :: ks, v :: vs, h, r, hk => by
    cases r with
    | cons r1 r2 =>
      obtain ⟨h1, h2, h3, h4⟩ := h
      obtain ⟨i1, i2⟩ := fs_pairs h4 r2 fun x hx => hk x (List.mem_cons_of_mem _ hx)
      have kd := hk d List.mem_cons_self
      have ev := kd.rv r1
      rw [ev] at h2
      have ei := kd.is h2
      refine ⟨.cons ei rfl i1, fun y hy => ?_⟩
      rcases List.mem_cons.mp hy with q | q
      · rw [q]; exact ⟨_, ei, by rw [h1, kd.nk]; rfl⟩
      · exact i2 y q
  | [], [], [], _ :: _, h, _, _ => False.elim h
  | [], [], _ :: _, _, h, _, _ => False.elim h
  | [], _ :: _, _, _, h, _, _ => False.elim h
  | _ :: _, [], _, _, h, _, _ => False.elim h
  | _ :: _, _ :: _, [], _, h, _, _ => False.elim h
  | _ :: _, _ :: _, _ :: _, [], h, _, _ => False.elim h
theorem fs_keys {c : Bool} : ∀ {es : List DictEntry} {ks : List D} {kvs vvs : List V}, Ent w es ks kvs vvs → (∀ k ∈ ks, FlK c k) → ((fsOf es ks).map fun p => NestedKey.num p.1) = nks ks
  | [], [], [], [], _, _ => by simp [fsOf, nks]
  | e :: es, d :: ds, k :: ks, v :: vs, h, hk => by simp only [fsOf, List.map_cons, nks, fs_keys h.2.2.2 fun x hx => hk x (List.mem_cons_of_mem _ hx), (hk d List.mem_cons_self).nk]
  | [], [], [], _ :: _, h, _ => False.elim h
  | [], [], _ :: _, _, h, _ => False.elim h
  | [], _ :: _, _, _, h, _ => False.elim h
  | _ :: _, [], _, _, h, _ => False.elim h
  | _ :: _, _ :: _, [], _, h, _ => False.elim h
  | _ :: _, _ :: _, _ :: _, [], h, _ => False.elim h
end
end G8

set_option Elab.async false
set_option linter.all false
set_option maxRecDepth 100000
set_option maxHeartbeats 1000000
namespace G8
open PySem PySem.Spec PyProof.Rows L2
theorem FlK.dk_eq {c : Bool} {a b : D} (ha : FlK c a) (hb : FlK c b) (ka : dkey a = true) (kb : dkey b = true) : D.eqv a b = decide (intOf a = intOf b) := by
  rw [eqv_dk ka kb, ha.nk, hb.nk]
  by_cases e : intOf a = intOf b <;> simp [e]
section
variable {K : PySem.W.Frag} {T : Tb} {H : Hp} {ρ : Rho} {P : Program} {w : World} {h : Heap}
theorem fs_find {c : Bool} {b : D} (hb : dkey b = true) (fb : FlK c b) : ∀ {es : List DictEntry} {ks vs : List D} {kvs vvs : List V}, Ent w es ks kvs vvs → Rps K T H ρ vs vvs → (∀ k ∈ ks, dkey k = true) → (∀ k ∈ ks, FlK c k) →
    inD b ks = (valueAt (fsOf es ks) (intOf b)).isSome ∧ ∀ v, lkD b ks vs = some v → ∃ p u, valueAt (fsOf es ks) (intOf b) = some p ∧ RelV u p ∧ Rp K T H ρ v u
  | [], [], [], [], [], _, _, _, _ => ⟨rfl, fun v e => by cases e⟩
  | e :: es, d :: ds, x :: xs, k :: ks, v :: vs, he, r, hd, hf => by
    cases r with
    | cons r1 r2 =>
      obtain ⟨h1, h2, h3, h4⟩ := he
      obtain ⟨i1, i2⟩ := fs_find hb fb h4 r2 (fun y hy => hd y (List.mem_cons_of_mem _ hy)) fun y hy => hf y (List.mem_cons_of_mem _ hy)
      have eq := (hf d List.mem_cons_self).dk_eq fb (hd d List.mem_cons_self) hb
      by_cases q : intOf d = intOf b
      · have eqt : D.eqv d b = true := by rw [eq, decide_eq_true q]
        have a1 : valueAt (fsOf (e :: es) (d :: ds)) (intOf b) = some e.val := by simp [valueAt, fsOf, q]
        refine ⟨?_, fun z hz => ?_⟩
        · rw [a1]; simp [inD, eqt]
        · simp only [lkD, eqt, if_true] at hz
          cases hz
          exact ⟨_, v, a1, h3, r1⟩
      · have eqf : D.eqv d b = false := by rw [eq, decide_eq_false q]
        have a1 : valueAt (fsOf (e :: es) (d :: ds)) (intOf b) = valueAt (fsOf es ds) (intOf b) := by simp [valueAt, fsOf, q]
        refine ⟨?_, fun z hz => ?_⟩
        · rw [a1, ← i1]; simp [inD, eqf]
        · simp only [lkD, eqf, Bool.false_eq_true, if_false] at hz
          rw [a1]
          exact i2 z hz
  | [], [], _, [], _ :: _, h, _, _, _ => False.elim h
  | [], [], _, _ :: _, _, h, _, _, _ => False.elim h
  | [], _ :: _, _, _, _, h, _, _, _ => False.elim h
  | _ :: _, [], _, _, _, h, _, _, _ => False.elim h
  | _ :: _, _ :: _, _, [], _, h, _, _, _ => False.elim h
  | _ :: _, _ :: _, _, _ :: _, [], h, _, _, _ => False.elim h
  | _ :: _, _ :: _, [], _ :: _, _ :: _, h, r, _, _ => by cases r
  | [], [], _ :: _, [], [], h, r, _, _ => by cases r
/-- the store, item by item -/
def stFl (k : Int) (v : Value) : List (Int × Value) → List (Int × Value)
  | [] => [(k, v)]
  | x :: r => if x.1 = k then (x.1, v) :: r else x :: stFl k v r
theorem mapF_no {k : Int} {v : Value} : ∀ {xs : List (Int × Value)}, k ∉ xs.map (·.1) → xs.map (fun kv => if kv.1 = k then (kv.1, v) else kv) = xs
  | [], _ => rfl
  | x :: xs, h => by
    simp only [List.map_cons, List.mem_cons, not_or] at h
    simp only [List.map_cons, mapF_no h.2]
    congr 1
    rw [if_neg (Ne.symm h.1)]
theorem stFl_eq (k : Int) (v : Value) : ∀ {xs : List (Int × Value)}, (xs.map (·.1)).Nodup → stored xs k v = stFl k v xs
  | [], _ => by simp [stored, stFl]
  | x :: xs, h => by
    rw [List.map_cons, List.nodup_cons] at h
    have ih := stFl_eq k v h.2
    simp only [stFl]
    by_cases q : x.1 = k
    · rw [if_pos q]
      unfold stored
      rw [if_pos (by simp [q]), List.map_cons, mapF_no (by rw [← q]; exact h.1), if_pos q]
    · rw [if_neg q, ← ih]
      unfold stored
      simp only [List.any_cons, q, decide_false, Bool.false_or]
      split
      · rw [List.map_cons, if_neg q]
      · rfl
/-- entries from pairs -/
theorem ent_of {c : Bool} : ∀ {es : List DictEntry} {ps : List (Int × Value)} {ks vs : List D} {vvs : List V}, Pairs (flKind c P w) es ps → (∀ e ∈ es, ∃ k, (flKind c P w).is k e.key = true ∧ e.hash = (flKind c P w).hash k) → (∀ k ∈ ks, FlK c k) → ps.map (·.1) = ks.map intOf → Vals vvs (ps.map (·.2)) →
    Ent w es ks (ks.map kvOf) vvs
  | [], [], [], _, [], _, _, _, _, _ => trivial
  | e :: es, p :: ps, k :: ks, _, v :: vvs, hp, hk, hf, h1, h2 => by
    cases hp with
    | cons a1 a2 a3 =>
      simp only [List.map_cons, List.cons.injEq] at h1
      cases h2 with
      | cons b1 b2 =>
        obtain ⟨k', c1, c2⟩ := hk e List.mem_cons_self
        have ek : k' = p.1 := (flKind c P w).inj _ _ _ c1 a1
        have fk := hf k List.mem_cons_self
        refine ⟨?_, fk.of (by rw [← h1.1]; exact a1), by rw [a2]; exact b1, ent_of (vs := []) a3 (fun y hy => hk y (List.mem_cons_of_mem _ hy)) (fun y hy => hf y (List.mem_cons_of_mem _ hy)) h1.2 b2⟩
        rw [c2, ek, h1.1, fk.nk]
        rfl
  | [], [], _ :: _, _, _, _, _, _, h1, _ => by simp at h1
  | [], [], [], _, _ :: _, _, _, _, _, h2 => by cases h2
  | _ :: _, _ :: _, [], _, _, _, _, _, h1, _ => by simp at h1
  | _ :: _, _ :: _, _ :: _, _, [], _, _, _, _, h2 => by cases h2
  | [], _ :: _, _, _, _, hp, _, _, _, _ => by cases hp
  | _ :: _, [], _, _, _, hp, _, _, _, _ => by cases hp
theorem fs_put {c : Bool} {b d : D} {u : V} {val : Value} (hb : dkey b = true) (fb : FlK c b) (rd : Rp K T H ρ d u) (ru : RelV u val) : ∀ {es : List DictEntry} {ks vs : List D} {kvs vvs : List V}, Ent w es ks kvs vvs → Rps K T H ρ vs vvs → (∀ k ∈ ks, dkey k = true) → (∀ k ∈ ks, FlK c k) →
    (stFl (intOf b) val (fsOf es ks)).map (·.1) = (pKs b ks).map intOf ∧ ∃ vvs', Vals vvs' ((stFl (intOf b) val (fsOf es ks)).map (·.2)) ∧ Rps K T H ρ (pVs b d ks vs) vvs'
  | [], [], vs, [], [], _, r, _, _ => by
    cases r
    exact ⟨rfl, [u], .cons ru .nil, .cons rd .nil⟩
  | e :: es, k :: ks, x :: vs, kv :: kvs, vv :: vvs, he, r, hd, hf => by
    obtain ⟨h1, h2, h3, h4⟩ := he
    cases r with
    | cons r2a r2b =>
      have eq := (hf k List.mem_cons_self).dk_eq fb (hd k List.mem_cons_self) hb
      have tl : ∀ {es : List DictEntry} {ks : List D} {kvs vvs : List V}, Ent w es ks kvs vvs → (fsOf es ks).map (·.1) = ks.map intOf ∧ Vals vvs ((fsOf es ks).map (·.2)) := by
        intro es
        induction es with
        | nil =>
          intro ks kvs vvs he
          cases ks with
          | nil =>
            cases kvs with
            | nil =>
              cases vvs with
              | nil => exact ⟨rfl, .nil⟩
              | cons _ _ => exact False.elim he
            | cons _ _ => exact False.elim he
          | cons _ _ => exact False.elim he
        | cons e es ih =>
          intro ks kvs vvs he
          cases ks with
          | nil => exact False.elim he
          | cons k ks =>
            cases kvs with
            | nil => exact False.elim he
            | cons kv kvs =>
              cases vvs with
              | nil => exact False.elim he
              | cons vv vvs =>
                obtain ⟨h1, h2, h3, h4⟩ := he
                obtain ⟨i1, i2⟩ := ih h4
                exact ⟨by simp only [fsOf, List.map_cons, i1], .cons h3 i2⟩
      simp only [fsOf, stFl, pKs, pVs]
      by_cases q : intOf k = intOf b
      · rw [if_pos q, if_pos (by rw [eq, decide_eq_true q]), if_pos (by rw [eq, decide_eq_true q])]
        obtain ⟨t1, t2⟩ := tl h4
        exact ⟨by simp only [List.map_cons, t1], u :: vvs, .cons ru t2, .cons rd r2b⟩
      · rw [if_neg q, if_neg (by rw [eq, decide_eq_false q]; simp), if_neg (by rw [eq, decide_eq_false q]; simp)]
        obtain ⟨g1, vvs', g2, g3⟩ := fs_put hb fb rd ru h4 r2b (fun y hy => hd y (List.mem_cons_of_mem _ hy)) fun y hy => hf y (List.mem_cons_of_mem _ hy)
        exact ⟨by simp only [List.map_cons, g1], vv :: vvs', .cons h3 g2, .cons r2a g3⟩
  | [], [], _, [], _ :: _, h, _, _, _ => False.elim h
  | [], [], _, _ :: _, _, h, _, _, _ => False.elim h
  | [], _ :: _, _, _, _, h, _, _, _ => False.elim h
  | _ :: _, [], _, _, _, h, _, _, _ => False.elim h
  | _ :: _, _ :: _, _, [], _, h, _, _, _ => False.elim h
  | _ :: _, _ :: _, _, _ :: _, [], h, _, _, _ => False.elim h
  | _ :: _, _ :: _, [], _ :: _, _ :: _, h, r, _, _ => by cases r
end
end G8

set_option Elab.async false
set_option linter.all false
set_option maxRecDepth 100000
set_option maxHeartbeats 1000000
namespace G8
open PySem PySem.Spec PyProof.Rows L2
/-! ### a dict of the store, in the heap -/
structure DAt (K : PySem.W.Frag) (T : Tb) (H : Hp) (ρ : Rho) (a : Addr) (ks vs : List D) (es : Array DictEntry) (kvs vvs : List V) : Prop where
  sm : (a == sysModules) = false
  p : DctP ks vs
  e : H a = some (DO a es)
  rk : Rps K T H ρ ks kvs
  rv : Rps K T H ρ vs vvs
  en : Ent T.wd es.toList ks kvs vvs
section
variable {K : PySem.W.Frag} {T : Tb} {H : Hp} {ρ : Rho} {st : Sto} {n : Nat} {a : Addr} {ks vs : List D} {es : Array DictEntry} {kvs vvs : List V} {P : Program} {w : World} {h : Heap}
theorem SR.dct (s : SR K T H ρ st) (e1 : st[n]? = some (.dct ks vs)) (e2 : ρ.ix[n]? = some a) : ∃ es kvs vvs, DAt K T H ρ a ks vs es kvs vvs := by
  obtain ⟨sm, p, es, kvs, vvs, e, rk, rv, en⟩ := s.at_ n _ a e1 e2
  exact ⟨es, kvs, vvs, sm, p, e, rk, rv, en⟩
theorem ent_len {w : World} : ∀ {es : List DictEntry} {ks : List D} {kvs vvs : List V}, Ent w es ks kvs vvs → es.length = ks.length
  | [], [], [], [], _ => rfl
  | e :: es, d :: ds, k :: ks, v :: vs, h => by simp only [List.length_cons, ent_len h.2.2.2]
  | [], [], [], _ :: _, h => False.elim h
  | [], [], _ :: _, _, h => False.elim h
  | [], _ :: _, _, _, h => False.elim h
  | _ :: _, [], _, _, h => False.elim h
  | _ :: _, _ :: _, [], _, h => False.elim h
  | _ :: _, _ :: _, _ :: _, [], h => False.elim h
theorem xs_length : ∀ {es : List DictEntry} {ks : List D}, es.length = ks.length → (xsOf es ks).length = ks.length
  | [], [], _ => rfl
  | e :: es, d :: ds, h => by simp only [xsOf, List.length_cons]; rw [xs_length (by simpa using h)]
  | [], _ :: _, h => by simp at h
  | _ :: _, [], h => by simp at h
theorem fs_length : ∀ {es : List DictEntry} {ks : List D}, es.length = ks.length → (fsOf es ks).length = ks.length
  | [], [], _ => rfl
  | e :: es, d :: ds, h => by simp only [fsOf, List.length_cons]; rw [fs_length (by simpa using h)]
  | [], _ :: _, h => by simp at h
  | _ :: _, [], h => by simp at h
theorem DAt.obj (d : DAt K T H ρ a ks vs es kvs vvs) (ok : HOk P w H h) : ∃ o ep, h.get? a = some o ∧ o.ExactDict ∧ o.data = .dict es ep := by
  obtain ⟨x, _, _⟩ := ok a _ d.e
  exact x
theorem DAt.tup (d : DAt K T H ρ a ks vs es kvs vvs) (ok : HOk P w H h) (hw : T.wd = w) (h0 : ∀ k ∈ ks, kdOf k = 0) : h.DictOfH (nestedKind P w) a (xsOf es.toList ks) := by
  obtain ⟨o, ep, g1, g2, g3⟩ := d.obj ok
  have en := d.en
  rw [hw] at en
  exact ⟨o, es, ep, g1, g2, g3, xs_entries en d.rk h0, xs_is ok en d.rk h0 d.p.ky, by rw [xs_keys en]; exact d.p.nd⟩
theorem DAt.flat {c : Bool} (d : DAt K T H ρ a ks vs es kvs vvs) (ok : HOk P w H h) (hw : T.wd = w) (h0 : ∀ k ∈ ks, FlK c k) : h.DictOf (flKind c P w) a (fsOf es.toList ks) := by
  obtain ⟨o, ep, g1, g2, g3⟩ := d.obj ok
  have en := d.en
  rw [hw] at en
  obtain ⟨p1, p2⟩ := fs_pairs (P := P) en d.rk h0
  refine ⟨o, es, ep, g1, g2, g3, fun e he => p2 e (by simpa using he), p1, ?_⟩
  have nd := d.p.nd
  rw [← fs_keys en h0] at nd
  have : ((fsOf es.toList ks).map fun p => NestedKey.num p.1) = ((fsOf es.toList ks).map (·.1)).map NestedKey.num := by rw [List.map_map]; rfl
  rw [this] at nd
  rw [List.nodup_iff_pairwise_ne, List.pairwise_map] at nd
  exact List.nodup_iff_pairwise_ne.mpr (nd.imp fun h e => h (by rw [e]))
end
theorem same_kd {b : D} {ks : List D} (h : dsame b ks = true) : dkey b = true ∧ (∀ k ∈ ks, kdOf k = kdOf b) ∧ (kdOf b = 0 ∨ ∃ c, FlK c b) := by
  simp only [dsame, Bool.and_eq_true, List.all_eq_true, beq_iff_eq] at h
  refine ⟨h.1, h.2, ?_⟩
  have := (Bool.and_eq_true_iff.mp h.1).2
  simp only [decide_eq_true_eq] at this
  obtain z | z | z : kdOf b = 0 ∨ kdOf b = 1 ∨ kdOf b = 2 := by omega
  · exact .inl z
  · exact .inr ⟨false, z⟩
  · exact .inr ⟨true, z⟩
section
variable {X : Cx} {T : Tb} {a : Addr} {ks vs : List D} {es : Array DictEntry} {kvs vvs : List V} {ρ : Rho} {H : Hp} {b : D} {x : V} {u : Value} {pins : List (Addr × Obj)} {σ : L2.St} {s : Shared} {Q : VK}
theorem d_inA (hu : X.A.units + 65 < cLine) (hw : T.wd = X.w) (I : Inv X pins σ H s) (dd : DAt X.K T H ρ a ks vs es kvs vvs) (hs : dsame b ks = true) (rb : Rp X.K T H ρ b x) (ru : RelV x u) (neg : Bool) (q : Q (.bl (if neg then !(inD b ks) else inD b ks)) H) :
    wpAny (model X.prog X.w) X.A (compareOp (if neg then .NotIn else .In) u (.ref a)) (EP X pins σ Q) X.xe s := by
  obtain ⟨k1, k2, k3⟩ := same_kd hs
  have en := dd.en
  rw [hw] at en
  rcases k3 with h0 | ⟨c, h0⟩
  · have hk : ∀ k ∈ ks, kdOf k = 0 := fun k hk => (k2 k hk).trans h0
    have kk := tup_key h0 rb ru
    have kf := kf_of k1
    have ni := nis I.hok kf rb ru
    rw [kk.1] at ni ⊢
    obtain ⟨f1, _⟩ := xs_find k1 en dd.rv dd.p.ky
    have kd : (nestedKind X.prog X.w).is s.heap (nk b) (adOf u) := ⟨ni, Nat.le_trans (nk_depth 6 b kf) (by omega)⟩
    cases neg with
    | false =>
      refine wpAny_in_heap (knd := nestedKind X.prog X.w) (by show X.A.units + 1 + 8 < cLine; omega) kd dd.sm (dd.tup I.hok hw hk) ?_
      rw [← f1]
      exact ⟨.bl (inD b ks), H, I.kept fun _ _ z => z, rfl, q⟩
    | true =>
      refine notIn_keyed (knd := nestedKind X.prog X.w) (by show X.A.units + 1 + 8 < cLine; omega) kd dd.sm ⟨_, dd.tup I.hok hw hk, rfl⟩ ?_
      rw [valueAt_pairsH, Option.isSome_map, ← f1]
      exact ⟨.bl (!(inD b ks)), H, I.kept fun _ _ z => z, rfl, q⟩
  · have hk : ∀ k ∈ ks, FlK c k := fun k hk => (k2 k hk).trans h0
    obtain ⟨f1, _⟩ := fs_find k1 h0 en dd.rv dd.p.ky hk
    rw [h0.rv rb] at ru
    cases neg with
    | false =>
      refine wpAny_in_of (knd := flKind c X.prog X.w) (h0.is ru) dd.sm (dd.flat I.hok hw hk).mapOf ?_
      rw [← f1]
      exact ⟨.bl (inD b ks), H, I.kept fun _ _ z => z, rfl, q⟩
    | true =>
      refine wpAny_notIn_of (knd := flKind c X.prog X.w) (h0.is ru) dd.sm (dd.flat I.hok hw hk).mapOf ?_
      rw [← f1]
      exact ⟨.bl (!(inD b ks)), H, I.kept fun _ _ z => z, rfl, q⟩
theorem d_getA (hu : X.A.units + 65 < cLine) (hw : T.wd = X.w) (I : Inv X pins σ H s) (dd : DAt X.K T H ρ a ks vs es kvs vvs) (hs : dsame b ks = true) (rb : Rp X.K T H ρ b x) (ru : RelV x u) {v : D} (hv : lkD b ks vs = some v) (q : ∀ y, Rp X.K T H ρ v y → Q y H) :
    wpAny (model X.prog X.w) X.A (getItem (.ref a) u) (EP X pins σ Q) X.xe s := by
  obtain ⟨k1, k2, k3⟩ := same_kd hs
  have en := dd.en
  rw [hw] at en
  rcases k3 with h0 | ⟨c, h0⟩
  · have hk : ∀ k ∈ ks, kdOf k = 0 := fun k hk => (k2 k hk).trans h0
    have kk := tup_key h0 rb ru
    have kf := kf_of k1
    have ni := nis I.hok kf rb ru
    rw [kk.1] at ni ⊢
    obtain ⟨p, y, f2, f3, f4⟩ := (xs_find k1 en dd.rv dd.p.ky).2 v hv
    exact wpAny_getItem_heap (knd := nestedKind X.prog X.w) (by show X.A.units + 1 + 8 < cLine; omega) ⟨ni, Nat.le_trans (nk_depth 6 b kf) (by omega)⟩ (dd.tup I.hok hw hk) f2 ⟨y, H, I.kept fun _ _ z => z, f3, q y f4⟩
  · have hk : ∀ k ∈ ks, FlK c k := fun k hk => (k2 k hk).trans h0
    obtain ⟨p, y, f2, f3, f4⟩ := (fs_find k1 h0 en dd.rv dd.p.ky hk).2 v hv
    rw [h0.rv rb] at ru
    exact wpAny_getItem_of (knd := flKind c X.prog X.w) (h0.is ru) (dd.flat I.hok hw hk).mapOf f2 ⟨y, H, I.kept fun _ _ z => z, f3, q y f4⟩
theorem do_ok {P : Program} {w : World} {h : Heap} {o : Obj} {ep : Nat} (g1 : h.get? a = some o) (g2 : o.ExactDict) (g3 : o.data = .dict es ep) : ObjOk P w H h a (DO a es) :=
  ⟨⟨o, ep, g1, g2, g3⟩, ⟨o, g1⟩, fun _ _ ⟨o1, e1, q1, q2⟩ k => ⟨o1, e1, k o1 q1, q2⟩⟩
theorem d_setA (hu : X.A.units + 65 < cLine) (hw : T.wd = X.w) (I : Inv X pins σ H s) (dd : DAt X.K T H ρ a ks vs es kvs vvs) (hs : dsame b ks = true) (rb : Rp X.K T H ρ b x) (ru : RelV x u) {d : D} {y : V} {r : Value} (rd : Rp X.K T H ρ d y) (ry : RelV y r) {R : Unit → Shared → Prop} (hl : ks.length < LIM)
    (q : ∀ s' es' kvs' vvs', Inv X pins σ (upd H a (DO a es')) s' → Ent T.wd es'.toList (pKs b ks) kvs' vvs' → Rps X.K T H ρ (pKs b ks) kvs' → Rps X.K T H ρ (pVs b d ks vs) vvs' → R () s') :
    wpAny (model X.prog X.w) X.A (setItem (.ref a) u r) R X.xe s := by
  obtain ⟨k1, k2, k3⟩ := same_kd hs
  have en := dd.en
  rw [hw] at en
  have el := ent_len en
  have sz : ks.length ≤ sizeLine := by rw [sizeLine_eq]; exact dd.p.lim
  have mu : Mut (H a) := by rw [dd.e]; exact True.intro
  rcases k3 with h0 | ⟨c, h0⟩
  · have hk : ∀ k ∈ ks, kdOf k = 0 := fun k hk => (k2 k hk).trans h0
    have kk := tup_key h0 rb ru
    have kf := kf_of k1
    have ni := nis I.hok kf rb ru
    rw [kk.1] at ni ⊢
    rw [kk.2] at rb
    refine wpAny_setItem_heap (knd := nestedKind X.prog X.w) (hsz := by rw [xs_length el]; exact sz) (by show X.A.units + 1 + 8 < cLine; omega) ⟨ni, Nat.le_trans (nk_depth 6 b kf) (by omega)⟩ (dd.tup I.hok hw hk) fun h' hm hsb => ?_
    obtain ⟨o, es', ep, g1, g2, g3, g4, g5, g6⟩ := hm
    have nd : ((xsOf es.toList ks).map (·.1)).Nodup := by rw [xs_keys en]; exact dd.p.nd
    rw [stR_eq _ _ _ nd] at g4
    obtain ⟨kvs', vvs', p1, p2, p3⟩ := ent_put (P := X.prog) (bv := x) k1 h0 rb rd ry en dd.rk dd.rv dd.p.ky hk
    exact q _ es' kvs' vvs' (d_write I mu hsb ⟨o, g1⟩ (do_ok g1 g2 g3)) (by rw [hw, g4]; exact p1) p2 p3
  · have hk : ∀ k ∈ ks, FlK c k := fun k hk => (k2 k hk).trans h0
    have ru' := ru
    rw [h0.rv rb] at ru'
    refine wpAny_setItem_pairs (knd := flKind c X.prog X.w) (hsz := by rw [fs_length el]; exact sz) (h0.is ru') (dd.flat I.hok hw hk) fun h' hm hsb => ?_
    have nd := (dd.flat I.hok hw hk)
    obtain ⟨_, _, _, _, _, _, _, _, nd⟩ := nd
    obtain ⟨o, es', ep, g1, g2, g3, g4, g5, g6⟩ := hm
    rw [stFl_eq _ _ nd] at g5
    obtain ⟨p1, vvs', p2, p3⟩ := fs_put k1 h0 rd ry en dd.rv dd.p.ky hk
    have hk' : ∀ k ∈ pKs b ks, FlK c k := fun k hm => by
      rcases pKs_mem hm with z | z
      · rw [z]; exact h0
      · exact hk k z
    have e' := ent_of (P := X.prog) (vs := []) g5 (fun e he => g4 e (by simpa using he)) hk' p1 p2
    refine q _ es' _ vvs' (d_write I mu hsb ⟨o, g1⟩ (do_ok g1 g2 g3)) (by rw [hw]; exact e') ?_ p3
    have : ∀ l : List D, (∀ k ∈ l, FlK c k) → Rps X.K T H ρ l (l.map kvOf) := by
      intro l
      induction l with
      | nil => intro _; exact .nil
      | cons z l ih => intro hz; exact .cons (hz z List.mem_cons_self).rp (ih fun k hk => hz k (List.mem_cons_of_mem _ hk))
    exact this _ hk'
end
end G8

set_option Elab.async false
set_option linter.all false
set_option maxRecDepth 100000
set_option maxHeartbeats 1000000
namespace G8
open PySem PySem.Spec PyProof.Rows L2
section
variable {X : Cx} {T : Tb}
def rDin (K : PySem.W.Frag) (T : Tb) (neg : Bool) : R2 := fun x y H Q => ∃ ρ h n ks vs b, SR K T H ρ h ∧ h[n]? = some (.dct ks vs) ∧ Rp K T H ρ (.ref n) y ∧ Rp K T H ρ b x ∧ dsame b ks = true ∧ Q (.bl (if neg then !(inD b ks) else inD b ks)) H
theorem op_dinR (hu : X.A.units + 65 < cLine) (hw : T.wd = X.w) (neg : Bool) : OpR X (compareOp (if neg then .NotIn else .In)) (rDin X.K T neg) := by
  intro pins s σ H x y v u Q I rx ry ⟨ρ, h, n, ks, vs, b, sr, e1, rn, rb, hs, q⟩
  cases rn with
  | ref hp =>
    obtain ⟨es, kvs, vvs, dd⟩ := sr.dct e1 hp
    cases ry
    exact d_inA hu hw I dd hs rb rx neg q
def rDix (K : PySem.W.Frag) (T : Tb) : R2 := fun x y H Q => ∃ ρ h n ks vs b v, SR K T H ρ h ∧ h[n]? = some (.dct ks vs) ∧ Rp K T H ρ (.ref n) x ∧ Rp K T H ρ b y ∧ dsame b ks = true ∧ lkD b ks vs = some v ∧ ∀ z, Rp K T H ρ v z → Q z H
theorem ix_dctR (hu : X.A.units + 65 < cLine) (hw : T.wd = X.w) : IxR X (rDix X.K T) := by
  intro value slice pins s σ H x y v u Q I rx ry ⟨ρ, h, n, ks, vs, b, d, sr, e1, rn, rb, hs, hv, q⟩ hsl
  cases rn with
  | ref hp =>
    obtain ⟨es, kvs, vvs, dd⟩ := sr.dct e1 hp
    cases rx
    obtain ⟨o, ep, g1, g2, g3⟩ := dd.obj I.hok
    exact tail_any ⟨o, g1, g2.1⟩ PySem.F.slot_dict_getitem.lookup (d_getA hu hw I dd hs rb ry hv q) hsl
def rDst (K : PySem.W.Frag) (T : Tb) : V → V → V → Hp → (Hp → Prop) → Prop := fun o i v H Q => ∃ ρ h n ks vs b d, SR K T H ρ h ∧ h[n]? = some (.dct ks vs) ∧ Rp K T H ρ (.ref n) o ∧ Rp K T H ρ b i ∧ Rp K T H ρ d v ∧ dsame b ks = true ∧ D.nr d = true ∧ ks.length < LIM ∧
  ∀ H', Ext ρ H ρ H' → SR K T H' ρ (h.set n (.dct (pKs b ks) (pVs b d ks vs))) → Q H'
theorem set_dctR (hu : X.A.units + 65 < cLine) (hw : T.wd = X.w) : PSet X (rDst X.K T) := by
  intro pins s σ H o i v ov iv u Q I ro ri rv ⟨ρ, h, n, ks, vs, b, d, sr, e1, rn, rb, rd, hs, hn, hl, q⟩
  cases rn with
  | ref hp =>
    rename_i a
    obtain ⟨es, kvs, vvs, dd⟩ := sr.dct e1 hp
    cases ro
    refine d_setA hu hw I dd hs rb ri rd rv hl fun s' es' kvs' vvs' I' en' rk' rv' => ⟨_, I', ?_⟩
    have xt : Ext ρ H ρ (upd H a (DO a es')) := Ext.write sr hp
    exact q _ xt (sr.write hp (get_lt e1) ⟨dd.sm, dd.p.put hs hn hl, es', kvs', vvs', upd_same, rk'.ext xt, rv'.ext xt, en'⟩)
end
section
variable {P : Prg} {T : Tb} {X : Cx} {W : WX} {d : Nat} {a b : Expr} {ia ib : IE} {pos : Pos}
theorem dctOf_ref {h : Sto} {x : D} {ks vs : List D} (e : dctOf h x = some (ks, vs)) : ∃ n, x = .ref n ∧ h[n]? = some (.dct ks vs) := by
  unfold dctOf at e
  split at e
  · rename_i n
    split at e
    · rename_i k v e1
      cases e
      exact ⟨n, rfl, e1⟩
    · cases e
  · cases e
theorem din_imp {K : PySem.W.Frag} {ps : Bool} {F : Nat} {σ : L2.St} {H : Hp} {Q : VK} (q : tE T K (stepE P (ev P F) d) W (.din ps ia ib) σ H Q) : tOp (rDin K T (!ps)) (tE T K ((ev P F).e d) W ia) (tE T K ((ev P F).e d) W ib) σ H Q := by
  obtain ⟨ρ, h, σa, s, rs, q⟩ := q
  refine two (Φ := fun x y H2 => rDin K T (!ps) x y H2 Q) s rs q fun x y v u H2 ρ2 h2 s2 r1 r2 q2 => ?_
  cases e : dctOf h2 y with
  | none => rw [e] at q2; exact False.elim q2
  | some p =>
    obtain ⟨ks, vs⟩ := p
    rw [e] at q2
    simp only at q2
    obtain ⟨n, rfl, e1⟩ := dctOf_ref e
    split at q2
    · rename_i hs
      refine ⟨ρ2, h2, n, ks, vs, x, s2, e1, r2, r1, hs, ?_⟩
      have := q2.ok s2 (.bl _)
      cases ps <;> exact this
    · exact False.elim q2
theorem g_din (hx : XO X W d) (hw : T.wd = X.w) {ps : Bool} {o : CmpOp} (ho : o = if ps then .In else .NotIn) (ha : GE P T X W d a ia) (hb : GE P T X W d b ib) (hm : behindInMarks o b = false) : GE P T X W d (.Compare a [o] [b] pos) (.din ps ia ib) := .of fun F => by
  have e : o = if (!ps) then .NotIn else .In := by rw [ho]; cases ps <;> rfl
  subst e
  exact (pe_cmpR (op_dinR hx.hu hw (!ps)) (ha F) (hb F) hm).imp fun σ H Q q => din_imp q
theorem gt_din (hx : XO X W d) (hw : T.wd = X.w) {ps : Bool} {o : CmpOp} (ho : o = if ps then .In else .NotIn) (ha : GE P T X W d a ia) (hb : GE P T X W d b ib) (hm : behindInMarks o b = false) : GT P T X W d (.Compare a [o] [b] pos) (.din ps ia ib) := .of fun F => by
  have e : o = if (!ps) then .NotIn else .In := by rw [ho]; cases ps <;> rfl
  subst e
  exact (pt_cmpR (op_dinR hx.hu hw (!ps)) (ha F) (hb F) hm).imp fun σ H Q q => din_imp (tT_tE q)
theorem g_didx (hx : XO X W d) (hw : T.wd = X.w) (ha : GE P T X W d a ia) (hb : GE P T X W d b ib) (hs : plainIx b = true) : GE P T X W d (.Subscript a b pos) (.didx ia ib) := .of fun F => by
  refine (pe_ix (ix_dctR hx.hu hw) (ha F) (hb F) (plain_ix hs)).imp fun σ H Q ⟨ρ, h, σa, s, rs, q⟩ => ?_
  refine two (Φ := fun x y H2 => rDix X.K T x y H2 Q) s rs q fun x y v u H2 ρ2 h2 s2 r1 r2 q2 => ?_
  unfold getD_ at q2
  split at q2
  · rename_i ks vs e
    obtain ⟨n, rfl, e1⟩ := dctOf_ref e
    split at q2
    · rename_i hs
      split at q2
      · rename_i v hv
        exact ⟨ρ2, h2, n, ks, vs, y, v, s2, e1, r1, r2, hs, hv, fun z rz => q2.ok s2 rz⟩
      · exact False.elim q2
    · exact False.elim q2
  · exact False.elim q2
theorem g1_didx (hx : XO X W d) (hw : T.wd = X.w) (ha : GE P T X W d a ia) (hb : GE P T X W d b ib) (hs : plainIx b = true) : G1 P T X d (.Subscript a b pos) (.didx ia ib) := fun F =>
  (pg_sub (ha F) (hb F) (set_dctR hx.hu hw) (asg_sub hs)).imp fun v σ H Q ⟨ρ, h, σa, dd, s, rs, r, q⟩ => ⟨ρ, h, σa, s, rs, AftG.bind q fun x h1 u H1 ρ1 x1 s1 r1 q1 => ⟨ρ1, h1, σa, s1, rs.ext x1, AftG.bind q1 fun y h2 w H2 ρ2 x2 s2 r2 q2 => by
    have r1' := Rp.ext x2 r1
    unfold setD at q2
    split at q2
    · rename_i n
      cases e1 : h2[n]? with
      | none => rw [e1] at q2; exact False.elim q2
      | some ob =>
        cases ob with
        | dct ks vs =>
          rw [e1] at q2
          simp only at q2
          by_cases hc : (dsame y ks && D.nr dd && decide (ks.length < LIM)) = true
          · rw [if_pos hc] at q2
            simp only [Bool.and_eq_true, decide_eq_true_eq] at hc
            exact ⟨ρ2, h2, n, ks, vs, y, dd, s2, e1, r1', r2, (r.ext x1).ext x2, hc.1.1, hc.1.2, hc.2, fun H' xt sr => q2 σ H' ρ2 xt sr (((rs.ext x1).ext x2).ext xt)⟩
          · rw [if_neg hc] at q2; exact False.elim q2
        | _ => rw [e1] at q2; exact False.elim q2
    · exact False.elim q2⟩⟩
/-! ### {} -/
theorem pe_dnew0 : PE X (.Dict [] [] pos) (fun _ H Q => ∀ p, H p = none → (p == sysModules) = false → Q (.ref p) (upd H p (DO p #[]))) := ⟨fun pins s σ H Q I q =>
  wpAny_Dict_empty ⟨.ref s.heap.objs.size, _, I.laid (a := s.heap.objs.size) (o := DO s.heap.objs.size #[]) (t' := s.toks) (fun _ _ z => Heap.get?_push_of_some _ z) (Nat.le_refl _) (do_ok (Heap.get?_push_size _ rfl) ⟨rfl, rfl, rfl⟩ rfl), rfl,
    q _ (I.hok.fresh (Nat.le_refl _)) (beq_eq_false_iff_ne.mpr (Ne.symm (Nat.ne_of_lt I.big)))⟩⟩
theorem g_dnew : GE P T X W d (.Dict [] [] pos) .dnew := .of fun F => pe_dnew0.imp fun σ H Q ⟨ρ, h, σa, s, rs, q⟩ p hp sm => by
  have xt : Ext ρ H (ρ.push p) (upd H p (DO p #[])) := Ext.push s hp
  exact q _ _ _ xt (s.push hp ⟨sm, DctP.nil, #[], [], [], upd_same, .nil, .nil, trivial⟩) (.ref (push_get s))
end
end G8

set_option Elab.async false
set_option linter.all false
set_option maxRecDepth 100000
set_option maxHeartbeats 1000000
namespace G8
open PySem PySem.Spec PyProof.Rows L2
/-! ### len(d) -/
def rDln : List V → Hp → VK → Prop := fun xs H Q => ∃ a es, xs = [.ref a] ∧ H a = some (DO a es) ∧ (a == sysModules) = false ∧ es.size ≤ sizeLine ∧ Q (.int es.size) H
theorem call_dln {X : Cx} : CallR X (.builtin "len") rDln := by
  intro pins s σ H xs us Q I r ⟨a, es, e0, ea, sm, sz, q⟩
  subst e0
  cases r with
  | cons rx rr =>
    cases rr
    cases rx
    obtain ⟨⟨o, ep, g1, g2, g3⟩, _, _⟩ := I.hok a _ ea
    have raw : s.heap.DictRaw a es ep := ⟨o, g1, g2, g3⟩
    rw [sizeLine_eq] at sz
    refine call_len_slot (n := es.size) raw.typeIs PySem.F.slot_dict_len (fun Q' hq => call_len_raw sm raw hq) (by omega) (by omega) ?_
    exact ⟨.int es.size, H, I.kept fun _ _ z => z, ⟨_, rfl⟩, q⟩
section
variable {P : Prg} {T : Tb} {X : Cx} {W : WX} {d : Nat} {a b : Expr} {ia ib : IE} {p pos : Pos}
theorem g_dln (hx : XO X W d) (hg : Gl X "len") (hm : X.mg "len" = none) (ha : GE P T X W d a ia) (hs : noStar a = true) : GE P T X W d (.Call (.Name "len" p) [a] [] pos) (.dln ia) := .of fun F => by
  refine (pe_callB call_dln hg hm (by decide +kernel) (ga_cons ha ga_nil hs F) (by decide) (by decide) (star_cons hs) (star_any rfl)).imp fun σ H Q ⟨ρ, h, σa, s, rs, q⟩ => ?_
  change Aft X.K T W σ ρ H (((ev P F).e d ia σa h).bind _) (Rp X.K T) Q at q
  refine ⟨ρ, h, σa, s, rs, ?_⟩
  have e2 : evs ((ev P F).e d) [ia] σa h = ((ev P F).e d ia σa h).bind fun z h1 => .ok [z] h1 := by
    simp only [evs]
    cases (ev P F).e d ia σa h <;> rfl
  rw [e2]
  cases e : (ev P F).e d ia σa h with
  | stuck => rw [e] at q; exact q
  | err c h1 => rw [e] at q; exact q
  | ok z h1 =>
    rw [e] at q
    simp only [R.bind] at q
    intro vs H1 ρ1 x1 s1 r1
    cases r1 with
    | cons ra rr =>
      cases rr
      cases e3 : dctOf h1 z with
      | none => rw [e3] at q; exact False.elim q
      | some pr =>
        obtain ⟨ks, vs⟩ := pr
        rw [e3] at q
        obtain ⟨n, rfl, e1⟩ := dctOf_ref e3
        cases ra with
        | ref hp =>
          rename_i ad
          obtain ⟨es, kvs, vvs, dd⟩ := s1.dct e1 hp
          have el := ent_len dd.en
          have es2 : es.size = ks.length := by rw [← el]; simp
          refine ⟨ad, es, rfl, dd.e, dd.sm, by rw [es2, sizeLine_eq]; exact dd.p.lim, ?_⟩
          have := q (.int ks.length) H1 ρ1 x1 s1 (.int _)
          rw [es2]
          exact this
end
end G8

set_option Elab.async false
set_option linter.all false
set_option maxRecDepth 100000
set_option maxHeartbeats 1000000
namespace G8
open PySem PySem.Spec PyProof.Rows L2
section
variable {K : PySem.W.Frag} {T : Tb} {H H2 : Hp} {ρ : Rho} {h h2 : Sto} {DD : Addr} {ix : List Addr}
theorem Mv.pushB : Mv ⟨ix, ρ.bz ++ [DD]⟩ H2 ⟨ix ++ [DD], ρ.bz⟩ H2 := ⟨fun n a e => by
    show (ix ++ [DD])[n]? = some a
    rw [List.getElem?_append_left (List.getElem?_eq_some_iff.mp e).1]; exact e, fun _ _ _ e => e, fun a o hn e => ⟨fun hm => by
      rcases List.mem_append.mp hm with z | z
      · exact hn.1 z
      · exact hn.2 (List.mem_append_right _ z), fun hm => hn.2 (List.mem_append_left _ hm)⟩⟩
/-- what was being filled becomes an object of the store -/
theorem pushB {o : O} (s : SR K T H ρ h) (hD : H DD = none) (x : Ext ρ H ⟨ix, ρ.bz⟩ H2) (s2 : SR K T H2 ⟨ix, ρ.bz ++ [DD]⟩ h2) (new : OR K T H2 ⟨ix ++ [DD], ρ.bz⟩ o DD) :
    Ext ρ H (Rho.mk (ix ++ [DD]) ρ.bz) H2 ∧ SR K T H2 ⟨ix ++ [DD], ρ.bz⟩ (h2 ++ [o]) ∧ (ix ++ [DD])[h2.length]? = some DD := by
  have hl : ix.length = h2.length := s2.len
  have get : (ix ++ [DD])[h2.length]? = some DD := by rw [← hl, List.getElem?_append_right (Nat.le_refl _), Nat.sub_self]; rfl
  refine ⟨⟨x.pre.trans (List.prefix_append _ _), rfl, x.fr, x.kp, fun a ha => ?_⟩, ⟨?_, ?_, fun n u a e1 e2 => ?_, fun a ha => s2.bz a (List.mem_append_left _ ha)⟩, get⟩
  · rcases List.mem_append.mp ha with z | z
    · exact x.new a z
    · rw [List.mem_singleton.mp z]; exact .inr ⟨hD, (s.fresh hD).2⟩
  · have z : (ix ++ (ρ.bz ++ [DD])).Nodup := s2.nd
    show ((ix ++ [DD]) ++ ρ.bz).Nodup
    rw [List.append_assoc]
    exact (List.Perm.append_left ix (List.perm_append_comm (l₁ := [DD]) (l₂ := ρ.bz))).nodup_iff.mpr z
  · show (ix ++ [DD]).length = _
    rw [List.length_append, List.length_append, hl]
    rfl
  · have e2' : (ix ++ [DD])[n]? = some a := e2
    by_cases hn : n < h2.length
    · rw [List.getElem?_append_left hn] at e1
      rw [List.getElem?_append_left (by rw [hl]; exact hn)] at e2'
      exact (s2.at_ n u a e1 e2').mv Mv.pushB rfl
    · have hne : n = h2.length := by
        have := (List.getElem?_eq_some_iff.mp e1).1
        rw [List.length_append, List.length_singleton] at this
        omega
      subst hne
      rw [List.getElem?_append_right (Nat.le_refl _), Nat.sub_self] at e1
      cases e1
      rw [get] at e2'
      cases e2'
      exact new
end
end G8

set_option Elab.async false
set_option linter.all false
set_option maxRecDepth 100000
set_option maxHeartbeats 1000000
namespace G8
open PySem PySem.Spec PyProof.Rows L2
/-! ### {k: v}, k a tuple -/
def tDdis (X : Cx) (tk tv : TE) : TE := fun σ H Q => ∀ p, H p = none → (p == sysModules) = false → tk σ (upd H p (DO p #[])) fun x H1 => tv σ H1 fun y H2 => H2 p = some (DO p #[]) ∧ ∃ (key : NestedKey) (b : Addr), x = .ref b ∧
  (∀ h, HOk X.prog X.w H2 h → (nestedKind X.prog X.w).is h key b) ∧ ∀ val, RelV y val → Q (.ref p) (upd H2 p (DO p #[⟨key.hash X.w, .ref b, val⟩]))
theorem pe_ddis1 {X : Cx} {k v : Expr} {tk tv : TE} {pos : Pos} (hu : X.A.units + 65 < cLine) (hk : PE X k tk) (hv : PE X v tv) : PE X (.Dict [some k] [v] pos) (tDdis X tk tv) := by
  refine ⟨fun pins s σ H Q I q => ?_⟩
  have hn := I.hok.fresh (Nat.le_refl s.heap.objs.size)
  have I1 := I.laid (a := s.heap.objs.size) (o := DO s.heap.objs.size #[]) (h' := s.heap.push { cls := .type "dict", data := .dict #[] }) (t' := s.toks) (fun _ _ z => Heap.get?_push_of_some _ z) (Nat.le_refl _) (do_ok (Heap.get?_push_size _ rfl) ⟨rfl, rfl, rfl⟩ rfl)
  have q1 := q s.heap.objs.size hn (beq_eq_false_iff_ne.mpr (Ne.symm (Nat.ne_of_lt I.big)))
  rw [arm_eval_Dict]
  have hshape : (evalEachOpt [some k] X.env).zip ((evalEach [v] X.env).map fun w => do let x ← w; standAt pos; pure x) = [(eval k X.env, do let x ← eval v X.env; standAt pos; pure x)].map fun p => (some p.1, p.2) := rfl
  rw [hshape, dictDisplay_pairs _ (by simp) (by simp)]
  refine wpAny_bind (wpAny_standAt (wpAny_bind (wpAny_subDictH (knd := nestedKind X.prog X.w) (Q := fun d s' => wpAny (model X.prog X.w) X.A (pure (Value.ref d)) (EP X pins σ Q) X.xe s') (by show X.A.units + 8 < cLine; omega) (by simp) ?_)))
  unfold evalPairs
  refine wpAny_bind (thn (hk.run pins _ σ _ _ I1 q1) fun kv sa ⟨x, Ha, Ia, ra, qa⟩ => ?_)
  refine wpAny_bind (wpAny_holding (wpAny_bind (thn (hv.run pins sa σ Ha _ Ia qa) fun vv sb ⟨y, Hb, Ib, rb, eb, key, b, ex, ki, qb⟩ => ?_)))
  subst ex
  cases ra
  refine wpAny_bind (wpAny_standAt (wpAny_pure ?_))
  refine wpAny_bind (wpAny_holding ?_)
  refine wpAny_pure (wpAny_pure ?_)
  obtain ⟨⟨o, ep, g1, g2, g3⟩, _, _⟩ := Ib.hok _ _ eb
  refine ⟨[(key, b, vv)], ⟨rfl, rfl, ki _ Ib.hok, trivial⟩, ⟨o, #[], ep, g1, g2, g3, rfl, (fun _ z => by cases z), List.nodup_nil⟩, fun h' tk hm hsb => ?_⟩
  obtain ⟨o2, es2, ep2, m1, m2, m3, m4, m5, m6⟩ := hm
  have e4 : es2 = #[⟨key.hash X.w, .ref b, vv⟩] := by
    have : es2.toList = [⟨key.hash X.w, .ref b, vv⟩] := by
      rw [m4]
      simp [storedAllH, storedH, atKey, entryOfKey]
      rfl
    have z := congrArg List.toArray this
    simpa using z
  rw [e4] at m3
  exact wpAny_pure ⟨.ref s.heap.objs.size, _, d_write Ib (by rw [eb]; exact True.intro) hsb ⟨o2, m1⟩ (do_ok m1 m2 m3), rfl, qb vv rb⟩
section
variable {K : PySem.W.Frag} {T : Tb} {H H' : Hp} {ρ ρ' : Rho} {h : Sto} {p : Addr} {o : HO}
theorem Ext.unb (s : SR K T H ρ h) (hp : H p = Option.none) (x : Ext (ρ.busy p) (upd H p o) ρ' H') : Ext ρ H ⟨ρ'.ix, ρ.bz⟩ H' := by
  have nf := s.fresh hp
  refine ⟨x.pre, rfl, fun a u hn e => ?_, fun a ha => ?_, fun a ha => ?_⟩
  · have ne : a ≠ p := ne_of_none e hp
    refine x.fr a u ⟨hn.1, fun hm => ?_⟩ (by rw [upd_ne ne]; exact e)
    rcases List.mem_append.mp hm with z | z
    · exact hn.2 z
    · exact ne (List.mem_singleton.mp z)
  · have ne : a ≠ p := fun z => nf.2 (z ▸ ha)
    rw [x.kp a (List.mem_append_left _ ha), upd_ne ne]
  · rcases x.new a ha with z | ⟨z1, z2⟩
    · exact .inl z
    · have ne : a ≠ p := fun z => z2 (List.mem_append_right _ (List.mem_singleton.mpr z))
      rw [upd_ne ne] at z1
      exact .inr ⟨z1, fun z => z2 (List.mem_append_left _ z)⟩
end
section
variable {P : Prg} {T : Tb} {X : Cx} {W : WX} {d : Nat} {a b : Expr} {ia ib : IE} {pos : Pos}
theorem g_ddis (hx : XO X W d) (hw : T.wd = X.w) (ha : GE P T X W d a ia) (hb : GE P T X W d b ib) : GE P T X W d (.Dict [some a] [b] pos) (.ddis ia ib) := .of fun F => by
  refine (pe_ddis1 hx.hu (ha F) (hb F)).imp fun σ H Q ⟨ρ, h, σa, s, rs, q⟩ p hp sm => ?_
  change Aft X.K T W σ ρ H (((ev P F).e d ia σa h).bind fun x h1 => ((ev P F).e d ib σa h1).bind fun y h2 => if dkey x && D.nr y && decide (kdOf x = 0) then .ok (.ref h2.length) (h2 ++ [.dct [x] [y]]) else .stuck) (Rp X.K T) Q at q
  have sb := s.busy (o := DO p #[]) hp
  have rsb := rs.mv (Mv.busy (o := DO p #[]) hp)
  refine ⟨ρ.busy p, h, σa, sb, rsb, ?_⟩
  cases e1 : (ev P F).e d ia σa h with
  | stuck => rw [e1] at q; exact q
  | err c h1 =>
    rw [e1] at q
    intro H' ρ' x1 s1
    exact q H' _ (Ext.unb s hp x1) (s1.unbusy (by rw [x1.bz]; rfl))
  | ok x h1 =>
    rw [e1] at q
    simp only [R.bind] at q
    intro v H1 ρ1 x1 s1 r1
    refine ⟨ρ1, h1, σa, s1, rsb.ext x1, ?_⟩
    cases e2 : (ev P F).e d ib σa h1 with
    | stuck => rw [e2] at q; exact q
    | err c h2 =>
      rw [e2] at q
      intro H' ρ' x2 s2
      exact q H' _ (Ext.unb s hp (x1.trans x2)) (s2.unbusy (by rw [x2.bz, x1.bz]; rfl))
    | ok y h2 =>
      rw [e2] at q
      simp only at q
      intro u H2 ρ2 x2 s2 r2
      by_cases hc : (dkey x && D.nr y && decide (kdOf x = 0)) = true
      · rw [if_pos hc] at q
        simp only [Bool.and_eq_true, decide_eq_true_eq] at hc
        obtain ⟨⟨c1, c2⟩, c3⟩ := hc
        have r1' := Rp.ext x2 r1
        have hp2 : H2 p = some (DO p #[]) := by
          rw [x2.kp p (by rw [x1.bz]; exact List.mem_append_right _ (List.mem_singleton.mpr rfl)), x1.kp p (List.mem_append_right _ (List.mem_singleton.mpr rfl)), upd_same]
        have hv : ∃ bb, v = .ref bb := by
          cases r1' with
          | tup st rr => exact ⟨_, rfl⟩
          | _ => simp [kdOf] at c3
        obtain ⟨bb, rfl⟩ := hv
        refine ⟨hp2, nk x, bb, rfl, fun hh ok => ⟨nis ok (kf_of c1) r1' rfl, Nat.le_trans (nk_depth 6 x (kf_of c1)) (by omega)⟩, fun val rv => ?_⟩
        have bz2 : ρ2.bz = ρ.bz ++ [p] := by rw [x2.bz, x1.bz]; rfl
        have s3 : SR X.K T (upd H2 p (DO p #[⟨(nk x).hash X.w, .ref bb, val⟩])) ρ2 h2 := s2.fill (by rw [bz2]; exact List.mem_append_right _ (List.mem_singleton.mpr rfl))
        have m3 : Mv ρ2 H2 ρ2 (upd H2 p (DO p #[⟨(nk x).hash X.w, .ref bb, val⟩])) := Mv.fill (by rw [bz2]; exact List.mem_append_right _ (List.mem_singleton.mpr rfl))
        have xa := Ext.unb s hp (x1.trans x2)
        have xb : Ext ρ H ⟨ρ2.ix, ρ.bz⟩ (upd H2 p (DO p #[⟨(nk x).hash X.w, .ref bb, val⟩])) := ⟨xa.pre, rfl, fun z u hn e => by rw [upd_ne (ne_of_none e hp)]; exact xa.fr z u hn e, fun z hz => by
          have nz : z ≠ p := fun w => (s.fresh hp).2 (by rw [← w]; exact hz)
          rw [upd_ne nz]; exact xa.kp z hz, xa.new⟩
        obtain ⟨ix2, bzz⟩ := ρ2
        simp only at bz2
        subst bz2
        have new : OR X.K T (upd H2 p (DO p #[⟨(nk x).hash X.w, .ref bb, val⟩])) ⟨ix2 ++ [p], ρ.bz⟩ (.dct [x] [y]) p := by
          refine ⟨sm, ⟨rfl, by show 1 ≤ 16777216; omega, by simp [D.nrs, c2], fun k hk => by rw [List.mem_singleton.mp hk]; exact c1, ⟨kdOf x, fun k hk => by rw [List.mem_singleton.mp hk]⟩, by simp [nks]⟩, _, [.ref bb], [u], upd_same, .cons ((r1'.mv m3).mv Mv.pushB) .nil, .cons ((r2.mv m3).mv Mv.pushB) .nil, ?_⟩
          exact ⟨by rw [hw], rfl, rv, trivial⟩
        obtain ⟨xf, sf, gf⟩ := pushB s hp xb s3 new
        exact q _ _ _ xf sf (.ref gf)
      · rw [if_neg hc] at q; exact False.elim q
end
end G8

set_option Elab.async false
set_option linter.all false
set_option maxRecDepth 100000
set_option maxHeartbeats 1000000
namespace G8
open PySem PySem.Spec PyProof.Rows L2
/-! ### a call that leaves a keyword's default, and one that gives the keyword -/
def tCallKW (n m : Nat) (sp : Sp) (gV : List V → List V → List V) (E : L2.St → XK) (t tk : TA) : TE := fun σ H Q => t σ H fun vs H1 => tk σ H1 fun zs H2 => vs.length = n ∧ zs.length = m ∧ sp (gV vs zs) H2 Q (E σ)
section
variable {X : Cx} {CXx : CXT} {k n : Nat} {f : Addr} {fd : FuncData} {ps ks : List Str} {sp : Sp} {E : L2.St → XK} {x : Str} {p pos : Pos} {e : Expr} {es : List Expr} {kws : List Keyword} {t tk : TA} {g : List Value → List Value → List Value} {gV : List V → List V → List V}
theorem pe_callKW (F : FnOk X.prog X.w X.K X.mg X.base CXx k f fd ps sp) (hr : Room k X.A) (hg : Gl X x) (hm : X.mg x = some (.ref f)) (hk : PySem.W.keepIn X.K (.ref f) = true) (hb : KBn X.K fd ps n ks g gV) (hx : ∀ σ, PassesAt CXx X σ (E σ))
    (ha : PA X (e :: es) t) (hkw : PK X kws tk) (hall : (backToKw pos (keywordEach kws X.env)).all (·.1.isSome) = true) (hks : (backToKw pos (keywordEach kws X.env)).filterMap (·.1) = ks)
    (hdb : (x == ("__debug__" : Str)) = false) (he : starEach (e :: es) X.env = (false, eval e X.env) :: starEach es X.env)
    (hpl : ((backTo pos (starEach (e :: es) X.env)).any (·.1) || (backToKw pos (keywordEach kws X.env)).any (·.1.isNone)) = false) :
    PE X (.Call (.Name x p) (e :: es) kws pos) (tCallKW n ks.length sp gV E t tk) := by
  refine ⟨fun pins s σ H Q I q => wpAny_Call_Name_kw (ld_glob I hg hm ?_ hdb)⟩
  refine PySem.W.callWith_KW (h₀ := X.base) I.ok.mod.kin hk hall (thn (ha.run pos pins s σ H _ I q) fun us sa ⟨vs, Ha, Ia, ra, qa⟩ => ?_) hpl he
  refine thn (hkw.run pos pins sa σ Ha _ Ia qa) fun ws sb ⟨zs, Hb, Ib, rb, la, lb, qb⟩ => ⟨Ib.kIn, ?_⟩
  rw [hks]
  refine wpAny_call (codeAny_mono (F.run X.A X.stack sb Hb ⟨us, ks.zip ws⟩ (g us ws) (gV vs zs) Q (E σ) hr Ib.env0 (hb.to sb us ws Ib.kIn (ra.length.symm.trans la) (rb.length.symm.trans lb)) (hb.rel ra rb) qb) fun res sc hq => ?_)
  cases res with
  | error ex => exact hx σ pins Hb sb ex sc Ib hq
  | ok fl =>
    cases fl with
    | ret u => exact Ib.after hq
    | next => exact False.elim hq
    | brk => exact False.elim hq
    | cont => exact False.elim hq
end
section
variable {P : Prg} {T : Tb} {X : Cx} {W : WX} {d : Nat} {a b c : Expr} {ia ib ic : IE} {p pos kpos : Pos}
theorem evs3 {r : Rn} {σa : Sl} {h : Sto} : evs r [ia, ib, ic] σa h = (evs r [ia, ib] σa h).bind fun xs h1 => (r ic σa h1).bind fun z h2 => .ok (xs ++ [z]) h2 := by
  simp only [evs]
  cases r ia σa h with
  | ok x h1 =>
    simp only [R.bind]
    cases r ib σa h1 with
    | ok y h2 =>
      simp only [R.bind]
      cases r ic σa h2 with
      | ok z h3 => rfl
      | err _ _ => rfl
      | stuck => rfl
    | err _ _ => rfl
    | stuck => rfl
  | err _ _ => rfl
  | stuck => rfl
theorem bind_assoc {α β γ : Type} {r : R α} {f : α → Sto → R β} {g : β → Sto → R γ} : (r.bind f).bind g = r.bind fun x h => (f x h).bind g := by cases r <;> rfl
/-- what is known of a def with one keyword -/
structure KwF (K : PySem.W.Frag) (fd : FuncData) (ps : List Str) (kw : Str) (dv : Int) : Prop where
  kb : KBn K fd ps 2 [kw] (fun us ws => us ++ ws) (fun us ws => us ++ ws)
  db : ∃ ds, Vals [V.int dv] ds ∧ Binds K fd ps ds
theorem g_callK (hx : XO X W d) {f : Nat} {fi : Fi} {x kw : Str} {dv : Int} (hF : FOk P T X d f fi) (hg : Gl X x) (hm : X.mg x = some (.ref fi.ad)) (hk : PySem.W.keepIn X.K (.ref fi.ad) = true) (hb : KwF X.K fi.fd fi.ps kw dv) (ha : GA P T X W d [a, b] [ia, ib]) (hc : GE P T X W d c ic)
    (hdb : (x == ("__debug__" : Str)) = false) (hs : [a, b].all noStar = true) : GE P T X W d (.Call (.Name x p) [a, b] [⟨some kw, c, kpos⟩] pos) (.call f [ia, ib, ic]) := .of fun F => by
  simp only [List.all_cons, List.all_nil, Bool.and_eq_true, Bool.and_true] at hs
  refine (pe_callKW (E := WE W) hF hx.room hg hm hk hb.kb (passAt hx.tk) (ha F) (pk_cons (hc F) pk_nil) rfl rfl hdb (star_cons hs.1) ?_).imp fun σ H Q ⟨ρ, h, σa, s, rs, q⟩ => ?_
  · rw [Bool.or_eq_false_iff]
    exact ⟨star_any (by simp [hs.1, hs.2]), rfl⟩
  · change Aft X.K T W σ ρ H ((evs ((ev P F).e d) [ia, ib, ic] σa h).bind fun xs h1 => (ev P F).c d f xs h1) (Rp X.K T) Q at q
    rw [evs3, bind_assoc] at q
    refine ⟨ρ, h, σa, s, rs, ?_⟩
    cases e : evs ((ev P F).e d) [ia, ib] σa h with
    | stuck => rw [e] at q; exact q
    | err c h1 => rw [e] at q; exact q
    | ok xs h1 =>
      rw [e] at q
      intro vs H1 ρ1 x1 s1 r1
      have lx := evs_len e
      have q1 : Aft X.K T W σ ρ1 H1 ((((ev P F).e d ic σa h1).bind fun z h2 => .ok (xs ++ [z]) h2).bind fun xs h1 => (ev P F).c d f xs h1) (Rp X.K T) Q := Aft.ext q x1
      rw [bind_assoc] at q1
      refine ⟨ρ1, h1, σa, s1, rs.ext x1, Aft.bind (Rel2 := Rp X.K T) (Q := Q) q1 fun z h2 v H2 ρ2 x2 s2 r2 q2 => ?_⟩
      exact ⟨by rw [← r1.length, lx]; rfl, rfl, F, ρ2, h2, xs ++ [z], s2, (r1.ext x2).snoc r2, q2.toE⟩
theorem g_callD (hx : XO X W d) {f : Nat} {fi : Fi} {x kw : Str} {dv : Int} (hF : FOk P T X d f fi) (hg : Gl X x) (hm : X.mg x = some (.ref fi.ad)) (hk : PySem.W.keepIn X.K (.ref fi.ad) = true) (hb : KwF X.K fi.fd fi.ps kw dv) (ha : GA P T X W d [a, b] [ia, ib])
    (hdb : (x == ("__debug__" : Str)) = false) (hs : [a, b].all noStar = true) : GE P T X W d (.Call (.Name x p) [a, b] [] pos) (.call f [ia, ib, .cst (.int dv)]) := .of fun F => by
  simp only [List.all_cons, List.all_nil, Bool.and_eq_true, Bool.and_true] at hs
  obtain ⟨ds, vd, bd⟩ := hb.db
  refine (pe_callSD (E := WE W) hF hx.room hg hm hk bd vd (passAt hx.tk) (ha F) hdb (star_cons hs.1) (star_any (by simp [hs.2]))).imp fun σ H Q ⟨ρ, h, σa, s, rs, q⟩ => ?_
  change Aft X.K T W σ ρ H ((evs ((ev P F).e d) [ia, ib, .cst (.int dv)] σa h).bind fun xs h1 => (ev P F).c d f xs h1) (Rp X.K T) Q at q
  rw [evs3, bind_assoc] at q
  refine ⟨ρ, h, σa, s, rs, Aft.bind (Rel2 := Rp X.K T) (Q := Q) q fun xs h1 vs H1 ρ1 x1 s1 r1 q1 => ?_⟩
  cases F with
  | zero => exact False.elim q1
  | succ F =>
    change Aft X.K T W σ ρ1 H1 ((ev P (F + 1)).c d f (xs ++ [.int dv]) h1) (Rp X.K T) Q at q1
    exact ⟨F + 1, ρ1, h1, xs ++ [.int dv], s1, r1.snoc (.int dv), q1.toE⟩
end
end G8

set_option Elab.async false
set_option linter.all false
set_option maxRecDepth 100000
set_option maxHeartbeats 1000000
namespace G8
open PySem PySem.Spec L2
/-! ### a check that an expression of mine is the one that stands in the text -/
structure Ck where
  bn : List Str
  fns : List (Str × Nat)
  gis : List (Str × Int)
  cls : List (Str × Nat)
  exs : List (Str × Nat)
  fl : List Str
  ms : List (Str × Nat)
  kfs : List (Str × Nat × Str × Int)
structure MF (P : Prg) (T : Tb) (C : Ck) (fi : Nat → Fi) (prog : Program) (w : World) (K : PySem.W.Frag) (mg : Str → Option Value) (base : Heap) (d : Nat) : Prop where
  bn : ∀ x ∈ C.bn, mg x = none
  fn : ∀ p ∈ C.fns, mg p.1 = some (.ref (fi p.2).ad) ∧ PySem.W.keepIn K (.ref (fi p.2).ad) = true ∧ Binds K (fi p.2).fd (fi p.2).ps []
  ok : ∀ f, ∀ d' ≤ d, FnOk prog w K mg base (L2.CX prog w) d' (fi f).ad (fi f).fd (fi f).ps (spF P T K d' f)
  gi : ∀ p ∈ C.gis, ∃ t, mg p.1 = some (.int p.2 t)
  ms : ∀ p ∈ C.ms, p.1 ∉ T.fl ∧ (∃ c f, (c, p.2, f) ∈ P.meth) ∧ ∀ cc f, (cc, p.2, f) ∈ P.meth → Cls K (T.ca cc) ∧ Meth K (T.ca cc) p.1 (fi f).ad ∧ Binds K (fi f).fd (fi f).ps []
  mkk : ∀ p ∈ C.cls, mg p.1 = some (.ref (T.ca p.2)) ∧ T.ow p.2 = true ∧ ∃ f, P.init.lookup p.2 = some f ∧ Mk K (T.ca p.2) (fi f).ad ∧ Binds K (fi f).fd (fi f).ps []
  ex : ∀ p ∈ C.exs, mg p.1 = some (.ref (T.ca p.2)) ∧ PySem.W.keepIn K (.ref (T.ca p.2)) = true ∧ PySem.W.subIn K (.ref (T.ca p.2)) (.type "BaseException") = some true ∧ PySem.W.typeIn K (.ref (T.ca p.2)) = some (.type "type") ∧
    ∃ B newId initId bmB, ExcBaseFacts B newId initId bmB ∧ PySem.W.excIn K (T.ca p.2) bmB newId = true
  kf : ∀ p ∈ C.kfs, mg p.1 = some (.ref (fi p.2.1).ad) ∧ PySem.W.keepIn K (.ref (fi p.2.1).ad) = true ∧ KwF K (fi p.2.1).fd (fi p.2.1).ps p.2.2.1 p.2.2.2
  fl : T.fl = C.fl
  wd : T.wd = w
  ow : Own K T
  exk : ∀ k, P.exm.contains (k, k) = true → ExcC K (T.ca k) ∧ PySem.W.kitOne K (.ref (T.ca k)) (.type "ValueError") = some true ∧ ∀ p ∈ C.exs, PySem.W.exmOne K (.ref (T.ca k)) (.ref (T.ca p.2)) = some (P.exm.contains (k, p.2)) ∧ PySem.W.kitOne K (.ref (T.ca k)) (.ref (T.ca p.2)) = some (P.exm.contains (k, p.2))
structure Okx (P : Prg) (T : Tb) (C : Ck) (fi : Nat → Fi) (N : List Str) (d : Nat) (X : Cx) (W : WX) (sc : Scope) : Prop where
  hN : X.N = N
  hsc : X.env.scope = sc
  xo : XO X W d
  mf : MF P T C fi X.prog X.w X.K X.mg X.base d
theorem Okx.blk {P : Prg} {T : Tb} {C : Ck} {fi : Nat → Fi} {N : List Str} {d : Nat} {X : Cx} {W : WX} {sc : Scope} (o : Okx P T C fi N d X W sc) (scope : Scope) : Blk X scope fun Y => Okx P T C fi N d Y WF (relS scope sc) := fun s H Ca cl fp =>
  ⟨o.hN, by have := o.hsc; subst this; rfl, o.xo.blk scope s H Ca cl fp, o.mf⟩
/-- the checkers of a level -/
structure Rc where
  e : Scope → Expr → IE → Bool
  t : Scope → Expr → IE → Bool
  f : Scope → Expr → IE → Bool
structure Snd (P : Prg) (T : Tb) (C : Ck) (fi : Nat → Fi) (N : List Str) (d : Nat) (r : Rc) : Prop where
  e : ∀ {X W sc e ie}, Okx P T C fi N d X W sc → r.e sc e ie = true → GE P T X W d e ie
  t : ∀ {X W sc e ie}, Okx P T C fi N d X W sc → r.t sc e ie = true → GT P T X W d e ie
  f : ∀ {X W sc e ie}, Okx P T C fi N d X W sc → r.f sc e ie = true → GF P T X W d e ie
def glB (sc : Scope) (x : Str) : Bool := decide (sc.names.lookup x = some .globalImplicit) && !(x == ("__debug__" : Str)) && decide (x ≠ ("__name__" : Str))
def visB (sc : Scope) (x : Str) : Bool := (decide (sc.names.lookup x = some .local) || decide (sc.names.lookup x = some .cell) || decide (sc.names.lookup x = some .free)) && !(x == ("__debug__" : Str)) && !(x == ("__classdict__" : Str))
def bnB (C : Ck) (sc : Scope) (x : Str) : Bool := glB sc x && decide (x ∈ C.bn)
section
variable {P : Prg} {T : Tb} {C : Ck} {fi : Nat → Fi} {N : List Str} {d : Nat} {X : Cx} {W : WX} {sc : Scope} {r : Rc}
theorem Okx.gl (o : Okx P T C fi N d X W sc) {x : Str} (h : glB sc x = true) : Gl X x ∧ (x == ("__debug__" : Str)) = false ∧ x ≠ "__name__" := by
  simp only [glB, Bool.and_eq_true, decide_eq_true_eq, Bool.not_eq_true'] at h
  exact ⟨by show X.env.scope.names.lookup x = _; rw [o.hsc]; exact h.1.1, h.1.2, h.2⟩
theorem Okx.bn (o : Okx P T C fi N d X W sc) {x : Str} (h : bnB C sc x = true) : Gl X x ∧ X.mg x = none ∧ (x == ("__debug__" : Str)) = false ∧ x ≠ "__name__" := by
  simp only [bnB, Bool.and_eq_true, decide_eq_true_eq] at h
  obtain ⟨h1, h2, h3⟩ := o.gl h.1
  exact ⟨h1, o.mf.bn x h.2, h2, h3⟩
theorem Okx.vis (o : Okx P T C fi N d X W sc) {x : Str} (h : visB sc x = true) : Vis X.env.scope x ∧ (x == ("__debug__" : Str)) = false ∧ (x == ("__classdict__" : Str)) = false := by
  simp only [visB, Bool.and_eq_true, Bool.or_eq_true, decide_eq_true_eq, Bool.not_eq_true'] at h
  refine ⟨?_, h.1.2, h.2⟩
  rw [o.hsc]
  rcases h.1.1 with (h | h) | h
  · exact .inl h
  · exact .inr (.inl h)
  · exact .inr (.inr h)
/-! names and constants -/
def ckC (c : Const) (ie : IE) : Bool := match c, ie with
  | .int i, .cst (.int j) => decide (i = j)
  | .bool b, .cst (.bl k) => decide (b = k)
  | .none, .cst .non => true
  | .str s, .cst (.str y) => decide (s = ⟨y.toArray⟩)
  | _, _ => false
theorem ckC_ok {c : Const} {ie : IE} {k : Nat} {pos : Pos} (h : ckC c ie = true) : GE P T X W d (.Constant c k pos) ie := by
  unfold ckC at h
  split at h
  · simp only [decide_eq_true_eq] at h; subst h; exact g_int
  · simp only [decide_eq_true_eq] at h; subst h; exact g_bl
  · exact g_non
  · simp only [decide_eq_true_eq] at h; exact g_str h
  · cases h
def ckName (C : Ck) (N : List Str) (sc : Scope) (x : Str) (ie : IE) : Bool := match ie with
  | .var i => decide (N[i]? = some x) && visB sc x
  | .cst (.int i) => glB sc x && decide ((x, i) ∈ C.gis)
  | _ => false
theorem ckName_ok (o : Okx P T C fi N d X W sc) {x : Str} {ie : IE} {pos : Pos} (h : ckName C N sc x ie = true) : GE P T X W d (.Name x pos) ie := by
  unfold ckName at h
  split at h
  · simp only [Bool.and_eq_true, decide_eq_true_eq] at h
    obtain ⟨h1, h2, h3⟩ := o.vis h.2
    exact g_var (by rw [o.hN]; exact h.1) h1 h2 h3
  · simp only [Bool.and_eq_true, decide_eq_true_eq] at h
    obtain ⟨h1, h2, h3⟩ := o.gl h.1
    obtain ⟨t, ht⟩ := o.mf.gi _ h.2
    exact g_gint h1 ht h2
  · cases h
/-! lists of arguments -/
def ckA (r : Rc) (sc : Scope) : List Expr → List IE → Bool
  | [], [] => true
  | e :: es, i :: is => r.e sc e i && noStar e && ckA r sc es is
  | _, _ => false
theorem ckA_ok (S : Snd P T C fi N d r) (o : Okx P T C fi N d X W sc) : ∀ {es : List Expr} {is : List IE}, ckA r sc es is = true → GA P T X W d es is ∧ es.all noStar = true ∧ is.length = es.length
  | [], [], _ => ⟨ga_nil, rfl, rfl⟩
  | [], _ :: _, h => by simp [ckA] at h
  | _ :: _, [], h => by simp [ckA] at h
  | e :: es, i :: is, h => by
    simp only [ckA, Bool.and_eq_true] at h
    obtain ⟨h1, h2, h3⟩ := ckA_ok S o h.2
    exact ⟨ga_cons (S.e o h.1.1) h1 h.1.2, by rw [List.all_cons, h.1.2, h2]; rfl, by rw [List.length_cons, List.length_cons, h3]⟩
/-! comparisons -/
def ckCmp (r : Rc) (sc : Scope) (a : Expr) (op : CmpOp) (b : Expr) (ie : IE) : Bool := match ie with
  | .cmp p ia ib => decide (opc p = op) && r.e sc a ia && r.e sc b ib && !behindInMarks op b
  | .isn ps ia => decide (op = if ps then .Is else .IsNot) && r.e sc a ia && (match b with | .Constant .none _ _ => true | _ => false)
  | .isb ps v ia => decide (op = if ps then .Is else .IsNot) && r.e sc a ia && (match b with | .Constant (.bool w) _ _ => decide (w = v) | _ => false)
  | _ => false
theorem ckCmp_ok (S : Snd P T C fi N d r) (o : Okx P T C fi N d X W sc) {a b : Expr} {op : CmpOp} {ie : IE} {pos : Pos} (h : ckCmp r sc a op b ie = true) : GE P T X W d (.Compare a [op] [b] pos) ie ∧ GT P T X W d (.Compare a [op] [b] pos) ie := by
  unfold ckCmp at h
  split at h
  · simp only [Bool.and_eq_true, decide_eq_true_eq, Bool.not_eq_true'] at h
    exact ⟨g_cmp o.xo h.1.1.1 (S.e o h.1.1.2) (S.e o h.1.2) h.2, gt_cmp o.xo h.1.1.1 (S.e o h.1.1.2) (S.e o h.1.2) h.2⟩
  · simp only [Bool.and_eq_true, decide_eq_true_eq] at h
    obtain ⟨⟨h1, h2⟩, h3⟩ := h
    split at h3
    · exact ⟨g_isn h1 (S.e o h2), gt_isn h1 (S.e o h2)⟩
    · cases h3
  · simp only [Bool.and_eq_true, decide_eq_true_eq] at h
    obtain ⟨⟨h1, h2⟩, h3⟩ := h
    split at h3
    · simp only [decide_eq_true_eq] at h3
      subst h3
      exact ⟨g_isb h1 (S.e o h2), gt_isb h1 (S.e o h2)⟩
    · cases h3
  · cases h
def ckChn (r : Rc) (sc : Scope) (a : Expr) (o1 o2 : CmpOp) (b c : Expr) (ie : IE) : Bool := match ie with
  | .chn p1 p2 ia ib ic => decide (opc p1 = o1) && decide (opc p2 = o2) && r.e sc a ia && r.e sc b ib && r.e sc c ic && !lastMarks [o1, o2] [b, c]
  | _ => false
theorem ckChn_ok (S : Snd P T C fi N d r) (o : Okx P T C fi N d X W sc) {a b c : Expr} {o1 o2 : CmpOp} {ie : IE} {pos : Pos} (h : ckChn r sc a o1 o2 b c ie = true) : GE P T X W d (.Compare a [o1, o2] [b, c] pos) ie ∧ GT P T X W d (.Compare a [o1, o2] [b, c] pos) ie := by
  unfold ckChn at h
  split at h
  · simp only [Bool.and_eq_true, decide_eq_true_eq, Bool.not_eq_true'] at h
    obtain ⟨⟨⟨⟨⟨h1, h2⟩, h3⟩, h4⟩, h5⟩, h6⟩ := h
    exact ⟨g_chn o.xo h1 h2 (S.e o h3) (S.e o h4) (S.e o h5) h6, gt_chn o.xo h1 h2 (S.e o h3) (S.e o h4) (S.e o h5) h6⟩
  · cases h
/-! slices -/
def ckO (r : Rc) (sc : Scope) : Option Expr → Option IE → Bool
  | none, none => true
  | some e, some i => r.e sc e i
  | _, _ => false
theorem ckO_ok (S : Snd P T C fi N d r) (o : Okx P T C fi N d X W sc) : ∀ {e : Option Expr} {i : Option IE}, ckO r sc e i = true → GO P T X W d e i
  | none, none, _ => go_none
  | some e, some i, h => go_some (S.e o h)
  | none, some _, h => by simp [ckO] at h
  | some _, none, h => by simp [ckO] at h
def ckSub (r : Rc) (sc : Scope) (a b : Expr) (ie : IE) : Bool := match ie with
  | .idx ia ib => r.e sc a ia && r.e sc b ib && plainIx b
  | .sl ia lo hi => r.e sc a ia && (match b with
    | .Slice l h none _ => ckO r sc l lo && ckO r sc h hi
    | _ => false)
  | .rev ia => r.e sc a ia && (match b with
    | .Slice none none (some (.UnaryOp .USub (.Constant (.int 1) _ _) _)) _ => true
    | _ => false)
  | _ => false
theorem ckSub_ok (S : Snd P T C fi N d r) (o : Okx P T C fi N d X W sc) {a b : Expr} {ie : IE} {pos : Pos} (h : ckSub r sc a b ie = true) : GE P T X W d (.Subscript a b pos) ie := by
  unfold ckSub at h
  split at h
  · simp only [Bool.and_eq_true] at h
    exact g_idx (S.e o h.1.1) (S.e o h.1.2) h.2
  · simp only [Bool.and_eq_true] at h
    obtain ⟨h1, h2⟩ := h
    split at h2
    · simp only [Bool.and_eq_true] at h2
      exact g_sl (S.e o h1) (ckO_ok S o h2.1) (ckO_ok S o h2.2)
    · cases h2
  · simp only [Bool.and_eq_true] at h
    obtain ⟨h1, h2⟩ := h
    split at h2
    · exact g_rev (S.e o h1)
    · cases h2
  · cases h
/-! fields -/
def ckFld (C : Ck) (r : Rc) (sc : Scope) (a : Expr) (f : Str) (ie : IE) : Bool := match ie with
  | .fld ia k => r.e sc a ia && noCall a && decide (C.fl[k]? = some f)
  | _ => false
theorem Okx.fl (o : Okx P T C fi N d X W sc) {k : Nat} {f : Str} (h : C.fl[k]? = some f) : flN T k = f ∧ k < T.fl.length := by
  rw [← o.mf.fl] at h
  exact ⟨by unfold flN; rw [List.getD_eq_getElem?_getD, h]; rfl, (List.getElem?_eq_some_iff.mp h).1⟩
theorem ckFld_ok (S : Snd P T C fi N d r) (o : Okx P T C fi N d X W sc) {a : Expr} {f : Str} {ie : IE} {pos : Pos} (h : ckFld C r sc a f ie = true) : GE P T X W d (.Attribute a f pos) ie := by
  unfold ckFld at h
  split at h
  · simp only [Bool.and_eq_true, decide_eq_true_eq] at h
    obtain ⟨h1, h2⟩ := o.fl h.2
    rw [← h1]
    exact g_fld o.mf.ow h.1.2 (S.e o h.1.1)
  · cases h
end
end G8

set_option Elab.async false
set_option linter.all false
set_option maxRecDepth 100000
set_option maxHeartbeats 1000000
namespace G8
open PySem PySem.Spec L2
section
variable {P : Prg} {T : Tb} {C : Ck} {fi : Nat → Fi} {N : List Str} {d : Nat} {X : Cx} {W : WX} {sc : Scope} {r : Rc}
def noSet : Expr → Bool
  | .Set .. => false
  | _ => true
theorem noSet_ok {iter : Expr} (h : noSet iter = true) (env : Env) : ∀ x, foldedSetIterable iter env x = pure x := fun x => by
  cases iter <;> first | rfl | (simp [noSet] at h)
/-! targets of a block -/
def ckV1 (N : List Str) (scope bsc : Scope) (x : Str) (i : Nat) : Bool := decide (N[i]? = some x) && (decide (bsc.names.lookup x = some .local) || decide (bsc.names.lookup x = some .cell)) && ((scope.names.lookup x == some .cell) || decide (bsc.names.lookup x = some .local))
theorem ckV1_ok {scope : Scope} (o : Okx P T C fi N d X W sc) {x : Str} {i : Nat} {pos : Pos} (h : ckV1 N scope (relS scope sc) x i = true) : Blk X scope fun Y => PG Y (.Name x pos) (gName i) := fun s H Ca cl fp => by
  simp only [ckV1, Bool.and_eq_true, Bool.or_eq_true, decide_eq_true_eq] at h
  have hsc : (X.blk s H scope (compEnvC scope cl Ca X.env) fp).env.scope = relS scope sc := (o.blk scope s H Ca cl fp).hsc
  refine pg_name o.xo.nd (by show X.N[i]? = some x; rw [o.hN]; exact h.1.1) ?_ ?_
  · show Loc (X.blk s H scope (compEnvC scope cl Ca X.env) fp).env.scope x
    rw [hsc]; exact h.1.2
  · rcases h.2 with h2 | h2
    · exact .inl h2
    · refine .inr ?_
      rw [hsc]; exact h2
def ckVs (N : List Str) (scope bsc : Scope) : List Expr → List IE → Bool
  | [], [] => true
  | .Name x _ :: es, .var i :: is => ckV1 N scope bsc x i && ckVs N scope bsc es is
  | _, _ => false
theorem ckVs_ok {scope : Scope} (o : Okx P T C fi N d X W sc) : ∀ {es : List Expr} {is : List IE}, ckVs N scope (relS scope sc) es is = true → (Blk X scope fun Y => PGs Y es (gCs is)) ∧ es.all noStar = true ∧ is.length = es.length
  | [], [], _ => ⟨fun _ _ _ _ _ => pgs_nil, rfl, rfl⟩
  | [], _ :: _, h => by simp [ckVs] at h
  | e :: es, [], h => by cases e <;> simp [ckVs] at h
  | e :: es, i :: is, h => by
    cases e with
    | Name x p =>
      cases i with
      | var i =>
        simp only [ckVs, Bool.and_eq_true] at h
        obtain ⟨h1, h2, h3⟩ := ckVs_ok o h.2
        exact ⟨fun s H Ca cl fp => pgs_cons (ckV1_ok o h.1 s H Ca cl fp) (h1 s H Ca cl fp) (by rw [asgEach_cons rfl]; rfl), by rw [List.all_cons, h2]; rfl, by rw [List.length_cons, List.length_cons, h3]⟩
      | _ => simp [ckVs] at h
    | _ => simp [ckVs] at h
def ckV (N : List Str) (scope bsc : Scope) (tg : Expr) (it : IE) : Bool := match tg, it with
  | .Name x _, .var i => ckV1 N scope bsc x i
  | .Tuple es _ _, .tup is => ckVs N scope bsc es is
  | _, _ => false
theorem ckV_ok {scope : Scope} (o : Okx P T C fi N d X W sc) {tg : Expr} {it : IE} (h : ckV N scope (relS scope sc) tg it = true) : Blk X scope fun Y => PG Y tg (gC X.K it) := by
  unfold ckV at h
  split at h
  · exact ckV1_ok o h
  · obtain ⟨h1, h2, h3⟩ := ckVs_ok o h
    intro s H Ca cl fp
    obtain ⟨l1, l2⟩ := asgEach_len (env := (X.blk s H scope (compEnvC scope cl Ca X.env) fp).env) h2
    exact pg_tup o.xo.calm (h1 s H Ca cl fp) (l1.trans h3.symm) l2
  · cases h
/-! what is walked -/
def isTupX : Expr → Bool
  | .Tuple .. => true
  | _ => false
def ckI (C : Ck) (r : Rc) (sc : Scope) (tg iter : Expr) (it : IE) : Bool := noSet iter && match it with
  | .rng1 ia => (match iter with
    | .Call (.Name x _) [a] [] _ => decide (x = ("range" : Str)) && bnB C sc "range" && r.e sc a ia && noStar a
    | _ => false)
  | .rng2 ia ib => (match iter with
    | .Call (.Name x _) [a, b] [] _ => decide (x = ("range" : Str)) && bnB C sc "range" && r.e sc a ia && noStar a && r.e sc b ib && noStar b
    | _ => false)
  | .enm ia => isTupX tg && (match iter with
    | .Call (.Name x _) [a] [] _ => decide (x = ("enumerate" : Str)) && bnB C sc "enumerate" && r.e sc a ia && noStar a
    | _ => false)
  | it => seqIt it && r.e sc iter it
theorem ckI_ok (S : Snd P T C fi N d r) (o : Okx P T C fi N d X W sc) {tg iter : Expr} {it : IE} (h : ckI C r sc tg iter it = true) : GI P T X W d tg iter it ∧ noSet iter = true := by
  unfold ckI at h
  rw [Bool.and_eq_true] at h
  refine ⟨?_, h.1⟩
  replace h := h.2
  split at h
  · split at h
    · simp only [Bool.and_eq_true, decide_eq_true_eq] at h
      obtain ⟨⟨⟨rfl, h2⟩, h3⟩, h4⟩ := h
      obtain ⟨b1, b2, _, _⟩ := o.bn h2
      exact gi_rng1 b1 b2 (S.e o h3) h4
    · cases h
  · split at h
    · simp only [Bool.and_eq_true, decide_eq_true_eq] at h
      obtain ⟨⟨⟨⟨⟨rfl, h2⟩, h3⟩, h4⟩, h5⟩, h6⟩ := h
      obtain ⟨b1, b2, _, _⟩ := o.bn h2
      exact gi_rng2 b1 b2 (S.e o h3) (S.e o h5) h4 h6
    · cases h
  · rw [Bool.and_eq_true] at h
    obtain ⟨ht, h⟩ := h
    split at h
    · simp only [Bool.and_eq_true, decide_eq_true_eq] at h
      obtain ⟨⟨⟨rfl, h2⟩, h3⟩, h4⟩ := h
      obtain ⟨b1, b2, _, _⟩ := o.bn h2
      cases tg with
      | Tuple es k p => exact gi_enm b1 b2 (S.e o h3) h4
      | _ => simp [isTupX] at ht
    · cases h
  · simp only [Bool.and_eq_true] at h
    exact gi_seq h.1 (S.e o h.2)
theorem ckI_noSet {tg iter : Expr} {it : IE} (h : ckI C r sc tg iter it = true) : noSet iter = true := by
  unfold ckI at h
  rw [Bool.and_eq_true] at h
  exact h.1
/-! comprehensions -/
def ownOf (N : List Str) (io : List Nat) : List (Str × Nat) := io.map fun i => (N.getD i Str.empty, i)
theorem ownOf_snd (N : List Str) (io : List Nat) : (ownOf N io).map (·.2) = io := by
  unfold ownOf; rw [List.map_map]; simp [Function.comp_def]
def ckIfs (r : Rc) (sc : Scope) : List Expr → List IE → Bool
  | [], [] => true
  | [c], [ic] => r.t sc c ic
  | _, _ => false
theorem ckIfs_ok (S : Snd P T C fi N d r) {scope : Scope} (o : Okx P T C fi N d X W sc) {ifs : List Expr} {is : List IE} (h : ckIfs r (relS scope sc) ifs is = true) : Blk X scope fun Y => IfsOk P T Y d ifs is := by
  unfold ckIfs at h
  split at h
  · exact fun _ _ _ _ _ => .nil
  · exact fun s H Ca cl fp => .one (S.t (o.blk scope s H Ca cl fp) h)
  · cases h
def subB (xs ys : List Nat) : Bool := xs.all fun i => decide (i ∈ ys)
theorem subB_ok {xs ys : List Nat} (h : subB xs ys = true) : ∀ i ∈ xs, i ∈ ys := fun i hi => by simpa using List.all_eq_true.mp h i hi
def ckComp (C : Ck) (N : List Str) (r : Rc) (sc : Scope) (elt : Expr) (gs : List Comprehension) (scope : Scope) (ie : IE) : Bool := match gs, ie with
  | [⟨tg, iter, ifs, z⟩], .comp itg iit iifs ielt io => decide (z = 0) && ckI C r sc tg iter iit && ckV N scope (relS scope sc) tg itg && ckIfs r (relS scope sc) ifs iifs && r.e (relS scope sc) elt ielt && subB (slotsC itg) io && blkC N sc scope (ownOf N io)
  | [⟨tg, iter, ifs, z⟩, ⟨tg1, iter1, ifs1, z1⟩], .comp2 itg iit iifs itg1 iit1 iifs1 ielt io io1 => decide (z = 0) && decide (z1 = 0) && ckI C r sc tg iter iit && ckV N scope (relS scope sc) tg itg && ckIfs r (relS scope sc) ifs iifs &&
      ckI C r (relS scope sc) tg1 iter1 iit1 && ckV N scope (relS scope sc) tg1 itg1 && ckIfs r (relS scope sc) ifs1 iifs1 && r.e (relS scope sc) elt ielt && subB (slotsC itg) io && subB (slotsC itg1) io1 && subB io1 io && blkC N sc scope (ownOf N io)
  | _, _ => false
theorem blk_ok (o : Okx P T C fi N d X W sc) {scope : Scope} {own : List (Str × Nat)} (h : blkC N sc scope own = true) : BlkOk X.N X.env.scope scope own := by
  rw [o.hN, o.hsc]; exact blkOk_by h
theorem ckComp_ok (S : Snd P T C fi N d r) (o : Okx P T C fi N d X W sc) {elt : Expr} {gs : List Comprehension} {scope : Scope} {ie : IE} {pos : Pos} (h : ckComp C N r sc elt gs scope ie = true) : GE P T X W d (.ListComp elt gs scope pos) ie := by
  unfold ckComp at h
  split at h
  · simp only [Bool.and_eq_true, decide_eq_true_eq] at h
    obtain ⟨⟨⟨⟨⟨⟨rfl, h1⟩, h2⟩, h3⟩, h4⟩, h5⟩, h6⟩ := h
    obtain ⟨i1, i2⟩ := ckI_ok S o h1
    exact g_comp o.xo (ownOf_snd N _) (subB_ok h5) i1 (blk_ok o h6) (ckV_ok o h2) (ckIfs_ok S o h3) (fun s H Ca cl fp => S.e (o.blk scope s H Ca cl fp) h4) (noSet_ok i2 _)
  · simp only [Bool.and_eq_true, decide_eq_true_eq] at h
    obtain ⟨⟨⟨⟨⟨⟨⟨⟨⟨⟨⟨⟨rfl, rfl⟩, h1⟩, h2⟩, h3⟩, g1⟩, g2⟩, g3⟩, h4⟩, h5⟩, g5⟩, g6⟩, h6⟩ := h
    obtain ⟨i1, i2⟩ := ckI_ok S o h1
    have j2 := ckI_noSet g1
    exact g_comp2 o.xo (ownOf_snd N _) (subB_ok h5) (subB_ok g5) (subB_ok g6) i1 (blk_ok o h6) (ckV_ok o h2) (ckIfs_ok S o h3) (fun s H Ca cl fp => (ckI_ok S (o.blk scope s H Ca cl fp) g1).1) (ckV_ok o g2) (ckIfs_ok S o g3) (fun s H Ca cl fp => S.e (o.blk scope s H Ca cl fp) h4) (noSet_ok i2 _) (fun env => noSet_ok j2 env)
  · cases h
end
end G8

set_option Elab.async false
set_option linter.all false
set_option maxRecDepth 100000
set_option maxHeartbeats 1000000
namespace G8
open PySem PySem.Spec PyProof.Rows L2
/-! ### isinstance of a caught exception -/
def rIsX (K : PySem.W.Frag) : List V → Hp → VK → Prop := fun xs H Q => ∃ (a Ca : Addr) (c : V) (cv : Value) (b : Bool), xs = [.ref a, c] ∧ H a = some (ExO Ca a) ∧ ExcC K Ca ∧ (∀ u, RelV c u → u = cv) ∧ PySem.W.kitOne K (.ref Ca) cv = some b ∧ Q (.bl b) H
theorem call_isX {X : Cx} : CallR X (.builtin "isinstance") (rIsX X.K) := by
  intro pins s σ H xs us Q I r ⟨a, Ca, c, cv, b, e0, ea, xc, hcv, ek, q⟩
  subst e0
  cases r with
  | cons rx rr =>
    cases rr with
    | cons rt rr =>
      cases rr
      cases rx
      have ec := hcv _ rt
      subst ec
      obtain ⟨⟨oe, g1, g2, g3, vs, g4⟩, _, _⟩ := I.hok a _ ea
      have J : PySem.W.InstAt s.heap a oe Ca none := by
        obtain ⟨oc, od, oda, osl⟩ := oe
        dsimp only at g2 g3 g4
        subst g2 g3 g4
        exact ⟨g1, rfl, rfl, trivial⟩
      exact PySem.W.kia_one (PySem.W.handS_kitx_exc xc.hg xc.hk xc.hs xc.hd xc.ha xc.hn xc.ht xc.hm) I.kIn J ek (fun z => nomatch z) fun tk => ⟨.bl b, H, I.kept (t' := tk) fun _ _ z => z, rfl, q⟩
section
variable {P : Prg} {T : Tb} {C : Ck} {fi : Nat → Fi} {N : List Str} {d : Nat} {X : Cx} {W : WX} {sc : Scope} {a : Expr} {ia : IE} {p pos p2 : Pos}
theorem g_isiX (o : Okx P T C fi N d X W sc) {x : Str} {c : Nat} (hx : (x, c) ∈ C.exs) (hg : Gl X "isinstance") (hm : X.mg "isinstance" = none) (hg2 : Gl X x) (hdb : (x == ("__debug__" : Str)) = false) (ha : GE P T X W d a ia) (hs : noStar a = true) :
    GE P T X W d (.Call (.Name "isinstance" p) [a, .Name x p2] [] pos) (.isi ia (.exc c)) := .of fun F => by
  refine (pe_callB call_isX hg hm (by decide +kernel) (pa_cons (ha F) (pa_cons (pe_glob (v := .ref (T.ca c)) hg2 (o.mf.ex _ hx).1 rfl hdb) pa_nil (star_cons rfl)) (star_cons hs)) (by decide) (by decide) (star_cons hs) (star_any rfl)).imp fun σ H Q ⟨ρ, h, σa, s, rs, q⟩ => ?_
  refine tC_last ⟨ρ, h, σa, s, rs, Aft.bind (Rel2 := Rp X.K T) (Q := Q) q fun y h1 v H1 ρ1 x1 s1 r1 q1 => ?_⟩
  cases r1 with
  | exc e1 e2 =>
    rename_i k b
    simp only [isiD] at q1
    split at q1
    · rename_i bb hh
      split at hh
      · rename_i hk
        cases hh
        obtain ⟨k1, k2, k3⟩ := o.mf.exk k hk
        exact ⟨b, T.ca k, .ref (T.ca c), .ref (T.ca c), _, rfl, e1, k1, fun u z => z, (k3 _ hx).2, q1.ok s1 (.bl _)⟩
      · cases hh
    · exact False.elim q1
  | ref hp =>
    rename_i n b
    cases e1 : h1[n]? with
    | none => simp only [isiD, e1] at q1; exact False.elim q1
    | some ob => cases ob <;> (simp only [isiD, e1] at q1; exact False.elim q1)
  | _ => simp only [isiD] at q1; exact False.elim q1
theorem g_isiV (o : Okx P T C fi N d X W sc) (hg : Gl X "isinstance") (hm : X.mg "isinstance" = none) (hg2 : Gl X "ValueError") (hm2 : X.mg "ValueError" = none) (ha : GE P T X W d a ia) (hs : noStar a = true) :
    GE P T X W d (.Call (.Name "isinstance" p) [a, .Name "ValueError" p2] [] pos) (.isi ia .verr) := .of fun F => by
  refine (pe_callB call_isX hg hm (by decide +kernel) (pa_cons (ha F) (pa_cons (pe_bltn (v := .ty "ValueError") hg2 hm2 (by decide +kernel) rfl (by decide) (by decide)) pa_nil (star_cons rfl)) (star_cons hs)) (by decide) (by decide) (star_cons hs) (star_any rfl)).imp fun σ H Q ⟨ρ, h, σa, s, rs, q⟩ => ?_
  refine tC_last ⟨ρ, h, σa, s, rs, Aft.bind (Rel2 := Rp X.K T) (Q := Q) q fun y h1 v H1 ρ1 x1 s1 r1 q1 => ?_⟩
  cases r1 with
  | exc e1 e2 =>
    rename_i k b
    simp only [isiD] at q1
    split at q1
    · rename_i bb hh
      split at hh
      · rename_i hk
        cases hh
        obtain ⟨k1, k2, k3⟩ := o.mf.exk k hk
        exact ⟨b, T.ca k, .ty "ValueError", .type "ValueError", _, rfl, e1, k1, fun u z => z, k2, q1.ok s1 (.bl _)⟩
      · cases hh
    · exact False.elim q1
  | ref hp =>
    rename_i n b
    cases e1 : h1[n]? with
    | none => simp only [isiD, e1] at q1; exact False.elim q1
    | some ob => cases ob <;> (simp only [isiD, e1] at q1; exact False.elim q1)
  | _ => simp only [isiD] at q1; exact False.elim q1
def ckIsX (C : Ck) (r : Rc) (sc : Scope) (x : Str) (a : Expr) (y : Str) (t : Ty) (ia : IE) : Bool := decide (x = ("isinstance" : Str)) && bnB C sc x && r.e sc a ia && noStar a && (match t with
  | .exc c => glB sc y && decide ((y, c) ∈ C.exs)
  | .verr => decide (y = ("ValueError" : Str)) && bnB C sc y
  | _ => false)
theorem ckIsX_ok {r : Rc} (S : Snd P T C fi N d r) (o : Okx P T C fi N d X W sc) {x y : Str} {t : Ty} (h : ckIsX C r sc x a y t ia = true) : GE P T X W d (.Call (.Name x p) [a, .Name y p2] [] pos) (.isi ia t) := by
  simp only [ckIsX, Bool.and_eq_true, decide_eq_true_eq] at h
  obtain ⟨⟨⟨⟨rfl, h2⟩, h3⟩, h4⟩, h5⟩ := h
  obtain ⟨b1, b2, b3, b4⟩ := o.bn h2
  split at h5
  · simp only [Bool.and_eq_true, decide_eq_true_eq] at h5
    obtain ⟨g1, g2, g3⟩ := o.gl h5.1
    exact g_isiX o h5.2 b1 b2 g1 g2 (S.e o h3) h4
  · simp only [Bool.and_eq_true, decide_eq_true_eq] at h5
    obtain ⟨rfl, h6⟩ := h5
    obtain ⟨c1, c2, c3, c4⟩ := o.bn h6
    exact g_isiV o b1 b2 c1 c2 (S.e o h3) h4
  · cases h5
end
end G8

set_option Elab.async false
set_option linter.all false
set_option maxRecDepth 100000
set_option maxHeartbeats 1000000
namespace G8
open PySem PySem.Spec PyProof.Rows L2
/-! ### dicts in the text -/
def isDct : IE → Bool
  | .dnew => true
  | .ddis _ _ => true
  | .din _ _ _ => true
  | .didx _ _ => true
  | .dln _ => true
  | _ => false
def ckDct (C : Ck) (r : Rc) (sc : Scope) (e : Expr) (ie : IE) : Bool := match e, ie with
  | .Dict [] [] _, .dnew => true
  | .Dict [some a] [b] _, .ddis ia ib => r.e sc a ia && r.e sc b ib
  | .Compare a [.In] [b] _, .din true ia ib => r.e sc a ia && r.e sc b ib && !behindInMarks .In b
  | .Compare a [.NotIn] [b] _, .din false ia ib => r.e sc a ia && r.e sc b ib && !behindInMarks .NotIn b
  | .Subscript a b _, .didx ia ib => r.e sc a ia && r.e sc b ib && plainIx b
  | .Call (.Name x _) [a] [] _, .dln ia => decide (x = ("len" : Str)) && bnB C sc x && r.e sc a ia && noStar a
  | _, _ => false
section
variable {P : Prg} {T : Tb} {C : Ck} {fi : Nat → Fi} {N : List Str} {d : Nat} {X : Cx} {W : WX} {sc : Scope} {r : Rc} {e : Expr} {ie : IE}
theorem ckDct_ok (S : Snd P T C fi N d r) (o : Okx P T C fi N d X W sc) (h : ckDct C r sc e ie = true) : GE P T X W d e ie := by
  unfold ckDct at h
  split at h
  · exact g_dnew
  · rw [Bool.and_eq_true] at h
    exact g_ddis o.xo o.mf.wd (S.e o h.1) (S.e o h.2)
  · simp only [Bool.and_eq_true, Bool.not_eq_true'] at h
    exact g_din o.xo o.mf.wd rfl (S.e o h.1.1) (S.e o h.1.2) h.2
  · simp only [Bool.and_eq_true, Bool.not_eq_true'] at h
    exact g_din o.xo o.mf.wd rfl (S.e o h.1.1) (S.e o h.1.2) h.2
  · simp only [Bool.and_eq_true] at h
    exact g_didx o.xo o.mf.wd (S.e o h.1.1) (S.e o h.1.2) h.2
  · simp only [Bool.and_eq_true, decide_eq_true_eq] at h
    obtain ⟨⟨⟨rfl, h2⟩, h3⟩, h4⟩ := h
    obtain ⟨b1, b2, b3, b4⟩ := o.bn h2
    exact g_dln o.xo b1 b2 (S.e o h3) h4
  · cases h
def ckDin (r : Rc) (sc : Scope) (e : Expr) (ie : IE) : Bool := match e, ie with
  | .Compare a [.In] [b] _, .din true ia ib => r.e sc a ia && r.e sc b ib && !behindInMarks .In b
  | .Compare a [.NotIn] [b] _, .din false ia ib => r.e sc a ia && r.e sc b ib && !behindInMarks .NotIn b
  | _, _ => false
theorem ckDin_ok (S : Snd P T C fi N d r) (o : Okx P T C fi N d X W sc) (h : ckDin r sc e ie = true) : GT P T X W d e ie := by
  unfold ckDin at h
  split at h
  · simp only [Bool.and_eq_true, Bool.not_eq_true'] at h
    exact gt_din o.xo o.mf.wd rfl (S.e o h.1.1) (S.e o h.1.2) h.2
  · simp only [Bool.and_eq_true, Bool.not_eq_true'] at h
    exact gt_din o.xo o.mf.wd rfl (S.e o h.1.1) (S.e o h.1.2) h.2
  · cases h
end
end G8

set_option Elab.async false
set_option linter.all false
set_option maxRecDepth 100000
set_option maxHeartbeats 1000000
namespace G8
open PySem PySem.Spec L2
def biN : Bi → Str
  | .len => "len"
  | .all => "all"
  | .any => "any"
  | .sum => "sum"
  | .max => "max"
  | .min => "min"
  | .sorted => "sorted"
  | .tuple => "tuple"
  | .list => "list"
  | .str => "str"
  | .int => "int"
theorem biN_boot : ∀ b : Bi, bootBuiltins (biN b) = some (bv b)
  | .len => by decide +kernel
  | .all => by decide +kernel
  | .any => by decide +kernel
  | .sum => by decide +kernel
  | .max => by decide +kernel
  | .min => by decide +kernel
  | .sorted => by decide +kernel
  | .tuple => by decide +kernel
  | .list => by decide +kernel
  | .str => by decide +kernel
  | .int => by decide +kernel
def tyN : Ty → Str
  | .int => "int"
  | .bool => "bool"
  | .str => "str"
  | .tuple => "tuple"
  | .list => "list"
  | .exc _ => "?"
  | .verr => "ValueError"
theorem tyN_boot : ∀ t : Ty, isB t = true → bootBuiltins (tyN t) = some (.type (tyS t))
  | .int, _ => by decide +kernel
  | .bool, _ => by decide +kernel
  | .str, _ => by decide +kernel
  | .tuple, _ => by decide +kernel
  | .list, _ => by decide +kernel
section
variable {P : Prg} {T : Tb} {C : Ck} {fi : Nat → Fi} {N : List Str} {d : Nat} {X : Cx} {W : WX} {sc : Scope} {r : Rc}
/-! f(..) -/
def ckBi (C : Ck) (r : Rc) (sc : Scope) (x : Str) (args : List Expr) (b : Bi) (ies : List IE) : Bool := bnB C sc x && decide (x = biN b) &&
  (if biGen b ies then !args.isEmpty && ckA r sc args ies
  else match args, ies with
    | [.Call (.Name y _) [a] [] _], [.rng1 ia] => decide (y = ("range" : Str)) && bnB C sc "range" && r.e sc a ia && noStar a
    | _, _ => false)
theorem ckBi_ok (S : Snd P T C fi N d r) (o : Okx P T C fi N d X W sc) {x : Str} {args : List Expr} {b : Bi} {ies : List IE} {p pos : Pos} (h : ckBi C r sc x args b ies = true) : GE P T X W d (.Call (.Name x p) args [] pos) (.bi b ies) := by
  unfold ckBi at h
  simp only [Bool.and_eq_true, decide_eq_true_eq] at h
  obtain ⟨⟨h1, rfl⟩, h2⟩ := h
  obtain ⟨b1, b2, b3, b4⟩ := o.bn h1
  split at h2
  · rename_i hg
    simp only [Bool.and_eq_true] at h2
    obtain ⟨a1, a2, a3⟩ := ckA_ok S o h2.2
    cases args with
    | nil => simp at h2
    | cons e es => exact g_bi o.xo hg b1 b2 (biN_boot b) a1 b4 b3 a2
  · rename_i hg
    split at h2
    · simp only [Bool.and_eq_true, decide_eq_true_eq] at h2
      obtain ⟨⟨⟨rfl, r1⟩, r2⟩, r3⟩ := h2
      obtain ⟨c1, c2, c3, c4⟩ := o.bn r1
      cases b with
      | list => exact g_rgL o.xo b1 b2 c1 c2 (S.e o r2) r3
      | tuple => exact g_rgT o.xo b1 b2 c1 c2 (S.e o r2) r3
      | _ => exact absurd rfl hg
    · cases h2
/-- f(a, b) of a def with a keyword: its default; f(a, b, k = c) -/
def ckKD (C : Ck) (r : Rc) (sc : Scope) (x : Str) (args : List Expr) (f : Nat) (ies : List IE) : Bool := glB sc x && (match args, ies with
  | [a, b], [ia, ib, .cst (.int v)] => ckA r sc [a, b] [ia, ib] && C.kfs.any fun q => decide (q.1 = x) && decide (q.2.1 = f) && decide (q.2.2.2 = v)
  | _, _ => false)
theorem ckKD_ok (S : Snd P T C fi N d r) (o : Okx P T C fi N d X W sc) {x : Str} {args : List Expr} {f : Nat} {ies : List IE} {p pos : Pos} (h : ckKD C r sc x args f ies = true) : GE P T X W d (.Call (.Name x p) args [] pos) (.call f ies) := by
  unfold ckKD at h
  rw [Bool.and_eq_true] at h
  obtain ⟨h0, h⟩ := h
  split at h
  · rw [Bool.and_eq_true, List.any_eq_true] at h
    obtain ⟨h1, ⟨q1, q2, q3, q4⟩, hq, h2⟩ := h
    simp only [Bool.and_eq_true, decide_eq_true_eq] at h2
    obtain ⟨⟨rfl, rfl⟩, rfl⟩ := h2
    obtain ⟨g1, g2, g3⟩ := o.gl h0
    obtain ⟨m1, m2, m3⟩ := o.mf.kf _ hq
    obtain ⟨a1, a2, a3⟩ := ckA_ok S o h1
    exact g_callD o.xo (o.mf.ok _ d (Nat.le_refl _)) g1 m1 m2 m3 a1 g2 a2
  · cases h
def ckKK (C : Ck) (r : Rc) (sc : Scope) (x : Str) (args : List Expr) (kws : List Keyword) (ie : IE) : Bool := glB sc x && (match args, kws, ie with
  | [a, b], [⟨some kw, c, _⟩], .call f [ia, ib, ic] => ckA r sc [a, b] [ia, ib] && r.e sc c ic && C.kfs.any fun q => decide (q.1 = x) && decide (q.2.1 = f) && decide (q.2.2.1 = kw)
  | _, _, _ => false)
theorem ckKK_ok (S : Snd P T C fi N d r) (o : Okx P T C fi N d X W sc) {x : Str} {args : List Expr} {kws : List Keyword} {ie : IE} {p pos : Pos} (h : ckKK C r sc x args kws ie = true) : GE P T X W d (.Call (.Name x p) args kws pos) ie := by
  unfold ckKK at h
  rw [Bool.and_eq_true] at h
  obtain ⟨h0, h⟩ := h
  split at h
  · rw [Bool.and_eq_true, Bool.and_eq_true, List.any_eq_true] at h
    obtain ⟨⟨h1, h3⟩, ⟨q1, q2, q3, q4⟩, hq, h2⟩ := h
    simp only [Bool.and_eq_true, decide_eq_true_eq] at h2
    obtain ⟨⟨rfl, rfl⟩, rfl⟩ := h2
    obtain ⟨g1, g2, g3⟩ := o.gl h0
    obtain ⟨m1, m2, m3⟩ := o.mf.kf _ hq
    obtain ⟨a1, a2, a3⟩ := ckA_ok S o h1
    exact g_callK o.xo (o.mf.ok _ d (Nat.le_refl _)) g1 m1 m2 m3 a1 (S.e o h3) g2 a2
  · cases h
def ckCallN (C : Ck) (N : List Str) (r : Rc) (sc : Scope) (x : Str) (args : List Expr) (ie : IE) : Bool := match ie with
  | .bi b ies => ckBi C r sc x args b ies
  | .call f ies => if decide ((x, f) ∈ C.fns) then glB sc x && decide ((x, f) ∈ C.fns) && ckA r sc args ies else ckKD C r sc x args f ies
  | .mk c ies => glB sc x && decide ((x, c) ∈ C.cls) && ckA r sc args ies
  | .isi ia t => (match args with
    | [a, .Name y _] => if isB t then isB t && decide (x = ("isinstance" : Str)) && bnB C sc x && decide (y = tyN t) && bnB C sc y && r.e sc a ia && noStar a else ckIsX C r sc x a y t ia
    | _ => false)
  | .dlen itg iit ik iv io => (match args with
    | [.DictComp kx vx [⟨tg, iter, [], z⟩] scope _] => decide (z = 0) && decide (x = ("len" : Str)) && bnB C sc x && ckI C r sc tg iter iit && ckV N scope (relS scope sc) tg itg && r.e (relS scope sc) kx ik && r.e (relS scope sc) vx iv && subB (slotsC itg) io && blkC N sc scope (ownOf N io)
    | _ => false)
  | _ => false
theorem ckCallN_ok (S : Snd P T C fi N d r) (o : Okx P T C fi N d X W sc) {x : Str} {args : List Expr} {ie : IE} {p pos : Pos} (h : ckCallN C N r sc x args ie = true) : GE P T X W d (.Call (.Name x p) args [] pos) ie := by
  unfold ckCallN at h
  split at h
  · exact ckBi_ok S o h
  · split at h
    · simp only [Bool.and_eq_true, decide_eq_true_eq] at h
      obtain ⟨g1, g2, g3⟩ := o.gl h.1.1
      obtain ⟨m1, m2, m3⟩ := o.mf.fn _ h.1.2
      obtain ⟨a1, a2, a3⟩ := ckA_ok S o h.2
      exact g_call o.xo (o.mf.ok _ d (Nat.le_refl _)) g1 m1 m2 m3 a1 g2 a2 a3
    · exact ckKD_ok S o h
  · simp only [Bool.and_eq_true, decide_eq_true_eq] at h
    obtain ⟨g1, g2, g3⟩ := o.gl h.1.1
    obtain ⟨m1, m2, f, m3, m4, m5⟩ := o.mf.mkk _ h.1.2
    obtain ⟨a1, a2, a3⟩ := ckA_ok S o h.2
    cases d with
    | zero => exact g_mk0
    | succ d => exact g_mk o.xo m2 m3 m4 (o.mf.ok f d (Nat.le_succ _)) g1 m1 m5 a1 g2 a2 a3
  · split at h
    · split at h
      · simp only [Bool.and_eq_true, decide_eq_true_eq] at h
        obtain ⟨⟨⟨⟨⟨⟨h1, rfl⟩, h2⟩, rfl⟩, h3⟩, h4⟩, h5⟩ := h
        obtain ⟨b1, b2, b3, b4⟩ := o.bn h2
        obtain ⟨c1, c2, c3, c4⟩ := o.bn h3
        exact g_isi h1 b1 b2 c1 c2 (tyN_boot _ h1) (S.e o h4) c4 c3 h5
      · exact ckIsX_ok S o h
    · cases h
  · split at h
    · simp only [Bool.and_eq_true, decide_eq_true_eq] at h
      obtain ⟨⟨⟨⟨⟨⟨⟨⟨rfl, rfl⟩, h2⟩, h3⟩, h4⟩, h5⟩, h6⟩, h7⟩, h8⟩ := h
      obtain ⟨b1, b2, b3, b4⟩ := o.bn h2
      obtain ⟨i1, i2⟩ := ckI_ok S o h3
      exact g_dlen o.xo b1 b2 (ownOf_snd N _) (subB_ok h7) i1 (blk_ok o h8) (ckV_ok o h4) (fun s H Ca cl fp => S.e (o.blk _ s H Ca cl fp) h5) (fun s H Ca cl fp => S.e (o.blk _ s H Ca cl fp) h6) (noSet_ok i2 _)
    · cases h
  · cases h
/-! o.m(..) -/
def ckCallA (C : Ck) (r : Rc) (sc : Scope) (a : Expr) (m : Str) (apos : Pos) (args : List Expr) (pos : Pos) (ie : IE) : Bool := noCall a && (apos.endLine == pos.line) && match ie with
  | .mb .pop ia ies => decide (m = ("pop" : Str)) && args.isEmpty && ies.isEmpty && r.e sc a ia
  | .mb .index ia ies => decide (m = ("index" : Str)) && r.e sc a ia && (match args, ies with
    | [e], [ie] => r.e sc e ie && noStar e
    | _, _ => false)
  | .mb mm ia ies => mList mm && mNo mm && decide (m = mn mm) && r.e sc a ia && ckA r sc args ies && !args.isEmpty && decide (args.length < 30)
  | .mu k ia ies => decide ((m, k) ∈ C.ms) && r.e sc a ia && ckA r sc args ies && decide (args.length < 30)
  | _ => false
theorem ckCallA_ok (S : Snd P T C fi N d r) (o : Okx P T C fi N d X W sc) {a : Expr} {m : Str} {args : List Expr} {ie : IE} {apos pos : Pos} (h : ckCallA C r sc a m apos args pos ie = true) : GE P T X W d (.Call (.Attribute a m apos) args [] pos) ie := by
  unfold ckCallA at h
  rw [Bool.and_eq_true, Bool.and_eq_true] at h
  obtain ⟨⟨hc, hl⟩, h⟩ := h
  split at h
  · simp only [Bool.and_eq_true, decide_eq_true_eq, List.isEmpty_iff] at h
    obtain ⟨⟨⟨rfl, rfl⟩, rfl⟩, h1⟩ := h
    exact g_pop o.xo (S.e o h1) hc hl
  · simp only [Bool.and_eq_true, decide_eq_true_eq] at h
    obtain ⟨⟨rfl, h1⟩, h2⟩ := h
    split at h2
    · simp only [Bool.and_eq_true] at h2
      exact g_index o.xo (S.e o h1) (S.e o h2.1) hc hl h2.2
    · cases h2
  · simp only [Bool.and_eq_true, decide_eq_true_eq] at h
    obtain ⟨⟨⟨⟨⟨⟨h1, h2⟩, rfl⟩, h3⟩, h4⟩, h5⟩, h6⟩ := h
    obtain ⟨a1, a2, a3⟩ := ckA_ok S o h4
    cases args with
    | nil => simp at h5
    | cons e es => exact g_mb o.xo h1 h2 (S.e o h3) a1 hc hl a2 h6
  · simp only [Bool.and_eq_true, decide_eq_true_eq] at h
    obtain ⟨⟨⟨h1, h2⟩, h3⟩, h4⟩ := h
    obtain ⟨a1, a2, a3⟩ := ckA_ok S o h3
    obtain ⟨m1, ⟨c0, f0, m2⟩, m3⟩ := o.mf.ms _ h1
    exact g_mu o.xo m2 m1 (fun cc f hm => let ⟨z1, z2, z3⟩ := m3 cc f hm; ⟨z1, z2, o.mf.ok f d (Nat.le_refl _), z3⟩) (S.e o h2) a1 hc hl a2 h4 a3
  · cases h
/-! all expressions -/
def isUnk : IE → Bool
  | .unk => true
  | _ => false
theorem g_unk {e : Expr} : GE P T X W d e .unk := .of fun F => PE.bot fun σ H Q ⟨_, _, _, _, _, q⟩ => q
theorem gt_unk {e : Expr} : GT P T X W d e .unk := .of fun F => PT.bot fun σ H Q ⟨_, _, _, _, _, q⟩ => q
theorem isUnk_eq {ie : IE} (h : isUnk ie = true) : ie = .unk := by cases ie <;> first | rfl | cases h
def stE (C : Ck) (N : List Str) (r : Rc) (sc : Scope) (e : Expr) (ie : IE) : Bool := if isUnk ie then true else if isDct ie then ckDct C r sc e ie else match e with
  | .Constant c _ _ => ckC c ie
  | .Name x _ => ckName C N sc x ie
  | .BinOp a op b _ => (match ie with
    | .bin p ia ib => decide (opb p = op) && r.e sc a ia && r.e sc b ib
    | .mut ib => r.f sc e ib
    | _ => false)
  | .UnaryOp op a _ => (match op, ie with
    | .USub, .neg ia => r.e sc a ia
    | .Not, .not ia => r.e sc a ia
    | _, _ => false)
  | .Compare a ops bs _ => (match ops, bs with
    | [o1], [b] => ckCmp r sc a o1 b ie
    | [o1, o2], [b, c] => ckChn r sc a o1 o2 b c ie
    | _, _ => false)
  | .BoolOp op vs pos => (match vs with
    | [a] => r.e sc a ie
    | a :: b :: rest => (match op, ie with
      | .And, .and ia ib => r.e sc a ia && r.e sc (.BoolOp .And (b :: rest) pos) ib
      | .Or, .or ia ib => r.e sc a ia && r.e sc (.BoolOp .Or (b :: rest) pos) ib
      | _, _ => false)
    | _ => false)
  | .IfExp c a b _ => (match ie with
    | .ite ic ia ib => r.t sc c ic && r.e sc a ia && r.e sc b ib
    | _ => false)
  | .Tuple es _ _ => (match ie with
    | .tup ies => ckA r sc es ies && decide (ies.length ≤ 1000)
    | _ => false)
  | .List es _ => (match ie with
    | .lst ies => ckA r sc es ies && decide (ies.length ≤ 1000)
    | .mut ib => r.f sc e ib
    | _ => false)
  | .Subscript a b _ => ckSub r sc a b ie
  | .Attribute a f _ => ckFld C r sc a f ie
  | .Call (.Name x _) args [] _ => (match ie with
    | .mut ib => r.f sc e ib
    | ie => ckCallN C N r sc x args ie)
  | .Call (.Attribute a m apos) args [] pos => ckCallA C r sc a m apos args pos ie
  | .Call (.Name x _) args kws _ => ckKK C r sc x args kws ie
  | .ListComp elt gs scope _ => (match ie with
    | .mut ib => r.f sc e ib
    | ie => ckComp C N r sc elt gs scope ie)
  | _ => false
theorem stE_ok (S : Snd P T C fi N d r) (o : Okx P T C fi N d X W sc) {e : Expr} {ie : IE} (h : stE C N r sc e ie = true) : GE P T X W d e ie := by
  unfold stE at h
  split at h
  · rename_i hu; rw [isUnk_eq hu]; exact g_unk
  split at h
  · exact ckDct_ok S o h
  split at h
  · exact ckC_ok h
  · exact ckName_ok o h
  · split at h
    · simp only [Bool.and_eq_true, decide_eq_true_eq] at h
      exact g_bin h.1.1 (S.e o h.1.2) (S.e o h.2)
    · exact g_mut (S.f o h)
    · cases h
  · split at h
    · exact g_neg (S.e o h)
    · exact g_not (S.e o h)
    · cases h
  · split at h
    · exact (ckCmp_ok S o h).1
    · exact (ckChn_ok S o h).1
    · cases h
  · split at h
    · exact g_one (S.e o h)
    · split at h
      · simp only [Bool.and_eq_true] at h
        exact g_and (S.e o h.1) (S.e o h.2)
      · simp only [Bool.and_eq_true] at h
        exact g_or (S.e o h.1) (S.e o h.2)
      · cases h
    · cases h
  · split at h
    · simp only [Bool.and_eq_true] at h
      exact g_ite (S.t o h.1.1) (S.e o h.1.2) (S.e o h.2)
    · cases h
  · split at h
    · simp only [Bool.and_eq_true, decide_eq_true_eq] at h
      exact g_tup (ckA_ok S o h.1).1 (by omega)
    · cases h
  · split at h
    · simp only [Bool.and_eq_true, decide_eq_true_eq] at h
      exact g_lst (ckA_ok S o h.1).1 (by omega)
    · exact g_mut (S.f o h)
    · cases h
  · exact ckSub_ok S o h
  · exact ckFld_ok S o h
  · split at h
    · exact g_mut (S.f o h)
    · exact ckCallN_ok S o h
  · exact ckCallA_ok S o h
  · exact ckKK_ok S o h
  · split at h
    · exact g_mut (S.f o h)
    · exact ckComp_ok S o h
  · cases h
/-! tests -/
def ckW (r : Rc) (sc : Scope) (op : BoolOp) : List Expr → IE → Bool
  | [a], ie => r.t sc a ie
  | a :: b :: rest, ie => (match op, ie with
    | .And, .and ia ib => r.t sc a ia && ckW r sc op (b :: rest) ib
    | .Or, .or ia ib => r.t sc a ia && ckW r sc op (b :: rest) ib
    | _, _ => false)
  | _, _ => false
theorem ckW_ok (S : Snd P T C fi N d r) (o : Okx P T C fi N d X W sc) {op : BoolOp} {pos : Pos} : ∀ {es : List Expr} {ie : IE}, ckW r sc op es ie = true → GW P T X W d (.BoolOp op es pos) ie
  | [], ie, h => by simp [ckW] at h
  | [a], ie, h => by
    cases op with
    | And => exact gw_and1 (S.t o h)
    | Or => exact gw_or1 (S.t o h)
  | a :: b :: rest, ie, h => by
    unfold ckW at h
    split at h
    · simp only [Bool.and_eq_true] at h
      exact gw_and (S.t o h.1) (ckW_ok S o h.2)
    · simp only [Bool.and_eq_true] at h
      exact gw_or (S.t o h.1) (ckW_ok S o h.2)
    · cases h
def valT : Expr → Bool
  | .UnaryOp .. => false
  | .BoolOp .. => false
  | .IfExp .. => false
  | .Compare .. => false
  | _ => true
theorem valT_ok {e : Expr} (h : valT e = true) (env : Env) : ∀ whole, isTrue e env whole = (do let v ← whole; standAt e.pos; holding [v] (truthy v)) := fun whole => by
  cases e <;> first | rfl | (simp [valT] at h)
def stT (C : Ck) (N : List Str) (r : Rc) (sc : Scope) (e : Expr) (ie : IE) : Bool := if isUnk ie then true else if ckDin r sc e ie then true else match e with
  | .UnaryOp op a _ => (match op, ie with
    | .Not, .not ia => r.t sc a ia
    | _, _ => false)
  | .BoolOp op es _ => ckW r sc op es ie
  | .Compare a ops bs _ => (match ops, bs with
    | [o1], [b] => ckCmp r sc a o1 b ie
    | [o1, o2], [b, c] => ckChn r sc a o1 o2 b c ie
    | _, _ => false)
  | e => valT e && stE C N r sc e ie
theorem stT_ok (S : Snd P T C fi N d r) (o : Okx P T C fi N d X W sc) {e : Expr} {ie : IE} (h : stT C N r sc e ie = true) : GT P T X W d e ie := by
  unfold stT at h
  split at h
  · rename_i hu; rw [isUnk_eq hu]; exact gt_unk
  split at h
  · rename_i hd; exact ckDin_ok S o hd
  split at h
  · split at h
    · exact gt_not (S.t o h)
    · cases h
  · exact (ckW_ok S o h).gt
  · split at h
    · exact (ckCmp_ok S o h).2
    · exact (ckChn_ok S o h).2
    · cases h
  · rw [Bool.and_eq_true] at h
    exact GT.of_val (stE_ok S o h.2) (valT_ok h.1 _)
/-! new lists -/
def stF (C : Ck) (N : List Str) (r : Rc) (sc : Scope) (e : Expr) (ie : IE) : Bool := match e, ie with
  | .List es _, .lst ies => ckA r sc es ies && decide (ies.length ≤ 1000)
  | .BinOp a .Mult b _, .bin .mul ia ib => r.e sc a ia && r.e sc b ib
  | .BinOp a .Add b _, .bin .add ia ib => r.e sc a ia && r.e sc b ib
  | .Call (.Name x _) [.Call (.Name y _) [a] [] _] [] _, .bi .list [.rng1 ia] => decide (x = ("list" : Str)) && bnB C sc x && decide (y = ("range" : Str)) && bnB C sc y && r.e sc a ia && noStar a
  | .Call (.Name x _) [a] [] _, .bi .list [ia] => biGen .list [ia] && decide (x = ("list" : Str)) && bnB C sc x && r.e sc a ia && noStar a
  | .ListComp elt [⟨tg, iter, ifs, z⟩] scope _, .comp itg iit iifs ielt io => decide (z = 0) && ckI C r sc tg iter iit && ckV N scope (relS scope sc) tg itg && ckIfs r (relS scope sc) ifs iifs && r.e (relS scope sc) elt ielt && subB (slotsC itg) io && blkC N sc scope (ownOf N io)
  | _, _ => false
theorem stF_ok (S : Snd P T C fi N d r) (o : Okx P T C fi N d X W sc) {e : Expr} {ie : IE} (h : stF C N r sc e ie = true) : GF P T X W d e ie := by
  unfold stF at h
  split at h
  · simp only [Bool.and_eq_true, decide_eq_true_eq] at h
    exact f_lst (ckA_ok S o h.1).1 (by omega)
  · simp only [Bool.and_eq_true] at h
    exact f_rep (S.e o h.1) (S.e o h.2)
  · simp only [Bool.and_eq_true] at h
    exact f_cat (S.e o h.1) (S.e o h.2)
  · simp only [Bool.and_eq_true, decide_eq_true_eq] at h
    obtain ⟨⟨⟨⟨⟨rfl, h2⟩, rfl⟩, h5⟩, h3⟩, h4⟩ := h
    obtain ⟨b1, b2, b3, b4⟩ := o.bn h2
    obtain ⟨c1, c2, c3, c4⟩ := o.bn h5
    exact f_rgL o.xo b1 b2 c1 c2 (S.e o h3) h4
  · simp only [Bool.and_eq_true, decide_eq_true_eq] at h
    obtain ⟨⟨⟨⟨h1, rfl⟩, h2⟩, h3⟩, h4⟩ := h
    obtain ⟨b1, b2, b3, b4⟩ := o.bn h2
    exact f_list o.xo h1 b1 b2 (S.e o h3) h4
  · simp only [Bool.and_eq_true, decide_eq_true_eq] at h
    obtain ⟨⟨⟨⟨⟨⟨rfl, h1⟩, h2⟩, h3⟩, h4⟩, h5⟩, h6⟩ := h
    obtain ⟨i1, i2⟩ := ckI_ok S o h1
    exact f_comp o.xo (ownOf_snd N _) (subB_ok h5) i1 (blk_ok o h6) (ckV_ok o h2) (ckIfs_ok S o h3) (fun s H Ca cl fp => S.e (o.blk _ s H Ca cl fp) h4) (noSet_ok i2 _)
  · cases h
end
/-- the whole check -/
def ckL (C : Ck) (N : List Str) : Nat → Rc
  | 0 => ⟨fun _ _ _ => false, fun _ _ _ => false, fun _ _ _ => false⟩
  | n + 1 => ⟨stE C N (ckL C N n), stT C N (ckL C N n), stF C N (ckL C N n)⟩
theorem ckL_ok {P : Prg} {T : Tb} {C : Ck} {fi : Nat → Fi} {N : List Str} {d : Nat} : ∀ n, Snd P T C fi N d (ckL C N n)
  | 0 => ⟨fun _ h => (by cases h), fun _ h => (by cases h), fun _ h => (by cases h)⟩
  | n + 1 => ⟨fun o h => stE_ok (ckL_ok n) o h, fun o h => stT_ok (ckL_ok n) o h, fun o h => stF_ok (ckL_ok n) o h⟩
end G8

set_option Elab.async false
set_option linter.all false
set_option maxRecDepth 100000
set_option maxHeartbeats 1000000
namespace G8
open PySem PySem.Spec L2
/-! ### statements -/
def noCompX : Expr → Bool
  | .ListComp .. => false
  | .SetComp .. => false
  | .DictComp .. => false
  | _ => true
theorem noCompX_ok {e : Expr} (h : noCompX e = true) (t : Option Expr) (l : Nat) (env : Env) : swapsWith e t l env = pure false := by
  cases e <;> first | rfl | (simp [noCompX] at h)
/-- [..] that is stored by its own block -/
def swapB (sc : Scope) (tg : Expr) (scope : Scope) (lpos : Pos) : Bool := match tg with
  | .Name t p => decide (sc.names.lookup t = some .local) && (p.line == lpos.line) && !(scope.names.any fun (n, k) => n == t && (k == .local || k == .cell))
  | _ => false
theorem swapB_no {env : Env} {sc : Scope} {tg elt : Expr} {gs : List Comprehension} {scope : Scope} {lpos : Pos} {l : Nat} (hs : env.scope = sc) (hk : sc.kind = .function) (h : swapB sc tg scope lpos = false) : swapsWith (.ListComp elt gs scope lpos) (some tg) l env = pure false := by
  subst hs
  cases tg with
  | Name t p =>
    unfold swapsWith
    simp only [swapB] at h
    have hb : env.blockKind = .function := by unfold Env.blockKind; rw [hk]; rfl
    have e1 : (env.kindOf t == some NameKind.local) = decide (env.scope.names.lookup t = some .local) := by
      show (env.scope.names.lookup t == some NameKind.local) = _
      cases env.scope.names.lookup t with
      | none => rfl
      | some k => cases k <;> rfl
    simp only [hb, e1, Expr.pos]
    show pure (true && decide (env.scope.names.lookup t = some .local) && (p.line == lpos.line) && !(scope.names.any fun (n, k) => n == t && (k == .local || k == .cell))) = pure false
    rw [Bool.true_and, h]
  | _ => rfl
section
variable {P : Prg} {T : Tb} {C : Ck} {fi : Nat → Fi} {N : List Str} {d : Nat} {X : Cx} {W : WX} {sc : Scope} {r : Rc}
structure Oks (P : Prg) (T : Tb) (C : Ck) (fi : Nat → Fi) (N : List Str) (d : Nat) (X : Cx) (W : WX) (sc : Scope) : Prop extends Okx P T C fi N d X W sc where
  xs : XS X W d
  kd : sc.kind = .function
  fn : ∀ x, X.fn x = true
  ex : X.ex = []
  st : X.stack = X.env :: X.outer
  fm : X.env.frame = some X.env.locals
def locB (sc : Scope) (x : Str) : Bool := decide (sc.names.lookup x = some .local) || decide (sc.names.lookup x = some .cell)
theorem loc_ok (o : Okx P T C fi N d X W sc) {x : Str} (h : locB sc x = true) : Loc X.env.scope x := by
  rw [o.hsc]
  simp only [locB, Bool.or_eq_true, decide_eq_true_eq] at h
  exact h
/-! targets -/
def ckT1 (C : Ck) (N : List Str) (r : Rc) (sc : Scope) (e : Expr) (t : IE) : Bool := match e, t with
  | .Name x _, .var i => decide (N[i]? = some x) && locB sc x
  | .Attribute a f _, .fld ia k => r.e sc a ia && decide (C.fl[k]? = some f)
  | .Subscript a b _, .idx ia ib => r.e sc a ia && r.e sc b ib && plainIx b
  | .Subscript a b _, .didx ia ib => r.e sc a ia && r.e sc b ib && plainIx b
  | _, _ => false
theorem ckT1_ok (S : Snd P T C fi N d r) (o : Oks P T C fi N d X W sc) {e : Expr} {t : IE} (h : ckT1 C N r sc e t = true) : G1 P T X d e t ∧ isTup t = false ∧ noStar e = true := by
  unfold ckT1 at h
  split at h
  · simp only [Bool.and_eq_true, decide_eq_true_eq] at h
    exact ⟨g1_var o.xo.nd (by rw [o.hN]; exact h.1) (loc_ok o.toOkx h.2) (.inl (o.fn _)), rfl, rfl⟩
  · simp only [Bool.and_eq_true, decide_eq_true_eq] at h
    obtain ⟨h1, h2⟩ := o.toOkx.fl h.2
    rw [← h1]
    exact ⟨g1_fld o.mf.ow h2 (S.e o.toOkx h.1), rfl, rfl⟩
  · simp only [Bool.and_eq_true] at h
    exact ⟨g1_idx (S.e o.toOkx h.1.1) (S.e o.toOkx h.1.2) h.2, rfl, rfl⟩
  · simp only [Bool.and_eq_true] at h
    exact ⟨g1_didx o.xo o.mf.wd (S.e o.toOkx h.1.1) (S.e o.toOkx h.1.2) h.2, rfl, rfl⟩
  · cases h
def ckTs (C : Ck) (N : List Str) (r : Rc) (sc : Scope) : List Expr → List IE → Bool
  | [], [] => true
  | e :: es, t :: ts => ckT1 C N r sc e t && ckTs C N r sc es ts
  | _, _ => false
theorem ckTs_ok (S : Snd P T C fi N d r) (o : Oks P T C fi N d X W sc) : ∀ {es : List Expr} {ts : List IE}, ckTs C N r sc es ts = true → Gs P T X d es ts ∧ es.all noStar = true ∧ ts.length = es.length
  | [], [], _ => ⟨gs_nil, rfl, rfl⟩
  | [], _ :: _, h => by simp [ckTs] at h
  | _ :: _, [], h => by simp [ckTs] at h
  | e :: es, t :: ts, h => by
    simp only [ckTs, Bool.and_eq_true] at h
    obtain ⟨h1, _, h3⟩ := ckT1_ok S o h.1
    obtain ⟨g1, g2, g3⟩ := ckTs_ok S o h.2
    exact ⟨gs_cons h1 g1 h3, by rw [List.all_cons, h3, g2]; rfl, by rw [List.length_cons, List.length_cons, g3]⟩
def ckTg (C : Ck) (N : List Str) (r : Rc) (sc : Scope) (e : Expr) (t : IE) : Bool := match e, t with
  | .Tuple es _ _, .tup ts => ckTs C N r sc es ts
  | e, t => ckT1 C N r sc e t
theorem ckTg_ok (S : Snd P T C fi N d r) (o : Oks P T C fi N d X W sc) {e : Expr} {t : IE} (h : ckTg C N r sc e t = true) : GG P T X d e t ∧ noStar e = true := by
  unfold ckTg at h
  split at h
  · obtain ⟨h1, h2, h3⟩ := ckTs_ok S o h
    exact ⟨gg_tup o.xo.calm h1 h2 h3, rfl⟩
  · obtain ⟨h1, h2, h3⟩ := ckT1_ok S o h
    exact ⟨gg_one h2 h1, h3⟩
/-! name = [..] -/
def unMut : IE → IE
  | .mut a => a
  | a => a
def isMut : IE → Bool
  | .mut _ => true
  | _ => false
theorem unMut_eq (ie : IE) : ie = if isMut ie then .mut (unMut ie) else unMut ie := by cases ie <;> rfl
theorem swapB_yes {env : Env} {sc : Scope} {y : Str} {py lpos : Pos} {elt : Expr} {gs : List Comprehension} {scope : Scope} {l : Nat} (hs : env.scope = sc) (hk : sc.kind = .function) (h : swapB sc (.Name y py) scope lpos = true) :
    env.scope.names.lookup y = some .local ∧ swapsWith (.ListComp elt gs scope lpos) (some (.Name y py)) l env = pure true := by
  subst hs
  simp only [swapB, Bool.and_eq_true, decide_eq_true_eq, Bool.not_eq_true'] at h
  exact ⟨h.1.1, sw_true hk h.1.1 h.1.2 h.2⟩
def ckSetLc (C : Ck) (N : List Str) (r : Rc) (sc : Scope) (y : Str) (elt : Expr) (gs : List Comprehension) (scope : Scope) (i : Nat) (ie : IE) : Bool := decide (N[i]? = some y) && ckComp C N r sc elt gs scope (unMut ie)
theorem ckSetLc_ok (S : Snd P T C fi N d r) (o : Oks P T C fi N d X W sc) {y : Str} {py : Pos} {elt : Expr} {gs : List Comprehension} {scope : Scope} {lpos pos : Pos} {i : Nat} {ie : IE} (hsw : swapB sc (.Name y py) scope lpos = true) (h : ckSetLc C N r sc y elt gs scope i ie = true) :
    GS P T X W d (.Assign [.Name y py] (.ListComp elt gs scope lpos) pos) (.asg (.var i) ie) := by
  unfold ckSetLc at h
  simp only [Bool.and_eq_true, decide_eq_true_eq] at h
  obtain ⟨h0, h⟩ := h
  obtain ⟨l1, l2⟩ := swapB_yes (elt := elt) (gs := gs) (l := pos.line) o.hsc o.kd hsw
  have hN : X.N[i]? = some y := by rw [o.hN]; exact h0
  rw [unMut_eq ie]
  generalize isMut ie = mu
  generalize unMut ie = ie0 at h ⊢
  unfold ckComp at h
  split at h
  · simp only [Bool.and_eq_true, decide_eq_true_eq] at h
    obtain ⟨⟨⟨⟨⟨⟨rfl, h1⟩, h2⟩, h3⟩, h4⟩, h5⟩, h6⟩ := h
    obtain ⟨i1, i2⟩ := ckI_ok S o.toOkx h1
    exact gs_setLc o.xo mu hN l1 l2 (ownOf_snd N _) (subB_ok h5) i1 (blk_ok o.toOkx h6) (ckV_ok o.toOkx h2) (ckIfs_ok S o.toOkx h3) (fun s H Ca cl fp => S.e (o.toOkx.blk _ s H Ca cl fp) h4) (noSet_ok i2 _)
  · simp only [Bool.and_eq_true, decide_eq_true_eq] at h
    obtain ⟨⟨⟨⟨⟨⟨⟨⟨⟨⟨⟨⟨rfl, rfl⟩, h1⟩, h2⟩, h3⟩, g1⟩, g2⟩, g3⟩, h4⟩, h5⟩, g5⟩, g6⟩, h6⟩ := h
    obtain ⟨i1, i2⟩ := ckI_ok S o.toOkx h1
    have j2 := ckI_noSet g1
    exact gs_setLc2 o.xo mu hN l1 l2 (ownOf_snd N _) (subB_ok h5) (subB_ok g5) (subB_ok g6) i1 (blk_ok o.toOkx h6) (ckV_ok o.toOkx h2) (ckIfs_ok S o.toOkx h3) (fun s H Ca cl fp => (ckI_ok S (o.toOkx.blk _ s H Ca cl fp) g1).1) (ckV_ok o.toOkx g2) (ckIfs_ok S o.toOkx g3)
      (fun s H Ca cl fp => S.e (o.toOkx.blk _ s H Ca cl fp) h4) (noSet_ok i2 _) (fun env => noSet_ok j2 env)
  · cases h
/-! raise -/
theorem gs_rse (o : Oks P T C fi N d X W sc) {x m : Str} {c j : Nat} {p p2 p3 pos : Pos} (hg : glB sc x = true) (hc : (x, c) ∈ C.exs) : GS P T X W d (.Raise (some (.Call (.Name x p) [.Constant (.str m) j p2] [] p3)) none pos) (.rse c) := .of fun F => by
  obtain ⟨g1, g2, g3⟩ := o.toOkx.gl hg
  obtain ⟨m1, m2, m3, m4, B, newId, initId, bmB, m5, m6⟩ := o.mf.ex _ hc
  exact (ps_raise o.xo.calm o.xo.tk (pmk_own m5 m6 m1 m2 (raises_own m3 m4) g1 g2)).imp fun D σ H ⟨ρ, h, σa, s, rs, q⟩ => q σ H ρ (Ext.refl _ _) s rs
end
end G8

set_option Elab.async false
set_option linter.all false
set_option maxRecDepth 100000
set_option maxHeartbeats 1000000
namespace G8
open PySem PySem.Spec PyProof.Rows L2
/-! ### try .. except C as e: caught = e, the exception held behind it -/
def EO (cls : Value) (dd : Option Addr) (a : Addr) : HO := .ext fun h => ∃ oe, h.get? a = some oe ∧ oe.cls = cls ∧ oe.dict = dd ∧ ∃ vs, oe.data = .fields vs
section
variable {X : Cx} {pins : List (Addr × Obj)} {σ : L2.St} {H : Hp} {s : Shared}
theorem eo_ok {P : Program} {w : World} {h : Heap} {a : Addr} {oe : Obj} {cls : Value} {dd : Option Addr} (e : h.get? a = some oe) (z : Zc cls dd oe) (f : ∃ vs, oe.data = .fields vs) : ObjOk P w H h a (EO cls dd a) :=
  ⟨⟨oe, e, z.1, z.2, f⟩, ⟨oe, e⟩, fun _ _ ⟨o1, q1, q2⟩ k => ⟨o1, k o1 q1, q2⟩⟩
/-- an object that stands, and that was not there when the def began, is tracked from here on -/
theorem Inv.track {a : Addr} {o : HO} (I : Inv X pins σ H s) (hn : H a = none) (h0 : X.s_0.heap.get? a = none) (hL : a ≠ X.env.locals) (hC : ∀ x c, X.env.cells.lookup x = some c → a ≠ c) (hP : ∀ p ∈ X.pn ++ pins, p.1 ≠ a) (new : ObjOk X.prog X.w (upd H a o) s.heap a o) : Inv X pins σ (upd H a o) s := by
  have un := I.base
  refine ⟨I.ok, I.os, I.bare, ⟨un.keep, un.slot, fun b ob e n hx => ?_, un.there, fun b xs e => ?_, fun b ob u e => ?_, fun b ps e => ?_⟩, I.loc, I.cell, ?_, fun x c e => ?_, fun p hp => ?_, fun b ob e => ?_, I.len⟩
  · have nb : b ≠ a := fun z => by subst z; rw [h0] at e; cases e
    rw [upd_ne nb]; exact un.free b ob e n hx
  · have q := un.tups b xs e
    rw [upd_ne (ne_of_none q hn)]; exact q
  · have q := un.frzs b ob u e
    rw [upd_ne (ne_of_none q hn)]; exact q
  · obtain ⟨more, q⟩ := un.tbls b ps e
    exact ⟨more, by rw [upd_ne (ne_of_none q hn)]; exact q⟩
  · rw [upd_ne (Ne.symm hL)]; exact I.free
  · rw [upd_ne (Ne.symm (hC x c e))]; exact I.freeC x c e
  · obtain ⟨p1, p2, p3⟩ := I.pin p hp
    exact ⟨p1, by rw [upd_ne (hP p hp)]; exact p2, p3⟩
  · by_cases hb : b = a
    · subst hb; rw [upd_same] at e; cases e; exact new
    · rw [upd_ne hb] at e
      exact (I.hok b ob e).stay (fun _ _ _ q => q) (fun c q => by rw [upd_ne (ne_of_none q hn)]; exact q) fun c xs q => by rw [upd_ne (ne_of_none q hn)]; exact q
end
def wKeep (K : PySem.W.Frag) (c : Value) (i : Nat) (ts : Addr → Value → Option Addr → TS) (Wo : WX) (D : Ends) : WX := fun cls dd σ H =>
  ∃ b, PySem.W.exmOne K cls c = some b ∧ (b = true → ∀ a, H a = none → ts a cls dd { nx := fun σ1 H1 => D.nx (σ1.set i none) (upd H1 a (EO cls dd a)), rt := fun _ _ => False, bk := fun _ _ => False, ct := fun _ _ => False } (σ.set i (some (.ref a))) H) ∧
    (b = false → Wo cls dd σ H)
section
variable {X : Cx} {x n : Str} {c : Value} {i : Nat} {body rest : List Stmt} {st0 : Stmt} {np pos pos2 : Pos} {tb : WX → TS} {ts : Addr → Value → Option Addr → TS} {Wo : WX}
theorem ps_try_keep (hex : X.ex = []) (hst : X.stack = X.env :: X.outer) (hfm : X.env.frame = some X.env.locals) (hN : X.N.Nodup) (hi : X.N[i]? = some n) (hln : X.env.kindOf n = some .local) (hc : Names X x c) (tk : Takes X Wo)
    (hb : ∀ (W : WX) (pn : List (Addr × Obj)) (xe : Value → Shared → Prop), Takes (X.tr pn xe) W → PassesOwn (model X.prog X.w) X.A X.env xe → PSs (X.tr pn xe) body (tb W))
    (hsu : ∀ (a : Addr) (oe : Obj) (cls : Value) (dd : Option Addr) (pn : List (Addr × Obj)), Zc cls dd oe → (∃ vs, oe.data = .fields vs) → PSs (X.suite a ((a, oe) :: pn)) (st0 :: rest) (ts a cls dd)) :
    PS X (.Try body [.ExceptHandler (some (.Name x np)) (some n) (st0 :: rest) pos2] [] [] pos) (fun D σ H => tb (wKeep X.K c i ts Wo D) D σ H) := by
  refine ⟨fun pins s σ H D I hq => ?_⟩
  have okX := I.ok
  have hfra : X.A.frames = some (X.env :: X.outer) := by rw [okX.frames, hst]
  have hloc' : Loc X.env.scope n := .inl hln
  refine wpAny_Try_except ?_
  refine wpAny_mono ((hb (wKeep X.K c i ts Wo D) (X.pn ++ pins) (fun ex sa => wpAny (model X.prog X.w) X.A (noteFrame ex X.env) (fun _ sb => wpAny (model X.prog X.w) X.A (setFlight ex none) (fun _ sc =>
    wpAny (model X.prog X.w) X.A (handleBy ex X.env [.ExceptHandler (some (.Name x np)) (some n) (st0 :: rest) pos2]) (SP X pins D) X.xe sc) X.xe sb) X.xe sa) (fun u sx xx => ?_) PassesOwn.looking).run [] s σ H D (I.toTry _) hq) (fun fl sx hsp => ?_) (fun _ _ z => z)
  · obtain ⟨a, B, sI, _, σ1, H1, cls, dd, rfl, Jt, nb, up, sky, na, os, ag, b, hb1, hyes, hno⟩ := xx
    have J : Inv X pins σ1 H1 sI := Jt.ofTry okX
    have sk : Sky B (X.env :: X.outer) a (Zc cls dd) X.env.locals sx.heap := by rw [← hst]; exact sky
    show wpAny (model X.prog X.w) X.A (noteFrame (.ref a) X.env) _ _ _
    refine Sky.land Zc.steady hfra hfm sk fun ha fa upa => ?_
    have Ja : Inv X pins σ1 H1 { sx with heap := ha } := J.landed nb fa.1 (up.trans upa) os ag
    obtain ⟨oa, va, ga, za, da⟩ := fa.there
    have nfr : a ∉ frs (X.env :: X.outer) := fun hm => by
      obtain ⟨_, o2, e2, hnf⟩ := fa.2.2.1.mem hm
      rw [ga] at e2; cases e2
      exact hnf _ da
    have neL : a ≠ X.env.locals := fun z => nfr (List.mem_filterMap.mpr ⟨X.env, List.mem_cons_self, by rw [hfm, z]⟩)
    have neF : a ∉ X.fs := fun hm => by
      obtain ⟨e2, he2, q2⟩ := List.mem_filterMap.mp hm
      exact nfr (List.mem_filterMap.mpr ⟨e2, List.mem_cons_of_mem _ he2, q2⟩)
    have Sa := Ja.suite ga da na neL neF
    refine wpAny_handleBy_cons (codeAny_handlers_test ?_) (by intro z; cases z)
    have lt : PySem.W.Looks (model X.prog X.w) ha (typeOf (.ref a)) cls := fun A2 Q2 E2 s2 k2 q2 => wpAny_typeOf_ref (k2 _ _ ga) (by rw [za.1]; exact q2)
    have lm := PySem.W.exm_one (M := model X.prog X.w) (Ja.kIn) lt hb1
    have look : ∀ {Q2 : Value → Shared → Prop} {E2 : Value → Shared → Prop}, Q2 c { sx with heap := ha } → wpAny (model X.prog X.w) (X.A.mark (some (.ref a))) (eval (.Name x np) X.env) Q2 E2 { sx with heap := ha } := fun {Q2 E2} q2 => by
      obtain ⟨c1, c2, c3 | ⟨c3, c4, c5⟩⟩ := hc
      · exact ld_glob (X := X.suite a ((a, oa) :: (X.pn ++ pins))) Sa c1 c3 q2 c2
      · exact ld_blt (X := X.suite a ((a, oa) :: (X.pn ++ pins))) Sa c1 c3 c4 q2 c5 c2
    refine look (lm.here ?_)
    cases b with
    | true =>
      refine codeAny_handlers_suite_as ?_
      refine HandSPX.lands_againZ fa fun hd fd upd_ => ?_
      have Jd : Inv X pins σ1 H1 { sx with heap := hd } := J.landed nb fd.1 ((up.trans upa).trans upd_) os ag
      obtain ⟨od, vd, gd, zd, dd2⟩ := fd.there
      have Sd := Jd.suite gd dd2 na neL neF
      refine store_ok (X := X.suite a ((a, od) :: (X.pn ++ pins))) (v := .ref a) Sd hN hi hloc' rfl (fun se Se => ?_) (.inr hln)
      have h0 : X.s_0.heap.get? a = none := by
        cases e0 : X.s_0.heap.get? a with
        | none => rfl
        | some o0 =>
          obtain ⟨o1, e1⟩ := J.base.there a o0 e0 (by rw [hex]; exact List.not_mem_nil)
          have := nb a o1 e1 (by rw [hst]; exact nfr)
          rw [fa.2.1] at this
          cases this
      refine wpAny_mono ((hsu a od cls dd (X.pn ++ pins) zd ⟨_, dd2⟩).run [] se _ H1 _ Se (hyes rfl a na)) (fun fl sf hsp => ?_) (fun _ _ z => False.elim z)
      cases fl with
      | next =>
        obtain ⟨σ2, H2, S2, q2⟩ := hsp
        have pa := S2.pin (a, od) (List.mem_append_left _ List.mem_cons_self)
        have I2 := S2.unsuite okX
        have I3 : Inv X pins σ2 (upd H2 a (EO cls dd a)) sf := Inv.track I2 pa.2.1 h0 neL (fun y cc e z => by
          obtain ⟨v, oc, g1, g2⟩ := I2.cell y cc e
          rw [← z, pa.1] at g1
          cases g1
          exact pa.2.2.2.2 _ g2) (fun p hp z => by
          have := nb p.1 p.2 (J.pin p hp).1 (by rw [z, hst]; exact nfr)
          rw [z, fa.2.1] at this
          cases this) (eo_ok pa.1 zd ⟨_, dd2⟩)
        exact gone_ok I3 hN hi hln fun sg Jg => ⟨_, _, Jg, q2⟩
      | brk =>
        obtain ⟨_, _, _, q2⟩ := hsp
        exact q2.elim
      | cont =>
        obtain ⟨_, _, _, q2⟩ := hsp
        exact q2.elim
      | ret u =>
        obtain ⟨_, _, _, _, _, q2⟩ := hsp
        exact q2.elim
    | false =>
      show wpAny _ X.A (handleBy (.ref a) X.env []) _ _ _
      refine wpAny_handleBy_nil ?_
      obtain ⟨_, _, _, oz, vz, Tz, _, _, gz, _, dz, tz, _⟩ := id fa
      unfold PySem.passOn
      refine wpAny_bind (wpAny_field gz dz tz ?_)
      rw [if_neg (show ¬ ((Value.ref Tz == Value.none) = true) from by simp)]
      have goes : wpAny (model X.prog X.w) X.A (setFlight (.ref a) X.env.frame) (fun _ sz => wpAny (model X.prog X.w) X.A (throw (.ref a) : Sem Flow) (SP X pins D) X.xe sz) X.xe { sx with heap := ha } := by
        rw [hfm]
        refine HandSPX.setFlight_upZ fa fun hz hhz upz => wpAny_throw (tk _ _ ?_)
        exact ⟨a, B, sI, pins, σ1, H1, cls, dd, rfl, J, nb, (up.trans upa).trans upz, .inr (.inr (by rw [hst]; exact hhz)), na, os, ag, hno rfl⟩
      first
        | exact wpAny_bind (wpAny_pure (wpAny_bind goes))
        | exact wpAny_bind goes
  · cases fl with
    | next => exact (fun ⟨σ1, H1, J1, q1⟩ => wpAny_execs_nil ⟨σ1, H1, J1.ofTry okX, q1⟩) hsp
    | brk => exact (fun ⟨σ1, H1, J1, q1⟩ => ⟨σ1, H1, J1.ofTry okX, q1⟩) hsp
    | cont => exact (fun ⟨σ1, H1, J1, q1⟩ => ⟨σ1, H1, J1.ofTry okX, q1⟩) hsp
    | ret u => exact (fun ⟨v, σ1, H1, J1, r1, q1⟩ => ⟨v, σ1, H1, J1.ofTry okX, r1, q1⟩) hsp
end
section
variable {P : Prg} {T : Tb} {C : Ck} {fi : Nat → Fi} {N : List Str} {d : Nat} {X : Cx} {W : WX} {sc : Scope}
theorem Oks.tr (o : Oks P T C fi N d X W sc) {pn : List (Addr × Obj)} {xe : Value → Shared → Prop} {W' : WX} (tk : Takes (X.tr pn xe) W') (po : PassesOwn (model X.prog X.w) X.A X.env xe) : Oks P T C fi N d (X.tr pn xe) W' sc :=
  ⟨⟨o.hN, o.hsc, ⟨o.xo.calm, o.xo.room, tk, o.xo.nd⟩, o.mf⟩, ⟨⟨o.xo.calm, o.xo.room, tk, o.xo.nd⟩, po⟩, o.kd, o.fn, o.ex, o.st, o.fm⟩
/-- what the suite does: caught = e -/
def tCau (i j : Nat) (a : Addr) : TS := fun D σ H => (∃ σ0 : L2.St, σ = σ0.set i (some (.ref a))) ∧ D.nx (σ.set j (some (.ref a))) H
theorem set3 {α : Type} (xs : List α) (i j : Nat) (a b c : α) : ((xs.set i a).set j b).set i c = (xs.set j b).set i c := by
  by_cases e : i = j
  · subst e; simp
  · rw [List.set_comm _ _ e, List.set_set]
theorem gs_try (o : Oks P T C fi N d X W sc) {body : List Stmt} {ib : List IS} (hb : ∀ {X' : Cx} {W' : WX}, Oks P T C fi N d X' W' sc → GB P T X' W' d body ib) {x n y : Str} {c i j : Nat} {np pos pos2 pos3 py pn : Pos} (hx : (x, c) ∈ C.exs) (hg : glB sc x = true)
    (hi : N[i]? = some n) (hj : N[j]? = some y) (hn : sc.names.lookup n = some .local) (hy : sc.names.lookup y = some .local) (hd : (n == ("__debug__" : Str)) = false) (hcd : (n == ("__classdict__" : Str)) = false) :
    GS P T X W d (.Try body [.ExceptHandler (some (.Name x np)) (some n) [.Assign [.Name y py] (.Name n pn) pos3] pos2] [] [] pos) (.tryc ib c i j) := .of fun F => by
  obtain ⟨g1, g2, g3⟩ := o.toOkx.gl hg
  have hN := o.hN
  have hsc := o.hsc
  have hkn : X.env.kindOf n = some .local := by unfold Env.kindOf; rw [hsc]; exact hn
  have hky : X.env.kindOf y = some .local := by unfold Env.kindOf; rw [hsc]; exact hy
  have nm : Names X x (.ref (T.ca c)) := ⟨g1, g2, .inl (o.mf.ex _ hx).1⟩
  refine (ps_try_keep (tb := fun W' => tB X.K T ((ev P F).s d) W' ib) (ts := fun a _ _ => tCau i j a) o.ex o.st o.fm o.xo.nd (by rw [hN]; exact hi) hkn nm o.xo.tk (fun W' pl xe tk po => hb (o.tr tk po) F) (fun a oe cls dd pl z f => ?_)).imp fun D σ H ⟨ρ, h, σa, s, rs, q⟩ => ⟨ρ, h, σa, s, rs, ?_⟩
  · have e1 : PE (X.suite a ((a, oe) :: pl)) (.Name n pn) (tVar i) := pe_var (by rw [← hi, ← hN]) (.inl hkn) hd hcd
    have e2 := pss_one (ps_set (X := X.suite a ((a, oe) :: pl)) (pos := pos3) (pos' := py) (i := j) o.xo.nd (by rw [← hj, ← hN]) (.inl hky) e1 rfl (.inr hky))
    refine ⟨fun pins s σ H D I ⟨⟨σ0, e⟩, q⟩ => e2.run pins s σ H D I ⟨.ref a, ?_, q⟩⟩
    have l1 : σ.length = X.N.length := I.len
    have l2 : i < X.N.length := by rw [hN]; exact (List.getElem?_eq_some_iff.mp hi).1
    rw [e] at l1 ⊢
    rw [List.length_set] at l1
    rw [List.getElem?_set_self (by rw [l1]; exact l2)]
  · change AftS X.K T W ρ H (stepS P (ev P F) d (.tryc ib c i j) σa h) D at q
    simp only [stepS] at q
    cases e : blk ((ev P F).s d) ib σa h with
    | next σ1 h1 => rw [e] at q; exact q
    | brk σ1 h1 => rw [e] at q; exact q
    | cnt σ1 h1 => rw [e] at q; exact q
    | ret v h1 => rw [e] at q; exact q
    | stuck => rw [e] at q; exact q
    | err k σ1 h1 =>
      rw [e] at q
      simp only at q
      intro σ' H' ρ' x1 s1 rs1
      split at q
      · rename_i hk
        obtain ⟨k1, k2, k3⟩ := o.mf.exk k hk
        refine ⟨P.exm.contains (k, c), (k3 _ hx).1, fun hb a na => ?_, fun hb => ?_⟩
        · rw [if_pos hb] at q
          refine ⟨⟨σ', rfl⟩, ?_⟩
          show D.nx (((σ'.set i _).set j _).set i none) _
          rw [set3]
          have xn : Ext ρ' H' ρ' (upd H' a (EO (.ref (T.ca k)) none a)) := Ext.new_obj s1 na
          have rx : Rp X.K T (upd H' a (EO (.ref (T.ca k)) none a)) ρ' (.exc k) (.ref a) := .exc (upd_same (H := H') (o := EO (.ref (T.ca k)) none a)) (s1.fresh na)
          exact q _ _ ρ' (x1.trans xn) (s1.new_obj na) (((rs1.ext xn).set j rx).unset i)
        · rw [if_neg (by rw [hb]; exact Bool.false_ne_true)] at q
          exact q σ' H' ρ' x1 s1 rs1
      · exact False.elim q
end
end G8

set_option Elab.async false
set_option linter.all false
set_option maxRecDepth 100000
set_option maxHeartbeats 1000000
namespace G8
open PySem PySem.Spec L2
section
variable {P : Prg} {T : Tb} {X : Cx} {W : WX} {d : Nat} {a e : Expr} {ia ie : IE} {pos pos2 : Pos}
/-! ### o.f += k -/
theorem gs_augf {f : Nat} {k : Int} {j : Nat} {p3 : Pos} (ow : Own X.K T) (hf : f < T.fl.length) (ha : GE P T X W d a ia) :
    GS P T X W d (.AugAssign (.Attribute a (flN T f) pos2) .Add (.Constant (.int k) j p3) pos) (.augf ia f .add (.cst (.int k))) := .of fun F => by
  refine (ps_fldaug (rd := ra X.K .add) (ha F) pe_int (aug_ok .add)).imp fun D σ H ⟨ρ, h, σa, s, rs, q⟩ => ⟨ρ, h, σa, s, rs, AftS.to rs q fun x h1 u H1 ρ1 x1 s1 r1 q1 => ?_⟩
  cases F with
  | zero =>
    cases e1 : fldD x f h1 with
    | ok v h2 => rw [e1] at q1; exact False.elim q1
    | err c h2 =>
      unfold fldD at e1
      split at e1
      · split at e1
        · split at e1 <;> cases e1
        · cases e1
      · cases e1
    | stuck => rw [e1] at q1; exact False.elim q1
  | succ F =>
  have e0 : (ev P (F + 1)).e d (.cst (.int k)) σa = fun h2 => .ok (.int k) h2 := rfl
  unfold fldD at q1
  split at q1
  · rename_i n
    cases e1 : h1[n]? with
    | none => rw [e1] at q1; exact False.elim q1
    | some o =>
      cases o with
      | ins c fs =>
        rw [e1] at q1
        simp only at q1
        cases e2 : fs.lookup f with
        | none => rw [e2] at q1; exact False.elim q1
        | some v =>
          rw [e2] at q1
          simp only [R.to, e0] at q1
          cases v with
          | int i =>
            simp only [augD, R.to, setFldD, e1] at q1
            split at q1
            · rename_i x2 h2 z hz
              split at hz
              · rename_i hl
                cases hz
                cases r1 with
                | ref hp =>
                  obtain ⟨o, tp, dx, fvs, e3, rf⟩ := s1.at_ n _ _ e1 hp
                  obtain ⟨v2, b1, b2, b3⟩ := rf.lookup ow.nd e2
                  cases b2
                  refine ⟨_, _, dx, fvs, .int i, rfl, e3, ow.cl c o, ow.na c _ o (flN_mem hf), b1, ?_⟩
                  refine .inl ⟨i, k, rfl, rfl, dx, fvs, e3, by rw [← rf.length]; have := hl.1; omega, ?_⟩
                  have xt : Ext ρ1 H1 ρ1 (upd H1 _ (.ins (T.ca c) dx (L2.putF (flN T f) (.int (i + k)) fvs))) := Ext.write s1 hp
                  exact q1 σ _ ρ1 xt (s1.write hp (get_lt e1) ⟨o, put_top hl.2 tp, dx, _, upd_same, (rf.put ow.nd hf (.int (i + k))).ext xt⟩) ((rs.ext x1).ext xt)
              · cases hz
            · rename_i hz
              split at hz <;> cases hz
            · exact False.elim q1
          | ref m =>
            have z : augD .add (.ref m) (.int k) h1 = .stuck := by
              simp only [augD, lstOf]
              split <;> first | rfl | simp_all
            rw [z] at q1
            exact False.elim q1
          | _ => exact False.elim q1
      | _ => rw [e1] at q1; exact False.elim q1
  · exact False.elim q1
end
end G8

set_option Elab.async false
set_option linter.all false
set_option maxRecDepth 100000
set_option maxHeartbeats 1000000
namespace G8
open PySem PySem.Spec L2
theorem star_no (a : Expr) : noStar a = true → (match a with | .Starred .. => true | _ => false) = false := by
  cases a <;> intro h <;> first | rfl | (simp [noStar] at h)
theorem swp2 {env : Env} {x y : Str} {a b : Expr} {px py pt : Pos} {kt k2 : Nat} {pt2 : Pos} (hk : env.blockKind = .function) (hx : env.kindOf x = some .local) (hy : env.kindOf y = some .local) (hl : (py.line == px.line) = true) (hxy : x ≠ y)
    (ha : noStar a = true) (hb : noStar b = true) (hf : [a, b].all (foldedForSure 8) = false) (hc : [a, b].all (constantsAlone 8) = false) :
    swappedStores [.Tuple [.Name x px, .Name y py] kt pt] (.Tuple [a, b] k2 pt2) env = pure (some [x, y]) := by
  unfold swappedStores
  have hl' : py.line = px.line := by simpa using hl
  have e1 : ([a, b].any fun | .Starred .. => true | _ => false) = false := by
    simp only [List.any_cons, List.any_nil, Bool.or_false, Bool.or_eq_false_iff]
    exact ⟨star_no a ha, star_no b hb⟩
  have e2 : ([Expr.Name x px, .Name y py].filterMap fun
    | .Name id pos => if env.kindOf id == some .local && pos.line == px.line then some id else none
    | _ => none) = [x, y] := by
    rw [List.filterMap_cons, List.filterMap_cons, List.filterMap_nil]
    simp [hx, hy, hl']
  have e3 : [x, y].eraseDups.length = 2 := by
    simp [List.eraseDups_cons, hxy, Ne.symm hxy]
  have e4 : ∀ fm : List Str, fm = [x, y] → (fm.length != 0 + 1 + 1 || fm.eraseDups.length != fm.length) = false := fun fm h => by
    subst h
    rw [e3]
    rfl
  simp only [List.head?_cons, Option.map_some, Option.getD_some, Expr.pos, hf, hc, hk, List.length_cons, List.length_nil]
  refine (if_neg (by simp)).trans ((if_neg fun h => Bool.false_ne_true (e1.symm.trans h)).trans ((if_neg fun h => Bool.false_ne_true ((e4 _ e2).symm.trans h)).trans ((if_neg (by simp)).trans ((if_neg (by simp)).trans ?_))))
  exact congrArg (fun z => pure (some z)) e2
theorem swp3 {env : Env} {x y z : Str} {a b c : Expr} {px py pz pt : Pos} {kt k2 : Nat} {pt2 : Pos} (hk : env.blockKind = .function) (hx : env.kindOf x = some .local) (hy : env.kindOf y = some .local) (hz : env.kindOf z = some .local) (hl : (py.line == px.line) = true) (hl2 : (pz.line == px.line) = true)
    (hxy : x ≠ y) (hxz : x ≠ z) (hyz : y ≠ z) (ha : noStar a = true) (hb : noStar b = true) (hcc : noStar c = true) (hf : [a, b, c].all (foldedForSure 8) = false) (hc : [a, b, c].all (constantsAlone 8) = false) :
    swappedStores [.Tuple [.Name x px, .Name y py, .Name z pz] kt pt] (.Tuple [a, b, c] k2 pt2) env = pure (some [x, y, z]) := by
  unfold swappedStores
  have hl' : py.line = px.line := by simpa using hl
  have hl2' : pz.line = px.line := by simpa using hl2
  have e1 : ([a, b, c].any fun | .Starred .. => true | _ => false) = false := by
    simp only [List.any_cons, List.any_nil, Bool.or_false, Bool.or_eq_false_iff]
    exact ⟨star_no a ha, star_no b hb, star_no c hcc⟩
  have e2 : ([Expr.Name x px, .Name y py, .Name z pz].filterMap fun
    | .Name id pos => if env.kindOf id == some .local && pos.line == px.line then some id else none
    | _ => none) = [x, y, z] := by
    rw [List.filterMap_cons, List.filterMap_cons, List.filterMap_cons, List.filterMap_nil]
    simp [hx, hy, hz, hl', hl2']
  have e3 : [x, y, z].eraseDups.length = 3 := by
    simp [List.eraseDups_cons, hxy, Ne.symm hxy, hxz, Ne.symm hxz, hyz, Ne.symm hyz]
  have e4 : ∀ fm : List Str, fm = [x, y, z] → (fm.length != 0 + 1 + 1 + 1 || fm.eraseDups.length != fm.length) = false := fun fm h => by
    subst h
    rw [e3]
    rfl
  simp only [List.head?_cons, Option.map_some, Option.getD_some, Expr.pos, hf, hc, hk, List.length_cons, List.length_nil]
  refine (if_neg (by simp)).trans ((if_neg fun h => Bool.false_ne_true (e1.symm.trans h)).trans ((if_neg fun h => Bool.false_ne_true ((e4 _ e2).symm.trans h)).trans ((if_neg (by simp)).trans ((if_neg (by simp)).trans ?_))))
  exact congrArg (fun z => pure (some z)) e2
section
variable {P : Prg} {T : Tb} {C : Ck} {fi : Nat → Fi} {N : List Str} {d : Nat} {X : Cx} {W : WX} {sc : Scope} {r : Rc} {pos : Pos}
theorem blk_fn {env : Env} (hk : env.scope.kind = .function) : env.blockKind = .function := by unfold Env.blockKind; rw [hk]; rfl
theorem par_len {K : PySem.W.Frag} {r : Rn} {ies : List IE} {σa : Sl} {h : Sto} {ρ : Rho} {H : Hp} {D : Ends} {ts : List Nat} (q : AftS K T W ρ H ((evs r ies σa h).to σa fun xs h1 => .next (setAll ts xs σa) h1) D) :
    AftS K T W ρ H ((evs r ies σa h).to σa fun xs h1 => if xs.length = ies.length then .next (setAll ts xs σa) h1 else .stuck) D := by
  cases e : evs r ies σa h with
  | ok xs h1 =>
    rw [e] at q
    have := evs_len e
    show AftS K T W ρ H (if xs.length = ies.length then .next (setAll ts xs σa) h1 else .stuck) D
    rw [if_pos this]
    exact q
  | err c h1 => rw [e] at q; exact q
  | stuck => rw [e] at q; exact q
theorem gs_par2 {x y : Str} {a b : Expr} {ia ib : IE} {i j : Nat} {px py pt : Pos} {kt k2 : Nat} {pt2 : Pos} (hc : X.calm = true) (hN : X.N.Nodup) (hi : X.N[i]? = some x) (hj : X.N[j]? = some y) (hij : i ≠ j) (hx : X.env.scope.names.lookup x = some .local) (hy : X.env.scope.names.lookup y = some .local)
    (ha : GA P T X W d [a, b] [ia, ib]) (hw : swappedStores [.Tuple [.Name x px, .Name y py] kt pt] (.Tuple [a, b] k2 pt2) X.env = pure (some [x, y])) :
    GS P T X W d (.Assign [.Tuple [.Name x px, .Name y py] kt pt] (.Tuple [a, b] k2 pt2) pos) (.par [i, j] [ia, ib]) := .of fun F =>
  (ps_par hc hN hi hj hij hx hy (ha F) hw rfl).imp fun D σ H ⟨ρ, h, σa, s, rs, q⟩ => ⟨ρ, h, σa, s, rs, AftS.to rs (par_len q) fun xs h1 vs H1 ρ1 x1 s1 r1 q1 => by
    have r1' : Rps X.K T H1 ρ1 xs vs := r1
    split at q1
    · rename_i hl
      match xs, vs, r1', hl with
      | [p, q], _, .cons r2 (.cons r3 .nil), _ => exact ⟨_, _, rfl, AftS.next q1 s1 (((rs.ext x1).set i r2).set j r3)⟩
    · exact False.elim q1⟩
theorem gs_par3 {x y z : Str} {a b c : Expr} {ia ib ic : IE} {i j l : Nat} {px py pz pt : Pos} {kt k2 : Nat} {pt2 : Pos} (hc : X.calm = true) (hN : X.N.Nodup) (hi : X.N[i]? = some x) (hj : X.N[j]? = some y) (hl : X.N[l]? = some z) (hij : i ≠ j) (hil : i ≠ l) (hjl : j ≠ l)
    (hx : X.env.scope.names.lookup x = some .local) (hy : X.env.scope.names.lookup y = some .local) (hz : X.env.scope.names.lookup z = some .local) (ha : GA P T X W d [a, b, c] [ia, ib, ic]) (hw : swappedStores [.Tuple [.Name x px, .Name y py, .Name z pz] kt pt] (.Tuple [a, b, c] k2 pt2) X.env = pure (some [x, y, z])) :
    GS P T X W d (.Assign [.Tuple [.Name x px, .Name y py, .Name z pz] kt pt] (.Tuple [a, b, c] k2 pt2) pos) (.par [i, j, l] [ia, ib, ic]) := .of fun F =>
  (ps_par3 hc hN hi hj hl hij hil hjl hx hy hz (ha F) hw rfl).imp fun D σ H ⟨ρ, h, σa, s, rs, q⟩ => ⟨ρ, h, σa, s, rs, AftS.to rs (par_len q) fun xs h1 vs H1 ρ1 x1 s1 r1 q1 => by
    have r1' : Rps X.K T H1 ρ1 xs vs := r1
    split at q1
    · rename_i hl
      match xs, vs, r1', hl with
      | [p, q, o], _, .cons r2 (.cons r3 (.cons r4 .nil)), _ => exact ⟨_, _, _, rfl, AftS.next q1 s1 ((((rs.ext x1).set i r2).set j r3).set l r4)⟩
    · exact False.elim q1⟩
def lo1 (sc : Scope) (N : List Str) (x : Str) (i : Nat) : Bool := decide (N[i]? = some x) && decide (sc.names.lookup x = some .local)
def ckPar (N : List Str) (r : Rc) (sc : Scope) (ts vs : List Expr) (is : List Nat) (ies : List IE) : Bool := ckA r sc vs ies && !vs.all (foldedForSure 8) && !vs.all (constantsAlone 8) && match ts, is with
  | [.Name x px, .Name y py], [i, j] => decide (vs.length = 2) && lo1 sc N x i && lo1 sc N y j && decide (i ≠ j) && decide (x ≠ y) && (py.line == px.line)
  | [.Name x px, .Name y py, .Name z pz], [i, j, l] => decide (vs.length = 3) && lo1 sc N x i && lo1 sc N y j && lo1 sc N z l && decide (i ≠ j) && decide (i ≠ l) && decide (j ≠ l) && decide (x ≠ y) && decide (x ≠ z) && decide (y ≠ z) && (py.line == px.line) && (pz.line == px.line)
  | _, _ => false
theorem ckPar_ok (S : Snd P T C fi N d r) (o : Oks P T C fi N d X W sc) {ts vs : List Expr} {is : List Nat} {ies : List IE} {kt k2 : Nat} {pt pt2 : Pos} (h : ckPar N r sc ts vs is ies = true) : GS P T X W d (.Assign [.Tuple ts kt pt] (.Tuple vs k2 pt2) pos) (.par is ies) := by
  unfold ckPar at h
  rw [Bool.and_eq_true, Bool.and_eq_true, Bool.and_eq_true, Bool.not_eq_true', Bool.not_eq_true'] at h
  obtain ⟨⟨⟨h1, h2⟩, h3⟩, h⟩ := h
  obtain ⟨a1, a2, a3⟩ := ckA_ok S o.toOkx h1
  have hk : X.env.scope.kind = .function := by rw [o.hsc]; exact o.kd
  have lk : ∀ {x : Str} {i : Nat}, lo1 sc N x i = true → X.N[i]? = some x ∧ X.env.scope.names.lookup x = some .local := fun {x i} z => by
    simp only [lo1, Bool.and_eq_true, decide_eq_true_eq] at z
    rw [o.hN, o.hsc]; exact z
  split at h
  · simp only [Bool.and_eq_true, decide_eq_true_eq] at h
    obtain ⟨⟨⟨⟨⟨hv, x1⟩, y1⟩, ij⟩, xy⟩, ln⟩ := h
    match vs, ies, hv, a3 with
    | [a, b], [ia, ib], _, _ =>
      simp only [List.all_cons, List.all_nil, Bool.and_true, Bool.and_eq_true] at a2
      exact gs_par2 o.xo.calm o.xo.nd (lk x1).1 (lk y1).1 ij (lk x1).2 (lk y1).2 a1 (swp2 (blk_fn hk) (lk x1).2 (lk y1).2 ln xy a2.1 a2.2 h2 h3)
  · simp only [Bool.and_eq_true, decide_eq_true_eq] at h
    obtain ⟨⟨⟨⟨⟨⟨⟨⟨⟨⟨⟨hv, x1⟩, y1⟩, z1⟩, ij⟩, il⟩, jl⟩, xy⟩, xz⟩, yz⟩, ln⟩, ln2⟩ := h
    match vs, ies, hv, a3 with
    | [a, b, c], [ia, ib, ic], _, _ =>
      simp only [List.all_cons, List.all_nil, Bool.and_true, Bool.and_eq_true] at a2
      exact gs_par3 o.xo.calm o.xo.nd (lk x1).1 (lk y1).1 (lk z1).1 ij il jl (lk x1).2 (lk y1).2 (lk z1).2 a1 (swp3 (blk_fn hk) (lk x1).2 (lk y1).2 (lk z1).2 ln ln2 xy xz yz a2.1 a2.2.1 a2.2.2 h2 h3)
  · cases h
end
end G8

set_option Elab.async false
set_option linter.all false
set_option maxRecDepth 100000
set_option maxHeartbeats 1000000
namespace G8
open PySem PySem.Spec L2
section
variable {P : Prg} {T : Tb} {C : Ck} {fi : Nat → Fi} {N : List Str} {d : Nat} {X : Cx} {W : WX} {sc : Scope} {r : Rc}
/-! all statements -/
def tupX : Expr → Bool
  | .Tuple .. => true
  | .List .. => true
  | _ => false
theorem swp_none {tg e : Expr} {env : Env} (h : tupX tg = false ∨ (match e with | .Tuple .. => true | _ => false) = false) : swappedStores [tg] e env = pure none := by
  unfold swappedStores
  rcases h with h | h
  · cases tg <;> first | rfl | (simp [tupX] at h)
  · cases e <;> first | (simp at h; done) | skip
    all_goals (cases tg <;> rfl)
structure Rs where
  s : Scope → Stmt → IS → Bool
  b : Scope → List Stmt → List IS → Bool
def ckBs (s : Scope → Stmt → IS → Bool) (sc : Scope) : List Stmt → List IS → Bool
  | [], [] => true
  | x :: xs, i :: is => s sc x i && ckBs s sc xs is
  | _, _ => false
def isTupV : Expr → Bool
  | .Tuple .. => true
  | _ => false
def isUnkS : IS → Bool
  | .unk => true
  | _ => false
theorem gs_unk {st : Stmt} : GS P T X W d st .unk := .of fun F => PS.bot fun D σ H ⟨_, _, _, _, _, q⟩ => q
theorem isUnkS_eq {is : IS} (h : isUnkS is = true) : is = .unk := by cases is <;> first | rfl | cases h
/-- a tuple for a tuple of names, stored in order -/
def noLoc (sc : Scope) : Expr → Bool
  | .Name x _ => !decide (sc.names.lookup x = some .local)
  | _ => true
def noSwp (sc : Scope) (tg e : Expr) : Bool := match tg, e with
  | .Tuple ts _ _, .Tuple vs _ _ => vs.all (foldedForSure 8) || ts.any (noLoc sc)
  | _, _ => false
theorem fm_lt {α β : Type} {f : α → Option β} : ∀ {xs : List α}, (∃ x ∈ xs, f x = none) → (xs.filterMap f).length < xs.length
  | [], ⟨_, h, _⟩ => by cases h
  | x :: xs, ⟨y, hy, e⟩ => by
    have l := List.length_filterMap_le f xs
    rw [List.filterMap_cons]
    rcases List.mem_cons.mp hy with rfl | hy
    · rw [e]
      simp only [List.length_cons]
      omega
    · have := fm_lt (f := f) ⟨y, hy, e⟩
      cases f x <;> simp only [List.length_cons] <;> omega
theorem noSwp_ok {sc : Scope} {tg e : Expr} {env : Env} (hs : env.scope = sc) (h : noSwp sc tg e = true) : swappedStores [tg] e env = pure none := by
  unfold noSwp at h
  split at h
  · rename_i ts k p vs k2 p2
    unfold swappedStores
    simp only
    split
    · rfl
    · split
      · rfl
      · split
        · rfl
        · rename_i hn
          rw [Bool.or_eq_true] at h
          rcases h with h | h
          · rw [if_pos h]
          · exfalso
            obtain ⟨t, ht, hz⟩ := List.any_eq_true.mp h
            have l := fm_lt (f := fun
              | Expr.Name id pos => if env.kindOf id == some .local && pos.line == (ts.head?.map (·.pos.line)).getD 0 then some id else none
              | _ => none) (xs := ts) ⟨t, ht, by
                cases t with
                | Name x q =>
                  simp only [noLoc, Bool.not_eq_true', decide_eq_false_iff_not] at hz
                  have : (env.kindOf x == some .local) = false := by
                    have e2 : env.kindOf x = sc.names.lookup x := by rw [← hs]; rfl
                    rw [e2]
                    simpa using hz
                  simp only [this, Bool.false_and]
                  rfl
                | _ => rfl⟩
            apply hn
            rw [Bool.or_eq_true]
            left
            rw [bne_iff_ne]
            exact Nat.ne_of_lt l
  · cases h
def stS0 (C : Ck) (N : List Str) (r : Rc) (rs : Scope → List Stmt → List IS → Bool) (sc : Scope) (st : Stmt) (is : IS) : Bool := match st with
  | .Pass _ => (match is with
    | .pass => true
    | _ => false)
  | .Break _ => (match is with
    | .brk => true
    | _ => false)
  | .Continue _ => (match is with
    | .cnt => true
    | _ => false)
  | .Expr e _ => (match is with
    | .exp ie => noCompX e && r.e sc e ie
    | _ => false)
  | .Return v _ => (match v, is with
    | some e, .ret ie => r.e sc e ie
    | _, _ => false)
  | .If c a b _ => (match is with
    | .ite ic ia ib => r.t sc c ic && rs sc a ia && rs sc b ib
    | _ => false)
  | .For tg iter body orelse _ => (match is, orelse with
    | .for_ t it ib, [] => ckI C r sc tg iter it && ckTg C N r sc tg t && rs sc body ib
    | _, _ => false)
  | .While c body orelse _ => (match is, orelse with
    | .whl ic ib, [] => r.t sc c ic && rs sc body ib
    | _, _ => false)
  | .Assign tgs e _ => (match tgs, is with
    | [tg], .asg t ie => (!tupX tg || !isTupV e || noSwp sc tg e) && (match e with
      | .ListComp elt gs scope lpos => if swapB sc tg scope lpos then (match tg, t with
          | .Name y _, .var i => ckSetLc C N r sc y elt gs scope i ie
          | _, _ => false) else ckTg C N r sc tg t && r.e sc e ie
      | e => noCompX e && ckTg C N r sc tg t && r.e sc e ie)
    | [.Tuple ts _ _], .par is ies => (match e with
      | .Tuple vs _ _ => ckPar N r sc ts vs is ies
      | _ => false)
    | _, _ => false)
  | .AugAssign tg op e _ => (match tg, is with
    | .Name x _, .aug i p ie => decide (opb p = op) && decide (N[i]? = some x) && locB sc x && r.e sc e ie
    | .Attribute a f _, .augf ia k p ie => (match op, e, p, ie with
      | .Add, .Constant (.int i) _ _, .add, .cst (.int j) => decide (i = j) && decide (C.fl[k]? = some f) && r.e sc a ia
      | _, _, _, _ => false)
    | _, _ => false)
  | .Try body hs els fin _ => (match hs, els, fin, is with
    | [.ExceptHandler (some (.Name x _)) (some n) [.Assign [.Name y _] (.Name n2 _) _] _], [], [], .tryc ib c i j => decide (n2 = n) && decide ((x, c) ∈ C.exs) && glB sc x && decide (N[i]? = some n) && decide (N[j]? = some y) && decide (sc.names.lookup n = some .local) && decide (sc.names.lookup y = some .local) && !(n == ("__debug__" : Str)) && !(n == ("__classdict__" : Str)) && rs sc body ib
    | _, _, _, _ => false)
  | .Raise v c _ => (match v, c, is with
    | some (.Call (.Name x _) [.Constant (.str _) _ _] [] _), none, .rse k => glB sc x && decide ((x, k) ∈ C.exs)
    | _, _, _ => false)
  | _ => false
theorem tupV_eq (e : Expr) : (match e with | .Tuple .. => true | _ => false) = isTupV e := by cases e <;> rfl
theorem stS0_ok (S : Snd P T C fi N d r) {rs : Scope → List Stmt → List IS → Bool} (o : Oks P T C fi N d X W sc) (hr0 : ∀ {X' W' b ib}, Oks P T C fi N d X' W' sc → rs sc b ib = true → GB P T X' W' d b ib) {st : Stmt} {is : IS} (h : stS0 C N r rs sc st is = true) : GS P T X W d st is := by
  have hr : ∀ {b ib}, rs sc b ib = true → GB P T X W d b ib := fun hb => hr0 o hb
  unfold stS0 at h
  split at h
  · split at h
    · exact gs_pass
    · cases h
  · split at h
    · exact gs_brk
    · cases h
  · split at h
    · exact gs_cnt
    · cases h
  · split at h
    · rw [Bool.and_eq_true] at h
      exact gs_exp (S.e o.toOkx h.2) (noCompX_ok h.1 _ _ _)
    · cases h
  · split at h
    · exact gs_ret (S.e o.toOkx h)
    · cases h
  · split at h
    · simp only [Bool.and_eq_true] at h
      exact gs_if (S.t o.toOkx h.1.1) (hr h.1.2) (hr h.2)
    · cases h
  · split at h
    · simp only [Bool.and_eq_true] at h
      obtain ⟨i1, i2⟩ := ckI_ok S o.toOkx h.1.1
      exact gs_for o.xs i1 (ckTg_ok S o h.1.2).1 (hr h.2) (noSet_ok i2 _)
    · cases h
  · split at h
    · simp only [Bool.and_eq_true] at h
      exact gs_whl o.xs (S.t o.toOkx h.1) (hr h.2)
    · cases h
  · split at h
    · rw [Bool.and_eq_true] at h
      obtain ⟨h0, h⟩ := h
      rename_i tg t ie
      have hw0 : ∀ e0 : Expr, (!tupX tg || !isTupV e0 || noSwp sc tg e0) = true → swappedStores [tg] e0 X.env = pure none := fun e0 z => by
        rw [Bool.or_eq_true] at z
        rcases z with z | z
        · exact swp_none (env := X.env) (by
            rw [Bool.or_eq_true, Bool.not_eq_true', Bool.not_eq_true'] at z
            rw [tupV_eq]; exact z)
        · exact noSwp_ok o.hsc z
      have hw := hw0 _ h0
      split at h
      · split at h
        · rename_i hsw
          split at h
          · exact ckSetLc_ok S o hsw h
          · cases h
        · rename_i hsw
          rw [Bool.and_eq_true] at h
          obtain ⟨t1, t2⟩ := ckTg_ok S o h.1
          exact gs_asg (S.e o.toOkx h.2) t1 (swapB_no o.hsc o.kd (by simpa using hsw)) hw t2
      · rw [Bool.and_eq_true, Bool.and_eq_true] at h
        obtain ⟨t1, t2⟩ := ckTg_ok S o h.1.2
        exact gs_asg (S.e o.toOkx h.2) t1 (noCompX_ok h.1.1 _ _ _) hw t2
    · split at h
      · exact ckPar_ok S o h
      · cases h
    · cases h
  · split at h
    · simp only [Bool.and_eq_true, decide_eq_true_eq] at h
      obtain ⟨⟨⟨h1, h2⟩, h3⟩, h4⟩ := h
      exact gs_aug h1 o.xo.nd (by rw [o.hN]; exact h2) (loc_ok o.toOkx h3) (.inl (o.fn _)) (S.e o.toOkx h4)
    · split at h
      · simp only [Bool.and_eq_true, decide_eq_true_eq] at h
        obtain ⟨⟨rfl, h2⟩, h3⟩ := h
        obtain ⟨f1, f2⟩ := o.toOkx.fl h2
        rw [← f1]
        exact gs_augf o.mf.ow f2 (S.e o.toOkx h3)
      · cases h
    · cases h
  · split at h
    · simp only [Bool.and_eq_true, decide_eq_true_eq, Bool.not_eq_true'] at h
      obtain ⟨⟨⟨⟨⟨⟨⟨⟨⟨rfl, h2⟩, h3⟩, h4⟩, h5⟩, h6⟩, h7⟩, h8⟩, h9⟩, h10⟩ := h
      exact gs_try o (fun o' => hr0 o' h10) h2 h3 h4 h5 h6 h7 h8 h9
    · cases h
  · split at h
    · simp only [Bool.and_eq_true, decide_eq_true_eq] at h
      exact gs_rse o h.1 h.2
    · cases h
  · cases h
def stS (C : Ck) (N : List Str) (r : Rc) (rs : Scope → List Stmt → List IS → Bool) (sc : Scope) (st : Stmt) (is : IS) : Bool := isUnkS is || stS0 C N r rs sc st is
theorem stS_ok (S : Snd P T C fi N d r) {rs : Scope → List Stmt → List IS → Bool} (o : Oks P T C fi N d X W sc) (hr0 : ∀ {X' W' b ib}, Oks P T C fi N d X' W' sc → rs sc b ib = true → GB P T X' W' d b ib) {st : Stmt} {is : IS} (h : stS C N r rs sc st is = true) : GS P T X W d st is := by
  unfold stS at h
  rw [Bool.or_eq_true] at h
  rcases h with h | h
  · rw [isUnkS_eq h]; exact gs_unk
  · exact stS0_ok S o hr0 h
end
/-- a block, to the depth n -/
def ckB (C : Ck) (N : List Str) (r : Rc) : Nat → Scope → List Stmt → List IS → Bool
  | 0 => fun _ _ _ => false
  | n + 1 => ckBs (stS C N r (ckB C N r n))
theorem ckB_ok {P : Prg} {T : Tb} {C : Ck} {fi : Nat → Fi} {N : List Str} {d : Nat} {r : Rc} (S : Snd P T C fi N d r) {sc : Scope} : ∀ n {X : Cx} {W : WX} {b : List Stmt} {ib : List IS}, Oks P T C fi N d X W sc → ckB C N r n sc b ib = true → GB P T X W d b ib
  | 0, _, _, _, _, _, h => by cases h
  | n + 1, _, _, [], [], _, _ => gb_nil
  | n + 1, _, _, [], _ :: _, _, h => by simp [ckB, ckBs] at h
  | n + 1, _, _, _ :: _, [], _, h => by simp [ckB, ckBs] at h
  | n + 1, _, _, st :: sts, i :: is, o, h => by
    simp only [ckB, ckBs, Bool.and_eq_true] at h
    exact gb_cons (stS_ok S o (fun o' hb => ckB_ok S n o' hb) h.1) (ckB_ok S (n + 1) o (by simpa only [ckB] using h.2))
end G8

set_option Elab.async false
set_option linter.all false
set_option maxRecDepth 100000
set_option maxHeartbeats 1000000
namespace G8
open PySem PySem.Spec L2
/-! ### all functions of a text -/
/-- a def: where it stands, its slots' names, its parameters -/
structure Dd where
  d : He.DefD
  N : List Str
  ps : List Str
structure Txt where
  P : Prg
  C : Ck
  /-- classes' names -/
  cn : List Str
  /-- those of one's own -/
  ow : List Nat
  ds : List (Nat × Dd)
  fa : List He.Fa
def Txt.cN (t : Txt) (c : Nat) : Str := t.cn.getD c Str.empty
def Txt.T (t : Txt) (K : PySem.W.Frag) (w : World) : Tb := ⟨fun c => He.ga K (t.cN c), t.C.fl, fun c => decide (c ∈ t.ow), w⟩
def nodupB (l : List Str) : Bool := decide l.Nodup
def scB (N ps : List Str) (sc : Scope) : Bool := (match sc.kind with
  | .function => true
  | _ => false) && !sc.isCoroutine && !sc.isGenerator && nodupB N && decide (N.take ps.length = ps) && (ps.all fun x => locB sc x) && sc.names.all fun y => decide (y.2 ≠ .free)
theorem scB_ok {N ps : List Str} {sc : Scope} (h : scB N ps sc = true) : FnScope N ps sc ∧ sc.kind = .function := by
  simp only [scB, Bool.and_eq_true, Bool.not_eq_true', nodupB, decide_eq_true_eq, List.all_eq_true] at h
  obtain ⟨⟨⟨⟨⟨⟨h1, h2⟩, h3⟩, h4⟩, h5⟩, h6⟩, h7⟩ := h
  have hk : sc.kind = .function := by
    split at h1
    · assumption
    · cases h1
  refine ⟨⟨hk, h2, h3, h4, h5, fun x hx => ?_, h7⟩, hk⟩
  have := h6 x hx
  simpa only [locB, Bool.or_eq_true, decide_eq_true_eq] using this
/-- the whole check of a text -/
def Txt.fnB (t : Txt) (D : Dd) (fn : Fn) : Bool := scB D.N D.ps D.d.scope && decide (fn.np = D.ps.length) && decide (fn.ns = D.N.length) && D.d.dfl.isEmpty && ckB t.C D.N (ckL t.C D.N 60) 40 D.d.scope D.d.body fn.body
def Txt.fnsB (t : Txt) : List (Nat × Dd) → List (Nat × Fn) → Bool
  | [], [] => true
  | (i, D) :: Ds, (j, f) :: fs => decide (i = j) && t.fnB D f && t.fnsB Ds fs
  | _, _ => false
def faEq : He.Fa → He.Fa → Bool
  | .glo x, .glo y => decide (x = y)
  | .free x, .free y => decide (x = y)
  | .int x i, .int y j => decide (x = y) && decide (i = j)
  | .str x i, .str y j => decide (x = y) && decide (i = j)
  | .cls x, .cls y => decide (x = y)
  | .noat x i, .noat y j => decide (x = y) && decide (i = j)
  | .meth x i, .meth y j => decide (x = y) && decide (i = j)
  | .mkr x, .mkr y => decide (x = y)
  | .exc x, .exc y => decide (x = y)
  | .exm x i b, .exm y j c => decide (x = y) && decide (i = j) && decide (b = c)
  | .keep x, .keep y => decide (x = y)
  | _, _ => false
theorem faEq_ok {a b : He.Fa} (h : faEq a b = true) : a = b := by
  unfold faEq at h
  split at h <;> simp_all
def Txt.has (t : Txt) (a : He.Fa) : Bool := t.fa.any (faEq a)
def Txt.fnAt (t : Txt) (f : Nat) (p : Str × Option Str) : Bool := match t.ds.lookup f with
  | some D => decide (D.d.at_ = p) && D.d.kwd.isEmpty
  | none => false
/-- a def with one keyword -/
def Txt.fnK (t : Txt) (f : Nat) (x kw : Str) (v : Int) : Bool := match t.ds.lookup f with
  | some D => decide (D.d.at_ = (x, none)) && decide (D.ps.length = 3) && (match D.d.kwd with
    | [(k, .int i)] => decide (k = kw) && decide (i = v)
    | _ => false)
  | none => false
def excCB (K : PySem.W.Frag) (D : Addr) : Bool := He.eqO (PySem.W.findIn K (.ref D) "__getattribute__") (some (some (.builtin "BaseException.__getattribute__"))) && He.eqO (PySem.W.findIn K (.ref D) "__getattr__") (some none) && decide (PySem.W.subIn K (.ref D) (.type "BaseException") = some true) &&
  PySem.W.hasDictIn K D && He.eqO (PySem.W.findIn K (.ref D) "__class__") (some (some (.builtin "object.__class__"))) && He.eqO (PySem.W.specialIn K (.builtin "object.__class__") "__get__") (some (some (.builtin "getset_descriptor.__get__"))) &&
  decide (PySem.W.takesIn K (.builtin "object.__class__") = some true) && decide (PySem.W.mroIn K D (.type "object") = some true)
theorem excCB_ok {K : PySem.W.Frag} {D : Addr} (h : excCB K D = true) : ExcC K D := by
  simp only [excCB, Bool.and_eq_true, decide_eq_true_eq] at h
  obtain ⟨⟨⟨⟨⟨⟨⟨h1, h2⟩, h3⟩, h4⟩, h5⟩, h6⟩, h7⟩, h8⟩ := h
  exact ⟨He.eqO_ok h1, He.eqO_ok h2, h3, h4, He.eqO_ok h5, He.eqO_ok h6, h7, h8⟩
/-- what is asked of the classes of exceptions -/
def Txt.exB (t : Txt) (K : PySem.W.Frag) : Bool := t.P.exm.all fun q => !decide (q.1 = q.2) || (excCB K (He.ga K (t.cN q.1)) && decide (PySem.W.kitOne K (.ref (He.ga K (t.cN q.1))) (.type "ValueError") = some true) &&
  t.C.exs.all fun p => decide (PySem.W.exmOne K (.ref (He.ga K (t.cN q.1))) (.ref (He.ga K (t.cN p.2))) = some (t.P.exm.contains (q.1, p.2))) && decide (PySem.W.kitOne K (.ref (He.ga K (t.cN q.1))) (.ref (He.ga K (t.cN p.2))) = some (t.P.exm.contains (q.1, p.2))))
def Txt.sB (t : Txt) : Bool :=
  (t.C.bn.all fun x => t.has (.free x)) &&
  (t.C.fns.all fun p => t.has (.glo p.1) && t.fnAt p.2 (p.1, none)) &&
  (t.C.gis.all fun p => t.has (.int p.1 p.2)) &&
  (t.C.kfs.all fun p => t.has (.glo p.1) && t.fnK p.2.1 p.1 p.2.2.1 p.2.2.2) &&
  (t.C.ms.all fun p => decide (p.1 ∉ t.C.fl) && (t.P.meth.any fun q => decide (q.2.1 = p.2)) && t.P.meth.all fun q => !decide (q.2.1 = p.2) || (t.has (.cls (t.cN q.1)) && t.has (.meth (t.cN q.1) p.1) && t.fnAt q.2.2 (t.cN q.1, some p.1))) &&
  (t.C.cls.all fun p => t.has (.glo p.1) && decide (t.cN p.2 = p.1) && decide (p.2 ∈ t.ow) && t.has (.mkr p.1) && (match t.P.init.lookup p.2 with
    | some f => t.fnAt f (p.1, some "__init__")
    | none => false)) &&
  (t.C.exs.all fun p => t.has (.glo p.1) && decide (t.cN p.2 = p.1) && t.has (.exc p.1)) &&
  nodupB t.C.fl && (t.ow.all fun c => t.has (.cls (t.cN c)) && t.C.fl.all fun f => t.has (.noat (t.cN c) f))
/-- how the parameters are bound -/
def Dd.bnd (D : Dd) : Prop := match D.d.kwd with
  | [] => ∀ (kV doc pm : Value) (an : Option Addr) (cdv ct : Value) (us : List Value), us.length = D.ps.length → bindArgs (PySem.W.fnOf D.d.name D.d.qual D.d.params D.d.body D.d.scope .none kV doc pm an cdv ct) ⟨us, []⟩ = pure (D.ps.zip us)
  | q :: _ => (∀ (D0 : Addr) (doc pm : Value) (an : Option Addr) (cdv ct : Value) (us ks : List Value), us.length = 2 → ks.length = 1 → KwChain D0 ([q.1].zip ks) (bindArgs (PySem.W.fnOf D.d.name D.d.qual D.d.params D.d.body D.d.scope .none (.ref D0) doc pm an cdv ct) ⟨us, []⟩) (D.ps.zip (us ++ ks))) ∧
    ∀ (kV doc pm : Value) (an : Option Addr) (cdv ct : Value) (us ws : List Value), us.length = 2 → ws.length = 1 → bindArgs (PySem.W.fnOf D.d.name D.d.qual D.d.params D.d.body D.d.scope .none kV doc pm an cdv ct) ⟨us, [q.1].zip ws⟩ = pure (D.ps.zip (us ++ ws))
section
variable {t : Txt} {K : PySem.W.Frag} {h : Heap} {mg : Str → Option Value} {prog : Program} {w : World} {base : Heap}
theorem fnsB_at : ∀ {Ds : List (Nat × Dd)} {fs : List (Nat × Fn)} {f : Nat} {D : Dd}, t.fnsB Ds fs = true → Ds.lookup f = some D → ∃ fn, fs.lookup f = some fn ∧ t.fnB D fn = true
  | [], _, _, _, _, e => by simp at e
  | _ :: _, [], _, _, h, _ => by simp [Txt.fnsB] at h
  | (i, D) :: Ds, (j, f) :: fs, n, D', h, e => by
    simp only [Txt.fnsB, Bool.and_eq_true, decide_eq_true_eq] at h
    obtain ⟨⟨rfl, h1⟩, h2⟩ := h
    rw [List.lookup_cons] at e ⊢
    cases q : (n == i) with
    | true => rw [q] at e; cases e; exact ⟨f, rfl, h1⟩
    | false => rw [q] at e; exact fnsB_at h2 e
theorem fnsB_none : ∀ {Ds : List (Nat × Dd)} {fs : List (Nat × Fn)} {f : Nat}, t.fnsB Ds fs = true → Ds.lookup f = none → fs.lookup f = none
  | [], [], _, _, _ => rfl
  | [], _ :: _, _, h, _ => by simp [Txt.fnsB] at h
  | _ :: _, [], _, h, _ => by simp [Txt.fnsB] at h
  | (i, D) :: Ds, (j, f) :: fs, n, h, e => by
    simp only [Txt.fnsB, Bool.and_eq_true, decide_eq_true_eq] at h
    obtain ⟨⟨rfl, h1⟩, h2⟩ := h
    rw [List.lookup_cons] at e ⊢
    cases q : (n == i) with
    | true => rw [q] at e; cases e
    | false => rw [q] at e; exact fnsB_none h2 e
theorem mem_lookup {α : Type} {f : Nat} {D : α} : ∀ {l : List (Nat × α)}, l.lookup f = some D → (f, D) ∈ l
  | [], e => by simp at e
  | (i, x) :: l, e => by
    rw [List.lookup_cons] at e
    cases q : (f == i) with
    | true => rw [q] at e; cases e; rw [beq_iff_eq.mp q]; exact List.mem_cons_self
    | false => rw [q] at e; exact List.mem_cons_of_mem _ (mem_lookup e)
/-- what the head has told of a text -/
structure Says (t : Txt) (K : PySem.W.Frag) : Prop where
  fact : ∀ a ∈ t.fa, a.ok K = true
  ext : t.exB K = true
  def_ : ∀ p ∈ t.ds, ∃ fd, FunD K p.2.d.name p.2.d.qual p.2.d.params p.2.d.body p.2.d.scope (p.2.d.dvs K) (p.2.d.kws K) (He.fAd K p.2.d.at_) fd
theorem has_ok (s : Says t K) {a : He.Fa} (h : t.has a = true) : a.ok K = true := by
  obtain ⟨b, hb, e⟩ := List.any_eq_true.mp h
  rw [faEq_ok e]
  exact s.fact b hb
/-- functions as they stand -/
structure FiOk (t : Txt) (K : PySem.W.Frag) (fi : Nat → Fi) : Prop where
  at_ : ∀ f D, t.ds.lookup f = some D → (fi f).ad = He.fAd K D.d.at_ ∧ (fi f).ps = D.ps ∧ FunD K D.d.name D.d.qual D.d.params D.d.body D.d.scope [] (D.d.kws K) (He.fAd K D.d.at_) (fi f).fd
theorem fi_ex (s : Says t K) (hb : t.fnsB t.ds t.P.fns = true) : ∃ fi, FiOk t K fi := by
  have one : ∀ f : Nat, ∃ i : Fi, ∀ D, t.ds.lookup f = some D → i.ad = He.fAd K D.d.at_ ∧ i.ps = D.ps ∧ FunD K D.d.name D.d.qual D.d.params D.d.body D.d.scope [] (D.d.kws K) (He.fAd K D.d.at_) i.fd := fun f => by
    cases e : t.ds.lookup f with
    | none => exact ⟨⟨0, default, []⟩, fun D z => by cases z⟩
    | some D =>
      obtain ⟨fd, hF⟩ := s.def_ (f, D) (mem_lookup e)
      obtain ⟨fn, _, hf⟩ := fnsB_at hb e
      simp only [Txt.fnB, Bool.and_eq_true, List.isEmpty_iff] at hf
      have e1 : D.d.dvs K = [] := by unfold He.DefD.dvs; rw [hf.1.2]; rfl
      rw [e1] at hF
      exact ⟨⟨He.fAd K D.d.at_, fd, D.ps⟩, fun D' z => by cases z; exact ⟨rfl, rfl, hF⟩⟩
  obtain ⟨fi, hfi⟩ := Classical.axiomOfChoice one
  exact ⟨fi, ⟨fun f D e => hfi f D e⟩⟩
theorem fnAt_ok {f : Nat} {p : Str × Option Str} (h : t.fnAt f p = true) : ∃ D, t.ds.lookup f = some D ∧ D.d.at_ = p ∧ D.d.kwd = [] := by
  unfold Txt.fnAt at h
  split at h
  · rw [Bool.and_eq_true] at h
    exact ⟨_, by assumption, by simpa using h.1, by simpa using h.2⟩
  · cases h
theorem fnK_ok {f : Nat} {x kw : Str} {v : Int} (h : t.fnK f x kw v = true) : ∃ D, t.ds.lookup f = some D ∧ D.d.at_ = (x, none) ∧ D.ps.length = 3 ∧ D.d.kwd = [(kw, .int v)] := by
  unfold Txt.fnK at h
  split at h
  · rename_i D e
    simp only [Bool.and_eq_true, decide_eq_true_eq] at h
    obtain ⟨⟨h1, h2⟩, h3⟩ := h
    split at h3
    · rename_i k i e2
      simp only [Bool.and_eq_true, decide_eq_true_eq] at h3
      exact ⟨D, e, h1, h2, by rw [e2, h3.1, h3.2]⟩
    · cases h3
  · cases h
theorem binds_ok {fi : Nat → Fi} (F : FiOk t K fi) (hB : ∀ p ∈ t.ds, p.2.bnd) {f : Nat} {D : Dd} (e : t.ds.lookup f = some D) (hk : D.d.kwd = []) : Binds K (fi f).fd (fi f).ps [] := by
  obtain ⟨_, h2, h3⟩ := F.at_ f D e
  rw [h2]
  have hb : D.bnd := hB (f, D) (mem_lookup e)
  unfold Dd.bnd at hb
  rw [hk] at hb
  exact h3.bindsN hb
theorem kwF_ok {fi : Nat → Fi} (F : FiOk t K fi) (hB : ∀ p ∈ t.ds, p.2.bnd) {f : Nat} {D : Dd} {kw : Str} {v : Int} (e : t.ds.lookup f = some D) (hl : D.ps.length = 3) (hk : D.d.kwd = [(kw, .int v)]) : KwF K (fi f).fd (fi f).ps kw v := by
  obtain ⟨_, h2, h3⟩ := F.at_ f D e
  rw [h2]
  have hb : D.bnd := hB (f, D) (mem_lookup e)
  unfold Dd.bnd at hb
  rw [hk] at hb
  have ek : D.d.kws K = [(kw, V.int v)] := by unfold He.DefD.kws; rw [hk]; rfl
  rw [ek] at h3
  refine ⟨⟨fun sh us ws X l1 l2 => ?_, fun r1 r2 => r1.append r2⟩, ?_⟩
  · obtain ⟨oc, od, dV, kV, doc, pm, an, cdv, ct, osl, e0, lk, hcd, hD, hK⟩ := h3.ex
    rw [e0]
    rcases hD with ⟨_, e1⟩ | ⟨e1, _⟩
    · rw [e1]
      exact .of_eq (hb.2 kV doc pm an cdv ct us ws l1 l2)
    · exact absurd rfl e1
  · exact h3.binds0 2 (by simp) (by simp [hl]) fun D0 doc pm an cdv ct us ks l1 l2 => hb.1 D0 doc pm an cdv ct us ks l1 l2
theorem mf_ok {fi : Nat → Fi} {d : Nat} (X : K.In h) (G : h.Ns mainGlobals mg) (s : Says t K) (F : FiOk t K fi) (hB : ∀ p ∈ t.ds, p.2.bnd) (hs : t.sB = true)
    (ok : ∀ f, ∀ d' ≤ d, FnOk prog w K mg base (L2.CX prog w) d' (fi f).ad (fi f).fd (fi f).ps (spF t.P (t.T K w) K d' f)) : MF t.P (t.T K w) t.C fi prog w K mg base d := by
  simp only [Txt.sB, Bool.and_eq_true, List.all_eq_true] at hs
  obtain ⟨⟨⟨⟨⟨⟨⟨⟨s1, s2⟩, s3⟩, s9⟩, s4⟩, s5⟩, s6⟩, s7⟩, s8⟩ := hs
  refine ⟨fun x hx => He.free_ok X G (has_ok s (s1 x hx)), fun p hp => ?_, ok, fun p hp => He.int_ok X G (has_ok s (s3 p hp)), fun p hp => ?_, fun p hp => ?_, fun p hp => ?_, fun p hp => ?_, rfl, rfl, ⟨of_decide_eq_true s7, fun c hc => ?_, fun c f hc hf => ?_⟩, fun k hk => ?_⟩
  · obtain ⟨h1, h2⟩ := s2 p hp
    obtain ⟨D, e1, e2, e3⟩ := fnAt_ok h2
    obtain ⟨a1, a2, a3⟩ := F.at_ _ D e1
    have ea : (fi p.2).ad = He.ga K p.1 := by rw [a1, e2]; rfl
    refine ⟨by rw [ea]; exact He.glo_ok X G (has_ok s h1), ?_, binds_ok F hB e1 e3⟩
    rw [a1]; exact a3.kp
  · obtain ⟨⟨h1, h2⟩, h3⟩ := s4 p hp
    refine ⟨of_decide_eq_true h1, ?_, fun cc f hm => ?_⟩
    · rw [List.any_eq_true] at h2
      obtain ⟨⟨q1, q2, q3⟩, hq, hd⟩ := h2
      simp only [decide_eq_true_eq] at hd
      subst hd
      exact ⟨q1, q3, hq⟩
    · have := h3 _ hm
      simp only [Bool.or_eq_true, Bool.not_eq_true', decide_eq_false_iff_not, Bool.and_eq_true] at this
      rcases this with z | ⟨⟨z1, z2⟩, z3⟩
      · exact absurd trivial z
      · obtain ⟨D, e1, e2, e3⟩ := fnAt_ok z3
        obtain ⟨a1, a2, a3⟩ := F.at_ _ D e1
        have ea : (fi f).ad = He.ma K (He.ga K (t.cN cc)) p.1 := by rw [a1, e2]; rfl
        exact ⟨He.cls_ok (has_ok s z1), by rw [ea]; exact He.meth_ok (has_ok s z2), binds_ok F hB e1 e3⟩
  · obtain ⟨⟨⟨⟨h1, h2⟩, h3⟩, h4⟩, h5⟩ := s5 p hp
    have hc : t.cN p.2 = p.1 := by simpa using h2
    split at h5
    · rename_i f e
      obtain ⟨D, e1, e2, e3⟩ := fnAt_ok h5
      obtain ⟨a1, a2, a3⟩ := F.at_ _ D e1
      have ea : (fi f).ad = He.ma K (He.ga K p.1) "__init__" := by rw [a1, e2]; rfl
      refine ⟨by show mg p.1 = some (.ref (He.ga K (t.cN p.2))); rw [hc]; exact He.glo_ok X G (has_ok s h1), h3, f, e, ?_, binds_ok F hB e1 e3⟩
      show Mk K (He.ga K (t.cN p.2)) (fi f).ad
      rw [hc, ea]
      exact He.mkr_ok (has_ok s h4)
    · cases h5
  · obtain ⟨⟨h1, h2⟩, h3⟩ := s6 p hp
    have hc : t.cN p.2 = p.1 := by simpa using h2
    obtain ⟨e1, e2, e3, e4⟩ := He.exc_ok (has_ok s h3)
    have ea : (t.T K w).ca p.2 = He.ga K p.1 := by show He.ga K (t.cN p.2) = _; rw [hc]
    rw [ea]
    exact ⟨He.glo_ok X G (has_ok s h1), e2, e3, e4, _, _, _, _, PySem.F.excBase_ValueError, e1⟩
  · obtain ⟨h1, h2⟩ := s9 p hp
    obtain ⟨D, e1, e2, e3, e4⟩ := fnK_ok h2
    obtain ⟨a1, a2, a3⟩ := F.at_ _ D e1
    have ea : (fi p.2.1).ad = He.ga K p.1 := by rw [a1, e2]; rfl
    refine ⟨by rw [ea]; exact He.glo_ok X G (has_ok s h1), ?_, kwF_ok F hB e1 e3 e4⟩
    rw [a1]; exact a3.kp
  · have hm : c ∈ t.ow := by simpa [Txt.T] using hc
    exact He.cls_ok (has_ok s (s8 c hm).1)
  · have hm : c ∈ t.ow := by simpa [Txt.T] using hc
    have hf' : f ∈ t.C.fl := hf
    exact He.noat_ok (has_ok s ((s8 c hm).2 f hf'))
  · have hx := s.ext
    unfold Txt.exB at hx
    rw [List.all_eq_true] at hx
    have hm : (k, k) ∈ t.P.exm := by simpa using hk
    have h0 := hx _ hm
    simp only [decide_true, Bool.not_true, Bool.false_or, Bool.and_eq_true, decide_eq_true_eq, List.all_eq_true] at h0
    exact ⟨excCB_ok h0.1.1, h0.1.2, fun p hp => h0.2 p hp⟩
theorem fns_ok {fi : Nat → Fi} (X : K.In h) (G : h.Ns mainGlobals mg) (s : Says t K) (F : FiOk t K fi) (hB : ∀ p ∈ t.ds, p.2.bnd) (hs : t.sB = true) (hb : t.fnsB t.ds t.P.fns = true) :
    ∀ d f, FnOk prog w K mg base (L2.CX prog w) d (fi f).ad (fi f).fd (fi f).ps (spF t.P (t.T K w) K d f) := by
  intro d
  induction d using Nat.strongRecOn with
  | ind d ih =>
    intro f
    cases d with
    | zero => exact fn_none (.inr rfl)
    | succ d =>
      cases e : t.ds.lookup f with
      | none => exact fn_none (.inl (fnsB_none hb e))
      | some D =>
        obtain ⟨a1, a2, a3⟩ := F.at_ f D e
        obtain ⟨fn, e1, hf⟩ := fnsB_at hb e
        simp only [Txt.fnB, Bool.and_eq_true, decide_eq_true_eq] at hf
        obtain ⟨⟨⟨⟨f1, f2⟩, f3⟩, f4⟩, f6⟩ := hf
        obtain ⟨S, hk⟩ := scB_ok f1
        rw [a1, a2]
        refine G8.fn_ok a3 S e1 f2 f3 fun cdv A outer sh H E xs => ?_
        exact ckB_ok (ckL_ok 60) 40 ⟨⟨rfl, rfl, xs.toXO, mf_ok X G s F hB hs fun g d' hd => ih d' (Nat.lt_succ_of_le hd) g⟩, xs, hk, fun _ => rfl, rfl, rfl, rfl⟩ f6
end
end G8

set_option Elab.async false
set_option linter.all false
set_option maxRecDepth 100000
set_option maxHeartbeats 1000000
namespace G8
open PySem PySem.Spec L2
/-! ### a law by its evaluation -/
def LawOk (P : Prg) (d f n : Nat) : Prop := ∀ ns : List Int, ns.length ≤ n → ∃ F h', (ev P F).c d f [.scr (ns.map .int)] [] = .ok (.bl true) h'
def Txt.fnD (t : Txt) : List He.DefD := t.ds.map (·.2.d)
theorem says_of {t : Txt} {K : PySem.W.Frag} (c : He.SaysD t.fa t.fnD K) (x : t.exB K = true) : Says t K := by
  refine ⟨fun a ha => ?_, x, fun D hD => ?_⟩
  · obtain ⟨i, hi⟩ := List.getElem?_of_mem ha
    exact c.fact i hi
  · obtain ⟨i, hi⟩ := List.getElem?_of_mem hD
    exact c.def_ i (d := D.2.d) (by unfold Txt.fnD; rw [List.getElem?_map, hi]; rfl)
theorem fnOk_calm {P : Program} {w : World} {K : PySem.W.Frag} {mg : Str → Option Value} {base : Heap} {k : Nat} {f : Addr} {fd : FuncData} {ps : List Str} {sp : Sp} (F : FnOk P w K mg base (L2.CX P w) k f fd ps sp) :
    FnOk P w K mg base CX0 k f fd ps (fun vs H Q _ => sp vs H Q fun _ _ _ => False) :=
  ⟨fun vs H Q E q => F.len vs H Q _ q, fun A outer s H args us vs Q E hr he hb hv hs => codeAny_mono (F.run A outer s H args us vs Q _ hr he hb hv hs) fun r s' q => by
    cases r with
    | ok fl => cases fl <;> exact q
    | error e =>
      obtain ⟨a, B, H', cls, dd, _, _, _, _, _, _, _, z⟩ := q
      exact z.elim⟩
def AllBnd : List (Nat × Dd) → Prop
  | [] => True
  | D :: Ds => D.2.bnd ∧ AllBnd Ds
theorem all_bnd : ∀ {Ds : List (Nat × Dd)}, AllBnd Ds → ∀ D ∈ Ds, D.2.bnd
  | [], _, D, h => by cases h
  | E :: Ds, h, D, hD => by
    rcases List.mem_cons.mp hD with e | e
    · rw [e]; exact h.1
    · exact all_bnd h.2 D e
theorem law_F {t : Txt} {f0 n d : Nat} {D : Dd} {prog : Program} {w : World} {K : PySem.W.Frag} {h : Heap} {mg : Str → Option Value} {fa : Addr} (X : K.In h) (G : h.Ns mainGlobals mg) (c : He.SaysD t.fa t.fnD K ∧ t.exB K = true) (hmg : mg ("law" : Str) = some (.ref fa))
    (hD : t.ds.lookup f0 = some D) (ha : D.d.at_ = (("law" : Str), none)) (hp : D.ps = [("script" : Str)]) (hkw : D.d.kwd = []) (hg : t.has (.glo "law") = true) (hs : t.sB = true) (hb : t.fnsB t.ds t.P.fns = true) (hB : ∀ D ∈ t.ds, D.2.bnd) (law : LawOk t.P d f0 n) :
    ∃ (K : PySem.W.Frag) (fd : FuncData) (sp : Sp), K.In h ∧ (∀ (s : Shared) (u : Value), BindsTo s fd ⟨[u], []⟩ [(("script" : Str), u)]) ∧
      (∀ (H : Hp) (a : Addr) (ns : List Int), ns.length ≤ n → Only H → SqL K H a (ns.map V.int) → sp [.ref a] H (fun v _ => v = .bl true) fun _ _ _ => False) ∧
      ∀ base : Heap, K.In base → base.Ns mainGlobals mg → FnOk prog w K mg base CX0 d fa fd [("script" : Str)] sp := by
  have s := says_of c.1 c.2
  obtain ⟨fi, F⟩ := fi_ex s hb
  obtain ⟨a1, a2, a3⟩ := F.at_ f0 D hD
  have ea : (fi f0).ad = fa := by
    have e := He.glo_ok X G (has_ok s hg)
    rw [hmg] at e
    have e2 : fa = He.ga K "law" := by cases e; rfl
    rw [a1, ha, e2]
    rfl
  refine ⟨K, (fi f0).fd, fun vs H Q _ => spF t.P (t.T K w) K d f0 vs H Q fun _ _ _ => False, X, fun sh u => ?_, fun H a ns hl ho hS => ?_, fun base Xb Gb => ?_⟩
  · have hb0 : D.bnd := hB (f0, D) (mem_lookup hD)
    unfold Dd.bnd at hb0
    rw [hkw] at hb0
    have b := FunD.bindsA (ps := D.ps) a3 hb0 sh [u] (by rw [hp]; rfl)
    rw [hp] at b
    exact b
  · obtain ⟨G0, h', e⟩ := law ns hl
    refine ⟨G0, ⟨[], []⟩, [], [.scr (ns.map .int)], ⟨by simp, rfl, fun n o a e => by simp at e, fun a ha => by cases ha⟩, .cons (.scr ?_ (Rps.ints ns)) .nil, ?_⟩
    · rcases hS with z | z
      · exact .inl ⟨z, by simp [Rho.no]⟩
      · exact .inr z
    · rw [e]
      intro v H1 ρ1 x1 s1 r1
      cases r1
      rfl
  · have := fnOk_calm (fns_ok (prog := prog) (w := w) (base := base) Xb Gb s F hB hs hb d f0)
    rw [ea, a2, hp] at this
    exact this
/-! ### the hook: the facts, the defs, and what else is asked -/
def hookE (n : Nat) (fa : List He.Fa) (fn : List He.DefD) (ex : PySem.W.Frag → Bool) : PySem.W.Hook where
  α := He.AlD × Bool
  obs := fun sh => (He.obsDG n fa fn sh.heap.get?, ex (He.frG sh.heap.get? (He.asD sh.heap.get? n)))
  val := fun _ => (He.valD fn, true)
  says := fun _ hp => ∃ K : PySem.W.Frag, K.In hp ∧ He.SaysD fa fn K ∧ ex K = true
  of := fun _ _ e => ⟨_, He.frG_in, congrArg (fun z : He.AlD × Bool => z.1) e, congrArg (fun z : He.AlD × Bool => z.2) e⟩
  keeps := fun _ _ _ ⟨K, hK, c⟩ k => ⟨K, PySem.W.Frag.In.keeps hK k, c⟩
def obsE (n : Nat) (fa : List He.Fa) (fn : List He.DefD) (ex : PySem.W.Frag → Bool) (g : Addr → Option Obj) : He.AlD × Bool := (He.obsDG n fa fn g, ex (He.frG g (He.asD g n)))
theorem obsE_eq {n : Nat} {fa : List He.Fa} {fn : List He.DefD} {ex : PySem.W.Frag → Bool} {g : Addr → Option Obj} {sh : Shared} (hg : ∀ a, g a = sh.heap.get? a) : obsE n fa fn ex g = (hookE n fa fn ex).obs sh := by
  have e : g = sh.heap.get? := funext hg
  subst e
  rfl
end G8

set_option linter.all false
namespace G8
/-- is_int: value, low, high -/
def f_is_int : Fn := ⟨3, 3, false, [.ret (.and (.isi (.var 0) .int) (.and (.not (.isi (.var 0) .bool)) (.chn .le .le (.var 1) (.var 0) (.var 2))))]⟩
abbrev i_is_int : Nat := 0
/-- check_block: value -/
def f_check_block : Fn := ⟨1, 1, false, [.ite (.not (.call 0 [(.var 0), (.cst (.int 0)), (.cst (.int 1000000000))])) [.rse 3] []]⟩
abbrev i_check_block : Nat := 1
/-- is_sequence: value, most, block -/
def f_is_sequence : Fn := ⟨2, 3, false, [.ret (.and (.isi (.var 0) .list) (.and (.cmp .le (.bi .len [(.var 0)]) (.var 1)) (.bi .all [(.comp (.var 2) (.var 0) [] (.call 0 [(.var 2), (.cst (.int 0)), (.cst (.int 1000000000))]) [2])])))]⟩
abbrev i_is_sequence : Nat := 2
/-- check_sequence: value -/
def f_check_sequence : Fn := ⟨1, 1, false, [.ite (.not (.call 2 [(.var 0), (.cst (.int 2000))])) [.rse 3] []]⟩
abbrev i_check_sequence : Nat := 3
/-- is_permutation: value, size, item -/
def f_is_permutation : Fn := ⟨2, 3, false, [.ite (.or (.not (.isi (.var 0) .tuple)) (.not (.bi .all [(.comp (.var 2) (.var 0) [] (.call 0 [(.var 2), (.cst (.int 0)), (.bin .sub (.var 1) (.cst (.int 1)))]) [2])]))) [.ret (.cst (.bl false))] [], .ret (.cmp .eq (.bi .sorted [(.var 0)]) (.bi .list [(.rng1 (.var 1))]))]⟩
abbrev i_is_permutation : Nat := 4
/-- is_policy: value, item -/
def f_is_policy : Fn := ⟨1, 2, false, [.ite (.or (.not (.isi (.var 0) .tuple)) (.not (.chn .le .le (.cst (.int 2)) (.bi .len [(.var 0)]) (.cst (.int 4))))) [.ret (.cst (.bl false))] [], .ret (.bi .all [(.comp (.var 1) (.var 0) [] (.call 4 [(.var 1), (.bi .len [(.var 0)])]) [1])])]⟩
abbrev i_is_policy : Nat := 5
/-- check_policy: value -/
def f_check_policy : Fn := ⟨1, 1, false, [.ite (.not (.call 5 [(.var 0)])) [.rse 1] []]⟩
abbrev i_check_policy : Nat := 6
/-- is_state: policy, value, block -/
def f_is_state : Fn := ⟨2, 3, false, [.ite (.or (.not (.isi (.var 1) .tuple)) (.cmp .ne (.bi .len [(.var 1)]) (.bi .len [(.var 0)]))) [.ret (.cst (.bl false))] [], .ite (.not (.bi .all [(.comp (.var 2) (.var 1) [] (.call 0 [(.var 2), (.cst (.int 0)), (.cst (.int 1000000000))]) [2])])) [.ret (.cst (.bl false))] [], .ret (.cmp .eq (.dlen (.var 2) (.var 1) (.var 2) (.cst (.bl true)) [2]) (.bi .len [(.var 1)]))]⟩
abbrev i_is_state : Nat := 7
/-- check_state: policy, state -/
def f_check_state : Fn := ⟨2, 2, false, [.exp (.call 6 [(.var 0)]), .ite (.not (.call 7 [(.var 0), (.var 1)])) [.rse 2] []]⟩
abbrev i_check_state : Nat := 8
/-- permuted: state, permutation, moved, position, target -/
def f_permuted : Fn := ⟨2, 5, false, [.asg (.var 2) (.mut (.bin .mul (.lst [(.cst .non)]) (.bi .len [(.var 0)]))), .for_ (.tup [(.var 3), (.var 4)]) (.enm (.var 1)) [.asg (.idx (.var 2) (.var 4)) (.idx (.var 0) (.var 3))], .ret (.bi .tuple [(.var 2)])]⟩
abbrev i_permuted : Nat := 9
/-- step: policy, state, block -/
def f_step : Fn := ⟨3, 3, false, [.ite (.cmp .isin (.var 2) (.var 1)) [.ret (.tup [(.call 9 [(.var 1), (.idx (.var 0) (.mb .index (.var 1) [(.var 2)]))]), (.cst (.bl true))])] [], .ret (.tup [(.bin .add (.tup [(.var 2)]) (.sl (.var 1) none (some (.neg (.cst (.int 1)))))), (.cst (.bl false))])]⟩
abbrev i_step : Nat := 10
/-- run: policy, state, sequence, outcomes, block, hit -/
def f_run : Fn := ⟨3, 6, false, [.exp (.call 8 [(.var 0), (.var 1)]), .exp (.call 3 [(.var 2)]), .asg (.var 3) (.mut (.lst [])), .for_ (.var 4) (.var 2) [.asg (.tup [(.var 1), (.var 5)]) (.call 10 [(.var 0), (.var 1), (.var 4)]), .exp (.mb .append (.var 3) [(.var 5)])], .ret (.tup [(.var 3), (.var 1)])]⟩
abbrev i_run : Nat := 11
/-- misses: policy, state, sequence -/
def f_misses : Fn := ⟨3, 3, false, [.ret (.mb .count (.idx (.call 11 [(.var 0), (.var 1), (.var 2)]) (.cst (.int 0))) [(.cst (.bl false))])]⟩
abbrev i_misses : Nat := 12
/-- CacheSet.__init__: self, policy, state -/
def f_CacheSet___init__ : Fn := ⟨3, 3, true, [.exp (.call 8 [(.var 1), (.var 2)]), .asg (.fld (.var 0) 0) (.var 1), .asg (.fld (.var 0) 1) (.var 2), .asg (.fld (.var 0) 2) (.mut (.lst []))]⟩
abbrev i_CacheSet___init__ : Nat := 13
/-- CacheSet.access: self, block, hit -/
def f_CacheSet_access : Fn := ⟨2, 3, false, [.exp (.call 1 [(.var 1)]), .asg (.tup [(.fld (.var 0) 1), (.var 2)]) (.call 10 [(.fld (.var 0) 0), (.fld (.var 0) 1), (.var 1)]), .exp (.mb .append (.fld (.var 0) 2) [(.tup [(.var 1), (.var 2)])]), .ret (.var 2)]⟩
abbrev i_CacheSet_access : Nat := 14
/-- CacheSet.contents: self -/
def f_CacheSet_contents : Fn := ⟨1, 1, false, [.ret (.fld (.var 0) 1)]⟩
abbrev i_CacheSet_contents : Nat := 15
/-- CacheSet.victim: self -/
def f_CacheSet_victim : Fn := ⟨1, 1, false, [.ret (.idx (.fld (.var 0) 1) (.neg (.cst (.int 1))))]⟩
abbrev i_CacheSet_victim : Nat := 16
/-- CacheSet.counts: self, block, hit -/
def f_CacheSet_counts : Fn := ⟨1, 3, false, [.ret (.tup [(.bi .len [(.fld (.var 0) 2)]), (.bi .len [(.comp (.tup [.var 1, .var 2]) (.fld (.var 0) 2) [(.not (.var 2))] (.var 2) [1, 2])])])]⟩
abbrev i_CacheSet_counts : Nat := 17
/-- CacheSet.history: self -/
def f_CacheSet_history : Fn := ⟨1, 1, false, [.ret (.bi .list [(.fld (.var 0) 2)])]⟩
abbrev i_CacheSet_history : Nat := 18
/-- _law_start: script -/
def f__law_start : Fn := ⟨1, 1, true, [.ret (.mut (.lst [(.ite (.cmp .ne (.var 0) (.lst [])) (.mut (.bi .list [(.var 0)])) (.mut (.lst [(.cst (.int 0))]))), (.cst (.int 0))]))]⟩
abbrev i__law_start : Nat := 19
/-- _law_draw: draws, limit, numbers, at, cell, mixed -/
def f__law_draw : Fn := ⟨2, 6, false, [.asg (.var 2) (.idx (.var 0) (.cst (.int 0))), .asg (.idx (.var 0) (.cst (.int 1))) (.bin .add (.idx (.var 0) (.cst (.int 1))) (.cst (.int 1))), .asg (.var 3) (.bin .mod (.idx (.var 0) (.cst (.int 1))) (.bi .len [(.var 2)])), .asg (.var 4) (.idx (.var 2) (.var 3)), .ite (.cmp .ge (.var 4) (.cst (.int 1000000000000000000))) [.asg (.idx (.var 2) (.var 3)) (.bin .fdiv (.var 4) (.var 1)), .ret (.bin .mod (.var 4) (.var 1))] [], .asg (.var 5) (.bin .mod (.bin .add (.var 4) (.bin .mul (.cst (.int 104729)) (.idx (.var 0) (.cst (.int 1))))) (.cst (.int 4294967291))), .asg (.var 5) (.bin .mod (.bin .pow (.var 5) (.cst (.int 5))) (.cst (.int 4294967279))), .ret (.bin .mod (.bin .fdiv (.bin .mod (.bin .add (.bin .mul (.bin .fdiv (.var 5) (.cst (.int 64))) (.cst (.int 69621))) (.var 5)) (.cst (.int 4294967231))) (.cst (.int 8))) (.var 1))]⟩
abbrev i__law_draw : Nat := 20
/-- _law_true: value, expected -/
def f__law_true : Fn := ⟨2, 2, false, [.ret (.and (.isi (.var 0) .bool) (.cmp .eq (.var 0) (.var 1)))]⟩
abbrev i__law_true : Nat := 21
/-- _law_permutation: draws, size, found, item, at -/
def f__law_permutation : Fn := ⟨2, 5, false, [.asg (.var 2) (.tup []), .for_ (.var 3) (.rng1 (.var 1)) [.asg (.var 4) (.call 20 [(.var 0), (.bin .add (.bi .len [(.var 2)]) (.cst (.int 1)))]), .asg (.var 2) (.bin .add (.bin .add (.sl (.var 2) none (some (.var 4))) (.tup [(.var 3)])) (.sl (.var 2) (some (.var 4)) none))], .ret (.var 2)]⟩
abbrev i__law_permutation : Nat := 22
/-- _law_recent: ways, found, hit, p -/
def f__law_recent : Fn := ⟨1, 4, false, [.asg (.var 1) (.mut (.lst [])), .for_ (.var 2) (.rng1 (.var 0)) [.exp (.mb .append (.var 1) [(.bi .tuple [(.comp (.var 3) (.rng1 (.var 0)) [] (.ite (.cmp .lt (.var 3) (.var 2)) (.bin .add (.var 3) (.cst (.int 1))) (.ite (.cmp .eq (.var 3) (.var 2)) (.cst (.int 0)) (.var 3))) [3])])])], .ret (.bi .tuple [(.var 1)])]⟩
abbrev i__law_recent : Nat := 23
/-- _law_policy: draws, ways, kind, hit -/
def f__law_policy : Fn := ⟨2, 4, false, [.asg (.var 2) (.call 20 [(.var 0), (.cst (.int 5))]), .ite (.cmp .eq (.var 2) (.cst (.int 0))) [.ret (.call 23 [(.var 1)])] [], .ite (.cmp .eq (.var 2) (.cst (.int 1))) [.ret (.bin .mul (.tup [(.bi .tuple [(.rng1 (.var 1))])]) (.var 1))] [], .ite (.and (.cmp .eq (.var 2) (.cst (.int 2))) (.cmp .eq (.var 1) (.cst (.int 4)))) [.ret (.tup [(.tup [(.cst (.int 0)), (.cst (.int 1)), (.cst (.int 2)), (.cst (.int 3))]), (.tup [(.cst (.int 1)), (.cst (.int 0)), (.cst (.int 3)), (.cst (.int 2))]), (.tup [(.cst (.int 2)), (.cst (.int 1)), (.cst (.int 0)), (.cst (.int 3))]), (.tup [(.cst (.int 1)), (.cst (.int 2)), (.cst (.int 3)), (.cst (.int 0))])])] [], .ret (.bi .tuple [(.comp (.var 3) (.rng1 (.var 1)) [] (.call 22 [(.var 0), (.var 1)]) [3])])]⟩
abbrev i__law_policy : Nat := 24
/-- _law_state: draws, ways, limit -/
def f__law_state : Fn := ⟨3, 3, false, [.ret (.sl (.call 22 [(.var 0), (.var 2)]) none (some (.var 1)))]⟩
abbrev i__law_state : Nat := 25
/-- _law_step: policy, state, block, row, p -/
def f__law_step : Fn := ⟨3, 5, false, [.ite (.cmp .notin (.var 2) (.var 1)) [.ret (.tup [(.bin .add (.tup [(.var 2)]) (.sl (.var 1) none (some (.neg (.cst (.int 1)))))), (.cst (.bl false))])] [], .asg (.var 3) (.idx (.var 0) (.mb .index (.var 1) [(.var 2)])), .ret (.tup [(.bi .tuple [(.comp (.var 4) (.rng1 (.bi .len [(.var 1)])) [] (.idx (.var 1) (.mb .index (.var 3) [(.var 4)])) [4])]), (.cst (.bl true))])]⟩
abbrev i__law_step : Nat := 26
/-- _law_run: policy, state, sequence, outcomes, block, hit -/
def f__law_run : Fn := ⟨3, 6, false, [.asg (.var 3) (.mut (.lst [])), .for_ (.var 4) (.var 2) [.asg (.tup [(.var 1), (.var 5)]) (.call 26 [(.var 0), (.var 1), (.var 4)]), .exp (.mb .append (.var 3) [(.var 5)])], .ret (.tup [(.var 3), (.var 1)])]⟩
abbrev i__law_run : Nat := 27
/-- _law_sequence: draws, length, limit, k -/
def f__law_sequence : Fn := ⟨3, 4, false, [.ret (.comp (.var 3) (.rng1 (.var 1)) [] (.call 20 [(.var 0), (.var 2)]) [3])]⟩
abbrev i__law_sequence : Nat := 28
/-- law: script, draws, ways, policy, limit, state, sequence, cache, current, k, outcomes, final, hit -/
def f_law_k01 : Fn := ⟨1, 13, true, [.asg (.var 1) (.call 19 [(.var 0)]), .asg (.var 2) (.bin .add (.cst (.int 2)) (.call 20 [(.var 1), (.cst (.int 3))])), .asg (.var 3) (.call 24 [(.var 1), (.var 2)]), .asg (.var 4) (.bin .add (.bin .add (.var 2) (.cst (.int 1))) (.call 20 [(.var 1), (.cst (.int 4))])), .asg (.var 5) (.call 25 [(.var 1), (.var 2), (.var 4)]), .asg (.var 6) (.call 28 [(.var 1), (.call 20 [(.var 1), (.cst (.int 30))]), (.bin .add (.var 4) (.cst (.int 1)))]), .ite (.or (.isb false true (.call 7 [(.var 3), (.var 5)])) (.isb false true (.call 5 [(.var 3)]))) [.ret (.cst (.bl false))] [], .asg (.tup [(.var 10), (.var 11)]) (.call 27 [(.var 3), (.var 5), (.var 6)]), .ite (.or (.cmp .ne (.call 11 [(.var 3), (.var 5), (.var 6)]) (.tup [(.var 10), (.var 11)])) (.cmp .ne (.call 12 [(.var 3), (.var 5), (.var 6)]) (.mb .count (.var 10) [(.cst (.bl false))]))) [.ret (.cst (.bl false))] [], .asg (.var 7) (.mk 4 [(.var 3), (.var 5)]), .asg (.var 8) (.var 5), .for_ (.var 9) (.rng1 (.bi .len [(.var 6)])) [.ite (.or (.cmp .ne (.mu 2 (.var 7) []) (.idx (.var 8) (.neg (.cst (.int 1))))) (.cmp .ne (.mu 1 (.var 7) []) (.var 8))) [.ret (.cst (.bl false))] [], .asg (.tup [(.var 8), (.var 12)]) (.call 26 [(.var 3), (.var 8), (.idx (.var 6) (.var 9))]), .ite (.not (.call 21 [(.mu 0 (.var 7) [(.idx (.var 6) (.var 9))]), (.var 12)])) [.ret (.cst (.bl false))] [], .ite (.or (.cmp .ne (.mu 3 (.var 7) []) (.tup [(.bin .add (.var 9) (.cst (.int 1))), (.mb .count (.sl (.var 10) none (some (.bin .add (.var 9) (.cst (.int 1))))) [(.cst (.bl false))])])) (.cmp .ne (.bi .len [(.mu 4 (.var 7) [])]) (.bin .add (.var 9) (.cst (.int 1))))) [.ret (.cst (.bl false))] []], .ite (.cmp .ne (.mu 4 (.var 7) []) (.comp (.var 9) (.rng1 (.bi .len [(.var 6)])) [] (.tup [(.idx (.var 6) (.var 9)), (.idx (.var 10) (.var 9))]) [9])) [.ret (.cst (.bl false))] [], .ret (.and (.cmp .eq (.mu 1 (.var 7) []) (.var 11)) (.or (.cmp .ne (.var 6) (.lst [])) (.cmp .eq (.mu 3 (.var 7) []) (.tup [(.cst (.int 0)), (.cst (.int 0))]))))]⟩
abbrev i_law_k01 : Nat := 29
/-- check_ways: value -/
def f_check_ways : Fn := ⟨1, 1, false, [.ite (.not (.call 0 [(.var 0), (.cst (.int 2)), (.cst (.int 4))])) [.rse 1] []]⟩
abbrev i_check_ways : Nat := 30
/-- lru: ways, hit, p -/
def ce_lru_0 : IE := (.ite (.cmp .eq (.var 2) (.var 1)) (.cst (.int 0)) (.ite (.cmp .lt (.var 2) (.var 1)) (.bin .add (.var 2) (.cst (.int 1))) (.var 2)))
def ce_lru_1 : IE := (.bi .tuple [(.comp (.var 2) (.rng1 (.var 0)) [] ce_lru_0 [2])])
def f_lru : Fn := ⟨1, 3, false, [.exp (.call 30 [(.var 0)]), .ret (.bi .tuple [(.comp (.var 1) (.rng1 (.var 0)) [] ce_lru_1 [1])])]⟩
abbrev i_lru : Nat := 31
/-- fifo: ways, hit -/
def ce_fifo_0 : IE := (.bi .tuple [(.rng1 (.var 0))])
def f_fifo : Fn := ⟨1, 2, false, [.exp (.call 30 [(.var 0)]), .ret (.bi .tuple [(.comp (.var 1) (.rng1 (.var 0)) [] ce_fifo_0 [1])])]⟩
abbrev i_fifo : Nat := 32
/-- tree_plru:  -/
def f_tree_plru : Fn := ⟨0, 0, false, [.ret (.tup [(.tup [(.cst (.int 0)), (.cst (.int 1)), (.cst (.int 2)), (.cst (.int 3))]), (.tup [(.cst (.int 1)), (.cst (.int 0)), (.cst (.int 3)), (.cst (.int 2))]), (.tup [(.cst (.int 2)), (.cst (.int 1)), (.cst (.int 0)), (.cst (.int 3))]), (.tup [(.cst (.int 1)), (.cst (.int 2)), (.cst (.int 3)), (.cst (.int 0))])])]⟩
abbrev i_tree_plru : Nat := 33
/-- _law_recency: state, sequence, block, row, outcomes, rest, item -/
def ci__law_recency_0 : List IE := [(.cmp .ne (.var 6) (.var 2))]
def ce__law_recency_0 : IE := (.var 6)
def lb__law_recency_0 : List IS := [.exp (.mb .append (.var 4) [(.cmp .isin (.var 2) (.var 3))]), .asg (.var 5) (.ite (.cmp .isin (.var 2) (.var 3)) (.comp (.var 6) (.var 3) ci__law_recency_0 ce__law_recency_0 [6]) (.sl (.var 3) none (some (.neg (.cst (.int 1)))))), .asg (.var 3) (.bin .add (.lst [(.var 2)]) (.var 5))]
def f__law_recency : Fn := ⟨2, 7, false, [.par [3, 4] [(.bi .list [(.var 0)]), (.mut (.lst []))], .for_ (.var 2) (.var 1) lb__law_recency_0, .ret (.var 4)]⟩
abbrev i__law_recency : Nat := 34
/-- _law_queue: state, sequence, block, row, outcomes -/
def lb__law_queue_0 : List IS := [.exp (.mb .append (.var 4) [(.cmp .isin (.var 2) (.var 3))]), .asg (.var 3) (.ite (.cmp .isin (.var 2) (.var 3)) (.var 3) (.bin .add (.lst [(.var 2)]) (.sl (.var 3) none (some (.neg (.cst (.int 1)))))))]
def f__law_queue : Fn := ⟨2, 5, false, [.par [3, 4] [(.bi .list [(.var 0)]), (.mut (.lst []))], .for_ (.var 2) (.var 1) lb__law_queue_0, .ret (.var 4)]⟩
abbrev i__law_queue : Nat := 35
/-- _law_leaf: bits -/
def f__law_leaf : Fn := ⟨1, 1, false, [.ret (.ite (.cmp .eq (.idx (.var 0) (.cst (.int 0))) (.cst (.int 0))) (.idx (.var 0) (.cst (.int 1))) (.bin .add (.cst (.int 2)) (.idx (.var 0) (.cst (.int 2)))))]⟩
abbrev i__law_leaf : Nat := 36
/-- _law_away: bits, leaf -/
def f__law_away : Fn := ⟨2, 2, false, [.ite (.cmp .lt (.var 1) (.cst (.int 2))) [.ret (.lst [(.cst (.int 1)), (.bin .sub (.cst (.int 1)) (.var 1)), (.idx (.var 0) (.cst (.int 2)))])] [], .ret (.lst [(.cst (.int 0)), (.idx (.var 0) (.cst (.int 1))), (.bin .sub (.cst (.int 3)) (.var 1))])]⟩
abbrev i__law_away : Nat := 37
/-- _law_tree: sequence, blocks, bits, turn, outcomes, block, leaves, first, order -/
def lb__law_tree_0 : List IS := [.exp (.mb .append (.var 8) [(.idx (.var 6) (.call 36 [(.var 7)]))]), .asg (.var 7) (.call 37 [(.var 7), (.call 36 [(.var 7)])])]
def lb__law_tree_1 : List IS := [.exp (.mb .append (.var 4) [(.cmp .isin (.var 5) (.var 6))]), .ite (.cmp .notin (.var 5) (.var 6)) [.asg (.idx (.var 6) (.call 36 [(.var 2)])) (.var 5)] [], .asg (.var 2) (.call 37 [(.var 2), (.mb .index (.var 6) [(.var 5)])])]
def f__law_tree : Fn := ⟨3, 9, false, [.par [6, 7, 8] [(.mut (.bi .list [(.var 1)])), (.bi .list [(.var 2)]), (.mut (.lst []))], .for_ (.var 3) (.rng1 (.cst (.int 4))) lb__law_tree_0, .asg (.var 4) (.mut (.lst [])), .for_ (.var 5) (.var 0) lb__law_tree_1, .ret (.tup [(.var 4), (.bi .tuple [(.rev (.var 8))])])]⟩
abbrev i__law_tree : Nat := 38
/-- law: script, draws, ways, limit, state, sequence, blocks, bits, outcomes, order, k -/
def ce_law_k02_0 : IE := (.call 20 [(.var 1), (.cst (.int 2))])
def f_law_k02 : Fn := ⟨1, 11, true, [.asg (.var 1) (.call 19 [(.var 0)]), .asg (.var 2) (.bin .add (.cst (.int 2)) (.call 20 [(.var 1), (.cst (.int 3))])), .asg (.var 3) (.bin .add (.bin .add (.var 2) (.cst (.int 1))) (.call 20 [(.var 1), (.cst (.int 4))])), .asg (.var 4) (.call 25 [(.var 1), (.var 2), (.var 3)]), .asg (.var 5) (.call 28 [(.var 1), (.call 20 [(.var 1), (.cst (.int 40))]), (.bin .add (.var 3) (.cst (.int 1)))]), .ite (.or (.isb false true (.call 5 [(.call 31 [(.var 2)])])) (.or (.isb false true (.call 5 [(.call 32 [(.var 2)])])) (.isb false true (.call 5 [(.call 33 [])])))) [.ret (.cst (.bl false))] [], .ite (.cmp .ne (.idx (.call 11 [(.call 31 [(.var 2)]), (.var 4), (.var 5)]) (.cst (.int 0))) (.call 34 [(.var 4), (.var 5)])) [.ret (.cst (.bl false))] [], .ite (.cmp .ne (.idx (.call 11 [(.call 32 [(.var 2)]), (.var 4), (.var 5)]) (.cst (.int 0))) (.call 35 [(.var 4), (.var 5)])) [.ret (.cst (.bl false))] [], .asg (.var 6) (.call 25 [(.var 1), (.cst (.int 4)), (.cst (.int 7))]), .asg (.var 7) (.comp (.var 10) (.rng1 (.cst (.int 3))) [] ce_law_k02_0 [10]), .asg (.var 5) (.call 28 [(.var 1), (.call 20 [(.var 1), (.cst (.int 40))]), (.cst (.int 8))]), .asg (.tup [(.var 8), (.var 9)]) (.call 38 [(.var 5), (.var 6), (.var 7)]), .ret (.cmp .eq (.idx (.call 11 [(.call 33 []), (.var 9), (.var 5)]) (.cst (.int 0))) (.var 8))]⟩
abbrev i_law_k02 : Nat := 39
/-- _wall: k -/
def wb__wall_0 : List IS := [.pass]
def ws__wall_0 : IS := .whl (.cst (.bl true)) wb__wall_0
def f__wall : Fn := ⟨1, 1, false, [ws__wall_0]⟩
abbrev i__wall : Nat := 40
/-- Prober.__init__: self, cache, ways, fresh -/
def f_Prober___init__ : Fn := ⟨4, 4, true, [.asg (.fld (.var 0) 3) (.var 1), .asg (.fld (.var 0) 4) (.var 2), .asg (.fld (.var 0) 5) (.var 3)]⟩
abbrev i_Prober___init__ : Nat := 41
/-- Prober.access: self, block -/
def f_Prober_access : Fn := ⟨2, 2, false, [.ret (.mu 0 (.fld (.var 0) 3) [(.var 1)])]⟩
abbrev i_Prober_access : Nat := 42
/-- Prober.miss: self, block -/
def f_Prober_miss : Fn := ⟨1, 2, false, [.asg (.var 1) (.fld (.var 0) 5), .augf (.var 0) 5 .add (.cst (.int 1)), .exp (.mu 0 (.var 0) [(.var 1)]), .ret (.var 1)]⟩
abbrev i_Prober_miss : Nat := 43
/-- Prober.prime: self, row, block -/
def wb_Prober_prime_0 : List IS := [.asg (.var 2) (.fld (.var 0) 5), .augf (.var 0) 5 .add (.cst (.int 1)), .asg (.var 1) (.ite (.mu 0 (.var 0) [(.var 2)]) (.lst []) (.bin .add (.var 1) (.lst [(.var 2)])))]
def ws_Prober_prime_0 : IS := .whl (.cmp .lt (.bi .len [(.var 1)]) (.fld (.var 0) 4)) wb_Prober_prime_0
def f_Prober_prime : Fn := ⟨1, 3, false, [.asg (.var 1) (.lst []), ws_Prober_prime_0, .ret (.rev (.var 1))]⟩
abbrev i_Prober_prime : Nat := 44
/-- Prober.survives: self, hit, position, count, state, turn -/
def lb_Prober_survives_0 : List IS := [.exp (.mu 5 (.var 0) [])]
def f_Prober_survives : Fn := ⟨4, 6, false, [.asg (.var 4) (.mu 6 (.var 0) []), .exp (.mu 0 (.var 0) [(.idx (.var 4) (.var 1))]), .for_ (.var 5) (.rng1 (.var 3)) lb_Prober_survives_0, .ret (.mu 0 (.var 0) [(.idx (.var 4) (.var 2))])]⟩
abbrev i_Prober_survives : Nat := 45
/-- permutation_of: prober, hit, free, found, position, low, high, middle -/
def wb_permutation_of_0 : List IS := [.asg (.var 7) (.bin .fdiv (.bin .add (.var 5) (.var 6)) (.cst (.int 2))), .ite (.mu 7 (.var 0) [(.var 1), (.var 4), (.bin .sub (.bin .sub (.fld (.var 0) 4) (.cst (.int 1))) (.idx (.var 2) (.var 7)))]) [.asg (.var 6) (.var 7)] [.asg (.var 5) (.bin .add (.var 7) (.cst (.int 1)))]]
def ws_permutation_of_0 : IS := .whl (.cmp .lt (.var 5) (.var 6)) wb_permutation_of_0
def lb_permutation_of_0 : List IS := [.par [5, 6] [(.cst (.int 0)), (.bin .sub (.bi .len [(.var 2)]) (.cst (.int 1)))], ws_permutation_of_0, .exp (.mb .append (.var 3) [(.mb .popAt (.var 2) [(.var 5)])])]
def f_permutation_of : Fn := ⟨2, 8, false, [.asg (.var 2) (.mut (.bi .list [(.rng1 (.fld (.var 0) 4))])), .asg (.var 3) (.mut (.lst [])), .for_ (.var 4) (.rng1 (.fld (.var 0) 4)) lb_permutation_of_0, .ret (.bi .tuple [(.var 3)])]⟩
abbrev i_permutation_of : Nat := 46
/-- identify: cache, ways, fresh, prober, hit -/
def ce_identify_0 : IE := (.call 46 [(.var 3), (.var 4)])
def f_identify : Fn := ⟨3, 5, false, [.exp (.call 30 [(.var 1)]), .ite (.not (.call 0 [(.var 2), (.cst (.int 0)), (.cst (.int 500000000))])) [.rse 3] [], .asg (.var 3) (.mk 5 [(.var 0), (.var 1), (.var 2)]), .ret (.bi .tuple [(.comp (.var 4) (.rng1 (.var 1)) [] ce_identify_0 [4])])]⟩
abbrev i_identify : Nat := 47
/-- probe_bound: ways, total, free, rounds, reach -/
def wb_probe_bound_0 : List IS := [.aug 4 .mul (.cst (.int 2)), .aug 3 .add (.cst (.int 1))]
def ws_probe_bound_0 : IS := .whl (.cmp .lt (.var 4) (.var 2)) wb_probe_bound_0
def lb_probe_bound_0 : List IS := [.asg (.var 3) (.cst (.int 0)), .asg (.var 4) (.cst (.int 1)), ws_probe_bound_0, .aug 1 .add (.var 3)]
def f_probe_bound : Fn := ⟨1, 5, false, [.exp (.call 30 [(.var 0)]), .asg (.var 1) (.cst (.int 0)), .for_ (.var 2) (.rng2 (.cst (.int 2)) (.bin .add (.var 0) (.cst (.int 1)))) lb_probe_bound_0, .ret (.bin .add (.bin .mul (.var 0) (.var 0)) (.bin .mul (.bin .mul (.var 0) (.var 1)) (.bin .add (.bin .mul (.cst (.int 2)) (.var 0)) (.cst (.int 1)))))]⟩
abbrev i_probe_bound : Nat := 48
/-- CacheSet.victim: self -/
def f_CacheSet_victim_2 : Fn := ⟨1, 1, false, [.exp (.call 40 [(.cst (.int 0))])]⟩
abbrev i_CacheSet_victim_2 : Nat := 49
/-- _law_pick: draws, choices -/
def f__law_pick : Fn := ⟨2, 2, false, [.ret (.idx (.var 1) (.call 20 [(.var 0), (.bi .len [(.var 1)])]))]⟩
abbrev i__law_pick : Nat := 50
/-- law: script, draws, ways, policy, lowest, state, hidden, sequence, found, item, block, hit -/
def ce_law_k03_0 : IE := (.bin .add (.var 4) (.var 9))
def ce_law_k03_1 : IE := (.bin .add (.var 10) (.cst (.int 7)))
def ce_law_k03_2 : IE := (.var 10)
def ci_law_k03_0 : List IE := [(.cmp .lt (.var 10) (.var 4))]
def ce_law_k03_3 : IE := (.var 10)
def ce_law_k03_4 : IE := (.var 11)
def f_law_k03 : Fn := ⟨1, 12, true, [.asg (.var 1) (.call 19 [(.var 0)]), .asg (.var 2) (.bin .add (.cst (.int 2)) (.call 20 [(.var 1), (.cst (.int 3))])), .asg (.var 3) (.call 24 [(.var 1), (.var 2)]), .asg (.var 4) (.call 50 [(.var 1), (.lst [(.cst (.int 0)), (.cst (.int 1)), (.cst (.int 1000000)), (.cst (.int 500000000))])]), .asg (.var 5) (.bi .tuple [(.comp (.var 9) (.call 25 [(.var 1), (.var 2), (.call 50 [(.var 1), (.lst [(.var 2), (.bin .add (.var 2) (.cst (.int 3))), (.cst (.int 40))])])]) [] ce_law_k03_0 [9])]), .ite (.cmp .eq (.call 20 [(.var 1), (.cst (.int 2))]) (.cst (.int 0))) [.asg (.var 5) (.bi .tuple [(.comp (.var 10) (.call 25 [(.var 1), (.var 2), (.cst (.int 100))]) [] ce_law_k03_1 [10])])] [], .asg (.var 6) (.mk 4 [(.var 3), (.var 5)]), .ite (.and (.cmp .eq (.var 4) (.cst (.int 1000000))) (.cmp .eq (.call 20 [(.var 1), (.cst (.int 2))]) (.cst (.int 0)))) [.asg (.var 8) (.call 47 [(.var 6), (.var 2), (.cst (.int 1000000))])] [.asg (.var 8) (.call 47 [(.var 6), (.var 2), (.var 4)])], .asg (.var 7) (.comp (.tup [.var 10, .var 11]) (.mu 4 (.var 6) []) [] ce_law_k03_2 [10, 11]), .ite (.or (.cmp .ne (.var 8) (.var 3)) (.or (.cmp .gt (.idx (.mu 3 (.var 6) []) (.cst (.int 0))) (.call 48 [(.var 2)])) (.cmp .ne (.bi .len [(.var 7)]) (.idx (.mu 3 (.var 6) []) (.cst (.int 0)))))) [.ret (.cst (.bl false))] [], .ite (.cmp .ne (.comp (.var 10) (.var 7) ci_law_k03_0 ce_law_k03_3 [10]) (.lst [])) [.ret (.cst (.bl false))] [], .ite (.cmp .ne (.idx (.call 27 [(.var 3), (.var 5), (.var 7)]) (.cst (.int 0))) (.comp (.tup [.var 10, .var 11]) (.mu 4 (.var 6) []) [] ce_law_k03_4 [10, 11])) [.ret (.cst (.bl false))] [], .ret (.and (.cmp .eq (.call 48 [(.var 2)]) (.idx (.lst [(.cst (.int 14)), (.cst (.int 72)), (.cst (.int 196))]) (.bin .sub (.var 2) (.cst (.int 2))))) (.cmp .eq (.mu 1 (.var 6) []) (.idx (.call 27 [(.var 3), (.var 5), (.var 7)]) (.cst (.int 1)))))]⟩
abbrev i_law_k03 : Nat := 51
/-- check_same_ways: first, second -/
def f_check_same_ways : Fn := ⟨2, 2, false, [.exp (.call 6 [(.var 0)]), .exp (.call 6 [(.var 1)]), .ite (.cmp .ne (.bi .len [(.var 0)]) (.bi .len [(.var 1)])) [.rse 1] []]⟩
abbrev i_check_same_ways : Nat := 52
/-- fresh_block: states, used, block, state -/
def wb_fresh_block_0 : List IS := [.aug 2 .add (.cst (.int 1))]
def ws_fresh_block_0 : IS := .whl (.cmp .isin (.var 2) (.var 1)) wb_fresh_block_0
def f_fresh_block : Fn := ⟨1, 4, false, [.asg (.var 1) (.comp2 (.var 3) (.var 0) [] (.var 2) (.var 3) [] (.var 2) [2, 3] [2]), .asg (.var 2) (.cst (.int 0)), ws_fresh_block_0, .ret (.var 2)]⟩
abbrev i_fresh_block : Nat := 53
/-- separate: first, first_state, second, second_state, seen, queue, at, only, block, one, two, sequence, key, next_one, hit, next_two, other_hit -/
def ci_separate_0 : List IE := [(.cmp .notin (.var 8) (.var 10))]
def ce_separate_0 : IE := (.var 8)
def lb_separate_0 : List IS := [.asg (.tup [(.var 13), (.var 14)]) (.call 10 [(.var 0), (.var 9), (.var 8)]), .asg (.tup [(.var 15), (.var 16)]) (.call 10 [(.var 2), (.var 10), (.var 8)]), .asg (.var 12) (.call 55 [(.var 13), (.var 15)]), .ite (.din false (.var 12) (.var 4)) [.asg (.didx (.var 4) (.var 12)) (.cst (.bl true)), .exp (.mb .append (.var 5) [(.tup [(.var 13), (.var 15), (.bin .add (.var 11) (.lst [(.var 8)]))])])] []]
def wb_separate_0 : List IS := [.asg (.tup [(.var 9), (.var 10), (.var 11)]) (.idx (.var 5) (.var 6)), .aug 6 .add (.cst (.int 1)), .asg (.var 7) (.comp (.var 8) (.var 9) ci_separate_0 ce_separate_0 [8]), .ite (.cmp .ne (.var 7) (.lst [])) [.ret (.bin .add (.var 11) (.lst [(.idx (.var 7) (.cst (.int 0)))]))] [], .for_ (.var 8) (.bin .add (.bi .list [(.var 9)]) (.lst [(.call 53 [(.lst [(.var 9), (.var 10)])])])) lb_separate_0]
def ws_separate_0 : IS := .whl (.cmp .lt (.var 6) (.bi .len [(.var 5)])) wb_separate_0
def f_separate : Fn := ⟨4, 17, false, [.exp (.call 52 [(.var 0), (.var 2)]), .exp (.call 8 [(.var 0), (.var 1)]), .exp (.call 8 [(.var 2), (.var 3)]), .asg (.var 4) (.ddis (.call 55 [(.var 1), (.var 3)]) (.cst (.bl true))), .asg (.var 5) (.mut (.lst [(.tup [(.var 1), (.var 3), (.lst [])])])), .asg (.var 6) (.cst (.int 0)), ws_separate_0, .ret (.cst .non)]⟩
abbrev i_separate : Nat := 54
/-- relation: one, two, block -/
def ce_relation_0 : IE := (.ite (.cmp .isin (.var 2) (.var 1)) (.mb .index (.var 1) [(.var 2)]) (.cst .non))
def f_relation : Fn := ⟨2, 3, false, [.ret (.bi .tuple [(.comp (.var 2) (.var 0) [] ce_relation_0 [2])])]⟩
abbrev i_relation : Nat := 55
/-- _law_similar: draws, policy, at -/
def f__law_similar : Fn := ⟨2, 3, false, [.asg (.var 2) (.call 20 [(.var 0), (.bi .len [(.var 1)])]), .ret (.bin .add (.bin .add (.sl (.var 1) none (some (.var 2))) (.tup [(.call 22 [(.var 0), (.bi .len [(.var 1)])])])) (.sl (.var 1) (some (.bin .add (.var 2) (.cst (.int 1)))) none))]⟩
abbrev i__law_similar : Nat := 56
/-- _law_shape: one, two, block -/
def ce__law_shape_0 : IE := (.ite (.cmp .isin (.var 2) (.var 1)) (.mb .index (.var 1) [(.var 2)]) (.cst .non))
def f__law_shape : Fn := ⟨2, 3, false, [.ret (.bi .tuple [(.comp (.var 2) (.var 0) [] ce__law_shape_0 [2])])]⟩
abbrev i__law_shape : Nat := 57
/-- _law_shortest: first, one, second, two, layer, seen, length, following, block, after, shape -/
def lb__law_shortest_0 : List IS := [.asg (.var 9) (.tup [(.idx (.call 26 [(.var 0), (.var 1), (.var 8)]) (.cst (.int 0))), (.idx (.call 26 [(.var 2), (.var 3), (.var 8)]) (.cst (.int 0)))]), .asg (.var 10) (.call 57 [(.idx (.var 9) (.cst (.int 0))), (.idx (.var 9) (.cst (.int 1)))]), .ite (.cmp .notin (.var 10) (.var 5)) [.exp (.mb .append (.var 5) [(.var 10)]), .exp (.mb .append (.var 7) [(.var 9)])] []]
def lb__law_shortest_1 : List IS := [.ite (.cmp .ne (.bi .sorted [(.var 1)]) (.bi .sorted [(.var 3)])) [.ret (.var 6)] [], .for_ (.var 8) (.bin .add (.var 1) (.tup [(.bin .add (.bi .max [(.bin .add (.var 1) (.var 3))]) (.cst (.int 1)))])) lb__law_shortest_0]
def wb__law_shortest_0 : List IS := [.asg (.var 7) (.mut (.lst [])), .for_ (.tup [(.var 1), (.var 3)]) (.var 4) lb__law_shortest_1, .par [4, 6] [(.var 7), (.bin .add (.var 6) (.cst (.int 1)))]]
def ws__law_shortest_0 : IS := .whl (.cmp .ne (.var 4) (.lst [])) wb__law_shortest_0
def f__law_shortest : Fn := ⟨4, 11, false, [.par [4, 5, 6] [(.lst [(.tup [(.var 1), (.var 3)])]), (.mut (.lst [(.call 57 [(.var 1), (.var 3)])])), (.cst (.int 1))], ws__law_shortest_0, .ret (.cst .non)]⟩
abbrev i__law_shortest : Nat := 58
/-- law: script, draws, ways, first, second, one, two, expected, found, outcomes -/
def f_law_k04 : Fn := ⟨1, 10, true, [.asg (.var 1) (.call 19 [(.var 0)]), .asg (.var 2) (.bin .add (.cst (.int 2)) (.call 20 [(.var 1), (.cst (.int 3))])), .asg (.var 3) (.call 24 [(.var 1), (.var 2)]), .asg (.var 4) (.call 50 [(.var 1), (.lst [(.var 3), (.call 56 [(.var 1), (.var 3)]), (.call 24 [(.var 1), (.var 2)])])]), .asg (.var 5) (.call 25 [(.var 1), (.var 2), (.bin .add (.var 2) (.cst (.int 2)))]), .asg (.var 6) (.call 50 [(.var 1), (.lst [(.var 5), (.var 5), (.call 25 [(.var 1), (.var 2), (.var 2)]), (.call 25 [(.var 1), (.var 2), (.bin .add (.var 2) (.cst (.int 2)))])])]), .asg (.var 7) (.call 58 [(.var 3), (.var 5), (.var 4), (.var 6)]), .asg (.var 8) (.call 54 [(.var 3), (.var 5), (.var 4), (.var 6)]), .ite (.isn true (.var 7)) [.ret (.isn true (.var 8))] [], .ite (.or (.not (.isi (.var 8) .list)) (.cmp .ne (.bi .len [(.var 8)]) (.var 7))) [.ret (.cst (.bl false))] [], .asg (.var 9) (.lst [(.idx (.call 27 [(.var 3), (.var 5), (.var 8)]) (.cst (.int 0))), (.idx (.call 27 [(.var 4), (.var 6), (.var 8)]) (.cst (.int 0)))]), .ite (.or (.cmp .ne (.sl (.idx (.var 9) (.cst (.int 0))) none (some (.neg (.cst (.int 1))))) (.sl (.idx (.var 9) (.cst (.int 1))) none (some (.neg (.cst (.int 1)))))) (.cmp .eq (.idx (.idx (.var 9) (.cst (.int 0))) (.neg (.cst (.int 1)))) (.idx (.idx (.var 9) (.cst (.int 1))) (.neg (.cst (.int 1)))))) [.ret (.cst (.bl false))] [], .ret (.and (.cmp .eq (.idx (.call 11 [(.var 3), (.var 5), (.var 8)]) (.cst (.int 0))) (.idx (.var 9) (.cst (.int 0)))) (.cmp .eq (.idx (.call 11 [(.var 4), (.var 6), (.var 8)]) (.cst (.int 0))) (.idx (.var 9) (.cst (.int 1)))))]⟩
abbrev i_law_k04 : Nat := 59
/-- are_equal: first, second -/
def f_are_equal : Fn := ⟨2, 2, false, [.exp (.call 52 [(.var 0), (.var 1)]), .ret (.cmp .eq (.var 0) (.var 1))]⟩
abbrev i_are_equal : Nat := 60
/-- matching_states: first, second, state, found, other -/
def lb_matching_states_0 : List IS := [.ite (.isn true (.call 54 [(.var 0), (.var 2), (.var 1), (.var 4)])) [.exp (.mb .append (.var 3) [(.var 4)])] []]
def f_matching_states : Fn := ⟨3, 5, false, [.exp (.call 52 [(.var 0), (.var 1)]), .exp (.call 8 [(.var 0), (.var 2)]), .asg (.var 3) (.mut (.lst [])), .for_ (.var 4) (.call 62 [(.bi .sorted [(.var 2)])]) lb_matching_states_0, .ret (.var 3)]⟩
abbrev i_matching_states : Nat := 61
/-- orders_of: blocks, found, k, block, rest -/
def ce_orders_of_0 : IE := (.bin .add (.tup [(.var 3)]) (.var 4))
def lb_orders_of_0 : List IS := [.aug 1 .add (.comp (.var 4) (.call 62 [(.bin .add (.sl (.var 0) none (some (.var 2))) (.sl (.var 0) (some (.bin .add (.var 2) (.cst (.int 1)))) none))]) [] ce_orders_of_0 [4])]
def f_orders_of : Fn := ⟨1, 5, false, [.ite (.cmp .eq (.var 0) (.lst [])) [.ret (.lst [(.tup [])])] [], .asg (.var 1) (.mut (.lst [])), .for_ (.tup [(.var 2), (.var 3)]) (.enm (.var 0)) lb_orders_of_0, .ret (.var 1)]⟩
abbrev i_orders_of : Nat := 62
/-- _law_orders: items, found, k, rest -/
def ce__law_orders_0 : IE := (.bin .add (.tup [(.idx (.var 0) (.var 2))]) (.var 3))
def lb__law_orders_0 : List IS := [.asg (.var 1) (.bin .add (.var 1) (.comp (.var 3) (.call 63 [(.bin .add (.sl (.var 0) none (some (.var 2))) (.sl (.var 0) (some (.bin .add (.var 2) (.cst (.int 1)))) none))]) [] ce__law_orders_0 [3]))]
def f__law_orders : Fn := ⟨1, 4, false, [.ite (.cmp .eq (.var 0) (.lst [])) [.ret (.lst [(.tup [])])] [], .asg (.var 1) (.lst []), .for_ (.var 2) (.rng1 (.bi .len [(.var 0)])) lb__law_orders_0, .ret (.var 1)]⟩
abbrev i__law_orders : Nat := 63
/-- law: script, draws, ways, first, second, state, separated, matching, other, sequence -/
def ci_law_k05_0 : List IE := [(.isn true (.call 54 [(.var 3), (.var 5), (.var 4), (.var 8)]))]
def ce_law_k05_0 : IE := (.var 8)
def lb_law_k05_0 : List IS := [.asg (.var 9) (.call 28 [(.var 1), (.cst (.int 25)), (.bin .add (.var 2) (.cst (.int 6)))]), .ite (.cmp .ne (.idx (.call 27 [(.var 3), (.var 5), (.var 9)]) (.cst (.int 0))) (.idx (.call 27 [(.var 4), (.var 8), (.var 9)]) (.cst (.int 0)))) [.ret (.cst (.bl false))] []]
def f_law_k05 : Fn := ⟨1, 10, true, [.asg (.var 1) (.call 19 [(.var 0)]), .asg (.var 2) (.bin .add (.cst (.int 2)) (.call 20 [(.var 1), (.cst (.int 2))])), .asg (.var 3) (.call 24 [(.var 1), (.var 2)]), .asg (.var 4) (.call 50 [(.var 1), (.lst [(.var 3), (.call 56 [(.var 1), (.var 3)]), (.call 24 [(.var 1), (.var 2)])])]), .asg (.var 5) (.call 25 [(.var 1), (.var 2), (.bin .add (.var 2) (.cst (.int 3)))]), .ite (.not (.call 21 [(.call 60 [(.var 3), (.var 4)]), (.cmp .eq (.var 3) (.var 4))])) [.ret (.cst (.bl false))] [], .asg (.var 6) (.call 54 [(.var 3), (.var 5), (.var 4), (.var 5)]), .ite (.cmp .ne (.isn true (.var 6)) (.cmp .eq (.var 3) (.var 4))) [.ret (.cst (.bl false))] [], .asg (.var 7) (.comp (.var 8) (.call 63 [(.bi .sorted [(.var 5)])]) ci_law_k05_0 ce_law_k05_0 [8]), .ite (.cmp .ne (.call 61 [(.var 3), (.var 4), (.var 5)]) (.var 7)) [.ret (.cst (.bl false))] [], .ite (.cmp .eq (.var 3) (.var 4)) [.ret (.cmp .eq (.var 7) (.lst [(.var 5)]))] [], .for_ (.var 8) (.var 7) lb_law_k05_0, .ret (.cmp .eq (.var 7) (.lst []))]⟩
abbrev i_law_k05 : Nat := 64
/-- is_entry: value -/
def f_is_entry : Fn := ⟨1, 1, false, [.ite (.or (.not (.isi (.var 0) .tuple)) (.or (.cmp .ne (.bi .len [(.var 0)]) (.cst (.int 2))) (.not (.call 0 [(.idx (.var 0) (.cst (.int 0))), (.cst (.int 0)), (.cst (.int 1000000000))])))) [.ret (.cst (.bl false))] [], .ret (.or (.isn true (.idx (.var 0) (.cst (.int 1)))) (.isi (.idx (.var 0) (.cst (.int 1))) .bool))]⟩
abbrev i_is_entry : Nat := 65
/-- is_log: log, entry, block, outcome -/
def ce_is_log_0 : IE := (.call 65 [(.var 1)])
def ci_is_log_0 : List IE := [(.isn true (.var 3))]
def ce_is_log_1 : IE := (.var 3)
def f_is_log : Fn := ⟨1, 4, false, [.ite (.or (.not (.isi (.var 0) .list)) (.or (.cmp .gt (.bi .len [(.var 0)]) (.cst (.int 200))) (.not (.bi .all [(.comp (.var 1) (.var 0) [] ce_is_log_0 [1])])))) [.ret (.cst (.bl false))] [], .ret (.cmp .le (.bi .len [(.comp (.tup [.var 2, .var 3]) (.var 0) ci_is_log_0 ce_is_log_1 [2, 3])]) (.cst (.int 20)))]⟩
abbrev i_is_log : Nat := 66
/-- check_log: log -/
def f_check_log : Fn := ⟨1, 1, false, [.ite (.not (.call 66 [(.var 0)])) [.rse 6] []]⟩
abbrev i_check_log : Nat := 67
/-- next_partials: policy, partial, block, used, found, position, filled -/
def lb_next_partials_0 : List IS := [.ite (.isn true (.idx (.var 1) (.var 5))) [.asg (.var 6) (.bin .add (.bin .add (.sl (.var 1) none (some (.var 5))) (.tup [(.var 2)])) (.sl (.var 1) (some (.bin .add (.var 5) (.cst (.int 1)))) none)), .exp (.mb .append (.var 4) [(.tup [(.call 9 [(.var 6), (.idx (.var 0) (.var 5))]), (.cst (.bl true))])])] []]
def f_next_partials : Fn := ⟨4, 7, false, [.ite (.cmp .isin (.var 2) (.var 1)) [.ret (.lst [(.tup [(.call 9 [(.var 1), (.idx (.var 0) (.mb .index (.var 1) [(.var 2)]))]), (.cst (.bl true))])])] [], .asg (.var 4) (.mut (.lst [(.tup [(.bin .add (.tup [(.var 2)]) (.sl (.var 1) none (some (.neg (.cst (.int 1)))))), (.cst (.bl false))])])), .ite (.din false (.var 2) (.var 3)) [.for_ (.var 5) (.rng1 (.bi .len [(.var 1)])) lb_next_partials_0] [], .ret (.var 4)]⟩
abbrev i_next_partials : Nat := 68
/-- partials_after: policy, log, states, used, block, outcome, following, partial, after, hit -/
def lb_partials_after_0 : List IS := [.ite (.or (.isn true (.var 5)) (.cmp .eq (.var 5) (.var 9))) [.asg (.didx (.var 6) (.var 8)) (.cst (.bl true))] []]
def lb_partials_after_1 : List IS := [.for_ (.tup [(.var 8), (.var 9)]) (.call 68 [(.var 0), (.var 7), (.var 4), (.var 3)]) lb_partials_after_0]
def lb_partials_after_2 : List IS := [.asg (.var 6) .dnew, .for_ (.var 7) (.dks (.var 2)) lb_partials_after_1, .asg (.var 2) (.var 6), .asg (.didx (.var 3) (.var 4)) (.cst (.bl true))]
def f_partials_after : Fn := ⟨2, 10, false, [.asg (.var 2) (.ddis (.bin .mul (.tup [(.cst .non)]) (.bi .len [(.var 0)])) (.cst (.bl true))), .asg (.var 3) .dnew, .for_ (.tup [(.var 4), (.var 5)]) (.var 1) lb_partials_after_2, .ret (.dls (.var 2))]⟩
abbrev i_partials_after : Nat := 69
/-- sort_key: partial, block -/
def ce_sort_key_0 : IE := (.ite (.isn true (.var 1)) (.neg (.cst (.int 1))) (.var 1))
def f_sort_key : Fn := ⟨1, 2, false, [.ret (.comp (.var 1) (.var 0) [] ce_sort_key_0 [1])]⟩
abbrev i_sort_key : Nat := 70
/-- states_after: policy, log -/
def f_states_after : Fn := ⟨2, 2, false, [.exp (.call 6 [(.var 0)]), .exp (.call 67 [(.var 1)]), .ret .unk]⟩
abbrev i_states_after : Nat := 71
/-- _law_arrangements: items, size, found, k, rest -/
def ce__law_arrangements_0 : IE := (.bin .add (.tup [(.idx (.var 0) (.var 3))]) (.var 4))
def lb__law_arrangements_0 : List IS := [.asg (.var 2) (.bin .add (.var 2) (.comp (.var 4) (.call 72 [(.bin .add (.sl (.var 0) none (some (.var 3))) (.sl (.var 0) (some (.bin .add (.var 3) (.cst (.int 1)))) none)), (.bin .sub (.var 1) (.cst (.int 1)))]) [] ce__law_arrangements_0 [4]))]
def f__law_arrangements : Fn := ⟨2, 5, false, [.ite (.cmp .eq (.var 1) (.cst (.int 0))) [.ret (.lst [(.tup [])])] [], .asg (.var 2) (.lst []), .for_ (.var 3) (.rng1 (.bi .len [(.var 0)])) lb__law_arrangements_0, .ret (.var 2)]⟩
abbrev i__law_arrangements : Nat := 72
/-- _law_partials: policy, log, ways, used, others, found, start, states, state, hidden, fits, k, block, outcome, hit -/
def ce__law_partials_0 : IE := (.bin .sub (.bin .sub (.cst (.int 0)) (.cst (.int 1))) (.var 11))
def ci__law_partials_0 : List IE := [(.cmp .lt (.var 12) (.cst (.int 0)))]
def ce__law_partials_1 : IE := (.var 12)
def lb__law_partials_0 : List IS := [.asg (.var 9) (.comp (.var 12) (.var 6) ci__law_partials_0 ce__law_partials_1 [12]), .ite (.cmp .eq (.var 9) (.sl (.var 4) none (some (.bi .len [(.var 9)])))) [.exp (.mb .append (.var 5) [(.var 6)])] []]
def lb__law_partials_1 : List IS := [.asg (.tup [(.var 8), (.var 14)]) (.call 26 [(.var 0), (.var 8), (.var 12)]), .asg (.var 10) (.and (.var 10) (.or (.isn true (.var 13)) (.cmp .eq (.var 13) (.var 14))))]
def ce__law_partials_2 : IE := (.ite (.cmp .lt (.var 12) (.cst (.int 0))) (.cst .non) (.var 12))
def lb__law_partials_2 : List IS := [.asg (.var 10) (.cst (.bl true)), .for_ (.tup [(.var 12), (.var 13)]) (.var 1) lb__law_partials_1, .ite (.var 10) [.exp (.mb .append (.var 7) [(.bi .tuple [(.comp (.var 12) (.var 8) [] ce__law_partials_2 [12])])])] []]
def f__law_partials : Fn := ⟨2, 15, false, [.asg (.var 2) (.bi .len [(.var 0)]), .asg (.var 3) (.bi .sorted [.unk]), .asg (.var 4) (.comp (.var 11) (.rng1 (.var 2)) [] ce__law_partials_0 [11]), .asg (.var 5) (.mut (.lst [])), .for_ (.var 6) (.call 72 [(.bin .add (.var 3) (.var 4)), (.var 2)]) lb__law_partials_0, .asg (.var 7) (.mut (.lst [])), .for_ (.var 8) (.var 5) lb__law_partials_2, .ret (.var 7)]⟩
abbrev i__law_partials : Nat := 73
/-- _law_log: draws, policy, length, limit, state, log, k, block, hit -/
def ce__law_log_0 : IE := (.ite (.cmp .eq (.call 20 [(.var 0), (.cst (.int 2))]) (.cst (.int 0))) (.bin .add (.var 7) (.cst (.int 10))) (.var 7))
def lb__law_log_0 : List IS := [.asg (.var 7) (.call 20 [(.var 0), (.var 3)]), .asg (.tup [(.var 4), (.var 8)]) (.call 26 [(.var 1), (.var 4), (.var 7)]), .exp (.mb .append (.var 5) [(.tup [(.var 7), (.call 50 [(.var 0), (.lst [(.var 8), (.var 8), (.var 8), (.cst .non), (.cst .non), (.ite (.cmp .gt (.call 20 [(.var 0), (.cst (.int 6))]) (.cst (.int 0))) (.var 8) (.not (.var 8)))])])])])]
def f__law_log : Fn := ⟨4, 9, false, [.asg (.var 4) (.bi .tuple [(.comp (.var 7) (.call 25 [(.var 0), (.bi .len [(.var 1)]), (.bin .add (.var 3) (.cst (.int 2)))]) [] ce__law_log_0 [7])]), .asg (.var 5) (.mut (.lst [])), .for_ (.var 6) (.rng1 (.var 2)) lb__law_log_0, .ret (.var 5)]⟩
abbrev i__law_log : Nat := 74
/-- law: script, draws, ways, policy, log, rows, keys, expected, known, state, key, block, outcome -/
def ce_law_k06_0 : IE := (.ite (.isn true (.var 11)) (.bin .sub (.cst (.int 0)) (.cst (.int 1))) (.var 11))
def ce_law_k06_1 : IE := (.bi .tuple [(.comp (.var 11) (.var 9) [] ce_law_k06_0 [11])])
def ce_law_k06_2 : IE := (.ite (.cmp .lt (.var 11) (.cst (.int 0))) (.cst .non) (.var 11))
def ce_law_k06_3 : IE := (.bi .tuple [(.comp (.var 11) (.var 10) [] ce_law_k06_2 [11])])
def ce_law_k06_4 : IE := (.var 11)
def ci_law_k06_0 : List IE := [(.and (.isn false (.var 11)) (.cmp .notin (.var 11) (.var 8)))]
def ce_law_k06_5 : IE := (.var 11)
def ci_law_k06_1 : List IE := [(.cmp .ne (.comp (.var 11) (.var 9) ci_law_k06_0 ce_law_k06_5 [11]) (.lst []))]
def ce_law_k06_6 : IE := (.var 9)
def f_law_k06 : Fn := ⟨1, 13, true, [.asg (.var 1) (.call 19 [(.var 0)]), .asg (.var 2) (.call 50 [(.var 1), (.lst [(.cst (.int 2)), (.cst (.int 2)), (.cst (.int 3)), (.cst (.int 3)), (.cst (.int 4))])]), .asg (.var 3) (.call 24 [(.var 1), (.var 2)]), .asg (.var 4) (.call 74 [(.var 1), (.var 3), (.call 20 [(.var 1), (.cst (.int 8))]), (.call 50 [(.var 1), (.lst [(.cst (.int 2)), (.cst (.int 3))])])]), .asg (.var 5) (.comp (.var 9) (.call 73 [(.var 3), (.var 4)]) [] ce_law_k06_1 [9]), .asg (.var 6) (.bi .sorted [.unk]), .asg (.var 7) (.comp (.var 10) (.var 6) [] ce_law_k06_3 [10]), .ite (.cmp .ne (.call 71 [(.var 3), (.var 4)]) (.var 7)) [.ret (.cst (.bl false))] [], .ite (.and (.cmp .eq (.var 4) (.lst [])) (.cmp .ne (.var 7) (.lst [(.bin .mul (.tup [(.cst .non)]) (.var 2))]))) [.ret (.cst (.bl false))] [], .asg (.var 8) (.comp (.tup [.var 11, .var 12]) (.var 4) [] ce_law_k06_4 [11, 12]), .ret (.cmp .eq (.comp (.var 9) (.var 7) ci_law_k06_1 ce_law_k06_6 [9]) (.lst []))]⟩
abbrev i_law_k06 : Nat := 75
/-- check_possible: policy, log, states -/
def f_check_possible : Fn := ⟨2, 3, false, [.exp (.call 6 [(.var 0)]), .exp (.call 67 [(.var 1)]), .asg (.var 2) (.call 69 [(.var 0), (.var 1)]), .ite (.cmp .eq (.var 2) (.lst [])) [.rse 6] [], .ret (.var 2)]⟩
abbrev i_check_possible : Nat := 76
/-- surely_cached: policy, log, states, block, state -/
def ce_surely_cached_0 : IE := (.cmp .isin (.var 3) (.var 4))
def ci_surely_cached_0 : List IE := [(.bi .all [(.comp (.var 4) (.var 2) [] ce_surely_cached_0 [4])])]
def ce_surely_cached_1 : IE := (.var 3)
def f_surely_cached : Fn := ⟨2, 5, false, [.asg (.var 2) (.call 76 [(.var 0), (.var 1)]), .ret (.comp (.var 3) (.dst (.call 79 [(.var 1)])) ci_surely_cached_0 ce_surely_cached_1 [3])]⟩
abbrev i_surely_cached : Nat := 77
/-- possibly_cached: policy, log, states, block, state -/
def ce_possibly_cached_0 : IE := (.cmp .isin (.var 3) (.var 4))
def ci_possibly_cached_0 : List IE := [(.bi .any [(.comp (.var 4) (.var 2) [] ce_possibly_cached_0 [4])])]
def ce_possibly_cached_1 : IE := (.var 3)
def f_possibly_cached : Fn := ⟨2, 5, false, [.asg (.var 2) (.call 76 [(.var 0), (.var 1)]), .ret (.comp (.var 3) (.dst (.call 79 [(.var 1)])) ci_possibly_cached_0 ce_possibly_cached_1 [3])]⟩
abbrev i_possibly_cached : Nat := 78
/-- accessed: log, block, outcome -/
def f_accessed : Fn := ⟨1, 3, true, [.ret (.dcmp (.tup [.var 1, .var 2]) (.var 0) (.var 1) (.cst (.bl true)) [1, 2])]⟩
abbrev i_accessed : Nat := 79
/-- forecast: policy, log, block, states, used, outcomes, state, after, hit -/
def lb_forecast_0 : List IS := [.asg (.didx (.var 5) (.var 8)) (.cst (.bl true))]
def lb_forecast_1 : List IS := [.for_ (.tup [(.var 7), (.var 8)]) (.call 68 [(.var 0), (.var 6), (.var 2), (.var 4)]) lb_forecast_0]
def f_forecast : Fn := ⟨3, 9, false, [.asg (.var 3) (.call 76 [(.var 0), (.var 1)]), .exp (.call 1 [(.var 2)]), .asg (.var 4) (.call 79 [(.var 1)]), .asg (.var 5) .dnew, .for_ (.var 6) (.var 3) lb_forecast_1, .ret (.dst (.var 5))]⟩
abbrev i_forecast : Nat := 80
/-- known_state: policy, log, states -/
def f_known_state : Fn := ⟨2, 3, false, [.asg (.var 2) (.call 76 [(.var 0), (.var 1)]), .ret (.ite (.and (.cmp .eq (.bi .len [(.var 2)]) (.cst (.int 1))) (.cmp .notin (.cst .non) (.idx (.var 2) (.cst (.int 0))))) (.idx (.var 2) (.cst (.int 0))) (.cst .non))]⟩
abbrev i_known_state : Nat := 81
/-- _law_error: caught, kinds -/
def f__law_error : Fn := ⟨1, 2, false, [.asg (.var 1) (.lst [(.isi (.var 0) (.exc 1)), (.isi (.var 0) (.exc 2)), (.isi (.var 0) (.exc 3))]), .asg (.var 1) (.bin .add (.var 1) (.lst [(.isi (.var 0) (.exc 6)), (.isi (.var 0) (.exc 7)), (.isi (.var 0) (.exc 8))])), .asg (.var 1) (.bin .add (.var 1) (.lst [(.isi (.var 0) (.exc 9))])), .ite (.or (.cmp .ne (.mb .count (.var 1) [(.cst (.bl true))]) (.cst (.int 1))) (.or (.not (.isi (.var 0) (.exc 0))) (.not (.isi (.var 0) .verr)))) [.ret (.cst (.str [111, 100, 100]))] [], .ret (.idx (.lst [(.cst (.str [112, 111, 108, 105, 99, 121])), (.cst (.str [115, 116, 97, 116, 101])), (.cst (.str [97, 99, 99, 101, 115, 115])), (.cst (.str [108, 111, 103])), (.cst (.str [99, 101, 114, 116, 105, 102, 105, 99, 97, 116, 101])), (.cst (.str [116, 101, 120, 116])), (.cst (.str [110, 111, 110, 101]))]) (.mb .index (.var 1) [(.cst (.bl true))]))]⟩
abbrev i__law_error : Nat := 82
/-- _law_asked: kind, policy, log, block, found, caught, e -/
def f__law_asked : Fn := ⟨4, 7, false, [.asg (.var 4) (.cst .non), .asg (.var 5) (.cst .non), .tryc [.ite (.cmp .eq (.var 0) (.cst (.int 0))) [.asg (.var 4) (.call 77 [(.var 1), (.var 2)])] [.ite (.cmp .eq (.var 0) (.cst (.int 1))) [.asg (.var 4) (.call 78 [(.var 1), (.var 2)])] [.ite (.cmp .eq (.var 0) (.cst (.int 2))) [.asg (.var 4) (.call 81 [(.var 1), (.var 2)])] [.asg (.var 4) (.call 80 [(.var 1), (.var 2), (.var 3)])]]]] 0 6 5, .ret (.ite (.isn true (.var 5)) (.var 4) (.call 82 [(.var 5)]))]⟩
abbrev i__law_asked : Nat := 83
/-- _law_next: draws, policy, log, states, block, known, limit, outcomes, outcome, sequence, due, k, hit, item -/
def lb__law_next_0 : List IS := [.ite (.cmp .ne (.call 71 [(.var 1), (.bin .add (.var 2) (.lst [(.tup [(.var 4), (.var 8)])]))]) (.lst [])) [.exp (.mb .append (.var 7) [(.var 8)])] []]
def ce__law_next_0 : IE := (.tup [(.var 13), (.cst .non)])
def ce__law_next_1 : IE := (.call 83 [(.cst (.int 3)), (.var 1), (.bin .add (.var 2) (.comp (.var 13) (.sl (.var 9) none (some (.var 11))) [] ce__law_next_0 [13])), (.idx (.var 9) (.var 11))])
def ce__law_next_2 : IE := (.lst [(.var 12)])
def f__law_next : Fn := ⟨7, 14, false, [.asg (.var 7) (.mut (.lst [])), .for_ (.var 8) (.lst [(.cst (.bl false)), (.cst (.bl true))]) lb__law_next_0, .ite (.or (.cmp .ne (.call 83 [(.cst (.int 3)), (.var 1), (.var 2), (.var 4)]) (.var 7)) (.cmp .eq (.var 7) (.lst []))) [.ret (.cst (.bl false))] [], .ite (.isn true (.var 5)) [.ret (.cst (.bl true))] [], .asg (.var 9) (.call 28 [(.var 0), (.cst (.int 10)), (.bin .add (.var 6) (.cst (.int 2)))]), .asg (.var 10) (.idx (.call 27 [(.var 1), (.var 5), (.var 9)]) (.cst (.int 0))), .ret (.cmp .eq (.comp (.var 11) (.rng1 (.cst (.int 10))) [] ce__law_next_1 [11]) (.comp (.var 12) (.var 10) [] ce__law_next_2 [12]))]⟩
abbrev i__law_next : Nat := 84
/-- law: script, draws, ways, policy, limit, state, log, k, states, block, used, known, hit, item, outcome, s -/
def ce_law_k07_0 : IE := (.bin .add (.var 9) (.cst (.int 20)))
def lb_law_k07_0 : List IS := [.asg (.var 9) (.call 20 [(.var 1), (.var 4)]), .asg (.tup [(.var 5), (.var 12)]) (.call 26 [(.var 3), (.var 5), (.var 9)]), .exp (.mb .append (.var 6) [(.tup [(.var 9), (.call 50 [(.var 1), (.lst [(.var 12), (.cst .non), (.ite (.cmp .gt (.call 20 [(.var 1), (.cst (.int 9))]) (.cst (.int 0))) (.var 12) (.not (.var 12)))])])])])]
def ce_law_k07_1 : IE := (.call 83 [(.var 7), (.var 3), (.var 6), (.var 9)])
def ci_law_k07_0 : List IE := [(.cmp .notin (.var 13) (.var 15))]
def ce_law_k07_2 : IE := (.var 15)
def ci_law_k07_1 : List IE := [(.cmp .eq (.comp (.var 15) (.var 8) ci_law_k07_0 ce_law_k07_2 [15]) (.lst []))]
def ce_law_k07_3 : IE := (.var 13)
def ci_law_k07_2 : List IE := [(.cmp .isin (.var 13) (.var 15))]
def ce_law_k07_4 : IE := (.var 15)
def ci_law_k07_3 : List IE := [(.cmp .ne (.comp (.var 15) (.var 8) ci_law_k07_2 ce_law_k07_4 [15]) (.lst []))]
def ce_law_k07_5 : IE := (.var 13)
def f_law_k07 : Fn := ⟨1, 16, true, [.asg (.var 1) (.call 19 [(.var 0)]), .asg (.var 2) (.bin .add (.cst (.int 2)) (.call 20 [(.var 1), (.cst (.int 3))])), .asg (.var 3) (.call 24 [(.var 1), (.var 2)]), .asg (.var 4) (.bin .add (.var 2) (.call 20 [(.var 1), (.cst (.int 3))])), .asg (.var 5) (.bi .tuple [(.comp (.var 9) (.call 25 [(.var 1), (.var 2), (.var 4)]) [] ce_law_k07_0 [9])]), .ite (.cmp .eq (.call 20 [(.var 1), (.cst (.int 2))]) (.cst (.int 0))) [.asg (.var 5) (.call 25 [(.var 1), (.var 2), (.var 4)])] [], .asg (.var 6) (.mut (.lst [])), .for_ (.var 7) (.rng1 (.call 20 [(.var 1), (.cst (.int 12))])) lb_law_k07_0, .asg (.var 8) (.call 71 [(.var 3), (.var 6)]), .asg (.var 9) (.call 20 [(.var 1), (.bin .add (.var 4) (.cst (.int 2)))]), .ite (.cmp .eq (.var 8) (.lst [])) [.ret (.cmp .eq (.comp (.var 7) (.rng1 (.cst (.int 4))) [] ce_law_k07_1 [7]) (.bin .mul (.lst [(.cst (.str [108, 111, 103]))]) (.cst (.int 4))))] [], .asg (.var 10) (.bi .sorted [.unk]), .ite (.cmp .ne (.call 83 [(.cst (.int 0)), (.var 3), (.var 6), (.var 9)]) (.comp (.var 13) (.var 10) ci_law_k07_1 ce_law_k07_3 [13])) [.ret (.cst (.bl false))] [], .ite (.cmp .ne (.call 83 [(.cst (.int 1)), (.var 3), (.var 6), (.var 9)]) (.comp (.var 13) (.var 10) ci_law_k07_3 ce_law_k07_5 [13])) [.ret (.cst (.bl false))] [], .asg (.var 11) (.ite (.and (.cmp .eq (.bi .len [(.var 8)]) (.cst (.int 1))) (.cmp .notin (.cst .non) (.idx (.var 8) (.cst (.int 0))))) (.idx (.var 8) (.cst (.int 0))) (.cst .non)), .ite (.cmp .ne (.call 83 [(.cst (.int 2)), (.var 3), (.var 6), (.var 9)]) (.var 11)) [.ret (.cst (.bl false))] [], .ret (.call 84 [(.var 1), (.var 3), (.var 6), (.var 8), (.var 9), (.var 11), (.var 4)])]⟩
abbrev i_law_k07 : Nat := 85
/-- moved_target: permutation, target, olds, old -/
def ce_moved_target_0 : IE := (.idx (.var 0) (.var 3))
def f_moved_target : Fn := ⟨3, 4, false, [.ret (.tup [(.idx (.var 0) (.var 1)), (.bi .tuple [(.bi .sorted [(.comp (.var 3) (.var 2) [] ce_moved_target_0 [3])])])])]⟩
abbrev i_moved_target : Nat := 86
/-- resistance: policy, target, olds, memory, key, best, old, rest, others, after, moved, other -/
def ci_resistance_0 : List IE := [(.cmp .lt (.var 6) (.bin .sub (.bi .len [(.var 0)]) (.cst (.int 1))))]
def ce_resistance_0 : IE := (.bin .add (.var 6) (.cst (.int 1)))
def ci_resistance_1 : List IE := [(.cmp .ne (.var 11) (.var 6))]
def ce_resistance_1 : IE := (.var 11)
def lb_resistance_0 : List IS := [.asg (.var 8) (.bi .tuple [(.comp (.var 11) (.var 2) ci_resistance_1 ce_resistance_1 [11])]), .asg (.tup [(.var 9), (.var 10)]) (.call 86 [(.idx (.var 0) (.var 6)), (.var 1), (.var 8)]), .asg (.var 5) (.bi .max [(.var 5), (.bin .add (.cst (.int 1)) (.call 87 [(.var 0), (.var 9), (.var 10), (.var 3)]))])]
def f_resistance : Fn := ⟨4, 12, false, [.asg (.var 4) (.tup [(.var 1), (.var 2)]), .ite (.din false (.var 4) (.var 3)) [.asg (.var 5) (.cst (.int 0)), .ite (.cmp .lt (.var 1) (.bin .sub (.bi .len [(.var 0)]) (.cst (.int 1)))) [.asg (.var 7) (.bi .tuple [(.comp (.var 6) (.var 2) ci_resistance_0 ce_resistance_0 [6])]), .asg (.var 5) (.bin .add (.cst (.int 1)) (.call 87 [(.var 0), (.bin .add (.var 1) (.cst (.int 1))), (.var 7), (.var 3)]))] [], .for_ (.var 6) (.var 2) lb_resistance_0, .asg (.didx (.var 3) (.var 4)) (.var 5)] [], .ret (.didx (.var 3) (.var 4))]⟩
abbrev i_resistance : Nat := 87
/-- starts: policy, ways, target, p -/
def ci_starts_0 : List IE := [(.cmp .ne (.var 3) (.var 2))]
def ce_starts_0 : IE := (.var 3)
def ce_starts_1 : IE := (.tup [(.var 2), (.bi .tuple [(.comp (.var 3) (.rng1 (.var 1)) ci_starts_0 ce_starts_0 [3])])])
def f_starts : Fn := ⟨1, 4, false, [.asg (.var 1) (.bi .len [(.var 0)]), .ret (.comp (.var 2) (.rng1 (.var 1)) [] ce_starts_1 [2])]⟩
abbrev i_starts : Nat := 88
/-- eviction_bound: policy, memory, target, olds -/
def ce_eviction_bound_0 : IE := (.call 87 [(.var 0), (.var 2), (.var 3), (.var 1)])
def f_eviction_bound : Fn := ⟨1, 4, false, [.exp (.call 6 [(.var 0)]), .asg (.var 1) .dnew, .ret (.bin .add (.cst (.int 1)) (.bi .max [(.comp (.tup [.var 2, .var 3]) (.call 88 [(.var 0)]) [] ce_eviction_bound_0 [2, 3])]))]⟩
abbrev i_eviction_bound : Nat := 89
/-- longest_resistance: policy, memory, best, target, olds, first, row, rest, old, start, others, after, moved, other -/
def ce_longest_resistance_0 : IE := (.call 87 [(.var 0), (.var 3), (.var 4), (.var 1)])
def ci_longest_resistance_0 : List IE := [(.cmp .eq (.call 87 [(.var 0), (.idx (.var 9) (.cst (.int 0))), (.idx (.var 9) (.cst (.int 1))), (.var 1)]) (.var 2))]
def ce_longest_resistance_1 : IE := (.var 9)
def ci_longest_resistance_1 : List IE := [(.cmp .lt (.var 8) (.bin .sub (.bi .len [(.var 0)]) (.cst (.int 1))))]
def ce_longest_resistance_2 : IE := (.bin .add (.var 8) (.cst (.int 1)))
def ci_longest_resistance_2 : List IE := [(.cmp .ne (.var 13) (.var 8))]
def ce_longest_resistance_3 : IE := (.var 13)
def lb_longest_resistance_0 : List IS := [.asg (.var 10) (.bi .tuple [(.comp (.var 13) (.var 4) ci_longest_resistance_2 ce_longest_resistance_3 [13])]), .asg (.tup [(.var 11), (.var 12)]) (.call 86 [(.idx (.var 0) (.var 8)), (.var 3), (.var 10)]), .ite (.cmp .eq (.call 87 [(.var 0), (.var 11), (.var 12), (.var 1)]) (.var 2)) [.exp (.mb .append (.var 6) [(.var 8)]), .par [3, 4] [(.var 11), (.var 12)], .brk] []]
def wb_longest_resistance_0 : List IS := [.aug 2 .sub (.cst (.int 1)), .asg (.var 7) (.bi .tuple [(.comp (.var 8) (.var 4) ci_longest_resistance_1 ce_longest_resistance_2 [8])]), .ite (.and (.cmp .lt (.var 3) (.bin .sub (.bi .len [(.var 0)]) (.cst (.int 1)))) (.cmp .eq (.call 87 [(.var 0), (.bin .add (.var 3) (.cst (.int 1))), (.var 7), (.var 1)]) (.var 2))) [.exp (.mb .append (.var 6) [(.cst .non)]), .par [3, 4] [(.bin .add (.var 3) (.cst (.int 1))), (.var 7)]] [.for_ (.var 8) (.var 4) lb_longest_resistance_0]]
def ws_longest_resistance_0 : IS := .whl (.cmp .gt (.var 2) (.cst (.int 0))) wb_longest_resistance_0
def f_longest_resistance : Fn := ⟨1, 14, false, [.exp (.call 6 [(.var 0)]), .asg (.var 1) .dnew, .asg (.var 2) (.bi .max [(.comp (.tup [.var 3, .var 4]) (.call 88 [(.var 0)]) [] ce_longest_resistance_0 [3, 4])]), .asg (.tup [(.var 3), (.var 4)]) (.idx (.comp (.var 9) (.call 88 [(.var 0)]) ci_longest_resistance_0 ce_longest_resistance_1 [9]) (.cst (.int 0))), .par [5, 6] [(.var 3), (.mut (.lst []))], ws_longest_resistance_0, .ret (.tup [(.var 5), (.var 6)])]⟩
abbrev i_longest_resistance : Nat := 90
/-- _law_survives: policy, state, memory, key, best, block, after, item -/
def ce__law_survives_0 : IE := (.ite (.cmp .ge (.var 5) (.cst (.int 0))) (.var 5) (.bin .sub (.cst (.int 0)) (.cst (.int 1))))
def ce__law_survives_1 : IE := (.ite (.cmp .lt (.var 5) (.cst (.int 2))) (.var 5) (.cst (.int 1)))
def ci__law_survives_0 : List IE := [(.cmp .gt (.var 7) (.cst (.int 0)))]
def ce__law_survives_2 : IE := (.var 7)
def ce__law_survives_3 : IE := (.ite (.cmp .eq (.var 7) (.var 5)) (.bin .sub (.cst (.int 0)) (.cst (.int 1))) (.var 7))
def lb__law_survives_0 : List IS := [.ite (.cmp .gt (.var 5) (.cst (.int 0))) [.asg (.var 6) (.idx (.call 26 [(.var 0), (.var 1), (.var 5)]) (.cst (.int 0))), .asg (.var 6) (.bi .tuple [(.comp (.var 7) (.var 6) [] ce__law_survives_3 [7])])] [.asg (.var 6) (.bin .add (.tup [(.bin .sub (.cst (.int 0)) (.cst (.int 1)))]) (.sl (.var 1) none (some (.neg (.cst (.int 1))))))], .ite (.cmp .isin (.cst (.int 0)) (.var 6)) [.asg (.var 4) (.bi .max [(.var 4), (.bin .add (.cst (.int 1)) (.call 91 [(.var 0), (.var 6), (.var 2)]))])] []]
def f__law_survives : Fn := ⟨3, 8, false, [.asg (.var 3) (.bi .tuple [(.comp (.var 5) (.var 1) [] ce__law_survives_0 [5])]), .asg (.var 3) (.bi .tuple [(.comp (.var 5) (.var 3) [] ce__law_survives_1 [5])]), .ite (.din true (.var 3) (.var 2)) [.ret (.didx (.var 2) (.var 3))] [], .asg (.var 4) (.cst (.int 0)), .for_ (.var 5) (.bin .add (.comp (.var 7) (.var 1) ci__law_survives_0 ce__law_survives_2 [7]) (.lst [(.bin .sub (.cst (.int 0)) (.cst (.int 1)))])) lb__law_survives_0, .asg (.didx (.var 2) (.var 3)) (.var 4), .ret (.var 4)]⟩
abbrev i__law_survives : Nat := 91
/-- law: script, draws, ways, policy, best, at, state, old, sequence, k, start, moves, block, hit, p -/
def ce_law_k08_0 : IE := (.ite (.cmp .eq (.var 14) (.var 5)) (.cst (.int 0)) (.bin .add (.var 14) (.cst (.int 1))))
def lb_law_k08_0 : List IS := [.asg (.var 6) (.bi .tuple [(.comp (.var 14) (.rng1 (.var 2)) [] ce_law_k08_0 [14])]), .asg (.var 4) (.bi .max [(.var 4), (.call 91 [(.var 3), (.var 6), .dnew])])]
def ce_law_k08_1 : IE := (.ite (.cmp .eq (.var 14) (.var 10)) (.cst (.int 100)) (.var 14))
def ci_law_k08_0 : List IE := [(.cmp .ne (.var 12) (.cst (.int 100)))]
def ce_law_k08_2 : IE := (.var 12)
def lb_law_k08_1 : List IS := [.asg (.var 12) (.ite (.isn true (.idx (.var 11) (.var 9))) (.bin .add (.cst (.int 200)) (.var 9)) (.idx (.var 6) (.idx (.var 11) (.var 9)))), .ite (.isn false (.idx (.var 11) (.var 9))) [.ite (.cmp .notin (.var 12) (.var 7)) [.ret (.cst (.bl false))] [], .exp .unk] [], .exp (.mb .append (.var 8) [(.var 12)]), .asg (.tup [(.var 6), (.var 13)]) (.call 26 [(.var 3), (.var 6), (.var 12)]), .ite (.cmp .ne (.var 13) (.isn false (.idx (.var 11) (.var 9)))) [.ret (.cst (.bl false))] []]
def f_law_k08 : Fn := ⟨1, 15, true, [.asg (.var 1) (.call 19 [(.var 0)]), .asg (.var 2) (.bin .add (.cst (.int 2)) (.call 20 [(.var 1), (.cst (.int 3))])), .asg (.var 3) (.call 24 [(.var 1), (.var 2)]), .asg (.var 4) (.cst (.int 0)), .for_ (.var 5) (.rng1 (.var 2)) lb_law_k08_0, .ite (.cmp .ne (.call 89 [(.var 3)]) (.bin .add (.var 4) (.cst (.int 1)))) [.ret (.cst (.bl false))] [], .asg (.tup [(.var 10), (.var 11)]) (.call 90 [(.var 3)]), .ite (.or (.not (.chn .le .lt (.cst (.int 0)) (.var 10) (.var 2))) (.cmp .ne (.bi .len [(.var 11)]) (.var 4))) [.ret (.cst (.bl false))] [], .asg (.var 6) (.bi .tuple [(.comp (.var 14) (.rng1 (.var 2)) [] ce_law_k08_1 [14])]), .asg (.var 7) (.mut (.comp (.var 12) (.var 6) ci_law_k08_0 ce_law_k08_2 [12])), .asg (.var 8) (.mut (.lst [])), .for_ (.var 9) (.rng1 (.bi .len [(.var 11)])) lb_law_k08_1, .ret (.and (.cmp .isin (.cst (.int 100)) (.var 6)) (.and (.cmp .eq (.bi .len [.unk]) (.bi .len [(.var 8)])) (.cmp .notin (.cst (.int 100)) (.var 8))))]⟩
abbrev i_law_k08 : Nat := 92
/-- aged: partial, permutation, moved, position, target -/
def lb_aged_0 : List IS := [.asg (.idx (.var 2) (.var 4)) (.idx (.var 0) (.var 3))]
def f_aged : Fn := ⟨2, 5, false, [.asg (.var 2) (.mut (.bin .mul (.lst [(.cst .non)]) (.bi .len [(.var 0)]))), .for_ (.tup [(.var 3), (.var 4)]) (.enm (.var 1)) lb_aged_0, .ret (.bi .tuple [(.var 2)])]⟩
abbrev i_aged : Nat := 93
/-- age_states: policy, count, states, number, following, partial, position, filled -/
def lb_age_states_0 : List IS := [.ite (.isn true (.idx (.var 5) (.var 6))) [.asg (.var 7) (.bin .add (.bin .add (.sl (.var 5) none (some (.var 6))) (.tup [(.var 3)])) (.sl (.var 5) (some (.bin .add (.var 6) (.cst (.int 1)))) none)), .asg (.didx (.var 4) (.call 93 [(.var 7), (.idx (.var 0) (.var 6))])) (.cst (.bl true))] []]
def lb_age_states_1 : List IS := [.asg (.didx (.var 4) (.bin .add (.tup [(.var 3)]) (.sl (.var 5) none (some (.neg (.cst (.int 1))))))) (.cst (.bl true)), .for_ (.var 6) (.rng1 (.bi .len [(.var 5)])) lb_age_states_0]
def lb_age_states_2 : List IS := [.asg (.var 4) .dnew, .for_ (.var 5) (.dks (.var 2)) lb_age_states_1, .asg (.var 2) (.var 4)]
def f_age_states : Fn := ⟨2, 8, false, [.asg (.var 2) (.ddis (.bin .mul (.tup [(.cst .non)]) (.bi .len [(.var 0)])) (.cst (.bl true))), .for_ (.var 3) (.rng1 (.var 1)) lb_age_states_2, .ret (.dls (.var 2))]⟩
abbrev i_age_states : Nat := 94
/-- known_bound: policy, count, states -/
def wb_known_bound_0 : List IS := [.asg (.var 2) (.call 94 [(.var 0), (.var 1)]), .ite (.and (.cmp .eq (.bi .len [(.var 2)]) (.cst (.int 1))) (.cmp .notin (.cst .non) (.idx (.var 2) (.cst (.int 0))))) [.ret (.var 1)] [], .aug 1 .add (.cst (.int 1))]
def ws_known_bound_0 : IS := .whl (.cst (.bl true)) wb_known_bound_0
def f_known_bound : Fn := ⟨1, 3, false, [.exp (.call 6 [(.var 0)]), .asg (.var 1) (.bi .len [(.var 0)]), ws_known_bound_0]⟩
abbrev i_known_bound : Nat := 95
/-- known_order: policy -/
def f_known_order : Fn := ⟨1, 1, false, [.ret (.idx (.call 94 [(.var 0), (.call 95 [(.var 0)])]) (.cst (.int 0)))]⟩
abbrev i_known_order : Nat := 96
/-- _law_after: policy, count, states, number, following, state, options, at, one, filled -/
def lb__law_after_0 : List IS := [.ite (.isn true (.idx (.var 5) (.var 7))) [.asg (.var 9) (.bin .add (.bin .add (.sl (.var 5) none (some (.var 7))) (.tup [(.var 3)])) (.sl (.var 5) (some (.bin .add (.var 7) (.cst (.int 1)))) none)), .exp (.mb .append (.var 6) [(.idx (.call 26 [(.var 0), (.var 9), (.var 3)]) (.cst (.int 0)))])] []]
def lb__law_after_1 : List IS := [.ite (.cmp .notin (.var 8) (.var 4)) [.exp (.mb .append (.var 4) [(.var 8)])] []]
def lb__law_after_2 : List IS := [.asg (.var 6) (.mut (.lst [(.bin .add (.tup [(.var 3)]) (.sl (.var 5) none (some (.neg (.cst (.int 1))))))])), .for_ (.var 7) (.rng1 (.bi .len [(.var 5)])) lb__law_after_0, .for_ (.var 8) (.var 6) lb__law_after_1]
def lb__law_after_3 : List IS := [.asg (.var 4) (.mut (.lst [])), .for_ (.var 5) (.var 2) lb__law_after_2, .asg (.var 2) (.var 4)]
def f__law_after : Fn := ⟨2, 10, false, [.asg (.var 2) (.lst [(.bin .mul (.tup [(.cst .non)]) (.bi .len [(.var 0)]))]), .for_ (.var 3) (.rng1 (.var 1)) lb__law_after_3, .ret (.var 2)]⟩
abbrev i__law_after : Nat := 97
/-- law: script, draws, ways, policy, bound, states, shorter, state, order, final, numbers, block -/
def ce_law_k09_0 : IE := (.mb .index (.var 8) [(.var 11)])
def ce_law_k09_1 : IE := (.tup [(.var 11), (.cst .non)])
def f_law_k09 : Fn := ⟨1, 12, true, [.asg (.var 1) (.call 19 [(.var 0)]), .asg (.var 2) (.bin .add (.cst (.int 2)) (.call 20 [(.var 1), (.cst (.int 3))])), .asg (.var 3) (.call 24 [(.var 1), (.var 2)]), .asg (.var 4) (.call 95 [(.var 3)]), .ite (.or (.not (.isi (.var 4) .int)) (.or (.cmp .lt (.var 4) (.var 2)) (.cmp .gt (.var 4) (.bin .add (.bin .mul (.var 2) (.var 2)) (.var 2))))) [.ret (.cst (.bl false))] [], .asg (.var 5) (.call 97 [(.var 3), (.var 4)]), .ite (.or (.cmp .ne (.bi .len [(.var 5)]) (.cst (.int 1))) (.or (.cmp .isin (.cst .non) (.idx (.var 5) (.cst (.int 0)))) (.cmp .ne (.call 96 [(.var 3)]) (.idx (.var 5) (.cst (.int 0)))))) [.ret (.cst (.bl false))] [], .asg (.var 6) (.call 97 [(.var 3), (.bin .sub (.var 4) (.cst (.int 1)))]), .ite (.and (.cmp .eq (.bi .len [(.var 6)]) (.cst (.int 1))) (.cmp .notin (.cst .non) (.idx (.var 6) (.cst (.int 0))))) [.ret (.cst (.bl false))] [], .ite (.or (.cmp .gt (.var 4) (.bin .add (.call 89 [(.var 3)]) (.var 2))) (.cmp .lt (.var 4) (.call 89 [(.var 3)]))) [.ret (.cst (.bl false))] [], .asg (.var 7) (.call 25 [(.var 1), (.var 2), (.bin .add (.var 4) (.var 2))]), .asg (.var 8) (.call 22 [(.var 1), (.var 4)]), .asg (.var 9) (.idx (.call 27 [(.var 3), (.var 7), (.bi .list [(.var 8)])]) (.cst (.int 1))), .ite (.cmp .ne (.comp (.var 11) (.var 9) [] ce_law_k09_0 [11]) (.bi .list [(.call 96 [(.var 3)])])) [.ret (.cst (.bl false))] [], .ite (.cmp .ne (.call 81 [(.var 3), (.comp (.var 11) (.var 8) [] ce_law_k09_1 [11])]) (.var 9)) [.ret (.cst (.bl false))] [], .asg (.var 10) (.lst [(.call 89 [(.call 31 [(.var 2)])]), (.call 95 [(.call 31 [(.var 2)])]), (.call 89 [(.call 32 [(.var 2)])]), (.call 95 [(.call 32 [(.var 2)])])]), .ret (.and (.cmp .eq (.var 10) (.lst [(.var 2), (.var 2), (.bin .sub (.bin .mul (.cst (.int 2)) (.var 2)) (.cst (.int 1))), (.bin .sub (.bin .mul (.cst (.int 3)) (.var 2)) (.cst (.int 1)))])) (.cmp .eq (.tup [(.call 89 [(.call 33 [])]), (.call 95 [(.call 33 [])])]) (.tup [(.cst (.int 5)), (.cst (.int 7))])))]⟩
abbrev i_law_k09 : Nat := 98
/-- step_pair: first, second, pair, move, ways, one, two, j, block, kind, position, i, missed_one, missed_two, item -/
def lb_step_pair_0 : List IS := [.ite (.isn false (.var 7)) [.asg (.idx (.var 6) (.var 7)) (.var 11)] []]
def lb_step_pair_1 : List IS := [.ite (.isn true (.idx (.var 6) (.var 7))) [.asg (.idx (.var 6) (.var 7)) (.bin .add (.var 4) (.var 7))] []]
def ce_step_pair_0 : IE := (.ite (.cmp .isin (.var 14) (.var 6)) (.mb .index (.var 6) [(.var 14)]) (.cst .non))
def f_step_pair : Fn := ⟨4, 15, false, [.asg (.tup [(.var 9), (.var 10)]) (.var 3), .asg (.var 4) (.bi .len [(.var 2)]), .asg (.var 5) (.bi .list [(.rng1 (.var 4))]), .asg (.var 6) (.mut (.bin .mul (.lst [(.cst .non)]) (.var 4))), .for_ (.tup [(.var 11), (.var 7)]) (.enm (.var 2)) lb_step_pair_0, .for_ (.var 7) (.rng1 (.var 4)) lb_step_pair_1, .asg (.var 8) (.ite (.cmp .eq (.var 9) (.cst (.str [110, 101, 119]))) (.bin .mul (.cst (.int 2)) (.var 4)) (.ite (.cmp .eq (.var 9) (.cst (.str [115, 101, 99, 111, 110, 100]))) (.bin .add (.var 4) (.var 10)) (.var 10))), .asg (.tup [(.var 5), (.var 12)]) (.call 100 [(.var 0), (.var 5), (.var 8)]), .asg (.tup [(.var 6), (.var 13)]) (.call 100 [(.var 1), (.var 6), (.var 8)]), .ret (.tup [(.bi .tuple [(.comp (.var 14) (.var 5) [] ce_step_pair_0 [14])]), (.var 12), (.var 13)])]⟩
abbrev i_step_pair : Nat := 99
/-- after_access: policy, state, block, moved, position, target -/
def lb_after_access_0 : List IS := [.asg (.idx (.var 3) (.var 5)) (.idx (.var 1) (.var 4))]
def f_after_access : Fn := ⟨3, 6, false, [.ite (.cmp .isin (.var 2) (.var 1)) [.asg (.var 3) (.mut (.bin .mul (.lst [(.cst .non)]) (.bi .len [(.var 1)]))), .for_ (.tup [(.var 4), (.var 5)]) (.enm (.idx (.var 0) (.mb .index (.var 1) [(.var 2)]))) lb_after_access_0, .ret (.tup [(.var 3), (.cst (.int 0))])] [], .ret (.tup [(.bin .add (.lst [(.var 2)]) (.sl (.var 1) none (some (.neg (.cst (.int 1)))))), (.cst (.int 1))])]⟩
abbrev i_after_access : Nat := 100
/-- moves_of: pair, ways, found, i, j -/
def lb_moves_of_0 : List IS := [.exp (.mb .append (.var 2) [(.tup [(.ite (.isn true (.var 4)) (.cst (.str [102, 105, 114, 115, 116])) (.cst (.str [98, 111, 116, 104]))), (.var 3)])])]
def ci_moves_of_0 : List IE := [(.cmp .notin (.var 4) (.var 0))]
def ce_moves_of_0 : IE := (.tup [(.cst (.str [115, 101, 99, 111, 110, 100])), (.var 4)])
def f_moves_of : Fn := ⟨1, 5, false, [.asg (.var 1) (.bi .len [(.var 0)]), .asg (.var 2) (.mut (.lst [(.tup [(.cst (.str [110, 101, 119])), (.cst .non)])])), .for_ (.tup [(.var 3), (.var 4)]) (.enm (.var 0)) lb_moves_of_0, .ret (.bin .add (.var 2) (.comp (.var 4) (.rng1 (.var 1)) ci_moves_of_0 ce_moves_of_0 [4]))]⟩
abbrev i_moves_of : Nat := 101
/-- all_pairs: first, second, start, seen, queue, at, move, after -/
def lb_all_pairs_0 : List IS := [.asg (.var 7) (.idx (.call 99 [(.var 0), (.var 1), (.idx (.var 4) (.var 5)), (.var 6)]) (.cst (.int 0))), .ite (.din false (.var 7) (.var 3)) [.asg (.didx (.var 3) (.var 7)) (.cst (.bl true)), .exp (.mb .append (.var 4) [(.var 7)])] []]
def wb_all_pairs_0 : List IS := [.for_ (.var 6) (.call 101 [(.idx (.var 4) (.var 5))]) lb_all_pairs_0, .aug 5 .add (.cst (.int 1))]
def ws_all_pairs_0 : IS := .whl (.cmp .lt (.var 5) (.bi .len [(.var 4)])) wb_all_pairs_0
def f_all_pairs : Fn := ⟨2, 8, false, [.asg (.var 2) (.bi .tuple [(.rng1 (.bi .len [(.var 0)]))]), .asg (.var 3) (.ddis (.var 2) (.cst (.bl true))), .asg (.var 4) (.mut (.lst [(.var 2)])), .asg (.var 5) (.cst (.int 0)), ws_all_pairs_0, .ret (.var 4)]⟩
abbrev i_all_pairs : Nat := 102
/-- edges_of: first, second, found, pair, move, after, one, two -/
def lb_edges_of_0 : List IS := [.asg (.tup [(.var 5), (.var 6), (.var 7)]) (.call 99 [(.var 0), (.var 1), (.var 3), (.var 4)]), .exp (.mb .append (.var 2) [(.tup [(.var 3), (.var 4), (.var 5), (.var 6), (.var 7)])])]
def lb_edges_of_1 : List IS := [.for_ (.var 4) (.call 101 [(.var 3)]) lb_edges_of_0]
def f_edges_of : Fn := ⟨2, 8, false, [.asg (.var 2) (.mut (.lst [])), .for_ (.var 3) (.call 102 [(.var 0), (.var 1)]) lb_edges_of_1, .ret (.var 2)]⟩
abbrev i_edges_of : Nat := 103
/-- better_cycle: edges, top, below, weight, back, changed, turn, cycle, edge, gain -/
def lb_better_cycle_0 : List IS := [.asg (.var 9) (.bin .sub (.bin .add (.didx (.var 3) (.idx (.var 8) (.cst (.int 0)))) (.bin .mul (.idx (.var 8) (.cst (.int 3))) (.var 2))) (.bin .mul (.idx (.var 8) (.cst (.int 4))) (.var 1))), .ite (.cmp .gt (.var 9) (.didx (.var 3) (.idx (.var 8) (.cst (.int 2))))) [.asg (.didx (.var 3) (.idx (.var 8) (.cst (.int 2)))) (.var 9), .asg (.didx (.var 4) (.idx (.var 8) (.cst (.int 2)))) (.var 8), .asg (.var 5) (.idx (.var 8) (.cst (.int 2)))] []]
def lb_better_cycle_1 : List IS := [.asg (.var 5) (.cst .non), .for_ (.var 8) (.var 0) lb_better_cycle_0, .ite (.isn true (.var 5)) [.ret (.cst .non)] []]
def lb_better_cycle_2 : List IS := [.asg (.var 5) (.idx (.didx (.var 4) (.var 5)) (.cst (.int 0)))]
def wb_better_cycle_0 : List IS := [.exp (.mb .append (.var 7) [(.didx (.var 4) (.idx (.idx (.var 7) (.neg (.cst (.int 1)))) (.cst (.int 0))))])]
def ws_better_cycle_0 : IS := .whl (.cmp .ne (.idx (.idx (.var 7) (.neg (.cst (.int 1)))) (.cst (.int 0))) (.var 5)) wb_better_cycle_0
def f_better_cycle : Fn := ⟨3, 10, false, [.asg (.var 3) (.dcmp (.var 8) (.var 0) (.idx (.var 8) (.cst (.int 0))) (.cst (.int 0)) [8]), .asg (.var 4) .dnew, .asg (.var 5) (.cst .non), .for_ (.var 6) (.rng1 (.bin .add (.dln (.var 3)) (.cst (.int 1)))) lb_better_cycle_1, .for_ (.var 6) (.rng1 (.dln (.var 3))) lb_better_cycle_2, .asg (.var 7) (.mut (.lst [(.didx (.var 4) (.var 5))])), ws_better_cycle_0, .ret (.rev (.var 7))]⟩
abbrev i_better_cycle : Nat := 104
/-- common: one, other -/
def wb_common_0 : List IS := [.par [0, 1] [(.var 1), (.bin .mod (.var 0) (.var 1))]]
def ws_common_0 : IS := .whl (.cmp .ne (.var 1) (.cst (.int 0))) wb_common_0
def f_common : Fn := ⟨2, 2, false, [ws_common_0, .ret (.var 0)]⟩
abbrev i_common : Nat := 105
/-- worst_cycle: first, second, edges, top, below, best, cycle, both, one, two, edge -/
def ce_worst_cycle_0 : IE := (.idx (.var 10) (.cst (.int 3)))
def ce_worst_cycle_1 : IE := (.idx (.var 10) (.cst (.int 4)))
def wb_worst_cycle_0 : List IS := [.asg (.var 6) (.call 104 [(.var 2), (.var 3), (.var 4)]), .ite (.isn true (.var 6)) [.ret (.tup [(.tup [(.var 3), (.var 4)]), (.var 5)])] [], .par [8, 9] [(.bi .sum [(.comp (.var 10) (.var 6) [] ce_worst_cycle_0 [10])]), (.bi .sum [(.comp (.var 10) (.var 6) [] ce_worst_cycle_1 [10])])], .asg (.var 5) (.var 6), .ite (.cmp .eq (.var 9) (.cst (.int 0))) [.ret (.tup [(.cst .non), (.var 5)])] [], .asg (.var 7) (.call 105 [(.var 8), (.var 9)]), .par [3, 4] [(.bin .fdiv (.var 8) (.var 7)), (.bin .fdiv (.var 9) (.var 7))]]
def ws_worst_cycle_0 : IS := .whl (.cst (.bl true)) wb_worst_cycle_0
def f_worst_cycle : Fn := ⟨2, 11, false, [.asg (.var 2) (.call 103 [(.var 0), (.var 1)]), .asg (.tup [(.var 3), (.var 4), (.var 5)]) (.tup [(.cst (.int 0)), (.cst (.int 1)), (.cst .non)]), ws_worst_cycle_0]⟩
abbrev i_worst_cycle : Nat := 106
/-- ratio: first, second -/
def f_ratio : Fn := ⟨2, 2, false, [.exp (.call 52 [(.var 0), (.var 1)]), .ret (.idx (.call 106 [(.var 0), (.var 1)]) (.cst (.int 0)))]⟩
abbrev i_ratio : Nat := 107
/-- witness: first, second, cycle, edge -/
def ce_witness_0 : IE := (.idx (.var 3) (.cst (.int 1)))
def f_witness : Fn := ⟨2, 4, false, [.exp (.call 52 [(.var 0), (.var 1)]), .asg (.var 2) (.idx (.call 106 [(.var 0), (.var 1)]) (.cst (.int 1))), .ret (.tup [(.idx (.idx (.var 2) (.cst (.int 0))) (.cst (.int 0))), (.comp (.var 3) (.var 2) [] ce_witness_0 [3])])]⟩
abbrev i_witness : Nat := 108
/-- follow: first, second, pair, moves, move, one, two, missed_one, missed_two, part -/
def ce_follow_0 : IE := (.isi (.var 9) .bool)
def lb_follow_0 : List IS := [.ite (.or (.not (.isi (.var 4) .tuple)) (.or (.bi .any [(.comp (.var 9) (.var 4) [] ce_follow_0 [9])]) (.cmp .notin (.var 4) (.call 101 [(.var 2)])))) [.rse 7] [], .asg (.tup [(.var 2), (.var 7), (.var 8)]) (.call 99 [(.var 0), (.var 1), (.var 2), (.var 4)]), .par [5, 6] [(.bin .add (.var 5) (.var 7)), (.bin .add (.var 6) (.var 8))]]
def f_follow : Fn := ⟨4, 10, false, [.exp (.call 52 [(.var 0), (.var 1)]), .ite (.not (.call 110 [(.bi .len [(.var 0)]), (.var 2)])) [.rse 7] [], .ite (.or (.not (.isi (.var 3) .list)) (.cmp .gt (.bi .len [(.var 3)]) (.cst (.int 2000)))) [.rse 7] [], .asg (.tup [(.var 5), (.var 6)]) (.tup [(.cst (.int 0)), (.cst (.int 0))]), .for_ (.var 4) (.var 3) lb_follow_0, .ret (.tup [(.var 2), (.var 5), (.var 6)])]⟩
abbrev i_follow : Nat := 109
/-- is_pair: ways, value, used, item -/
def ce_is_pair_0 : IE := (.or (.isn true (.var 3)) (.call 0 [(.var 3), (.cst (.int 0)), (.bin .sub (.var 0) (.cst (.int 1)))]))
def ci_is_pair_0 : List IE := [(.isn false (.var 3))]
def ce_is_pair_1 : IE := (.var 3)
def f_is_pair : Fn := ⟨2, 4, false, [.ite (.or (.not (.isi (.var 1) .tuple)) (.cmp .ne (.bi .len [(.var 1)]) (.var 0))) [.ret (.cst (.bl false))] [], .ite (.not (.bi .all [(.comp (.var 3) (.var 1) [] ce_is_pair_0 [3])])) [.ret (.cst (.bl false))] [], .asg (.var 2) (.comp (.var 3) (.var 1) ci_is_pair_0 ce_is_pair_1 [3]), .ret (.cmp .eq (.dlen (.var 3) (.var 2) (.var 3) (.cst (.bl true)) [3]) (.bi .len [(.var 2)]))]⟩
abbrev i_is_pair : Nat := 110
/-- check_ratio: value -/
def f_check_ratio : Fn := ⟨1, 1, false, [.ite (.or (.not (.isi (.var 0) .tuple)) (.or (.cmp .ne (.bi .len [(.var 0)]) (.cst (.int 2))) (.not (.call 0 [(.idx (.var 0) (.cst (.int 0))), (.cst (.int 0)), (.cst (.int 1000000))])))) [.rse 7] [], .ite (.not (.call 0 [(.idx (.var 0) (.cst (.int 1))), (.cst (.int 1)), (.cst (.int 1000000))])) [.rse 7] []]⟩
abbrev i_check_ratio : Nat := 111
/-- certificate: first, second, bound, edges, weight, turn, edge, pair, move, after, one, two -/
def lb_certificate_0 : List IS := [.asg (.didx (.var 4) (.var 9)) (.bi .max [(.didx (.var 4) (.var 9)), (.bin .sub (.bin .add (.didx (.var 4) (.var 7)) (.bin .mul (.var 10) (.idx (.var 2) (.cst (.int 1))))) (.bin .mul (.var 11) (.idx (.var 2) (.cst (.int 0)))))])]
def lb_certificate_1 : List IS := [.for_ (.tup [(.var 7), (.var 8), (.var 9), (.var 10), (.var 11)]) (.var 3) lb_certificate_0]
def ce_certificate_0 : IE := (.tup [(.var 7), (.didx (.var 4) (.var 7))])
def f_certificate : Fn := ⟨3, 12, false, [.exp (.call 52 [(.var 0), (.var 1)]), .exp (.call 111 [(.var 2)]), .asg (.var 3) (.call 103 [(.var 0), (.var 1)]), .ite (.isn false (.call 104 [(.var 3), (.idx (.var 2) (.cst (.int 0))), (.idx (.var 2) (.cst (.int 1)))])) [.ret (.cst .non)] [], .asg (.var 4) (.dcmp (.var 6) (.var 3) (.idx (.var 6) (.cst (.int 0))) (.cst (.int 0)) [6]), .for_ (.var 5) (.rng1 (.dln (.var 4))) lb_certificate_1, .ret (.comp (.var 7) (.call 102 [(.var 0), (.var 1)]) [] ce_certificate_0 [7])]⟩
abbrev i_certificate : Nat := 112
/-- is_certificate: first, second, bound, potential, levels, pair, move, level, after, one, two, item -/
def ce_is_certificate_0 : IE := (.and (.isi (.var 11) .tuple) (.cmp .eq (.bi .len [(.var 11)]) (.cst (.int 2))))
def ce_is_certificate_1 : IE := (.and (.call 110 [(.bi .len [(.var 0)]), (.var 5)]) (.call 0 [(.var 7), (.neg (.cst (.int 1000000000000))), (.cst (.int 1000000000000))]))
def lb_is_certificate_0 : List IS := [.asg (.tup [(.var 8), (.var 9), (.var 10)]) (.call 99 [(.var 0), (.var 1), (.var 5), (.var 6)]), .ite (.or (.din false (.var 8) (.var 4)) (.cmp .gt (.bin .sub (.bin .add (.didx (.var 4) (.var 5)) (.bin .mul (.var 9) (.idx (.var 2) (.cst (.int 1))))) (.bin .mul (.var 10) (.idx (.var 2) (.cst (.int 0))))) (.didx (.var 4) (.var 8)))) [.ret (.cst (.bl false))] []]
def lb_is_certificate_1 : List IS := [.for_ (.var 6) (.call 101 [(.var 5)]) lb_is_certificate_0]
def f_is_certificate : Fn := ⟨4, 12, false, [.exp (.call 52 [(.var 0), (.var 1)]), .exp (.call 111 [(.var 2)]), .ite (.or (.not (.isi (.var 3) .list)) (.not (.bi .all [(.comp (.var 11) (.var 3) [] ce_is_certificate_0 [11])]))) [.rse 7] [], .ite (.not (.bi .all [(.comp (.tup [.var 5, .var 7]) (.var 3) [] ce_is_certificate_1 [5, 7])])) [.rse 7] [], .asg (.var 4) (.dcmp (.tup [.var 5, .var 7]) (.var 3) (.var 5) (.var 7) [5, 7]), .ite (.or (.cmp .ne (.dln (.var 4)) (.bi .len [(.var 3)])) (.din false (.bi .tuple [(.rng1 (.bi .len [(.var 0)]))]) (.var 4))) [.ret (.cst (.bl false))] [], .for_ (.var 5) (.dks (.var 4)) lb_is_certificate_1, .ret (.cst (.bl true))]⟩
abbrev i_is_certificate : Nat := 113
/-- law: script, draws, ways, first, second, found, potential, levels, spread, state, sequence, missed, pair, moves, after, one, two, policy, shape, level -/
def ce_law_k10_0 : IE := (.var 19)
def ce_law_k10_1 : IE := (.mb .count (.idx (.call 27 [(.var 17), (.var 9), (.var 10)]) (.cst (.int 0))) [(.cst (.bl false))])
def f_law_k10 : Fn := ⟨1, 20, true, [.asg (.var 1) (.call 19 [(.var 0)]), .asg (.var 2) (.call 50 [(.var 1), (.lst [(.cst (.int 2)), (.cst (.int 2)), (.cst (.int 2)), (.cst (.int 3)), (.cst (.int 3)), (.cst (.int 3)), (.cst (.int 3)), (.cst (.int 3)), (.cst (.int 3)), (.cst (.int 3)), (.cst (.int 3)), (.cst (.int 4))])]), .asg (.var 3) (.call 24 [(.var 1), (.var 2)]), .asg (.var 4) (.call 50 [(.var 1), (.lst [(.var 3), (.call 56 [(.var 1), (.var 3)]), (.call 24 [(.var 1), (.var 2)]), (.call 23 [(.var 2)])])]), .asg (.var 5) (.call 107 [(.var 3), (.var 4)]), .asg (.tup [(.var 12), (.var 13)]) (.call 108 [(.var 3), (.var 4)]), .asg (.tup [(.var 14), (.var 15), (.var 16)]) (.call 109 [(.var 3), (.var 4), (.var 12), (.var 13)]), .ite (.or (.cmp .ne (.var 14) (.var 12)) (.or (.cmp .eq (.var 13) (.lst [])) (.cmp .lt (.var 15) (.cst (.int 1))))) [.ret (.cst (.bl false))] [], .ite (.isn true (.var 5)) [.ret (.and (.cmp .eq (.var 16) (.cst (.int 0))) (.isn true (.call 112 [(.var 3), (.var 4), (.tup [(.cst (.int 1000)), (.cst (.int 1))])])))] [], .ite (.or (.cmp .ne (.bin .mul (.var 15) (.idx (.var 5) (.cst (.int 1)))) (.bin .mul (.var 16) (.idx (.var 5) (.cst (.int 0))))) (.cmp .lt (.idx (.var 5) (.cst (.int 0))) (.idx (.var 5) (.cst (.int 1))))) [.ret (.cst (.bl false))] [], .asg (.var 6) (.call 112 [(.var 3), (.var 4), (.var 5)]), .ite (.or (.not (.isi (.var 6) .list)) (.isb false true (.call 113 [(.var 3), (.var 4), (.var 5), (.var 6)]))) [.ret (.cst (.bl false))] [], .ite (.and (.cmp .lt (.var 2) (.cst (.int 4))) (.isn false (.call 112 [(.var 3), (.var 4), (.tup [(.bin .sub (.bin .mul (.idx (.var 5) (.cst (.int 0))) (.cst (.int 1000))) (.cst (.int 1))), (.bin .mul (.idx (.var 5) (.cst (.int 1))) (.cst (.int 1000)))])]))) [.ret (.cst (.bl false))] [], .asg (.var 7) (.comp (.tup [.var 18, .var 19]) (.var 6) [] ce_law_k10_0 [18, 19]), .asg (.var 8) (.bin .sub (.bi .max [(.var 7)]) (.bi .min [(.var 7)])), .asg (.var 9) (.call 25 [(.var 1), (.var 2), (.bin .add (.var 2) (.cst (.int 2)))]), .asg (.var 10) (.call 28 [(.var 1), (.cst (.int 60)), (.bin .add (.bin .add (.var 2) (.call 20 [(.var 1), (.cst (.int 4))])) (.cst (.int 1)))]), .asg (.var 11) (.comp (.var 17) (.tup [(.var 3), (.var 4)]) [] ce_law_k10_1 [17]), .ite (.cmp .gt (.bin .mul (.idx (.var 11) (.cst (.int 0))) (.idx (.var 5) (.cst (.int 1)))) (.bin .add (.bin .mul (.idx (.var 11) (.cst (.int 1))) (.idx (.var 5) (.cst (.int 0)))) (.var 8))) [.ret (.cst (.bl false))] [], .ret (.or (.cmp .ne (.var 3) (.var 4)) (.cmp .eq (.var 5) (.tup [(.cst (.int 1)), (.cst (.int 1))])))]⟩
abbrev i_law_k10 : Nat := 114
/-- _law_follow: first, second, pair, moves, found, caught, e -/
def f__law_follow : Fn := ⟨4, 7, false, [.asg (.var 4) (.cst .non), .asg (.var 5) (.cst .non), .tryc [.asg (.var 4) (.call 109 [(.var 0), (.var 1), (.var 2), (.var 3)])] 0 6 5, .ret (.ite (.isn true (.var 5)) (.var 4) (.call 82 [(.var 5)]))]⟩
abbrev i__law_follow : Nat := 115
/-- law: script, draws, ways, limit, one, two, pair, sequence, block, final, middle, head, tail, first, second, moves, counts, now, kind, steps, k -/
def ce_law_k11_0 : IE := (.ite (.cmp .isin (.var 8) (.var 5)) (.mb .index (.var 5) [(.var 8)]) (.cst .non))
def ce_law_k11_1 : IE := (.bin .add (.idx (.var 16) (.var 20)) (.ite (.idx (.idx (.var 19) (.var 20)) (.cst (.int 1))) (.cst (.int 0)) (.cst (.int 1))))
def lb_law_k11_0 : List IS := [.asg (.var 18) (.tup [(.cst (.str [110, 101, 119])), (.cst .non)]), .ite (.cmp .isin (.var 8) (.idx (.var 17) (.cst (.int 0)))) [.asg (.var 18) (.tup [(.ite (.cmp .isin (.var 8) (.idx (.var 17) (.cst (.int 1)))) (.cst (.str [98, 111, 116, 104])) (.cst (.str [102, 105, 114, 115, 116]))), (.mb .index (.idx (.var 17) (.cst (.int 0))) [(.var 8)])])] [.ite (.cmp .isin (.var 8) (.idx (.var 17) (.cst (.int 1)))) [.asg (.var 18) (.tup [(.cst (.str [115, 101, 99, 111, 110, 100])), (.mb .index (.idx (.var 17) (.cst (.int 1))) [(.var 8)])])] []], .exp (.mb .append (.var 15) [(.var 18)]), .asg (.var 19) (.tup [(.call 26 [(.var 13), (.idx (.var 17) (.cst (.int 0))), (.var 8)]), (.call 26 [(.var 14), (.idx (.var 17) (.cst (.int 1))), (.var 8)])]), .asg (.var 16) (.comp (.var 20) (.tup [(.cst (.int 0)), (.cst (.int 1))]) [] ce_law_k11_1 [20]), .asg (.var 17) (.tup [(.idx (.idx (.var 19) (.cst (.int 0))) (.cst (.int 0))), (.idx (.idx (.var 19) (.cst (.int 1))) (.cst (.int 0)))])]
def ce_law_k11_2 : IE := (.ite (.cmp .isin (.var 8) (.idx (.var 17) (.cst (.int 1)))) (.mb .index (.idx (.var 17) (.cst (.int 1))) [(.var 8)]) (.cst .non))
def f_law_k11 : Fn := ⟨1, 21, true, [.asg (.var 1) (.call 19 [(.var 0)]), .asg (.var 2) (.bin .add (.cst (.int 2)) (.call 20 [(.var 1), (.cst (.int 3))])), .par [13, 14] [(.call 24 [(.var 1), (.var 2)]), (.call 24 [(.var 1), (.var 2)])], .asg (.var 3) (.bin .add (.var 2) (.cst (.int 3))), .asg (.var 4) (.call 25 [(.var 1), (.var 2), (.var 3)]), .asg (.var 5) (.call 50 [(.var 1), (.lst [(.var 4), (.call 25 [(.var 1), (.var 2), (.var 3)])])]), .asg (.var 6) (.bi .tuple [(.comp (.var 8) (.var 4) [] ce_law_k11_0 [8])]), .asg (.var 7) (.call 28 [(.var 1), (.call 20 [(.var 1), (.cst (.int 25))]), (.bin .add (.var 3) (.cst (.int 1)))]), .asg (.tup [(.var 15), (.var 16), (.var 17)]) (.tup [(.mut (.lst [])), (.lst [(.cst (.int 0)), (.cst (.int 0))]), (.tup [(.var 4), (.var 5)])]), .for_ (.var 8) (.var 7) lb_law_k11_0, .asg (.var 9) (.bi .tuple [(.comp (.var 8) (.idx (.var 17) (.cst (.int 0))) [] ce_law_k11_2 [8])]), .ite (.cmp .ne (.call 115 [(.var 13), (.var 14), (.var 6), (.var 15)]) (.tup [(.var 9), (.idx (.var 16) (.cst (.int 0))), (.idx (.var 16) (.cst (.int 1)))])) [.ret (.cst (.bl false))] [], .asg (.var 10) (.call 20 [(.var 1), (.bin .add (.bi .len [(.var 15)]) (.cst (.int 1)))]), .asg (.var 11) (.call 115 [(.var 13), (.var 14), (.var 6), (.sl (.var 15) none (some (.var 10)))]), .ite (.not (.isi (.var 11) .tuple)) [.ret (.cst (.bl false))] [], .asg (.var 12) (.call 115 [(.var 13), (.var 14), (.idx (.var 11) (.cst (.int 0))), (.sl (.var 15) (some (.var 10)) none)]), .ite (.not (.isi (.var 12) .tuple)) [.ret (.cst (.bl false))] [], .ret (.cmp .eq (.tup [(.idx (.var 12) (.cst (.int 0))), (.bin .add (.idx (.var 11) (.cst (.int 1))) (.idx (.var 12) (.cst (.int 1)))), (.bin .add (.idx (.var 11) (.cst (.int 2))) (.idx (.var 12) (.cst (.int 2))))]) (.tup [(.var 9), (.idx (.var 16) (.cst (.int 0))), (.idx (.var 16) (.cst (.int 1)))]))]⟩
abbrev i_law_k11 : Nat := 116
/-- _law_moves: pair, found, i, j -/
def lb__law_moves_0 : List IS := [.exp (.mb .append (.var 1) [(.tup [(.ite (.isn true (.idx (.var 0) (.var 2))) (.cst (.str [102, 105, 114, 115, 116])) (.cst (.str [98, 111, 116, 104]))), (.var 2)])])]
def ci__law_moves_0 : List IE := [(.cmp .notin (.var 3) (.var 0))]
def ce__law_moves_0 : IE := (.tup [(.cst (.str [115, 101, 99, 111, 110, 100])), (.var 3)])
def f__law_moves : Fn := ⟨1, 4, false, [.asg (.var 1) (.mut (.lst [(.tup [(.cst (.str [110, 101, 119])), (.cst .non)])])), .for_ (.var 2) (.rng1 (.bi .len [(.var 0)])) lb__law_moves_0, .ret (.bin .add (.var 1) (.comp (.var 3) (.rng1 (.bi .len [(.var 0)])) ci__law_moves_0 ce__law_moves_0 [3]))]⟩
abbrev i__law_moves : Nat := 117
/-- _law_holds: first, second, bound, potential, pairs, pair, level, move, least, after, one, two -/
def ce__law_holds_0 : IE := (.var 5)
def lb__law_holds_0 : List IS := [.asg (.tup [(.var 9), (.var 10), (.var 11)]) (.call 109 [(.var 0), (.var 1), (.var 5), (.lst [(.var 7)])]), .ite (.cmp .notin (.var 9) (.var 4)) [.ret (.cst (.bl false))] [], .asg (.var 8) (.bin .sub (.bin .add (.var 6) (.bin .mul (.var 10) (.idx (.var 2) (.cst (.int 1))))) (.bin .mul (.var 11) (.idx (.var 2) (.cst (.int 0))))), .ite (.cmp .lt (.idx (.idx (.var 3) (.mb .index (.var 4) [(.var 9)])) (.cst (.int 1))) (.var 8)) [.ret (.cst (.bl false))] []]
def lb__law_holds_1 : List IS := [.for_ (.var 7) (.call 117 [(.var 5)]) lb__law_holds_0]
def f__law_holds : Fn := ⟨4, 12, false, [.asg (.var 4) (.comp (.tup [.var 5, .var 6]) (.var 3) [] ce__law_holds_0 [5, 6]), .ite (.or (.cmp .notin (.bi .tuple [(.rng1 (.bi .len [(.var 0)]))]) (.var 4)) (.cmp .ne (.bi .len [.unk]) (.bi .len [(.var 4)]))) [.ret (.cst (.bl false))] [], .for_ (.tup [(.var 5), (.var 6)]) (.var 3) lb__law_holds_1, .ret (.cst (.bl true))]⟩
abbrev i__law_holds : Nat := 118
/-- law: script, draws, ways, found, bound, potential, turn, expected, state, sequence, missed, start, first, second, at, change, pair, level, policy -/
def lb_law_k12_0 : List IS := [.asg (.var 14) (.call 20 [(.var 1), (.bi .len [(.var 5)])]), .asg (.tup [(.var 16), (.var 17)]) (.idx (.var 5) (.var 14)), .asg (.var 15) (.call 20 [(.var 1), (.cst (.int 6))]), .ite (.cmp .lt (.var 15) (.cst (.int 3))) [.asg (.idx (.var 5) (.var 14)) (.tup [(.var 16), (.bin .add (.var 17) (.idx (.lst [(.cst (.int 1)), (.bin .sub (.cst (.int 0)) (.cst (.int 1))), (.cst (.int 5))]) (.var 15)))])] [.ite (.cmp .eq (.var 15) (.cst (.int 3))) [.asg (.var 5) (.bin .add (.bin .add (.sl (.var 5) none (some (.var 14))) (.sl (.var 5) (some (.bin .add (.var 14) (.cst (.int 1)))) none)) (.lst [(.tup [(.var 16), (.var 17)])]))] [.ite (.cmp .eq (.var 15) (.cst (.int 4))) [.asg (.var 5) (.bin .add (.var 5) (.lst [(.tup [(.var 16), (.var 17)])]))] [.asg (.var 5) (.bin .add (.sl (.var 5) none (some (.var 14))) (.sl (.var 5) (some (.bin .add (.var 14) (.cst (.int 1)))) none))]]]]
def ce_law_k12_0 : IE := (.mb .count (.idx (.call 27 [(.var 18), (.var 8), (.var 9)]) (.cst (.int 0))) [(.cst (.bl false))])
def ci_law_k12_0 : List IE := [(.cmp .eq (.var 16) (.bi .tuple [(.rng1 (.var 2))]))]
def ce_law_k12_1 : IE := (.var 17)
def ce_law_k12_2 : IE := (.var 17)
def f_law_k12 : Fn := ⟨1, 19, true, [.asg (.var 1) (.call 19 [(.var 0)]), .asg (.var 2) (.bin .add (.cst (.int 2)) (.call 20 [(.var 1), (.cst (.int 2))])), .par [12, 13] [(.call 24 [(.var 1), (.var 2)]), (.call 24 [(.var 1), (.var 2)])], .asg (.var 3) (.call 107 [(.var 12), (.var 13)]), .asg (.var 3) (.ite (.isn true (.var 3)) (.tup [(.bin .add (.var 2) (.cst (.int 1))), (.cst (.int 1))]) (.var 3)), .asg (.var 4) (.call 50 [(.var 1), (.lst [(.var 3), (.tup [(.bin .add (.idx (.var 3) (.cst (.int 0))) (.cst (.int 1))), (.idx (.var 3) (.cst (.int 1)))]), (.tup [(.bin .mul (.cst (.int 2)) (.idx (.var 3) (.cst (.int 0)))), (.bin .mul (.cst (.int 2)) (.idx (.var 3) (.cst (.int 1))))]), (.tup [(.bi .max [(.bin .sub (.idx (.var 3) (.cst (.int 0))) (.cst (.int 1))), (.cst (.int 0))]), (.idx (.var 3) (.cst (.int 1)))])])]), .asg (.var 5) (.call 112 [(.var 12), (.var 13), (.var 4)]), .ite (.isn true (.var 5)) [.asg (.var 5) (.mut (.lst [(.tup [(.bi .tuple [(.rng1 (.var 2))]), (.cst (.int 0))])]))] [], .for_ (.var 6) (.rng1 (.ite (.cmp .gt (.bi .len [(.var 5)]) (.cst (.int 2))) (.call 20 [(.var 1), (.cst (.int 3))]) (.cst (.int 0)))) lb_law_k12_0, .asg (.var 7) (.and (.cmp .ne (.var 5) (.lst [])) (.call 118 [(.var 12), (.var 13), (.var 4), (.var 5)])), .ite (.not (.call 21 [(.call 113 [(.var 12), (.var 13), (.var 4), (.var 5)]), (.var 7)])) [.ret (.cst (.bl false))] [], .ite (.not (.var 7)) [.ret (.cst (.bl true))] [], .asg (.var 8) (.call 25 [(.var 1), (.var 2), (.bin .add (.var 2) (.cst (.int 2)))]), .asg (.var 9) (.call 28 [(.var 1), (.cst (.int 40)), (.bin .add (.var 2) (.cst (.int 3)))]), .asg (.var 10) (.comp (.var 18) (.tup [(.var 12), (.var 13)]) [] ce_law_k12_0 [18]), .asg (.var 11) (.idx (.comp (.tup [.var 16, .var 17]) (.var 5) ci_law_k12_0 ce_law_k12_1 [16, 17]) (.cst (.int 0))), .ret (.cmp .le (.bin .sub (.bin .mul (.idx (.var 10) (.cst (.int 0))) (.idx (.var 4) (.cst (.int 1)))) (.bin .mul (.idx (.var 10) (.cst (.int 1))) (.idx (.var 4) (.cst (.int 0))))) (.bin .sub (.bi .max [(.comp (.tup [.var 16, .var 17]) (.var 5) [] ce_law_k12_2 [16, 17])]) (.var 11)))]⟩
abbrev i_law_k12 : Nat := 119
/-- all_permutations: size, found, turn, row, item -/
def lb_all_permutations_0 : List IS := [.asg (.var 1) (.comp2 (.var 3) (.var 1) [] (.var 4) (.rng1 (.var 0)) [(.cmp .notin (.var 4) (.var 3))] (.bin .add (.var 3) (.tup [(.var 4)])) [3, 4] [4])]
def f_all_permutations : Fn := ⟨1, 5, false, [.asg (.var 1) (.lst [(.tup [])]), .for_ (.var 2) (.rng1 (.var 0)) lb_all_permutations_0, .ret (.var 1)]⟩
abbrev i_all_permutations : Nat := 120
/-- all_policies: ways, found, hit, rows, row -/
def lb_all_policies_0 : List IS := [.asg (.var 1) (.comp2 (.var 3) (.var 1) [] (.var 4) (.call 120 [(.var 0)]) [] (.bin .add (.var 3) (.tup [(.var 4)])) [3, 4] [4])]
def f_all_policies : Fn := ⟨1, 5, false, [.ite (.not (.call 0 [(.var 0), (.cst (.int 2)), (.cst (.int 3))])) [.rse 1] [], .asg (.var 1) (.lst [(.tup [])]), .for_ (.var 2) (.rng1 (.var 0)) lb_all_policies_0, .ret (.var 1)]⟩
abbrev i_all_policies : Nat := 121
/-- explains: policy, log -/
def f_explains : Fn := ⟨2, 2, false, [.ret (.cmp .ne (.call 69 [(.var 0), (.var 1)]) (.lst []))]⟩
abbrev i_explains : Nat := 122
/-- explanations: ways, log, rows, policy -/
def ci_explanations_0 : List IE := [(.call 122 [(.var 3), (.var 1)])]
def ce_explanations_0 : IE := (.var 3)
def f_explanations : Fn := ⟨2, 4, false, [.asg (.var 2) (.call 121 [(.var 0)]), .exp (.call 67 [(.var 1)]), .ret (.comp (.var 3) (.var 2) ci_explanations_0 ce_explanations_0 [3])]⟩
abbrev i_explanations : Nat := 123
/-- decided: ways, log, rows -/
def f_decided : Fn := ⟨2, 3, false, [.asg (.var 2) (.call 123 [(.var 0), (.var 1)]), .ite (.cmp .eq (.var 2) (.lst [])) [.rse 6] [], .ret (.ite (.cmp .eq (.bi .len [(.var 2)]) (.cst (.int 1))) (.idx (.var 2) (.cst (.int 0))) (.cst .non))]⟩
abbrev i_decided : Nat := 124
/-- predictions: ways, log, block, rows, used, found, policy, state, entry, after, hit -/
def lb_predictions_0 : List IS := [.asg (.didx (.var 5) (.var 10)) (.cst (.bl true))]
def lb_predictions_1 : List IS := [.for_ (.tup [(.var 9), (.var 10)]) (.call 68 [(.var 6), (.var 7), (.var 2), (.var 4)]) lb_predictions_0]
def lb_predictions_2 : List IS := [.for_ (.var 7) (.call 69 [(.var 6), (.var 1)]) lb_predictions_1]
def f_predictions : Fn := ⟨3, 11, false, [.asg (.var 3) (.call 123 [(.var 0), (.var 1)]), .ite (.cmp .eq (.var 3) (.lst [])) [.rse 6] [], .exp (.call 1 [(.var 2)]), .asg (.var 4) (.dcmp (.var 8) (.var 1) (.idx (.var 8) (.cst (.int 0))) (.cst (.bl true)) [8]), .asg (.var 5) .dnew, .for_ (.var 6) (.var 3) lb_predictions_2, .ret (.dst (.var 5))]⟩
abbrev i_predictions : Nat := 125
/-- first_conflict: ways, log, rows, length, policy -/
def ci_first_conflict_0 : List IE := [(.call 122 [(.var 4), (.sl (.var 1) none (some (.var 3)))])]
def ce_first_conflict_0 : IE := (.var 4)
def lb_first_conflict_0 : List IS := [.asg (.var 2) (.comp (.var 4) (.var 2) ci_first_conflict_0 ce_first_conflict_0 [4]), .ite (.cmp .eq (.var 2) (.lst [])) [.ret (.var 3)] []]
def f_first_conflict : Fn := ⟨2, 5, false, [.asg (.var 2) (.call 121 [(.var 0)]), .exp (.call 67 [(.var 1)]), .for_ (.var 3) (.rng2 (.cst (.int 1)) (.bin .add (.bi .len [(.var 1)]) (.cst (.int 1)))) lb_first_conflict_0, .ret (.cst .non)]⟩
abbrev i_first_conflict : Nat := 126
/-- _law_all: ways, found, hit, longer, rows, row -/
def ce__law_all_0 : IE := (.bin .add (.var 4) (.tup [(.var 5)]))
def lb__law_all_0 : List IS := [.asg (.var 3) (.bin .add (.var 3) (.comp (.var 5) (.call 63 [(.bi .list [(.rng1 (.var 0))])]) [] ce__law_all_0 [5]))]
def lb__law_all_1 : List IS := [.asg (.var 3) (.lst []), .for_ (.var 4) (.var 1) lb__law_all_0, .asg (.var 1) (.var 3)]
def f__law_all : Fn := ⟨1, 6, false, [.asg (.var 1) (.lst [(.tup [])]), .for_ (.var 2) (.rng1 (.var 0)) lb__law_all_1, .ret (.var 1)]⟩
abbrev i__law_all : Nat := 127
/-- _law_asked: kind, ways, log, block, found, caught, e -/
def f__law_asked_2 : Fn := ⟨4, 7, false, [.asg (.var 4) (.cst .non), .asg (.var 5) (.cst .non), .tryc [.ite (.cmp .eq (.var 0) (.cst (.int 0))) [.asg (.var 4) (.call 124 [(.var 1), (.var 2)])] [.asg (.var 4) (.call 125 [(.var 1), (.var 2), (.var 3)])]] 0 6 5, .ret (.ite (.isn true (.var 5)) (.var 4) (.call 82 [(.var 5)]))]⟩
abbrev i__law_asked_2 : Nat := 128
/-- law: script, draws, ways, policy, limit, state, log, k, expected, block, outcomes, one, prefix, hit -/
def ce_law_k13_0 : IE := (.bin .add (.cst (.int 50)) (.var 7))
def lb_law_k13_0 : List IS := [.asg (.var 9) (.call 20 [(.var 1), (.var 4)]), .asg (.tup [(.var 5), (.var 13)]) (.call 26 [(.var 3), (.var 5), (.var 9)]), .exp (.mb .append (.var 6) [(.tup [(.var 9), (.call 50 [(.var 1), (.lst [(.var 13), (.var 13), (.cst .non), (.ite (.cmp .gt (.call 20 [(.var 1), (.cst (.int 20))]) (.cst (.int 0))) (.var 13) (.not (.var 13)))])])])])]
def ci_law_k13_0 : List IE := [(.cmp .ne (.call 71 [(.var 11), (.var 6)]) (.lst []))]
def ce_law_k13_1 : IE := (.var 11)
def ci_law_k13_1 : List IE := [(.cmp .ne (.call 71 [(.var 11), (.sl (.var 6) none (some (.var 7)))]) (.lst []))]
def ce_law_k13_2 : IE := (.var 11)
def ci_law_k13_2 : List IE := [(.cmp .eq (.comp (.var 11) (.call 127 [(.var 2)]) ci_law_k13_1 ce_law_k13_2 [11]) (.lst []))]
def ce_law_k13_3 : IE := (.var 7)
def ce_law_k13_4 : IE := (.call 128 [(.var 7), (.var 2), (.var 6), (.var 9)])
def lb_law_k13_1 : List IS := [.asg (.var 10) (.bin .add (.var 10) (.call 80 [(.var 11), (.var 6), (.var 9)]))]
def f_law_k13 : Fn := ⟨1, 14, true, [.asg (.var 1) (.call 19 [(.var 0)]), .asg (.var 2) (.call 50 [(.var 1), (.lst [(.cst (.int 2)), (.cst (.int 2)), (.cst (.int 3))])]), .asg (.var 3) (.call 24 [(.var 1), (.var 2)]), .asg (.var 4) (.bin .add (.var 2) (.call 20 [(.var 1), (.cst (.int 3))])), .asg (.var 5) (.call 50 [(.var 1), (.lst [(.call 25 [(.var 1), (.var 2), (.var 4)]), (.bi .tuple [(.comp (.var 7) (.rng1 (.var 2)) [] ce_law_k13_0 [7])])])]), .asg (.var 6) (.mut (.lst [])), .for_ (.var 7) (.rng1 (.call 20 [(.var 1), (.cst (.int 14))])) lb_law_k13_0, .asg (.var 8) (.comp (.var 11) (.call 127 [(.var 2)]) ci_law_k13_0 ce_law_k13_1 [11]), .ite (.or (.cmp .ne (.call 121 [(.var 2)]) (.call 127 [(.var 2)])) (.cmp .ne (.call 123 [(.var 2), (.var 6)]) (.var 8))) [.ret (.cst (.bl false))] [], .ite (.not (.call 21 [(.call 122 [(.var 3), (.var 6)]), (.cmp .isin (.var 3) (.var 8))])) [.ret (.cst (.bl false))] [], .asg (.var 9) (.call 20 [(.var 1), (.bin .add (.var 4) (.cst (.int 1)))]), .ite (.cmp .eq (.var 8) (.lst [])) [.asg (.var 12) (.comp (.var 7) (.rng2 (.cst (.int 1)) (.bin .add (.bi .len [(.var 6)]) (.cst (.int 1)))) ci_law_k13_2 ce_law_k13_3 [7]), .ret (.and (.cmp .eq (.comp (.var 7) (.tup [(.cst (.int 0)), (.cst (.int 1))]) [] ce_law_k13_4 [7]) (.bin .mul (.lst [(.cst (.str [108, 111, 103]))]) (.cst (.int 2)))) (.cmp .eq (.call 126 [(.var 2), (.var 6)]) (.idx (.var 12) (.cst (.int 0)))))] [], .ite (.or (.isn false (.call 126 [(.var 2), (.var 6)])) (.cmp .ne (.call 128 [(.cst (.int 0)), (.var 2), (.var 6), (.var 9)]) (.ite (.cmp .eq (.bi .len [(.var 8)]) (.cst (.int 1))) (.idx (.var 8) (.cst (.int 0))) (.cst .non)))) [.ret (.cst (.bl false))] [], .asg (.var 10) (.lst []), .for_ (.var 11) (.var 8) lb_law_k13_1, .ret (.cmp .eq (.call 128 [(.cst (.int 1)), (.var 2), (.var 6), (.var 9)]) (.bi .sorted [.unk]))]⟩
abbrev i_law_k13 : Nat := 129
/-- CacheSet.counts: self -/
def f_CacheSet_counts_2 : Fn := ⟨1, 1, false, [.exp (.call 40 [(.cst (.int 1))])]⟩
abbrev i_CacheSet_counts_2 : Nat := 130
/-- law: script, draws, ways, policy, state, hidden, log, prefix, block -/
def ce_law_k14_0 : IE := (.ite (.cmp .eq (.call 20 [(.var 1), (.cst (.int 2))]) (.cst (.int 0))) (.bin .add (.cst (.int 1000000)) (.var 8)) (.var 8))
def f_law_k14 : Fn := ⟨1, 9, true, [.asg (.var 1) (.call 19 [(.var 0)]), .asg (.var 2) (.bin .add (.cst (.int 2)) (.call 20 [(.var 1), (.cst (.int 2))])), .asg (.var 3) (.call 24 [(.var 1), (.var 2)]), .asg (.var 4) (.bi .tuple [(.comp (.var 8) (.call 25 [(.var 1), (.var 2), (.cst (.int 9))]) [] ce_law_k14_0 [8])]), .asg (.var 5) (.mk 4 [(.var 3), (.var 4)]), .ite (.cmp .ne (.call 47 [(.var 5), (.var 2), (.cst (.int 1000000))]) (.var 3)) [.ret (.cst (.bl false))] [], .asg (.var 6) (.mu 4 (.var 5) []), .ite (.or (.cmp .ne (.call 124 [(.var 2), (.var 6)]) (.var 3)) (.cmp .ne (.call 123 [(.var 2), (.var 6)]) (.lst [(.var 3)]))) [.ret (.cst (.bl false))] [], .ite (.and (.cmp .eq (.var 2) (.cst (.int 2))) (.isn false (.call 126 [(.var 2), (.var 6)]))) [.ret (.cst (.bl false))] [], .asg (.var 7) (.sl (.var 6) none (some (.call 20 [(.var 1), (.bin .add (.bi .len [(.var 6)]) (.cst (.int 1)))]))), .ite (.or (.isb false true (.call 122 [(.var 3), (.var 7)])) (.cmp .notin (.var 3) (.call 123 [(.var 2), (.var 7)]))) [.ret (.cst (.bl false))] [], .ite (.cmp .notin (.call 81 [(.var 3), (.var 6)]) (.tup [(.cst .non), (.mu 1 (.var 5) [])])) [.ret (.cst (.bl false))] [], .asg (.var 8) (.call 50 [(.var 1), (.bin .add (.bi .list [(.mu 1 (.var 5) [])]) (.lst [(.cst (.int 7))]))]), .ret (.cmp .isin (.cmp .isin (.var 8) (.mu 1 (.var 5) [])) (.call 125 [(.var 2), (.var 6), (.var 8)]))]⟩
abbrev i_law_k14 : Nat := 131
/-- predictions_logs: ways, log, block, rows, used, found, policy, state, entry, after, hit -/
def lb_predictions_logs_0 : List IS := [.asg (.didx (.var 5) (.var 10)) (.cst (.bl true))]
def lb_predictions_logs_1 : List IS := [.for_ (.tup [(.var 9), (.var 10)]) (.call 68 [(.var 6), (.var 7), (.var 2), (.var 4)]) lb_predictions_logs_0]
def lb_predictions_logs_2 : List IS := [.for_ (.var 7) (.call 69 [(.var 6), (.var 1)]) lb_predictions_logs_1]
def f_predictions_logs : Fn := ⟨3, 11, false, [.asg (.var 3) (.call 123 [(.var 0), (.var 1)]), .ite (.cmp .eq (.var 3) (.lst [])) [.rse 6] [], .exp (.call 1 [(.var 2)]), .asg (.var 4) (.dcmp (.var 8) (.var 1) (.idx (.var 8) (.cst (.int 0))) (.cst (.bl true)) [8]), .asg (.var 5) .dnew, .for_ (.var 6) (.var 3) lb_predictions_logs_2, .ret (.dst (.var 5))]⟩
abbrev i_predictions_logs : Nat := 189
/-- Recorder.__init__: self, ways -/
def f_Recorder___init__ : Fn := ⟨2, 2, true, [.asg (.fld (.var 0) 6) (.call 121 [(.var 1)]), .asg (.fld (.var 0) 4) (.var 1), .asg (.fld (.var 0) 2) (.mut (.lst [])), .asg (.fld (.var 0) 7) (.mut (.lst []))]⟩
abbrev i_Recorder___init__ : Nat := 132
/-- Recorder.keep: self -/
def f_Recorder_keep : Fn := ⟨1, 1, false, [.exp (.mb .append (.fld (.var 0) 7) [(.bi .list [(.fld (.var 0) 2)])])]⟩
abbrev i_Recorder_keep : Nat := 133
/-- Recorder.observe: self, block, hit -/
def f_Recorder_observe : Fn := ⟨3, 3, false, [.exp (.call 1 [(.var 1)]), .ite (.and (.isn false (.var 2)) (.not (.isi (.var 2) .bool))) [.rse 6] [], .ite (.or (.cmp .eq (.bi .len [(.fld (.var 0) 2)]) (.cst (.int 60))) (.not (.call 66 [(.bin .add (.fld (.var 0) 2) (.lst [(.tup [(.var 1), (.var 2)])]))]))) [.rse 6] [], .ite (.not (.mu 10 (.var 0) [(.bin .add (.fld (.var 0) 2) (.lst [(.tup [(.var 1), (.var 2)])]))])) [.rse 6] [], .exp (.mu 8 (.var 0) []), .exp (.mb .append (.fld (.var 0) 2) [(.tup [(.var 1), (.var 2)])])]⟩
abbrev i_Recorder_observe : Nat := 134
/-- Recorder.allows: self, log, policy -/
def ce_Recorder_allows_0 : IE := (.call 122 [(.var 2), (.var 1)])
def f_Recorder_allows : Fn := ⟨2, 3, false, [.ret (.bi .any [(.comp (.var 2) (.fld (.var 0) 6) [] ce_Recorder_allows_0 [2])])]⟩
abbrev i_Recorder_allows : Nat := 135
/-- Recorder.correct: self, index, hit, changed -/
def f_Recorder_correct : Fn := ⟨3, 4, false, [.ite (.not (.call 0 [(.var 1), (.cst (.int 0)), (.bin .sub (.bi .len [(.fld (.var 0) 2)]) (.cst (.int 1)))])) [.rse 9] [], .ite (.and (.isn false (.var 2)) (.not (.isi (.var 2) .bool))) [.rse 6] [], .asg (.var 3) (.mut (.bi .list [(.fld (.var 0) 2)])), .asg (.idx (.var 3) (.var 1)) (.tup [(.idx (.idx (.var 3) (.var 1)) (.cst (.int 0))), (.var 2)]), .ite (.or (.not (.call 66 [(.var 3)])) (.not (.mu 10 (.var 0) [(.var 3)]))) [.rse 6] [], .exp (.mu 8 (.var 0) []), .asg (.fld (.var 0) 2) (.var 3)]⟩
abbrev i_Recorder_correct : Nat := 136
/-- Recorder.undo: self -/
def f_Recorder_undo : Fn := ⟨1, 1, false, [.ite (.cmp .eq (.fld (.var 0) 7) (.lst [])) [.rse 9] [], .asg (.fld (.var 0) 2) (.mb .pop (.fld (.var 0) 7) [])]⟩
abbrev i_Recorder_undo : Nat := 137
/-- Recorder.entries: self -/
def f_Recorder_entries : Fn := ⟨1, 1, false, [.ret (.bi .list [(.fld (.var 0) 2)])]⟩
abbrev i_Recorder_entries : Nat := 138
/-- Recorder.explanations: self, policy -/
def ci_Recorder_explanations_0 : List IE := [(.call 122 [(.var 1), (.fld (.var 0) 2)])]
def ce_Recorder_explanations_0 : IE := (.var 1)
def f_Recorder_explanations : Fn := ⟨1, 2, false, [.ret (.comp (.var 1) (.fld (.var 0) 6) ci_Recorder_explanations_0 ce_Recorder_explanations_0 [1])]⟩
abbrev i_Recorder_explanations : Nat := 139
/-- Recorder.predictions: self, block -/
def f_Recorder_predictions_3 : Fn := ⟨2, 2, false, [.ret (.call 189 [(.fld (.var 0) 4), (.fld (.var 0) 2), (.var 1)])]⟩
abbrev i_Recorder_predictions_3 : Nat := 190
/-- Recorder.informative: self, blocks, block, entry -/
def ci_Recorder_informative_3_0 : List IE := [(.cmp .eq (.bi .len [(.call 189 [(.fld (.var 0) 4), (.fld (.var 0) 2), (.var 2)])]) (.cst (.int 2)))]
def ce_Recorder_informative_3_0 : IE := (.var 2)
def f_Recorder_informative_3 : Fn := ⟨1, 4, false, [.asg (.var 1) (.dst (.dcmp (.var 3) (.fld (.var 0) 2) (.idx (.var 3) (.cst (.int 0))) (.cst (.bl true)) [3])), .ret (.comp (.var 2) (.var 1) ci_Recorder_informative_3_0 ce_Recorder_informative_3_0 [2])]⟩
abbrev i_Recorder_informative_3 : Nat := 191
/-- Recorder.__len__: self -/
def f_Recorder___len__ : Fn := ⟨1, 1, false, [.ret (.bi .len [(.fld (.var 0) 2)])]⟩
abbrev i_Recorder___len__ : Nat := 142
/-- _law_change: recorder, kind, one, two, found, caught, e -/
def f__law_change : Fn := ⟨4, 7, false, [.asg (.var 4) (.cst (.str [100, 111, 110, 101])), .asg (.var 5) (.cst .non), .tryc [.ite (.cmp .eq (.var 1) (.cst (.int 0))) [.exp (.mu 9 (.var 0) [(.var 2), (.var 3)])] [.exp (.mu 11 (.var 0) [(.var 2), (.var 3)])]] 0 6 5, .ret (.ite (.isn true (.var 5)) (.var 4) (.call 82 [(.var 5)]))]⟩
abbrev i__law_change : Nat := 143
/-- law: script, draws, ways, policy, state, recorder, turn, block, used, log, past, kind, changed, good, hit, item, at, entry -/
def lb_law_k15_0 : List IS := [.asg (.var 11) (.call 20 [(.var 1), (.cst (.int 6))]), .ite (.and (.cmp .eq (.var 11) (.cst (.int 5))) (.cmp .ne (.var 10) (.lst []))) [.exp (.mu 12 (.var 5) []), .asg (.var 9) (.mb .pop (.var 10) [])] [.ite (.and (.cmp .eq (.var 11) (.cst (.int 4))) (.cmp .ne (.var 9) (.lst []))) [.par [16, 14] [(.call 20 [(.var 1), (.bi .len [(.var 9)])]), (.call 50 [(.var 1), (.lst [(.cst (.bl true)), (.cst (.bl false)), (.cst .non)])])], .asg (.var 12) (.bin .add (.bin .add (.sl (.var 9) none (some (.var 16))) (.lst [(.tup [(.idx (.idx (.var 9) (.var 16)) (.cst (.int 0))), (.var 14)])])) (.sl (.var 9) (some (.bin .add (.var 16) (.cst (.int 1)))) none)), .asg (.var 13) (.cmp .ne (.call 123 [(.var 2), (.var 12)]) (.lst [])), .ite (.cmp .ne (.call 143 [(.var 5), (.cst (.int 1)), (.var 16), (.var 14)]) (.ite (.var 13) (.cst (.str [100, 111, 110, 101])) (.cst (.str [108, 111, 103])))) [.ret (.cst (.bl false))] [], .asg (.tup [(.var 10), (.var 9)]) (.ite (.var 13) (.tup [(.bin .add (.var 10) (.lst [(.var 9)])), (.var 12)]) (.tup [(.var 10), (.var 9)]))] [.asg (.var 7) (.call 20 [(.var 1), (.bin .add (.var 2) (.cst (.int 2)))]), .asg (.tup [(.var 4), (.var 14)]) (.call 26 [(.var 3), (.var 4), (.var 7)]), .asg (.var 14) (.call 50 [(.var 1), (.lst [(.var 14), (.var 14), (.cst .non), (.ite (.cmp .eq (.call 20 [(.var 1), (.cst (.int 4))]) (.cst (.int 0))) (.not (.var 14)) (.var 14))])]), .asg (.var 13) (.cmp .ne (.call 123 [(.var 2), (.bin .add (.var 9) (.lst [(.tup [(.var 7), (.var 14)])]))]) (.lst [])), .ite (.cmp .ne (.call 143 [(.var 5), (.cst (.int 0)), (.var 7), (.var 14)]) (.ite (.var 13) (.cst (.str [100, 111, 110, 101])) (.cst (.str [108, 111, 103])))) [.ret (.cst (.bl false))] [], .asg (.tup [(.var 10), (.var 9)]) (.ite (.var 13) (.tup [(.bin .add (.var 10) (.lst [(.var 9)])), (.bin .add (.var 9) (.lst [(.tup [(.var 7), (.var 14)])]))]) (.tup [(.var 10), (.var 9)]))]], .ite (.or (.cmp .ne (.mu 13 (.var 5) []) (.var 9)) (.cmp .ne (.bi .len [(.var 5)]) (.bi .len [(.var 9)]))) [.ret (.cst (.bl false))] []]
def ci_law_k15_0 : List IE := [(.cmp .eq (.call 189 [(.var 2), (.var 9), (.var 15)]) (.lst [(.cst (.bl false)), (.cst (.bl true))]))]
def ce_law_k15_0 : IE := (.var 15)
def f_law_k15 : Fn := ⟨1, 18, true, [.asg (.var 1) (.call 19 [(.var 0)]), .asg (.var 2) (.call 50 [(.var 1), (.lst [(.cst (.int 2)), (.cst (.int 2)), (.cst (.int 2)), (.cst (.int 3))])]), .asg (.var 3) (.call 24 [(.var 1), (.var 2)]), .asg (.var 4) (.call 25 [(.var 1), (.var 2), (.bin .add (.var 2) (.cst (.int 2)))]), .asg (.var 5) (.mk 10 [(.var 2)]), .asg (.tup [(.var 9), (.var 10)]) (.tup [(.lst []), (.mut (.lst []))]), .for_ (.var 6) (.rng1 (.cst (.int 9))) lb_law_k15_0, .ite (.cmp .ne (.mu 14 (.var 5) []) (.call 123 [(.var 2), (.var 9)])) [.ret (.cst (.bl false))] [], .asg (.var 7) (.call 20 [(.var 1), (.bin .add (.var 2) (.cst (.int 3)))]), .ite (.cmp .ne (.mu 15 (.var 5) [(.var 7)]) (.call 189 [(.var 2), (.var 9), (.var 7)])) [.ret (.cst (.bl false))] [], .asg (.var 8) (.bi .sorted [.unk]), .ret (.cmp .eq (.mu 16 (.var 5) []) (.comp (.var 15) (.var 8) ci_law_k15_0 ce_law_k15_0 [15]))]⟩
abbrev i_law_k15 : Nat := 192
/-- compose: first, second, item -/
def ce_compose_0 : IE := (.idx (.var 1) (.var 2))
def f_compose : Fn := ⟨2, 3, false, [.ret (.bi .tuple [(.comp (.var 2) (.var 0) [] ce_compose_0 [2])])]⟩
abbrev i_compose : Nat := 145
/-- inverse: permutation, item -/
def ce_inverse_0 : IE := (.mb .index (.var 0) [(.var 1)])
def f_inverse : Fn := ⟨1, 2, false, [.ret (.bi .tuple [(.comp (.var 1) (.rng1 (.bi .len [(.var 0)])) [] ce_inverse_0 [1])])]⟩
abbrev i_inverse : Nat := 146
/-- law: script, draws, ways, policy, limit, names, state, sequence, renamed, log, other, block, both, first, second, combined, between, after, outcomes, final, one, two, outcome, p -/
def ce_law_k16_0 : IE := (.bin .add (.bin .mul (.var 11) (.cst (.int 7))) (.cst (.int 1)))
def ce_law_k16_1 : IE := (.idx (.var 5) (.var 11))
def ce_law_k16_2 : IE := (.idx (.var 5) (.var 11))
def ce_law_k16_3 : IE := (.idx (.var 5) (.var 11))
def ce_law_k16_4 : IE := (.tup [(.var 11), (.cst .non)])
def ce_law_k16_5 : IE := (.tup [(.idx (.var 5) (.var 11)), (.cst .non)])
def ce_law_k16_6 : IE := (.idx (.var 5) (.var 11))
def ce_law_k16_7 : IE := (.idx (.var 5) (.var 11))
def ce_law_k16_8 : IE := (.idx (.var 21) (.idx (.var 20) (.var 23)))
def ce_law_k16_9 : IE := (.idx (.var 17) (.idx (.var 15) (.var 23)))
def f_law_k16 : Fn := ⟨1, 24, true, [.asg (.var 1) (.call 19 [(.var 0)]), .asg (.var 2) (.bin .add (.cst (.int 2)) (.call 20 [(.var 1), (.cst (.int 3))])), .asg (.var 3) (.call 24 [(.var 1), (.var 2)]), .asg (.var 4) (.bin .add (.var 2) (.cst (.int 3))), .asg (.var 5) (.comp (.var 11) (.call 22 [(.var 1), (.bin .add (.var 4) (.cst (.int 1)))]) [] ce_law_k16_0 [11]), .asg (.var 6) (.call 25 [(.var 1), (.var 2), (.var 4)]), .asg (.var 7) (.call 28 [(.var 1), (.call 20 [(.var 1), (.cst (.int 15))]), (.bin .add (.var 4) (.cst (.int 1)))]), .asg (.tup [(.var 18), (.var 19)]) (.call 11 [(.var 3), (.var 6), (.var 7)]), .asg (.var 8) (.call 11 [(.var 3), (.bi .tuple [(.comp (.var 11) (.var 6) [] ce_law_k16_1 [11])]), (.comp (.var 11) (.var 7) [] ce_law_k16_2 [11])]), .ite (.cmp .ne (.var 8) (.tup [(.var 18), (.bi .tuple [(.comp (.var 11) (.var 19) [] ce_law_k16_3 [11])])])) [.ret (.cst (.bl false))] [], .asg (.var 9) (.comp (.var 11) (.sl (.var 7) none (some (.cst (.int 8)))) [] ce_law_k16_4 [11]), .asg (.var 10) (.comp (.tup [.var 11, .var 22]) (.var 9) [] ce_law_k16_5 [11, 22]), .ite (.cmp .ne (.call 77 [(.var 3), (.var 10)]) (.bi .sorted [(.comp (.var 11) (.call 77 [(.var 3), (.var 9)]) [] ce_law_k16_6 [11])])) [.ret (.cst (.bl false))] [], .ite (.cmp .ne (.call 78 [(.var 3), (.var 10)]) (.bi .sorted [(.comp (.var 11) (.call 78 [(.var 3), (.var 9)]) [] ce_law_k16_7 [11])])) [.ret (.cst (.bl false))] [], .asg (.var 11) (.call 20 [(.var 1), (.bin .add (.var 4) (.cst (.int 1)))]), .ite (.cmp .ne (.call 80 [(.var 3), (.var 10), (.idx (.var 5) (.var 11))]) (.call 80 [(.var 3), (.var 9), (.var 11)])) [.ret (.cst (.bl false))] [], .asg (.tup [(.var 20), (.var 21)]) (.tup [(.call 22 [(.var 1), (.var 2)]), (.call 22 [(.var 1), (.var 2)])]), .asg (.var 12) (.call 145 [(.var 20), (.var 21)]), .ite (.or (.cmp .ne (.var 12) (.bi .tuple [(.comp (.var 23) (.rng1 (.var 2)) [] ce_law_k16_8 [23])])) (.cmp .ne (.call 145 [(.var 20), (.call 146 [(.var 20)])]) (.bi .tuple [(.rng1 (.var 2))]))) [.ret (.cst (.bl false))] [], .ite (.or (.cmp .ne (.call 145 [(.call 146 [(.var 20)]), (.var 20)]) (.bi .tuple [(.rng1 (.var 2))])) (.cmp .ne (.call 146 [(.call 146 [(.var 21)])]) (.var 21))) [.ret (.cst (.bl false))] [], .asg (.var 13) (.call 20 [(.var 1), (.var 2)]), .asg (.var 14) (.call 20 [(.var 1), (.var 2)]), .asg (.var 15) (.call 145 [(.idx (.var 3) (.var 13)), (.idx (.var 3) (.var 14))]), .asg (.var 16) (.idx (.call 11 [(.var 3), (.var 6), (.lst [(.idx (.var 6) (.var 13))])]) (.cst (.int 1))), .asg (.var 17) (.idx (.call 11 [(.var 3), (.var 16), (.lst [(.idx (.var 16) (.var 14))])]) (.cst (.int 1))), .ret (.and (.cmp .eq (.comp (.var 23) (.rng1 (.var 2)) [] ce_law_k16_9 [23]) (.bi .list [(.var 6)])) (.cmp .eq (.call 146 [(.var 12)]) (.call 145 [(.call 146 [(.var 21)]), (.call 146 [(.var 20)])])))]⟩
abbrev i_law_k16 : Nat := 147
/-- format_policy: policy, row, item -/
def f_format_policy : Fn := ⟨1, 3, false, [.ite (.not (.call 5 [(.var 0)])) [.rse 1] [], .ret .unk]⟩
abbrev i_format_policy : Nat := 148
/-- parse_policy: text, found, word, sign -/
def ce_parse_policy_0 : IE := (.cmp .isin (.var 3) (.bin .add .unk (.cst (.str [32]))))
def ce_parse_policy_1 : IE := .unk
def ce_parse_policy_2 : IE := (.bi .tuple [(.comp (.var 3) (.var 2) [] ce_parse_policy_1 [3])])
def f_parse_policy : Fn := ⟨1, 4, false, [.ite (.or (.not (.isi (.var 0) .str)) (.not (.bi .all [(.comp (.var 3) (.var 0) [] ce_parse_policy_0 [3])]))) [.rse 8] [], .asg (.var 1) (.bi .tuple [(.comp (.var 2) .unk [] ce_parse_policy_2 [2])]), .ite (.not (.call 5 [(.var 1)])) [.rse 8] [], .ret (.var 1)]⟩
abbrev i_parse_policy : Nat := 149
/-- format_log: log, block, outcome -/
def f_format_log : Fn := ⟨1, 3, false, [.exp (.call 67 [(.var 0)]), .ret .unk]⟩
abbrev i_format_log : Nat := 150
/-- parse_entry: word, digits, mark, sign -/
def ce_parse_entry_0 : IE := (.cmp .isin (.var 3) .unk)
def f_parse_entry : Fn := ⟨1, 4, false, [.par [1, 2] [(.sl (.var 0) none (some (.neg (.cst (.int 1))))), (.sl (.var 0) (some (.neg (.cst (.int 1)))) none)], .ite (.or (.cmp .notin (.var 2) (.tup [(.cst (.str [43])), (.cst (.str [45])), (.cst (.str [63]))])) (.not (.chn .le .le (.cst (.int 1)) (.bi .len [(.var 1)]) (.cst (.int 10))))) [.rse 8] [], .ite (.or (.not (.bi .all [(.comp (.var 3) (.var 1) [] ce_parse_entry_0 [3])])) (.or (.cmp .ne .unk (.var 1)) (.cmp .gt .unk (.cst (.int 1000000000))))) [.rse 8] [], .ret (.tup [.unk, (.ite (.cmp .eq (.var 2) (.cst (.str [63]))) (.cst .non) (.cmp .eq (.var 2) (.cst (.str [43]))))])]⟩
abbrev i_parse_entry : Nat := 151
/-- parse_log: text, words, found, word -/
def ce_parse_log_0 : IE := (.call 151 [(.var 3)])
def f_parse_log : Fn := ⟨1, 4, false, [.ite (.not (.isi (.var 0) .str)) [.rse 8] [], .asg (.var 1) (.ite (.cmp .ne (.var 0) (.cst (.str []))) .unk (.lst [])), .asg (.var 2) (.comp (.var 3) (.var 1) [] ce_parse_log_0 [3]), .ite (.not (.call 66 [(.var 2)])) [.rse 8] [], .ret (.var 2)]⟩
abbrev i_parse_log : Nat := 152
/-- _law_words: log, marks, block, outcome -/
def lb__law_words_0 : List IS := [.exp (.mb .append (.var 1) [(.bin .add .unk (.ite (.isn true (.var 3)) (.cst (.str [63])) (.ite (.var 3) (.cst (.str [43])) (.cst (.str [45])))))])]
def f__law_words : Fn := ⟨1, 4, false, [.asg (.var 1) (.mut (.lst [])), .for_ (.tup [(.var 2), (.var 3)]) (.var 0) lb__law_words_0, .ret .unk]⟩
abbrev i__law_words : Nat := 153
/-- _law_digits: policy, row, item -/
def f__law_digits : Fn := ⟨1, 3, false, [.ret .unk]⟩
abbrev i__law_digits : Nat := 154
/-- _law_parsed: kind, text, found, caught, e -/
def f__law_parsed : Fn := ⟨2, 5, false, [.asg (.var 2) (.cst .non), .asg (.var 3) (.cst .non), .tryc [.asg (.var 2) (.ite (.cmp .eq (.var 0) (.cst (.int 0))) (.call 149 [(.var 1)]) (.call 152 [(.var 1)]))] 0 4 3, .ret (.ite (.isn true (.var 3)) (.var 2) (.call 82 [(.var 3)]))]⟩
abbrev i__law_parsed : Nat := 155
/-- _law_rejected: odd, bad -/
def ce__law_rejected_0 : IE := (.call 155 [(.cst (.int 0)), (.var 1)])
def ce__law_rejected_1 : IE := (.call 155 [(.cst (.int 1)), (.var 1)])
def f__law_rejected : Fn := ⟨0, 2, false, [.asg (.var 0) (.lst [(.cst .non), (.cst (.int 5)), (.cst (.str [])), (.cst (.str [48, 49])), (.cst (.str [48, 49, 32, 49])), (.cst (.str [48, 49, 32, 49, 49])), (.cst (.str [48, 49, 32, 48, 50])), (.cst (.str [48, 49, 32, 32, 49, 48])), (.cst (.str [32, 48, 49, 32, 49, 48])), (.cst (.str [48, 49, 32, 49, 48, 32])), (.cst (.str [48, 49, 50, 32, 49, 50, 48])), (.cst (.str [48, 32, 48])), (.cst (.str [48, 49, 32, 49, 48, 32, 48, 49])), (.cst (.str [120, 49, 32, 49, 48])), (.cst (.str [48, 49, 50, 51, 52, 32, 48, 49, 50, 51, 52, 32, 48, 49, 50, 51, 52, 32, 48, 49, 50, 51, 52, 32, 48, 49, 50, 51, 52])), (.cst (.str [48]))]), .ite (.or (.cmp .ne (.comp (.var 1) (.var 0) [] ce__law_rejected_0 [1]) (.bin .mul (.lst [(.cst (.str [116, 101, 120, 116]))]) (.cst (.int 16)))) (.cmp .ne (.call 149 [(.cst (.str [49, 48, 32, 48, 49]))]) (.tup [(.tup [(.cst (.int 1)), (.cst (.int 0))]), (.tup [(.cst (.int 0)), (.cst (.int 1))])]))) [.ret (.cst (.bl false))] [], .asg (.var 0) (.lst [(.cst .non), (.cst (.int 5)), (.cst (.str [32])), (.cst (.str [55])), (.cst (.str [43])), (.cst (.str [55, 32, 43])), (.cst (.str [48, 55, 43])), (.cst (.str [55, 43, 32])), (.cst (.str [55, 43, 32, 32, 56, 45])), (.cst (.str [45, 55, 43])), (.cst (.str [55, 42])), (.cst (.str [55, 43, 43])), (.cst (.str [49, 48, 48, 48, 48, 48, 48, 48, 48, 49, 43])), (.cst (.str [49, 48, 48, 48, 48, 48, 48, 48, 48, 48, 48, 43])), (.cst (.str [120, 43])), .unk, .unk]), .ite (.or (.cmp .ne (.comp (.var 1) (.var 0) [] ce__law_rejected_1 [1]) (.bin .mul (.lst [(.cst (.str [116, 101, 120, 116]))]) (.cst (.int 17)))) (.or (.cmp .ne (.call 152 [(.cst (.str []))]) (.lst [])) (.cmp .ne (.call 150 [(.lst [])]) (.cst (.str []))))) [.ret (.cst (.bl false))] [], .ret (.and (.cmp .eq (.bi .len [(.call 152 [.unk])]) (.cst (.int 200))) (.cmp .eq (.call 152 [(.cst (.str [48, 45, 32, 49, 48, 48, 48, 48, 48, 48, 48, 48, 48, 63]))]) (.lst [(.tup [(.cst (.int 0)), (.cst (.bl false))]), (.tup [(.cst (.int 1000000000)), (.cst .non)])])))]⟩
abbrev i__law_rejected : Nat := 156
/-- law: script, draws, policy, text, log, k, words, turn, kind, own, at, mark, other, found -/
def lb_law_k17_0 : List IS := [.exp (.mb .append (.var 4) [(.tup [(.call 20 [(.var 1), (.cst (.int 30))]), (.call 50 [(.var 1), (.lst [(.cst (.bl true)), (.cst (.bl false)), (.cst .non)])])])])]
def lb_law_k17_1 : List IS := [.asg (.var 9) (.idx (.lst [(.var 3), (.var 6)]) (.var 8)), .asg (.var 10) (.call 20 [(.var 1), (.bin .add (.bi .len [(.var 9)]) (.cst (.int 1)))]), .asg (.var 11) (.call 50 [(.var 1), (.lst [(.cst (.str [48])), (.cst (.str [49])), (.cst (.str [50])), (.cst (.str [43])), (.cst (.str [45])), (.cst (.str [63])), (.cst (.str [32])), (.cst (.str [120])), (.cst (.str []))])]), .asg (.var 12) (.call 50 [(.var 1), (.lst [(.bin .add (.bin .add (.sl (.var 9) none (some (.var 10))) (.var 11)) (.sl (.var 9) (some (.bin .add (.var 10) (.cst (.int 1)))) none)), (.bin .add (.bin .add (.sl (.var 9) none (some (.var 10))) (.var 11)) (.sl (.var 9) (some (.var 10)) none))])]), .asg (.var 13) (.call 155 [(.var 8), (.var 12)]), .ite (.and (.cmp .ne (.var 13) (.cst (.str [116, 101, 120, 116]))) (.cmp .ne (.var 12) (.ite (.cmp .eq (.var 8) (.cst (.int 0))) (.call 154 [(.var 13)]) (.call 153 [(.var 13)])))) [.ret (.cst (.bl false))] []]
def lb_law_k17_2 : List IS := [.for_ (.var 8) (.lst [(.cst (.int 0)), (.cst (.int 1))]) lb_law_k17_1]
def f_law_k17 : Fn := ⟨1, 14, true, [.asg (.var 1) (.call 19 [(.var 0)]), .asg (.var 2) (.call 24 [(.var 1), (.bin .add (.cst (.int 2)) (.call 20 [(.var 1), (.cst (.int 3))]))]), .asg (.var 3) (.call 148 [(.var 2)]), .ite (.or (.cmp .ne (.var 3) (.call 154 [(.var 2)])) (.cmp .ne (.call 149 [(.var 3)]) (.var 2))) [.ret (.cst (.bl false))] [], .asg (.var 4) (.mut (.lst [])), .for_ (.var 5) (.rng1 (.call 20 [(.var 1), (.cst (.int 8))])) lb_law_k17_0, .asg (.var 6) (.call 150 [(.var 4)]), .ite (.or (.cmp .ne (.var 6) (.call 153 [(.var 4)])) (.cmp .ne (.call 152 [(.var 6)]) (.var 4))) [.ret (.cst (.bl false))] [], .for_ (.var 7) (.rng1 (.cst (.int 8))) lb_law_k17_2, .ret (.call 156 [])]⟩
abbrev i_law_k17 : Nat := 157
/-- CacheSet.contents: self -/
def f_CacheSet_contents_2 : Fn := ⟨1, 1, false, [.exp (.call 40 [(.cst (.int 0))])]⟩
abbrev i_CacheSet_contents_2 : Nat := 158
/-- CacheSet.victim: self -/
def f_CacheSet_victim_3 : Fn := ⟨1, 1, false, [.exp (.call 40 [(.cst (.int 1))])]⟩
abbrev i_CacheSet_victim_3 : Nat := 159
/-- CacheSet.counts: self -/
def f_CacheSet_counts_3 : Fn := ⟨1, 1, false, [.exp (.call 40 [(.cst (.int 2))])]⟩
abbrev i_CacheSet_counts_3 : Nat := 160
/-- CacheSet.history: self -/
def f_CacheSet_history_2 : Fn := ⟨1, 1, false, [.exp (.call 40 [(.cst (.int 3))])]⟩
abbrev i_CacheSet_history_2 : Nat := 161
/-- Recorder.keep: self -/
def f_Recorder_keep_2 : Fn := ⟨1, 1, false, [.exp (.call 40 [(.cst (.int 4))])]⟩
abbrev i_Recorder_keep_2 : Nat := 162
/-- Recorder.observe: self, block, hit -/
def f_Recorder_observe_2 : Fn := ⟨3, 3, false, [.exp (.call 40 [(.cst (.int 5))])]⟩
abbrev i_Recorder_observe_2 : Nat := 163
/-- Recorder.allows: self, log -/
def f_Recorder_allows_2 : Fn := ⟨2, 2, false, [.exp (.call 40 [(.cst (.int 6))])]⟩
abbrev i_Recorder_allows_2 : Nat := 164
/-- Recorder.correct: self, index, hit -/
def f_Recorder_correct_2 : Fn := ⟨3, 3, false, [.exp (.call 40 [(.cst (.int 7))])]⟩
abbrev i_Recorder_correct_2 : Nat := 165
/-- Recorder.undo: self -/
def f_Recorder_undo_2 : Fn := ⟨1, 1, false, [.exp (.call 40 [(.cst (.int 8))])]⟩
abbrev i_Recorder_undo_2 : Nat := 166
/-- Recorder.entries: self -/
def f_Recorder_entries_2 : Fn := ⟨1, 1, false, [.exp (.call 40 [(.cst (.int 9))])]⟩
abbrev i_Recorder_entries_2 : Nat := 167
/-- Recorder.explanations: self -/
def f_Recorder_explanations_2 : Fn := ⟨1, 1, false, [.exp (.call 40 [(.cst (.int 10))])]⟩
abbrev i_Recorder_explanations_2 : Nat := 168
/-- Recorder.predictions: self, block -/
def f_Recorder_predictions_2 : Fn := ⟨2, 2, false, [.exp (.call 40 [(.cst (.int 11))])]⟩
abbrev i_Recorder_predictions_2 : Nat := 169
/-- Recorder.informative: self -/
def f_Recorder_informative_2 : Fn := ⟨1, 1, false, [.exp (.call 40 [(.cst (.int 12))])]⟩
abbrev i_Recorder_informative_2 : Nat := 170
/-- _law_call: kind, policy, state, thing -/
def f__law_call : Fn := ⟨4, 4, false, [.ite (.cmp .eq (.var 0) (.cst (.int 0))) [.ret (.call 11 [(.var 1), (.var 2), (.var 3)])] [], .ite (.cmp .eq (.var 0) (.cst (.int 1))) [.ret (.call 12 [(.var 1), (.var 2), (.var 3)])] [], .ite (.cmp .eq (.var 0) (.cst (.int 2))) [.ret (.mk 4 [(.var 1), (.var 2)])] [], .ite (.cmp .eq (.var 0) (.cst (.int 3))) [.ret (.call 54 [(.var 1), (.var 2), (.var 3), (.var 2)])] [], .ite (.cmp .eq (.var 0) (.cst (.int 4))) [.ret (.call 61 [(.var 1), (.var 3), (.var 2)])] [], .ite (.cmp .eq (.var 0) (.cst (.int 5))) [.ret (.call 60 [(.var 1), (.var 3)])] [], .ite (.cmp .eq (.var 0) (.cst (.int 6))) [.ret (.call 89 [(.var 1)])] [], .ite (.cmp .eq (.var 0) (.cst (.int 7))) [.ret (.call 90 [(.var 1)])] [], .ite (.cmp .eq (.var 0) (.cst (.int 8))) [.ret (.call 95 [(.var 1)])] [], .ret (.ite (.cmp .eq (.var 0) (.cst (.int 9))) (.call 96 [(.var 1)]) (.call 148 [(.var 1)]))]⟩
abbrev i__law_call : Nat := 171
/-- _law_asked: kind, policy, state, thing, caught, e -/
def f__law_asked_3 : Fn := ⟨4, 6, false, [.asg (.var 4) (.cst .non), .tryc [.exp (.call 171 [(.var 0), (.var 1), (.var 2), (.var 3)])] 0 5 4, .ret (.ite (.isn true (.var 4)) (.cst (.str [100, 111, 110, 101])) (.call 82 [(.var 4)]))]⟩
abbrev i__law_asked_3 : Nat := 172
/-- _law_number: kind, value, caught, e -/
def f__law_number : Fn := ⟨2, 4, false, [.asg (.var 2) (.cst .non), .tryc [.ite (.cmp .eq (.var 0) (.cst (.int 0))) [.exp (.call 31 [(.var 1)])] [.ite (.cmp .eq (.var 0) (.cst (.int 1))) [.exp (.call 32 [(.var 1)])] [.ite (.cmp .eq (.var 0) (.cst (.int 2))) [.exp (.call 48 [(.var 1)])] [.ite (.cmp .eq (.var 0) (.cst (.int 3))) [.exp (.call 47 [(.cst .non), (.var 1), (.cst (.int 1000000))])] [.ite (.cmp .eq (.var 0) (.cst (.int 4))) [.exp (.call 47 [(.cst .non), (.cst (.int 2)), (.var 1)])] [.ite (.cmp .eq (.var 0) (.cst (.int 5))) [.exp (.call 121 [(.var 1)])] [.ite (.cmp .eq (.var 0) (.cst (.int 6))) [.exp (.mk 10 [(.var 1)])] [.exp (.mu 0 (.mk 4 [(.tup [(.tup [(.cst (.int 0)), (.cst (.int 1))]), (.tup [(.cst (.int 1)), (.cst (.int 0))])]), (.tup [(.cst (.int 1)), (.cst (.int 2))])]) [(.var 1)])]]]]]]]] 0 3 2, .ret (.ite (.isn true (.var 2)) (.cst (.str [100, 111, 110, 101])) (.call 82 [(.var 2)]))]⟩
abbrev i__law_number : Nat := 173
/-- _law_kinds: good, bad, pair, one -/
def ce__law_kinds_0 : IE := (.call 5 [(.var 3)])
def ce__law_kinds_1 : IE := (.call 5 [(.var 3)])
def ce__law_kinds_2 : IE := (.call 7 [(.var 2), (.var 3)])
def ce__law_kinds_3 : IE := (.call 7 [(.var 2), (.var 3)])
def f__law_kinds : Fn := ⟨0, 4, false, [.asg (.var 0) (.lst [(.tup [(.tup [(.cst (.int 0)), (.cst (.int 1))]), (.tup [(.cst (.int 1)), (.cst (.int 0))])]), (.bin .mul (.tup [(.tup [(.cst (.int 0)), (.cst (.int 1)), (.cst (.int 2)), (.cst (.int 3))])]) (.cst (.int 4))), (.tup [(.tup [(.cst (.int 2)), (.cst (.int 1)), (.cst (.int 0))]), (.tup [(.cst (.int 0)), (.cst (.int 1)), (.cst (.int 2))]), (.tup [(.cst (.int 1)), (.cst (.int 0)), (.cst (.int 2))])])]), .asg (.var 1) (.lst [(.cst .non), (.cst (.int 5)), (.tup []), (.tup [(.tup [(.cst (.int 0))])]), (.tup [(.tup [(.cst (.int 0)), (.cst (.int 1))])]), (.bin .mul (.tup [(.tup [(.cst (.int 0)), (.cst (.int 1))])]) (.cst (.int 3))), (.tup [(.tup [(.cst (.int 0)), (.cst (.int 1))]), (.tup [(.cst (.int 1)), (.cst (.int 1))])]), (.tup [(.tup [(.cst (.int 0)), (.cst (.int 1))]), (.tup [(.cst (.int 1)), (.cst (.int 2))])]), (.lst [(.tup [(.cst (.int 0)), (.cst (.int 1))]), (.tup [(.cst (.int 1)), (.cst (.int 0))])]), (.tup [(.tup [(.cst (.int 0)), (.cst (.int 1))]), (.lst [(.cst (.int 1)), (.cst (.int 0))])]), (.tup [(.tup [(.cst (.int 0)), (.cst (.int 1))]), (.tup [(.cst (.bl true)), (.cst (.int 0))])]), (.bin .mul (.tup [(.tup [(.cst (.int 0)), (.cst (.int 1)), (.cst (.int 2)), (.cst (.int 3)), (.cst (.int 4))])]) (.cst (.int 5)))]), .ite (.or (.cmp .ne (.comp (.var 3) (.var 0) [] ce__law_kinds_0 [3]) (.bin .mul (.lst [(.cst (.bl true))]) (.cst (.int 3)))) (.cmp .ne (.comp (.var 3) (.var 1) [] ce__law_kinds_1 [3]) (.bin .mul (.lst [(.cst (.bl false))]) (.cst (.int 12))))) [.ret (.cst (.bl false))] [], .asg (.var 0) (.lst [(.tup [(.cst (.int 1)), (.cst (.int 2))]), (.tup [(.cst (.int 0)), (.cst (.int 1000000000))])]), .asg (.var 1) (.lst [(.cst .non), (.cst (.int 5)), (.tup []), (.tup [(.cst (.int 1))]), (.tup [(.cst (.int 1)), (.cst (.int 1))]), (.tup [(.cst (.int 1)), (.cst (.int 2)), (.cst (.int 3))]), (.lst [(.cst (.int 1)), (.cst (.int 2))]), (.tup [(.bin .sub (.cst (.int 0)) (.cst (.int 1))), (.cst (.int 2))]), (.tup [(.cst (.int 1000000001)), (.cst (.int 2))]), (.tup [(.cst (.bl true)), (.cst (.int 2))]), (.tup [(.cst (.str [49])), (.cst (.int 2))])]), .asg (.var 2) (.tup [(.tup [(.cst (.int 0)), (.cst (.int 1))]), (.tup [(.cst (.int 1)), (.cst (.int 0))])]), .ret (.and (.cmp .eq (.comp (.var 3) (.var 0) [] ce__law_kinds_2 [3]) (.bin .mul (.lst [(.cst (.bl true))]) (.cst (.int 2)))) (.cmp .eq (.comp (.var 3) (.var 1) [] ce__law_kinds_3 [3]) (.bin .mul (.lst [(.cst (.bl false))]) (.cst (.int 11)))))]⟩
abbrev i__law_kinds : Nat := 174
/-- law: script, draws, pair, bad, k -/
def f_law_k18 : Fn := ⟨1, 5, true, [.asg (.var 1) (.call 19 [(.var 0)]), .asg (.var 2) (.tup [(.tup [(.cst (.int 0)), (.cst (.int 1))]), (.tup [(.cst (.int 1)), (.cst (.int 0))])]), .ite (.not (.call 174 [])) [.ret (.cst (.bl false))] [], .for_ (.var 3) (.lst [(.cst .non), (.cst (.int 5)), (.tup []), (.tup [(.tup [(.cst (.int 0)), (.cst (.int 1))]), (.tup [(.cst (.int 1)), (.cst (.int 1))])]), (.tup [(.tup [(.cst (.int 0)), (.cst (.int 1))])])]) [.ite (.or (.cmp .ne (.comp (.var 4) (.rng1 (.cst (.int 11))) [] (.call 172 [(.var 4), (.var 3), (.cst .non), (.cst .non)]) [4]) (.bin .mul (.lst [(.cst (.str [112, 111, 108, 105, 99, 121]))]) (.cst (.int 11)))) (.cmp .ne (.comp (.var 4) (.tup [(.cst (.int 3)), (.cst (.int 4)), (.cst (.int 5))]) [] (.call 172 [(.var 4), (.var 2), (.cst .non), (.var 3)]) [4]) (.bin .mul (.lst [(.cst (.str [112, 111, 108, 105, 99, 121]))]) (.cst (.int 3))))) [.ret (.cst (.bl false))] []], .ite (.cmp .ne (.comp (.var 4) (.tup [(.cst (.int 3)), (.cst (.int 4)), (.cst (.int 5))]) [] (.call 172 [(.var 4), (.var 2), (.cst .non), (.bin .mul (.tup [(.tup [(.cst (.int 0)), (.cst (.int 1)), (.cst (.int 2))])]) (.cst (.int 3)))]) [4]) (.bin .mul (.lst [(.cst (.str [112, 111, 108, 105, 99, 121]))]) (.cst (.int 3)))) [.ret (.cst (.bl false))] [], .for_ (.var 3) (.lst [(.cst .non), (.tup [(.cst (.int 1))]), (.tup [(.cst (.int 1)), (.cst (.int 1))]), (.lst [(.cst (.int 1)), (.cst (.int 2))]), (.tup [(.bin .sub (.cst (.int 0)) (.cst (.int 1))), (.cst (.int 2))])]) [.ite (.or (.cmp .ne (.comp (.var 4) (.tup [(.cst (.int 0)), (.cst (.int 1)), (.cst (.int 2))]) [] (.call 172 [(.var 4), (.var 2), (.var 3), (.cst .non)]) [4]) (.bin .mul (.lst [(.cst (.str [115, 116, 97, 116, 101]))]) (.cst (.int 3)))) (.cmp .ne (.comp (.var 4) (.tup [(.cst (.int 3)), (.cst (.int 4))]) [] (.call 172 [(.var 4), (.var 2), (.var 3), (.var 2)]) [4]) (.bin .mul (.lst [(.cst (.str [115, 116, 97, 116, 101]))]) (.cst (.int 2))))) [.ret (.cst (.bl false))] []], .for_ (.var 3) (.lst [(.cst .non), (.cst (.int 5)), (.tup [(.cst (.int 1)), (.cst (.int 2))]), (.lst [(.cst .non)]), (.lst [(.bin .sub (.cst (.int 0)) (.cst (.int 1)))]), (.lst [(.cst (.bl true))]), (.lst [(.cst (.int 1000000001))]), (.bin .mul (.lst [(.cst (.int 1))]) (.cst (.int 2001)))]) [.ite (.cmp .ne (.comp (.var 4) (.tup [(.cst (.int 0)), (.cst (.int 1))]) [] (.call 172 [(.var 4), (.var 2), (.tup [(.cst (.int 1)), (.cst (.int 2))]), (.var 3)]) [4]) (.bin .mul (.lst [(.cst (.str [97, 99, 99, 101, 115, 115]))]) (.cst (.int 2)))) [.ret (.cst (.bl false))] []], .ite (.or (.cmp .ne (.idx (.call 11 [(.var 2), (.tup [(.cst (.int 1)), (.cst (.int 2))]), (.bin .mul (.lst [(.cst (.int 1)), (.cst (.int 2))]) (.cst (.int 1000)))]) (.cst (.int 0))) (.bin .mul (.lst [(.cst (.bl true))]) (.cst (.int 2000)))) (.cmp .ne (.call 172 [(.call 20 [(.var 1), (.cst (.int 2))]), (.var 2), (.tup [(.cst (.int 1)), (.cst (.int 2))]), (.lst [])]) (.cst (.str [100, 111, 110, 101])))) [.ret (.cst (.bl false))] [], .for_ (.var 3) (.lst [(.cst .non), (.cst (.int 0)), (.cst (.int 1)), (.cst (.int 5)), (.cst (.bl true)), (.cst (.str [50]))]) [.ite (.cmp .ne (.comp (.var 4) (.tup [(.cst (.int 0)), (.cst (.int 1)), (.cst (.int 2)), (.cst (.int 3)), (.cst (.int 5)), (.cst (.int 6))]) [] (.call 173 [(.var 4), (.var 3)]) [4]) (.bin .mul (.lst [(.cst (.str [112, 111, 108, 105, 99, 121]))]) (.cst (.int 6)))) [.ret (.cst (.bl false))] []], .ite (.cmp .ne (.comp (.var 4) (.tup [(.cst (.int 0)), (.cst (.int 1)), (.cst (.int 2)), (.cst (.int 5)), (.cst (.int 6))]) [] (.call 173 [(.var 4), (.cst (.int 4))]) [4]) (.bin .add (.bin .mul (.lst [(.cst (.str [100, 111, 110, 101]))]) (.cst (.int 3))) (.bin .mul (.lst [(.cst (.str [112, 111, 108, 105, 99, 121]))]) (.cst (.int 2))))) [.ret (.cst (.bl false))] [], .ite (.cmp .ne (.comp (.var 3) (.tup [(.cst .non), (.bin .sub (.cst (.int 0)) (.cst (.int 1))), (.cst (.int 500000001)), (.cst (.bl true))]) [] (.call 173 [(.cst (.int 4)), (.var 3)]) [3]) (.bin .mul (.lst [(.cst (.str [97, 99, 99, 101, 115, 115]))]) (.cst (.int 4)))) [.ret (.cst (.bl false))] [], .ret (.cmp .eq (.comp (.var 3) (.tup [(.cst .non), (.bin .sub (.cst (.int 0)) (.cst (.int 1))), (.cst (.int 1000000001)), (.cst (.bl true)), (.cst (.int 1))]) [] (.call 173 [(.cst (.int 7)), (.var 3)]) [3]) (.bin .add (.bin .mul (.lst [(.cst (.str [97, 99, 99, 101, 115, 115]))]) (.cst (.int 4))) (.lst [(.cst (.str [100, 111, 110, 101]))])))]⟩
abbrev i_law_k18 : Nat := 175
/-- _law_call: kind, policy, log, block -/
def f__law_call_3 : Fn := ⟨4, 4, false, [.ite (.cmp .eq (.var 0) (.cst (.int 0))) [.ret (.call 71 [(.var 1), (.var 2)])] [], .ite (.cmp .eq (.var 0) (.cst (.int 1))) [.ret (.call 77 [(.var 1), (.var 2)])] [], .ite (.cmp .eq (.var 0) (.cst (.int 2))) [.ret (.call 78 [(.var 1), (.var 2)])] [], .ite (.cmp .eq (.var 0) (.cst (.int 3))) [.ret (.call 81 [(.var 1), (.var 2)])] [], .ite (.cmp .eq (.var 0) (.cst (.int 4))) [.ret (.call 80 [(.var 1), (.var 2), (.var 3)])] [], .ite (.cmp .eq (.var 0) (.cst (.int 5))) [.ret (.call 123 [(.var 1), (.var 2)])] [], .ite (.cmp .eq (.var 0) (.cst (.int 6))) [.ret (.call 124 [(.var 1), (.var 2)])] [], .ite (.cmp .eq (.var 0) (.cst (.int 7))) [.ret (.call 189 [(.var 1), (.var 2), (.var 3)])] [], .ret (.ite (.cmp .eq (.var 0) (.cst (.int 8))) (.call 126 [(.var 1), (.var 2)]) (.call 150 [(.var 2)]))]⟩
abbrev i__law_call_3 : Nat := 193
/-- _law_asked: kind, policy, log, block, caught, e -/
def f__law_asked_5 : Fn := ⟨4, 6, false, [.asg (.var 4) (.cst .non), .tryc [.exp (.call 193 [(.var 0), (.var 1), (.var 2), (.var 3)])] 0 5 4, .ret (.ite (.isn true (.var 4)) (.cst (.str [100, 111, 110, 101])) (.call 82 [(.var 4)]))]⟩
abbrev i__law_asked_5 : Nat := 194
/-- _law_compete: kind, first, second, bound, thing, caught, e -/
def f__law_compete : Fn := ⟨5, 7, false, [.asg (.var 5) (.cst .non), .tryc [.ite (.cmp .eq (.var 0) (.cst (.int 0))) [.exp (.call 107 [(.var 1), (.var 2)])] [.ite (.cmp .eq (.var 0) (.cst (.int 1))) [.exp (.call 108 [(.var 1), (.var 2)])] [.ite (.cmp .eq (.var 0) (.cst (.int 2))) [.exp (.call 112 [(.var 1), (.var 2), (.var 3)])] [.ite (.cmp .eq (.var 0) (.cst (.int 3))) [.exp (.call 113 [(.var 1), (.var 2), (.var 3), (.var 4)])] [.exp (.call 109 [(.var 1), (.var 2), (.var 3), (.var 4)])]]]]] 0 6 5, .ret (.ite (.isn true (.var 5)) (.cst (.str [100, 111, 110, 101])) (.call 82 [(.var 5)]))]⟩
abbrev i__law_compete : Nat := 178
/-- _law_change: recorder, kind, one, two, caught, e -/
def f__law_change_2 : Fn := ⟨4, 6, false, [.asg (.var 4) (.cst .non), .tryc [.ite (.cmp .eq (.var 1) (.cst (.int 0))) [.exp (.mu 9 (.var 0) [(.var 2), (.var 3)])] [.ite (.cmp .eq (.var 1) (.cst (.int 1))) [.exp (.mu 11 (.var 0) [(.var 2), (.var 3)])] [.ite (.cmp .eq (.var 1) (.cst (.int 2))) [.exp (.mu 12 (.var 0) [])] [.exp (.mu 15 (.var 0) [(.var 2)])]]]] 0 5 4, .ret (.ite (.isn true (.var 4)) (.cst (.str [100, 111, 110, 101])) (.call 82 [(.var 4)]))]⟩
abbrev i__law_change_2 : Nat := 179
/-- _law_recorders: recorder, bad, k -/
def lb__law_recorders_0 : List IS := [.ite (.or (.cmp .ne (.call 179 [(.var 0), (.cst (.int 0)), (.var 1), (.cst (.int 5))]) (.cst (.str [97, 99, 99, 101, 115, 115]))) (.or (.cmp .ne (.call 179 [(.var 0), (.cst (.int 3)), (.var 1), (.cst (.int 0))]) (.cst (.str [97, 99, 99, 101, 115, 115]))) (.cmp .ne (.call 179 [(.var 0), (.cst (.int 1)), (.var 1), (.cst (.int 5))]) (.cst (.str [110, 111, 110, 101]))))) [.ret (.cst (.bl false))] []]
def ce__law_recorders_0 : IE := (.call 179 [(.var 0), (.cst (.int 0)), (.cst (.int 1)), (.var 1)])
def lb__law_recorders_1 : List IS := [.exp (.mu 9 (.var 0) [(.cst (.int 1)), (.cst .non)])]
def lb__law_recorders_2 : List IS := [.exp (.mu 9 (.var 0) [(.cst (.int 1)), (.cst (.bl true))])]
def f__law_recorders : Fn := ⟨0, 3, false, [.asg (.var 0) (.mk 10 [(.cst (.int 2))]), .ite (.or (.cmp .ne (.call 179 [(.var 0), (.cst (.int 2)), (.cst (.int 0)), (.cst (.int 0))]) (.cst (.str [110, 111, 110, 101]))) (.or (.cmp .ne (.mu 16 (.var 0) []) (.lst [])) (.cmp .ne (.bi .len [(.mu 14 (.var 0) [])]) (.cst (.int 4))))) [.ret (.cst (.bl false))] [], .for_ (.var 1) (.lst [(.cst .non), (.bin .sub (.cst (.int 0)) (.cst (.int 1))), (.cst (.int 1000000001)), (.cst (.bl true))]) lb__law_recorders_0, .ite (.cmp .ne (.comp (.var 1) (.tup [(.cst (.int 0)), (.cst (.int 1)), (.cst (.str [43])), (.tup [])]) [] ce__law_recorders_0 [1]) (.bin .mul (.lst [(.cst (.str [108, 111, 103]))]) (.cst (.int 4)))) [.ret (.cst (.bl false))] [], .exp (.mu 9 (.var 0) [(.cst (.int 1)), (.cst (.bl false))]), .ite (.or (.cmp .ne (.call 179 [(.var 0), (.cst (.int 0)), (.cst (.int 1)), (.cst (.bl false))]) (.cst (.str [108, 111, 103]))) (.or (.cmp .ne (.call 179 [(.var 0), (.cst (.int 1)), (.cst (.int 0)), (.cst (.int 1))]) (.cst (.str [108, 111, 103]))) (.cmp .ne (.call 179 [(.var 0), (.cst (.int 1)), (.cst (.int 1)), (.cst (.bl true))]) (.cst (.str [110, 111, 110, 101]))))) [.ret (.cst (.bl false))] [], .exp (.mb .append (.mu 13 (.var 0) []) [(.cst (.int 5))]), .for_ (.var 2) (.rng1 (.cst (.int 20))) lb__law_recorders_1, .ite (.or (.cmp .ne (.call 179 [(.var 0), (.cst (.int 0)), (.cst (.int 1)), (.cst .non)]) (.cst (.str [108, 111, 103]))) (.or (.cmp .ne (.call 179 [(.var 0), (.cst (.int 1)), (.cst (.int 0)), (.cst .non)]) (.cst (.str [108, 111, 103]))) (.cmp .ne (.bi .len [(.var 0)]) (.cst (.int 21))))) [.ret (.cst (.bl false))] [], .for_ (.var 2) (.rng1 (.cst (.int 39))) lb__law_recorders_2, .ret (.and (.cmp .eq (.call 179 [(.var 0), (.cst (.int 0)), (.cst (.int 1)), (.cst (.bl true))]) (.cst (.str [108, 111, 103]))) (.and (.cmp .eq (.bi .len [(.var 0)]) (.cst (.int 60))) (.and (.cmp .eq (.call 179 [(.var 0), (.cst (.int 2)), (.cst (.int 0)), (.cst (.int 0))]) (.cst (.str [100, 111, 110, 101]))) (.cmp .eq (.bi .len [(.var 0)]) (.cst (.int 59))))))]⟩
abbrev i__law_recorders : Nat := 180
/-- _law_certificates: pair, bad, odd, k -/
def ce__law_certificates_0 : IE := (.call 178 [(.var 3), (.var 0), (.var 1), (.cst .non), (.cst .non)])
def ce__law_certificates_1 : IE := (.call 178 [(.var 3), (.var 1), (.var 0), (.cst .non), (.cst .non)])
def lb__law_certificates_0 : List IS := [.ite (.or (.cmp .ne (.comp (.var 3) (.rng1 (.cst (.int 5))) [] ce__law_certificates_0 [3]) (.bin .mul (.lst [(.cst (.str [112, 111, 108, 105, 99, 121]))]) (.cst (.int 5)))) (.cmp .ne (.comp (.var 3) (.rng1 (.cst (.int 5))) [] ce__law_certificates_1 [3]) (.bin .mul (.lst [(.cst (.str [112, 111, 108, 105, 99, 121]))]) (.cst (.int 5))))) [.ret (.cst (.bl false))] []]
def ce__law_certificates_2 : IE := (.call 178 [(.var 3), (.var 0), (.var 0), (.var 1), (.cst .non)])
def lb__law_certificates_1 : List IS := [.ite (.cmp .ne (.comp (.var 3) (.tup [(.cst (.int 2)), (.cst (.int 3))]) [] ce__law_certificates_2 [3]) (.bin .mul (.lst [(.cst (.str [99, 101, 114, 116, 105, 102, 105, 99, 97, 116, 101]))]) (.cst (.int 2)))) [.ret (.cst (.bl false))] []]
def lb__law_certificates_2 : List IS := [.ite (.cmp .ne (.call 178 [(.cst (.int 3)), (.var 0), (.var 0), (.tup [(.cst (.int 1)), (.cst (.int 1))]), (.var 1)]) (.cst (.str [99, 101, 114, 116, 105, 102, 105, 99, 97, 116, 101]))) [.ret (.cst (.bl false))] []]
def lb__law_certificates_3 : List IS := [.ite (.cmp .ne (.call 178 [(.cst (.int 4)), (.var 0), (.var 0), (.var 1), (.cst .non)]) (.cst (.str [99, 101, 114, 116, 105, 102, 105, 99, 97, 116, 101]))) [.ret (.cst (.bl false))] []]
def ce__law_certificates_3 : IE := (.call 178 [(.cst (.int 4)), (.var 0), (.var 0), (.tup [(.cst (.int 0)), (.cst (.int 1))]), (.var 1)])
def f__law_certificates : Fn := ⟨1, 4, false, [.for_ (.var 1) (.lst [(.cst .non), (.cst (.int 5)), (.tup []), (.tup [(.tup [(.cst (.int 0)), (.cst (.int 1))]), (.tup [(.cst (.int 1)), (.cst (.int 1))])]), (.bin .mul (.tup [(.tup [(.cst (.int 0)), (.cst (.int 1)), (.cst (.int 2))])]) (.cst (.int 3)))]) lb__law_certificates_0, .for_ (.var 1) (.lst [(.cst .non), (.cst (.int 5)), (.tup [(.cst (.int 1))]), (.lst [(.cst (.int 1)), (.cst (.int 1))]), (.tup [(.cst (.int 1)), (.cst (.int 0))]), (.tup [(.bin .sub (.cst (.int 0)) (.cst (.int 1))), (.cst (.int 1))]), (.tup [(.cst (.int 1000001)), (.cst (.int 1))]), (.tup [(.cst (.int 1)), (.cst (.int 1000001))]), (.tup [(.cst (.bl true)), (.cst (.int 1))]), (.tup [(.cst (.int 1)), (.cst (.int 1)), (.cst (.int 1))])]) lb__law_certificates_1, .for_ (.var 1) (.lst [(.cst .non), (.cst (.int 5)), (.tup []), (.lst [(.cst (.int 5))]), (.lst [(.tup [(.tup [(.cst (.int 0)), (.cst (.int 1))])])]), (.lst [(.tup [(.tup [(.cst (.int 0)), (.cst (.int 1))]), (.cst (.int 0)), (.cst (.int 0))])]), (.lst [(.lst [(.tup [(.cst (.int 0)), (.cst (.int 1))]), (.cst (.int 0))])]), (.lst [(.tup [(.tup [(.cst (.int 0)), (.cst (.int 0))]), (.cst (.int 0))])]), (.lst [(.tup [(.tup [(.cst (.int 0)), (.cst (.int 2))]), (.cst (.int 0))])]), (.lst [(.tup [(.tup [(.cst (.int 0)), (.cst (.int 1))]), (.bin .add (.bin .pow (.cst (.int 10)) (.cst (.int 12))) (.cst (.int 1)))])]), (.lst [(.tup [(.tup [(.cst (.int 0)), (.cst (.int 1))]), (.cst (.bl true))])]), (.lst [(.tup [(.tup [(.cst (.int 0))]), (.cst (.int 0))])])]) lb__law_certificates_2, .for_ (.var 1) (.lst [(.cst .non), (.cst (.int 5)), (.tup [(.cst (.int 0))]), (.lst [(.cst (.int 0)), (.cst (.int 1))]), (.tup [(.cst (.int 0)), (.cst (.int 0))]), (.tup [(.cst (.int 0)), (.cst (.int 2))]), (.tup [(.cst (.bl true)), (.cst (.int 0))]), (.tup [(.cst (.int 0)), (.cst (.int 1)), (.cst .non)])]) lb__law_certificates_3, .asg (.var 2) (.lst [(.cst .non), (.cst (.int 5)), (.tup []), (.lst [(.cst .non)]), (.lst [(.tup [(.cst (.str [98, 111, 116, 104])), (.cst (.int 2))])]), (.lst [(.tup [(.cst (.str [102, 105, 114, 115, 116])), (.cst (.int 0))])]), (.lst [(.tup [(.cst (.str [115, 101, 99, 111, 110, 100])), (.cst (.int 0))])]), (.lst [(.tup [(.cst (.str [110, 101, 119])), (.cst (.int 0))])]), (.lst [(.lst [(.cst (.str [110, 101, 119])), (.cst .non)])]), (.lst [(.tup [(.cst (.str [98, 111, 116, 104])), (.cst (.bl true))])]), (.bin .mul (.lst [(.tup [(.cst (.str [110, 101, 119])), (.cst .non)])]) (.cst (.int 2001))), (.lst [(.tup [(.cst (.str [109, 105, 115, 115])), (.cst .non)])])]), .ite (.cmp .ne (.comp (.var 1) (.var 2) [] ce__law_certificates_3 [1]) (.bin .mul (.lst [(.cst (.str [99, 101, 114, 116, 105, 102, 105, 99, 97, 116, 101]))]) (.cst (.int 12)))) [.ret (.cst (.bl false))] [], .ret (.and (.isb true false (.call 113 [(.var 0), (.var 0), (.tup [(.cst (.int 1)), (.cst (.int 1))]), (.lst [])])) (.cmp .eq (.call 109 [(.var 0), (.var 0), (.tup [(.cst .non), (.cst .non)]), (.lst [(.tup [(.cst (.str [102, 105, 114, 115, 116])), (.cst (.int 0))]), (.tup [(.cst (.str [115, 101, 99, 111, 110, 100])), (.cst (.int 1))])])]) (.tup [(.tup [(.cst (.int 0)), (.cst (.int 1))]), (.cst (.int 1)), (.cst (.int 1))])))]⟩
abbrev i__law_certificates : Nat := 181
/-- law: script, draws, pair, bad, odd, broken, k -/
def ce_law_k19_0 : IE := (.call 194 [(.var 6), (.var 3), (.cst .non), (.cst .non)])
def lb_law_k19_0 : List IS := [.ite (.cmp .ne (.comp (.var 6) (.rng1 (.cst (.int 9))) [] ce_law_k19_0 [6]) (.bin .mul (.lst [(.cst (.str [112, 111, 108, 105, 99, 121]))]) (.cst (.int 9)))) [.ret (.cst (.bl false))] []]
def ce_law_k19_1 : IE := (.call 194 [(.var 6), (.var 2), (.var 3), (.cst .non)])
def ce_law_k19_2 : IE := (.call 194 [(.var 6), (.cst (.int 2)), (.var 3), (.cst .non)])
def lb_law_k19_1 : List IS := [.ite (.or (.cmp .ne (.comp (.var 6) (.rng1 (.cst (.int 5))) [] ce_law_k19_1 [6]) (.bin .mul (.lst [(.cst (.str [108, 111, 103]))]) (.cst (.int 5)))) (.cmp .ne (.comp (.var 6) (.rng2 (.cst (.int 5)) (.cst (.int 10))) [] ce_law_k19_2 [6]) (.bin .mul (.lst [(.cst (.str [108, 111, 103]))]) (.cst (.int 5))))) [.ret (.cst (.bl false))] []]
def ce_law_k19_3 : IE := (.call 194 [(.var 6), (.var 2), (.var 5), (.cst .non)])
def ce_law_k19_4 : IE := (.call 194 [(.var 6), (.cst (.int 2)), (.var 5), (.cst .non)])
def lb_law_k19_2 : List IS := [.ite (.or (.cmp .ne (.call 194 [(.cst (.int 4)), (.var 2), (.lst []), (.var 3)]) (.cst (.str [97, 99, 99, 101, 115, 115]))) (.cmp .ne (.call 194 [(.cst (.int 7)), (.cst (.int 3)), (.lst []), (.var 3)]) (.cst (.str [97, 99, 99, 101, 115, 115])))) [.ret (.cst (.bl false))] []]
def f_law_k19 : Fn := ⟨1, 7, true, [.asg (.var 1) (.call 19 [(.var 0)]), .asg (.var 2) (.tup [(.tup [(.cst (.int 0)), (.cst (.int 1))]), (.tup [(.cst (.int 1)), (.cst (.int 0))])]), .for_ (.var 3) (.lst [(.cst .non), (.cst (.int 5)), (.tup []), (.tup [(.tup [(.cst (.int 0)), (.cst (.int 1))]), (.tup [(.cst (.int 1)), (.cst (.int 1))])])]) lb_law_k19_0, .asg (.var 4) (.lst [(.cst .non), (.cst (.int 5)), (.tup []), (.lst [(.cst (.int 5))]), (.lst [(.tup [(.cst (.int 1))])]), (.lst [(.tup [(.cst (.int 1)), (.cst (.bl true)), (.cst (.int 0))])]), (.lst [(.lst [(.cst (.int 1)), (.cst (.bl true))])]), (.lst [(.tup [(.bin .sub (.cst (.int 0)) (.cst (.int 1))), (.cst (.bl true))])]), (.lst [(.tup [(.cst (.bl true)), (.cst (.bl true))])]), (.lst [(.tup [(.cst (.int 1)), (.cst (.int 1))])]), (.lst [(.tup [(.cst (.int 1)), (.cst (.str [43]))])]), (.lst [(.tup [(.cst (.int 1000000001)), (.cst .non)])]), (.bin .mul (.lst [(.tup [(.cst (.int 1)), (.cst (.bl true))])]) (.cst (.int 201))), (.bin .mul (.lst [(.tup [(.cst (.int 1)), (.cst .non)])]) (.cst (.int 21)))]), .for_ (.var 3) (.var 4) lb_law_k19_1, .asg (.var 5) (.lst [(.tup [(.cst (.int 1)), (.cst (.bl false))]), (.tup [(.cst (.int 1)), (.cst (.bl false))])]), .ite (.or (.cmp .ne (.comp (.var 6) (.rng1 (.cst (.int 5))) [] ce_law_k19_3 [6]) (.bin .add (.lst [(.cst (.str [100, 111, 110, 101]))]) (.bin .mul (.lst [(.cst (.str [108, 111, 103]))]) (.cst (.int 4))))) (.cmp .ne (.comp (.var 6) (.rng2 (.cst (.int 5)) (.cst (.int 10))) [] ce_law_k19_4 [6]) (.lst [(.cst (.str [100, 111, 110, 101])), (.cst (.str [108, 111, 103])), (.cst (.str [108, 111, 103])), (.cst (.str [100, 111, 110, 101])), (.cst (.str [100, 111, 110, 101]))]))) [.ret (.cst (.bl false))] [], .for_ (.var 3) (.lst [(.cst .non), (.bin .sub (.cst (.int 0)) (.cst (.int 1))), (.cst (.int 1000000001)), (.cst (.bl true))]) lb_law_k19_2, .ite (.or (.cmp .ne (.call 71 [(.var 2), (.var 5)]) (.lst [])) (.or (.cmp .ne (.call 126 [(.call 50 [(.var 1), (.lst [(.cst (.int 2)), (.cst (.int 3))])]), (.var 5)]) (.cst (.int 2))) (.cmp .ne (.call 194 [(.cst (.int 0)), (.var 2), (.bin .mul (.lst [(.tup [(.cst (.int 1)), (.cst (.bl true))])]) (.cst (.int 200))), (.cst (.int 0))]) (.cst (.str [100, 111, 110, 101]))))) [.ret (.cst (.bl false))] [], .ret (.and (.call 180 []) (.call 181 [(.var 2)]))]⟩
abbrev i_law_k19 : Nat := 195
/-- Recorder.correct: self, index, hit -/
def f_Recorder_correct_3 : Fn := ⟨3, 3, false, [.exp (.call 40 [(.cst (.int 0))])]⟩
abbrev i_Recorder_correct_3 : Nat := 183
/-- Recorder.undo: self -/
def f_Recorder_undo_3 : Fn := ⟨1, 1, false, [.exp (.call 40 [(.cst (.int 1))])]⟩
abbrev i_Recorder_undo_3 : Nat := 184
/-- Recorder.explanations: self -/
def f_Recorder_explanations_3 : Fn := ⟨1, 1, false, [.exp (.call 40 [(.cst (.int 2))])]⟩
abbrev i_Recorder_explanations_3 : Nat := 185
/-- _law_first: cache, found -/
def f__law_first : Fn := ⟨0, 2, false, [.ite (.or (.isb false true (.call 5 [(.tup [(.tup [(.cst (.int 0)), (.cst (.int 1))]), (.tup [(.cst (.int 1)), (.cst (.int 0))])])])) (.or (.cmp .ne (.call 31 [(.cst (.int 3))]) (.tup [(.tup [(.cst (.int 0)), (.cst (.int 1)), (.cst (.int 2))]), (.tup [(.cst (.int 1)), (.cst (.int 0)), (.cst (.int 2))]), (.tup [(.cst (.int 1)), (.cst (.int 2)), (.cst (.int 0))])])) (.cmp .ne (.call 32 [(.cst (.int 2))]) (.tup [(.tup [(.cst (.int 0)), (.cst (.int 1))]), (.tup [(.cst (.int 0)), (.cst (.int 1))])])))) [.ret (.cst (.bl false))] [], .ite (.cmp .ne (.call 121 [(.cst (.int 2))]) (.lst [(.tup [(.tup [(.cst (.int 0)), (.cst (.int 1))]), (.tup [(.cst (.int 0)), (.cst (.int 1))])]), (.tup [(.tup [(.cst (.int 0)), (.cst (.int 1))]), (.tup [(.cst (.int 1)), (.cst (.int 0))])]), (.tup [(.tup [(.cst (.int 1)), (.cst (.int 0))]), (.tup [(.cst (.int 0)), (.cst (.int 1))])]), (.tup [(.tup [(.cst (.int 1)), (.cst (.int 0))]), (.tup [(.cst (.int 1)), (.cst (.int 0))])])])) [.ret (.cst (.bl false))] [], .ite (.or (.cmp .ne (.call 145 [(.tup [(.cst (.int 1)), (.cst (.int 2)), (.cst (.int 0))]), (.tup [(.cst (.int 1)), (.cst (.int 0)), (.cst (.int 2))])]) (.tup [(.cst (.int 0)), (.cst (.int 2)), (.cst (.int 1))])) (.or (.cmp .ne (.call 146 [(.tup [(.cst (.int 1)), (.cst (.int 2)), (.cst (.int 0))])]) (.tup [(.cst (.int 2)), (.cst (.int 0)), (.cst (.int 1))])) (.isb false false (.call 7 [(.call 31 [(.cst (.int 2))]), (.tup [(.cst (.int 1)), (.cst (.int 1))])])))) [.ret (.cst (.bl false))] [], .ite (.or (.cmp .ne (.call 11 [(.call 31 [(.cst (.int 2))]), (.tup [(.cst (.int 1)), (.cst (.int 2))]), (.lst [(.cst (.int 2)), (.cst (.int 3)), (.cst (.int 1))])]) (.tup [(.lst [(.cst (.bl true)), (.cst (.bl false)), (.cst (.bl false))]), (.tup [(.cst (.int 1)), (.cst (.int 3))])])) (.cmp .ne (.call 12 [(.call 31 [(.cst (.int 2))]), (.tup [(.cst (.int 1)), (.cst (.int 2))]), (.lst [(.cst (.int 2)), (.cst (.int 3)), (.cst (.int 1))])]) (.cst (.int 2)))) [.ret (.cst (.bl false))] [], .asg (.var 0) (.mk 4 [(.call 31 [(.cst (.int 2))]), (.tup [(.cst (.int 1)), (.cst (.int 2))])]), .ite (.or (.isb false true (.mu 0 (.var 0) [(.cst (.int 2))])) (.or (.cmp .ne (.mu 1 (.var 0) []) (.tup [(.cst (.int 2)), (.cst (.int 1))])) (.cmp .ne (.mu 2 (.var 0) []) (.cst (.int 1))))) [.ret (.cst (.bl false))] [], .ite (.or (.cmp .ne (.mu 3 (.var 0) []) (.tup [(.cst (.int 1)), (.cst (.int 0))])) (.or (.cmp .ne (.mu 4 (.var 0) []) (.lst [(.tup [(.cst (.int 2)), (.cst (.bl true))])])) (.cmp .ne (.call 48 [(.cst (.int 2))]) (.cst (.int 14))))) [.ret (.cst (.bl false))] [], .asg (.var 1) (.call 54 [(.call 31 [(.cst (.int 2))]), (.tup [(.cst (.int 1)), (.cst (.int 2))]), (.call 32 [(.cst (.int 2))]), (.tup [(.cst (.int 1)), (.cst (.int 2))])]), .ite (.or (.cmp .ne (.bi .len [(.var 1)]) (.cst (.int 3))) (.cmp .eq (.idx (.call 11 [(.call 31 [(.cst (.int 2))]), (.tup [(.cst (.int 1)), (.cst (.int 2))]), (.var 1)]) (.cst (.int 0))) (.idx (.call 11 [(.call 32 [(.cst (.int 2))]), (.tup [(.cst (.int 1)), (.cst (.int 2))]), (.var 1)]) (.cst (.int 0))))) [.ret (.cst (.bl false))] [], .ite (.or (.cmp .ne (.call 47 [(.mk 4 [(.call 32 [(.cst (.int 2))]), (.tup [(.cst (.int 5)), (.cst (.int 6))])]), (.cst (.int 2)), (.cst (.int 1000000))]) (.tup [(.tup [(.cst (.int 0)), (.cst (.int 1))]), (.tup [(.cst (.int 0)), (.cst (.int 1))])])) (.isb false false (.call 60 [(.call 31 [(.cst (.int 2))]), (.call 32 [(.cst (.int 2))])]))) [.ret (.cst (.bl false))] [], .ret (.cmp .eq (.call 61 [(.call 31 [(.cst (.int 2))]), (.call 31 [(.cst (.int 2))]), (.tup [(.cst (.int 1)), (.cst (.int 2))])]) (.lst [(.tup [(.cst (.int 1)), (.cst (.int 2))])]))]⟩
abbrev i__law_first : Nat := 186
/-- _law_second: log -/
def f__law_second : Fn := ⟨0, 1, false, [.asg (.var 0) (.lst [(.tup [(.cst (.int 7)), (.cst .non)]), (.tup [(.cst (.int 8)), (.cst .non)])]), .ite (.or (.cmp .ne (.call 71 [(.call 31 [(.cst (.int 2))]), (.sl (.var 0) none (some (.cst (.int 1))))]) (.lst [(.tup [(.cst (.int 7)), (.cst .non)])])) (.or (.cmp .ne (.call 77 [(.call 32 [(.cst (.int 2))]), (.var 0)]) (.lst [(.cst (.int 8))])) (.cmp .ne (.call 78 [(.call 32 [(.cst (.int 2))]), (.var 0)]) (.lst [(.cst (.int 7)), (.cst (.int 8))])))) [.ret (.cst (.bl false))] [], .ite (.or (.cmp .ne (.call 80 [(.call 32 [(.cst (.int 2))]), (.var 0), (.cst (.int 7))]) (.lst [(.cst (.bl false)), (.cst (.bl true))])) (.cmp .ne (.call 81 [(.call 31 [(.cst (.int 2))]), (.var 0)]) (.tup [(.cst (.int 8)), (.cst (.int 7))]))) [.ret (.cst (.bl false))] [], .ite (.or (.cmp .ne (.call 89 [(.call 32 [(.cst (.int 2))])]) (.cst (.int 3))) (.or (.cmp .ne (.call 95 [(.call 31 [(.cst (.int 2))])]) (.cst (.int 2))) (.cmp .ne (.call 96 [(.call 31 [(.cst (.int 2))])]) (.tup [(.cst (.int 1)), (.cst (.int 0))])))) [.ret (.cst (.bl false))] [], .ite (.or (.cmp .ne (.bi .len [(.idx (.call 90 [(.call 31 [(.cst (.int 2))])]) (.cst (.int 1)))]) (.cst (.int 1))) (.cmp .ne (.call 107 [(.call 31 [(.cst (.int 2))]), (.call 31 [(.cst (.int 2))])]) (.tup [(.cst (.int 1)), (.cst (.int 1))]))) [.ret (.cst (.bl false))] [], .ite (.cmp .ne (.call 109 [(.call 31 [(.cst (.int 2))]), (.call 32 [(.cst (.int 2))]), (.tup [(.cst (.int 0)), (.cst (.int 1))]), (.lst [(.tup [(.cst (.str [98, 111, 116, 104])), (.cst (.int 1))])])]) (.tup [(.tup [(.cst (.int 1)), (.cst (.int 0))]), (.cst (.int 0)), (.cst (.int 0))])) [.ret (.cst (.bl false))] [], .ret (.isb true true (.call 113 [(.call 31 [(.cst (.int 2))]), (.call 31 [(.cst (.int 2))]), (.tup [(.cst (.int 1)), (.cst (.int 1))]), (.lst [(.tup [(.tup [(.cst (.int 0)), (.cst (.int 1))]), (.cst (.int 0))])])]))]⟩
abbrev i__law_second : Nat := 187
/-- law: script, draws, recorder, block -/
def f_law_k20 : Fn := ⟨1, 4, true, [.asg (.var 1) (.call 19 [(.var 0)]), .ite (.or (.not (.call 186 [])) (.not (.call 187 []))) [.ret (.cst (.bl false))] [], .ite (.or (.isb false true (.call 122 [(.call 31 [(.cst (.int 2))]), (.lst [(.tup [(.cst (.int 7)), (.cst (.bl false))]), (.tup [(.cst (.int 7)), (.cst (.bl true))])])])) (.cmp .ne (.call 123 [(.cst (.int 2)), (.lst [(.tup [(.cst (.int 7)), (.cst (.bl false))]), (.tup [(.cst (.int 7)), (.cst (.bl false))])])]) (.lst []))) [.ret (.cst (.bl false))] [], .ite (.or (.isn false (.call 124 [(.cst (.int 2)), (.lst [])])) (.or (.cmp .ne (.call 189 [(.cst (.int 2)), (.lst [(.tup [(.cst (.int 7)), (.cst (.bl false))])]), (.cst (.int 7))]) (.lst [(.cst (.bl true))])) (.cmp .ne (.call 126 [(.cst (.int 2)), (.lst [(.tup [(.cst (.int 7)), (.cst (.bl false))]), (.tup [(.cst (.int 7)), (.cst (.bl false))])])]) (.cst (.int 2))))) [.ret (.cst (.bl false))] [], .asg (.var 2) (.mk 10 [(.cst (.int 2))]), .exp (.mu 9 (.var 2) [(.cst (.int 7)), (.cst (.bl false))]), .ite (.or (.cmp .ne (.mu 13 (.var 2) []) (.lst [(.tup [(.cst (.int 7)), (.cst (.bl false))])])) (.or (.cmp .ne (.mu 15 (.var 2) [(.cst (.int 7))]) (.lst [(.cst (.bl true))])) (.or (.cmp .ne (.mu 16 (.var 2) []) (.lst [])) (.cmp .ne (.bi .len [(.var 2)]) (.cst (.int 1)))))) [.ret (.cst (.bl false))] [], .ite (.or (.cmp .ne (.call 148 [(.call 31 [(.cst (.int 2))])]) (.cst (.str [48, 49, 32, 49, 48]))) (.cmp .ne (.call 152 [(.cst (.str [55, 63, 32, 55, 43]))]) (.lst [(.tup [(.cst (.int 7)), (.cst .non)]), (.tup [(.cst (.int 7)), (.cst (.bl true))])]))) [.ret (.cst (.bl false))] [], .asg (.var 3) (.call 20 [(.var 1), (.cst (.int 1000))]), .ret (.and (.cmp .eq (.call 150 [(.lst [(.tup [(.cst (.int 7)), (.cst .non)]), (.tup [(.cst (.int 7)), (.cst (.bl true))])])]) (.cst (.str [55, 63, 32, 55, 43]))) (.cmp .eq (.call 150 [(.lst [(.tup [(.var 3), (.cst (.bl false))])])]) (.bin .add .unk (.cst (.str [45])))))]⟩
abbrev i_law_k20 : Nat := 196
end G8

set_option Elab.async false
set_option linter.all false
set_option maxRecDepth 100000
set_option maxHeartbeats 1000000
namespace G8
/-! ### running the evaluator by simp -/
class HasF (P : Prg) (i : Nat) (f : outParam Fn) : Prop where
  h : P.fns.lookup i = some f
class HasI (P : Prg) (c : Nat) (f : outParam Nat) : Prop where
  h : P.init.lookup c = some f
class HasM (P : Prg) (c m : Nat) (f : outParam Nat) : Prop where
  h : (P.meth.find? fun p => p.1 == c && p.2.1 == m).map (·.2.2) = some f
theorem ev_e {P : Prg} {F d : Nat} {e : IE} {σ : Sl} {h : Sto} : (ev P (F + 1)).e d e σ h = stepE P (ev P F) d e σ h := rfl
theorem ev_s {P : Prg} {F d : Nat} {e : IS} {σ : Sl} {h : Sto} : (ev P (F + 1)).s d e σ h = stepS P (ev P F) d e σ h := rfl
/-- what comes after is not looked at before its time -/
inductive Tok {X : Type} (f : X) : Type
  | mk
def bindL {α β : Type} (r : R α) (f : α → Sto → R β) (_ : Tok f) : R β := r.bind f
def toL {α : Type} (r : R α) (σ : Sl) (f : α → Sto → F) (_ : Tok f) : F := r.to σ f
def thenL (r : F) (f : Sl → Sto → F) (_ : Tok f) : F := r.then f
theorem bL {α β : Type} (r : R α) (f : α → Sto → R β) : r.bind f = bindL r f .mk := rfl
theorem tL {α : Type} (r : R α) (σ : Sl) (f : α → Sto → F) : r.to σ f = toL r σ f .mk := rfl
theorem hL (r : F) (f : Sl → Sto → F) : r.then f = thenL r f .mk := rfl
theorem b_ok {α β : Type} {a : α} {h : Sto} {f : α → Sto → R β} : bindL (R.ok a h) f .mk = f a h := rfl
theorem b_err {α β : Type} {c : Nat} {h : Sto} {f : α → Sto → R β} : bindL (R.err c h) f .mk = .err c h := rfl
theorem t_ok {α : Type} {a : α} {h : Sto} {σ : Sl} {f : α → Sto → F} : toL (R.ok a h) σ f .mk = f a h := rfl
theorem t_err {α : Type} {c : Nat} {h : Sto} {σ : Sl} {f : α → Sto → F} : toL (R.err c h : R α) σ f .mk = .err c σ h := rfl
theorem th_n {σ : Sl} {h : Sto} {f : Sl → Sto → F} : thenL (F.next σ h) f .mk = f σ h := rfl
theorem th_r {v : D} {h : Sto} {f : Sl → Sto → F} : thenL (F.ret v h) f .mk = .ret v h := rfl
theorem th_e {c : Nat} {σ : Sl} {h : Sto} {f : Sl → Sto → F} : thenL (F.err c σ h) f .mk = .err c σ h := rfl
theorem ne_ok {α : Type} {a : α} {h : Sto} : (R.ok a h).noErr = .ok a h := rfl
theorem blk_n {s : IS → Sl → Sto → F} {x : IS} {xs : List IS} {σ σ1 : Sl} {h h1 : Sto} (e : s x σ h = .next σ1 h1) : blk s (x :: xs) σ h = blk s xs σ1 h1 := by
  show (s x σ h).then _ = _
  rw [e]
  rfl
theorem ev_for {P : Prg} {F d : Nat} {t it : IE} {b : List IS} {σ : Sl} {h : Sto} : (ev P (F + 1)).s d (.for_ t it b) σ h = (evIt ((ev P F).e d) it σ h).to σ fun i h1 => (match i with
    | .items xs => forS (turnF (ev P F) d t b) xs σ h1
    | .dyn n en => forD (turnF (ev P F) d t b) n en (lenAt h1 n) 0 σ h1
    | .dct n l => forK (turnF (ev P F) d t b) n l l 0 σ h1) := rfl
/-- behind a def's body -/
def fin (fn : Fn) (n0 : Nat) (r : F) : R D := match r with
  | .next _ h1 => leave fn n0 .non h1
  | .ret v h1 => leave fn n0 v h1
  | .err c _ h1 => if fn.keep then .err c h1 else if wf n0 (h1.take n0) then .err c (h1.take n0) else .stuck
  | _ => .stuck
theorem call_eq {P : Prg} {F d f : Nat} {ds : List D} {h : Sto} {fn : Fn} [q : HasF P f fn] (hl : ds.length = fn.np) : (ev P (F + 1)).c (d + 1) f ds h = fin fn h.length (blk ((ev P F).s d) fn.body (start fn ds) h) := by
  show stepC P (ev P F) (d + 1) f ds h = _
  unfold stepC
  simp only [q.h, if_pos hl]
  cases blk ((ev P F).s d) fn.body (start fn ds) h <;> rfl
theorem fin_ret {fn : Fn} {n0 : Nat} {v v' : D} {h : Sto} (hk : fn.keep = false) (hw : wf n0 (h.take n0) = true) (hz : fz h n0 12 v = some v') : fin fn n0 (.ret v h) = .ok v' (h.take n0) := by
  simp only [fin, leave, hk, hw, hz, if_true]
/-! ### what leaves a def -/
theorem fz_int {h : Sto} {n0 k : Nat} {i : Int} : fz h n0 k (.int i) = some (.int i) := by cases k <;> simp only [fz]
theorem fz_bl {h : Sto} {n0 k : Nat} {i : Bool} : fz h n0 k (.bl i) = some (.bl i) := by cases k <;> simp only [fz]
theorem fz_non {h : Sto} {n0 k : Nat} : fz h n0 k .non = some .non := by cases k <;> simp only [fz]
theorem fz_str {h : Sto} {n0 k : Nat} {x : List Nat} : fz h n0 k (.str x) = some (.str x) := by cases k <;> simp only [fz]
theorem fz_exc {h : Sto} {n0 k : Nat} {x : Nat} : fz h n0 k (.exc x) = some (.exc x) := by cases k <;> simp only [fz]
def WS (h : Sto) : Prop := wf h.length h = true
theorem okE_mono {n m : Nat} (h : n ≤ m) : ∀ {o : O}, okE n o = true → okE m o = true
  | .lst true _, _ => rfl
  | .lst false xs, e => by
    simp only [okE, List.all_eq_true] at e ⊢
    intro x hx
    have := e x hx
    cases x <;> simp only [refLt, decide_eq_true_eq] at this ⊢
    omega
  | .ins _ fs, e => by
    simp only [okE, List.all_eq_true] at e ⊢
    intro x hx
    have := e x hx
    revert this
    cases x.2 <;> simp only [refLt, decide_eq_true_eq, imp_self, implies_true]
    intro q
    omega
  | .dct _ _, e => e
  | .dead, _ => rfl
theorem wf_mono {n m : Nat} (h : n ≤ m) {s : Sto} (e : wf n s = true) : wf m s = true := by
  unfold wf at e ⊢
  simp only [List.all_eq_true] at e ⊢
  exact fun o ho => okE_mono h (e o ho)
theorem fin_pure {fn : Fn} {v v' : D} {h : Sto} (hk : fn.keep = false) (hw : WS h) (hz : fz h h.length 12 v = some v') : fin fn h.length (.ret v h) = .ok v' h := by
  have := fin_ret (n0 := h.length) (h := h) hk (by rw [List.take_length]; exact hw) hz
  rw [List.take_length] at this
  exact this
theorem fin_pureA {fn : Fn} {v v' : D} {h t : Sto} (hk : fn.keep = false) (hw : WS h) (hz : fz (h ++ t) h.length 12 v = some v') : fin fn h.length (.ret v (h ++ t)) = .ok v' h := by
  have := fin_ret (n0 := h.length) (h := h ++ t) hk (by rw [List.take_left]; exact hw) hz
  rw [List.take_left] at this
  exact this
theorem fin_next {fn : Fn} {σ : Sl} {h : Sto} (hk : fn.keep = false) (hw : WS h) : fin fn h.length (.next σ h) = .ok .non h := by
  have hw' : wf h.length h = true := hw
  simp only [fin, leave, hk, List.take_length, hw', if_true, fz_non]
mutual
/-- plain data that no list is in -/
def D.pl : Nat → D → Bool
  | _, .non => true
  | _, .bl _ => true
  | _, .int _ => true
  | _, .str _ => true
  | n + 1, .tup xs => D.pls n xs
  | n + 1, .lst xs => D.pls n xs
  | _, _ => false
def D.pls : Nat → List D → Bool
  | _, [] => true
  | n, x :: xs => D.pl n x && D.pls n xs
end
mutual
theorem fz_pl {h : Sto} {n0 : Nat} : ∀ (k : Nat) (d : D), D.pl k d = true → fz h n0 k d = some d
  | _, .non, _ => fz_non
  | _, .bl _, _ => fz_bl
  | _, .int _, _ => fz_int
  | _, .str _, _ => fz_str
  | k + 1, .tup xs, e => by simp only [D.pl] at e; simp only [fz, fzs_pl k xs e, Option.map_some]
  | k + 1, .lst xs, e => by simp only [D.pl] at e; simp only [fz, fzs_pl k xs e, Option.map_some]
  | 0, .tup xs, e => by simp [D.pl] at e
  | 0, .lst xs, e => by simp [D.pl] at e
  | 0, .scr xs, e => by simp [D.pl] at e
  | 0, .dct _ _, e => by simp [D.pl] at e
  | 0, .ref _, e => by simp [D.pl] at e
  | 0, .exc _, e => by simp [D.pl] at e
  | _ + 1, .scr xs, e => by simp [D.pl] at e
  | _ + 1, .dct _ _, e => by simp [D.pl] at e
  | _ + 1, .ref _, e => by simp [D.pl] at e
  | _ + 1, .exc _, e => by simp [D.pl] at e
theorem fzs_pl {h : Sto} {n0 : Nat} : ∀ (k : Nat) (ds : List D), D.pls k ds = true → fzL (fz h n0 k) ds = some ds
  | _, [], _ => by simp only [fzL]
  | k, x :: xs, e => by
    simp only [D.pls, Bool.and_eq_true] at e
    simp only [fzL, fz_pl k x e.1, fzs_pl k xs e.2, Option.bind_some, Option.map_some]
end
mutual
theorem pl_succ : ∀ (n : Nat) (d : D), D.pl n d = true → D.pl (n + 1) d = true
  | _, .non, _ => by simp only [D.pl]
  | _, .bl _, _ => by simp only [D.pl]
  | _, .int _, _ => by simp only [D.pl]
  | _, .str _, _ => by simp only [D.pl]
  | n + 1, .tup xs, e => by simp only [D.pl] at e; simp only [D.pl]; exact pls_succ n xs e
  | n + 1, .lst xs, e => by simp only [D.pl] at e; simp only [D.pl]; exact pls_succ n xs e
  | 0, .tup xs, e => by simp [D.pl] at e
  | 0, .lst xs, e => by simp [D.pl] at e
  | 0, .scr xs, e => by simp [D.pl] at e
  | 0, .dct _ _, e => by simp [D.pl] at e
  | 0, .ref _, e => by simp [D.pl] at e
  | 0, .exc _, e => by simp [D.pl] at e
  | _ + 1, .scr xs, e => by simp [D.pl] at e
  | _ + 1, .dct _ _, e => by simp [D.pl] at e
  | _ + 1, .ref _, e => by simp [D.pl] at e
  | _ + 1, .exc _, e => by simp [D.pl] at e
theorem pls_succ : ∀ (n : Nat) (ds : List D), D.pls n ds = true → D.pls (n + 1) ds = true
  | _, [], _ => by simp only [D.pls]
  | n, x :: xs, e => by
    simp only [D.pls, Bool.and_eq_true] at e ⊢
    exact ⟨pl_succ n x e.1, pls_succ n xs e.2⟩
end
theorem pl_mono {n m : Nat} (h : n ≤ m) {d : D} (e : D.pl n d = true) : D.pl m d = true := by
  induction h with
  | refl => exact e
  | step _ ih => exact pl_succ _ _ ih
/-! ### plain facts of the evaluator's lists -/
abbrev lI (xs : List Int) : List D := xs.map D.int
abbrev tN (xs : List Int) : D := .tup (xs.map D.int)
abbrev lN (xs : List Int) : D := .lst (xs.map D.int)
abbrev lB (xs : List Bool) : D := .lst (xs.map D.bl)
abbrev tR (rows : List (List Int)) : D := .tup (rows.map tN)
theorem boolsD_map : ∀ bs : List Bool, boolsD (bs.map D.bl) = some bs
  | [] => rfl
  | b :: bs => by simp only [List.map_cons, boolsD, boolsD_map bs, Option.map_some]
theorem intsD_map : ∀ ns : List Int, intsD (ns.map D.int) = some ns
  | [] => rfl
  | b :: bs => by simp only [List.map_cons, intsD, intsD_map bs, Option.map_some]
theorem pls_int (n : Nat) : ∀ xs : List Int, D.pls (n + 1) (xs.map D.int) = true
  | [] => by simp only [List.map_nil, D.pls]
  | x :: xs => by simp only [List.map_cons, D.pls, pls_int n xs, Bool.and_true]; cases n <;> simp only [D.pl]
theorem pls_bl (n : Nat) : ∀ xs : List Bool, D.pls (n + 1) (xs.map D.bl) = true
  | [] => by simp only [List.map_nil, D.pls]
  | x :: xs => by simp only [List.map_cons, D.pls, pls_bl n xs, Bool.and_true]; cases n <;> simp only [D.pl]
theorem pl_tN (n : Nat) (xs : List Int) : D.pl (n + 2) (tN xs) = true := by simp only [D.pl, pls_int]
theorem pl_lN (n : Nat) (xs : List Int) : D.pl (n + 2) (lN xs) = true := by simp only [D.pl, pls_int]
theorem pl_lB (n : Nat) (xs : List Bool) : D.pl (n + 2) (lB xs) = true := by simp only [D.pl, pls_bl]
theorem pls_map {α : Type} (f : α → D) (n : Nat) : ∀ xs : List α, (∀ x ∈ xs, D.pl n (f x) = true) → D.pls (n + 1) (xs.map f) = true
  | [], _ => by simp only [List.map_nil, D.pls]
  | x :: xs, h => by simp only [List.map_cons, D.pls, pl_succ n _ (h x List.mem_cons_self), pls_map f n xs (fun y hy => h y (List.mem_cons_of_mem _ hy)), Bool.and_self]
theorem pl_tR (n : Nat) (xs : List (List Int)) : D.pl (n + 4) (tR xs) = true := by simp only [D.pl]; exact pls_map tN (n + 2) xs fun x _ => pl_tN n x
theorem nrs_int : ∀ xs : List Int, D.nrs (xs.map D.int) = true
  | [] => by simp only [List.map_nil, D.nrs]
  | x :: xs => by simp only [List.map_cons, D.nrs, D.nr, nrs_int xs, Bool.and_self]
theorem nrs_bl : ∀ xs : List Bool, D.nrs (xs.map D.bl) = true
  | [] => by simp only [List.map_nil, D.nrs]
  | x :: xs => by simp only [List.map_cons, D.nrs, D.nr, nrs_bl xs, Bool.and_self]
theorem fits_int (n : Nat) : ∀ xs : List Int, D.fits n (xs.map D.int) = true
  | [] => by simp only [List.map_nil, D.fits]
  | x :: xs => by simp only [List.map_cons, D.fits, fits_int n xs, Bool.and_true]; cases n <;> simp only [D.fit]
theorem fits_bl (n : Nat) : ∀ xs : List Bool, D.fits n (xs.map D.bl) = true
  | [] => by simp only [List.map_nil, D.fits]
  | x :: xs => by simp only [List.map_cons, D.fits, fits_bl n xs, Bool.and_true]; cases n <;> simp only [D.fit]
theorem fit_int (n : Nat) (i : Int) : D.fit n (.int i) = true := by cases n <;> simp only [D.fit]
theorem fit_bl (n : Nat) (i : Bool) : D.fit n (.bl i) = true := by cases n <;> simp only [D.fit]
theorem fit_non (n : Nat) : D.fit n .non = true := by cases n <;> simp only [D.fit]
theorem fit_lint (n : Nat) (xs : List Int) : D.fit (n + 1) (lN xs) = true := by simp only [D.fit, fits_int]
theorem fit_tint (n : Nat) (xs : List Int) : D.fit (n + 1) (tN xs) = true := by simp only [D.fit, fits_int]
theorem fit_lbl (n : Nat) (xs : List Bool) : D.fit (n + 1) (lB xs) = true := by simp only [D.fit, fits_bl]
theorem fits_map {α : Type} (f : α → D) (n : Nat) : ∀ xs : List α, (∀ x ∈ xs, D.fit n (f x) = true) → D.fits n (xs.map f) = true
  | [], _ => by simp only [List.map_nil, D.fits]
  | x :: xs, h => by simp only [List.map_cons, D.fits, h x List.mem_cons_self, fits_map f n xs (fun y hy => h y (List.mem_cons_of_mem _ hy)), Bool.and_self]
theorem fit_tR (n : Nat) (xs : List (List Int)) : D.fit (n + 2) (tR xs) = true := by simp only [D.fit]; exact fits_map tN (n + 1) xs fun x _ => fit_tint n x
theorem flats_int : ∀ xs : List Int, (xs.map D.int).all flatD = true
  | [] => rfl
  | x :: xs => by simp only [List.map_cons, List.all_cons, flatD, flats_int xs, Bool.and_self]
/-- equality of what is laid by an injective map -/
theorem eqvs_map {α : Type} [DecidableEq α] (f : α → D) (hf : ∀ x y, D.eqv (f x) (f y) = decide (x = y)) : ∀ xs ys : List α, D.eqvs (xs.map f) (ys.map f) = decide (xs = ys)
  | [], [] => by simp only [List.map_nil, D.eqvs, decide_true]
  | [], y :: ys => by simp [D.eqvs]
  | x :: xs, [] => by simp [D.eqvs]
  | x :: xs, y :: ys => by
    simp only [List.map_cons, D.eqvs, hf, eqvs_map f hf xs ys, List.cons.injEq]
    by_cases h : x = y <;> by_cases h2 : xs = ys <;> simp [h, h2]
theorem eqv_int (x y : Int) : D.eqv (.int x) (.int y) = decide (x = y) := by
  simp only [D.eqv]
  by_cases h : x = y <;> simp [h]
theorem eqv_bl (x y : Bool) : D.eqv (.bl x) (.bl y) = decide (x = y) := by
  simp only [D.eqv]
  cases x <;> cases y <;> rfl
theorem eqvs_int (xs ys : List Int) : D.eqvs (xs.map D.int) (ys.map D.int) = decide (xs = ys) := eqvs_map _ eqv_int xs ys
theorem eqv_tN (xs ys : List Int) : D.eqv (tN xs) (tN ys) = decide (xs = ys) := by simp only [D.eqv, eqvs_int]
theorem eqv_lN (xs ys : List Int) : D.eqv (lN xs) (lN ys) = decide (xs = ys) := by simp only [D.eqv, eqvs_int]
theorem eqv_lB (xs ys : List Bool) : D.eqv (lB xs) (lB ys) = decide (xs = ys) := by simp only [D.eqv, eqvs_map _ eqv_bl]
theorem eqv_tR (xs ys : List (List Int)) : D.eqv (tR xs) (tR ys) = decide (xs = ys) := by simp only [D.eqv, eqvs_map _ eqv_tN]
theorem inD_map {α : Type} [DecidableEq α] (f : α → D) (hf : ∀ x y, D.eqv (f x) (f y) = decide (x = y)) (x : α) : ∀ acc : List α, inD (f x) (acc.map f) = decide (x ∈ acc)
  | [] => by simp [inD]
  | y :: acc => by
    have ih := inD_map f hf x acc
    unfold inD at ih ⊢
    rw [List.map_cons, List.any_cons, ih, hf]
    by_cases h : y = x
    · subst h; simp
    · simp [h, Ne.symm h]
theorem inD_int (x : Int) (acc : List Int) : inD (.int x) (acc.map D.int) = decide (x ∈ acc) := inD_map _ eqv_int x acc
theorem idxOf_map {α : Type} [DecidableEq α] (f : α → D) (hf : ∀ x y, D.eqv (f x) (f y) = decide (x = y)) (x : α) : ∀ acc : List α, x ∈ acc → idxOf (f x) (acc.map f) = some (acc.idxOf x)
  | [], h => by cases h
  | y :: acc, h => by
    simp only [List.map_cons, idxOf, hf]
    by_cases e : y = x
    · subst e; simp
    · have hm : x ∈ acc := by rcases List.mem_cons.mp h with q | q; exact absurd q.symm e; exact q
      have e2 : (y == x) = false := by simp [e]
      rw [idxOf_map f hf x acc hm, List.idxOf_cons, e2]
      simp [e]
def rgI (n : Nat) : List Int := (List.range n).map fun i => (i : Nat)
theorem rg_rgI (n : Nat) : rg 0 (n : Int) = (rgI n).map D.int := by
  unfold rg rgI
  rw [List.map_map]
  simp [Function.comp_def]
theorem rgI_length (n : Nat) : (rgI n).length = n := by simp [rgI]
theorem rgI_sorted (n : Nat) : (rgI n).Pairwise (· ≤ ·) := by
  unfold rgI
  rw [List.pairwise_map]
  exact List.pairwise_le_range.imp fun h => by omega
theorem mem_rgI {n : Nat} {x : Int} : x ∈ rgI n ↔ 0 ≤ x ∧ x < n := by
  unfold rgI
  simp only [List.mem_map, List.mem_range]
  constructor
  · rintro ⟨a, h, rfl⟩; omega
  · rintro ⟨h1, h2⟩; exact ⟨x.toNat, by omega, by omega⟩
theorem rgI_nodup (n : Nat) : (rgI n).Nodup := by
  unfold rgI
  rw [List.nodup_iff_pairwise_ne, List.pairwise_map]
  exact (List.nodup_iff_pairwise_ne.mp List.nodup_range).imp fun h => by omega
theorem rgI_succ (n : Nat) : rgI (n + 1) = rgI n ++ [(n : Int)] := by unfold rgI; rw [List.range_succ, List.map_append]; rfl
theorem sort_perm {xs : List Int} {n : Nat} (h : xs.Perm (rgI n)) : sortI xs = rgI n := sorted_one ((sortI_perm xs).trans h) (sortI_sorted xs) (rgI_sorted n)
theorem ixN_nat {n k : Nat} (h : k < n) : G8.ixN n (k : Int) = some k := by simp only [G8.ixN]; rw [if_pos (by omega), if_pos (by omega)]; simp
theorem ixN_pos {n : Nat} {i : Int} (h0 : 0 ≤ i) (h : i < n) : G8.ixN n i = some i.toNat := by simp only [G8.ixN]; rw [if_pos h0, if_pos h]
theorem get_map {α : Type} (f : α → D) {xs : List α} {k : Nat} {x : α} (h : xs[k]? = some x) : (xs.map f)[k]? = some (f x) := by rw [List.getElem?_map, h]; rfl
/-! ### comprehensions and loops -/
/-- a comprehension whose turns leave the store -/
theorem compS_map {α : Type} {t : D → Sto → R (Option D)} {h : Sto} (f : α → D) (g : α → D) : ∀ (xs : List α) (acc : List D), (∀ x ∈ xs, t (f x) h = .ok (some (g x)) h) → acc.length + xs.length ≤ LIM → compS t (xs.map f) acc h = .ok (acc ++ xs.map g) h
  | [], acc, _, _ => by simp [compS]
  | x :: xs, acc, ht, hl => by
    rw [List.length_cons] at hl
    simp only [List.map_cons, compS]
    rw [ht x List.mem_cons_self]
    simp only [bL, b_ok]
    rw [if_pos (by omega), compS_map f g xs (acc ++ [g x]) (fun y hy => ht y (List.mem_cons_of_mem _ hy)) (by rw [List.length_append, List.length_cons, List.length_nil]; omega), List.append_assoc]
    rfl
/-- one with a test -/
theorem compS_filter {α : Type} {t : D → Sto → R (Option D)} {h : Sto} (f : α → D) (p : α → Bool) (g : α → D) : ∀ (xs : List α) (acc : List D), (∀ x ∈ xs, t (f x) h = .ok (if p x then some (g x) else none) h) → acc.length + xs.length ≤ LIM → compS t (xs.map f) acc h = .ok (acc ++ (xs.filter p).map g) h
  | [], acc, _, _ => by simp [compS]
  | x :: xs, acc, ht, hl => by
    rw [List.length_cons] at hl
    simp only [List.map_cons, compS]
    rw [ht x List.mem_cons_self]
    simp only [bL, b_ok]
    cases hp : p x with
    | true =>
      simp only [if_true]
      rw [if_pos (by omega), compS_filter f p g xs (acc ++ [g x]) (fun y hy => ht y (List.mem_cons_of_mem _ hy)) (by rw [List.length_append, List.length_cons, List.length_nil]; omega), List.append_assoc, List.filter_cons_of_pos hp]
      rfl
    | false =>
      simp only [Bool.false_eq_true, if_false]
      rw [compS_filter f p g xs acc (fun y hy => ht y (List.mem_cons_of_mem _ hy)) (by omega), List.filter_cons_of_neg (by simp [hp])]
/-- one whose turns change the store -/
def foldM {α β γ : Type} (g : β → α → γ × β) : List α → β → List γ × β
  | [], b => ([], b)
  | x :: xs, b => ((g b x).1 :: (foldM g xs (g b x).2).1, (foldM g xs (g b x).2).2)
theorem foldM_length {α β γ : Type} (g : β → α → γ × β) : ∀ (xs : List α) (b : β), (foldM g xs b).1.length = xs.length
  | [], _ => rfl
  | x :: xs, b => by simp only [foldM, List.length_cons, foldM_length g xs]
theorem foldM_all {α β γ : Type} {g : β → α → γ × β} {p : γ → Prop} : ∀ (xs : List α) (b : β), (∀ b x, x ∈ xs → p (g b x).1) → ∀ y ∈ (foldM g xs b).1, p y
  | [], _, _, y, hy => by cases hy
  | x :: xs, b, h, y, hy => by
    rcases List.mem_cons.mp hy with e | e
    · rw [e]; exact h b x List.mem_cons_self
    · exact foldM_all xs _ (fun b z hz => h b z (List.mem_cons_of_mem _ hz)) y e
theorem compS_fold {α β γ : Type} {t : D → Sto → R (Option D)} (f : α → D) (H : β → Sto) (g : β → α → γ × β) (v : γ → D) : ∀ (xs : List α) (acc : List D) (b : β), (∀ b x, x ∈ xs → t (f x) (H b) = .ok (some (v (g b x).1)) (H (g b x).2)) → acc.length + xs.length ≤ LIM → compS t (xs.map f) acc (H b) = .ok (acc ++ (foldM g xs b).1.map v) (H (foldM g xs b).2)
  | [], acc, b, _, _ => by simp [compS, foldM]
  | x :: xs, acc, b, ht, hl => by
    rw [List.length_cons] at hl
    simp only [List.map_cons, compS, foldM]
    rw [ht b x List.mem_cons_self]
    simp only [bL, b_ok]
    rw [if_pos (by omega), compS_fold f H g v xs (acc ++ [v (g b x).1]) (g b x).2 (fun b y hy => ht b y (List.mem_cons_of_mem _ hy)) (by rw [List.length_append, List.length_cons, List.length_nil]; omega), List.append_assoc]
    rfl
/-- a loop that runs through -/
theorem forS_fold {α β : Type} {body : D → Sl → Sto → F} (f : α → D) (σ : β → Sl) (h : β → Sto) (stp : β → α → β) (I : Nat → β → Prop) : ∀ (xs : List α) (i : Nat) (b : β), I i b → (∀ k b x, x ∈ xs → k < i + xs.length → I k b → body (f x) (σ b) (h b) = .next (σ (stp b x)) (h (stp b x)) ∧ I (k + 1) (stp b x)) → forS body (xs.map f) (σ b) (h b) = .next (σ (xs.foldl stp b)) (h (xs.foldl stp b)) ∧ I (i + xs.length) (xs.foldl stp b)
  | [], i, b, hi, _ => ⟨by simp [forS], hi⟩
  | x :: xs, i, b, hi, hs => by
    obtain ⟨e, hi'⟩ := hs i b x List.mem_cons_self (by simp) hi
    simp only [List.map_cons, forS, e, List.foldl_cons]
    have := forS_fold (body := body) f σ h stp I xs (i + 1) (stp b x) hi' fun k b y hy hk => hs k b y (List.mem_cons_of_mem _ hy) (by rw [List.length_cons]; omega)
    rw [List.length_cons, show i + (xs.length + 1) = i + 1 + xs.length by omega]
    exact this
theorem compD_filter {α : Type} {t : D → Sto → R (Option D)} {h : Sto} {n : Nat} {fl : Bool} (f : α → D) (p : α → Bool) (g : α → D) (ys : List α) (hn : h[n]? = some (.lst fl (ys.map f))) (ht : ∀ x ∈ ys, t (f x) h = .ok (if p x then some (g x) else none) h) : ∀ (xs : List α) (i : Nat) (acc : List D), ys.drop i = xs → i + xs.length = ys.length → acc.length + xs.length ≤ LIM → compD t n false xs.length i acc h = .ok (acc ++ (xs.filter p).map g) h
  | [], i, acc, hx, hi, hl => by
    have e : (ys.map f)[i]? = none := List.getElem?_eq_none (by rw [List.length_map]; simp at hi; omega)
    unfold compD
    simp [itemAt, hn, e]
  | x :: xs, i, acc, hx, hi, hl => by
    rw [List.length_cons] at hl hi
    have hlt : i < ys.length := by omega
    have hd := List.drop_eq_getElem_cons hlt
    rw [hx] at hd
    injection hd with h1 h2
    have e : (ys.map f)[i]? = some (f x) := by rw [List.getElem?_map, List.getElem?_eq_getElem hlt, ← h1]; rfl
    unfold compD
    simp only [itemAt, hn, e, List.length_cons, Bool.false_eq_true, if_false, ht x (by rw [h1]; exact List.getElem_mem _), bL, b_ok]
    cases hp : p x with
    | true =>
      simp only [if_true]
      rw [if_pos (by omega), compD_filter f p g ys hn ht xs (i + 1) (acc ++ [g x]) h2.symm (by omega) (by rw [List.length_append, List.length_cons, List.length_nil]; omega), List.append_assoc, List.filter_cons_of_pos hp]
      rfl
    | false =>
      simp only [Bool.false_eq_true, if_false]
      rw [compD_filter f p g ys hn ht xs (i + 1) acc h2.symm (by omega) (by omega), List.filter_cons_of_neg (by simp [hp])]
/-- a loop by what stands at each turn -/
theorem forS_seq {body : D → Sl → Sto → F} (σ : Nat → Sl) (h : Nat → Sto) : ∀ (items : List D) (i : Nat), (∀ k x, items[k]? = some x → body x (σ (i + k)) (h (i + k)) = .next (σ (i + k + 1)) (h (i + k + 1))) → forS body items (σ i) (h i) = .next (σ (i + items.length)) (h (i + items.length))
  | [], i, _ => by simp [forS]
  | x :: xs, i, hs => by
    have e := hs 0 x rfl
    simp only [Nat.add_zero] at e
    have := forS_seq (body := body) σ h xs (i + 1) fun k y hy => by
      have := hs (k + 1) y (by simpa using hy)
      rw [show i + 1 + k = i + (k + 1) by omega]
      exact this
    simp only [forS, e, List.length_cons]
    rw [this, show i + 1 + xs.length = i + (xs.length + 1) by omega]
theorem rgI_get {n k : Nat} {x : D} (h : ((rgI n).map D.int)[k]? = some x) : k < n ∧ x = .int (k : Nat) := by
  have hk : k < n := by
    have := (List.getElem?_eq_some_iff.mp h).1
    rw [List.length_map, rgI_length] at this
    exact this
  refine ⟨hk, ?_⟩
  unfold rgI at h
  simp [hk] at h
  exact h.symm
theorem all_true {α : Type} (f : α → Bool) : ∀ xs : List α, (∀ x ∈ xs, f x = true) → (xs.map f).all id = true
  | [], _ => rfl
  | x :: xs, h => by
    simp only [List.map_cons, List.all_cons, id, h x List.mem_cons_self, all_true f xs fun y hy => h y (List.mem_cons_of_mem _ hy), Bool.and_self]
/-! the store's last things -/
theorem gl0 {h t : Sto} {x : O} : (h ++ x :: t)[h.length]? = some x := by simp
theorem gl1 {h t : Sto} {x y : O} : (h ++ x :: y :: t)[h.length + 1]? = some y := by simp
theorem st0 {h t : Sto} {x y : O} : (h ++ x :: t).set h.length y = h ++ y :: t := by simp
theorem st1 {h t : Sto} {x y z : O} : (h ++ x :: y :: t).set (h.length + 1) z = h ++ x :: z :: t := by simp
end G8

set_option Elab.async false
set_option linter.all false
set_option maxRecDepth 100000
set_option maxHeartbeats 1000000
namespace G8
/-! ### draws -/
structure Dw where
  nums : List Int
  k : Int
  ne : nums ≠ []
def mix (c k : Int) : Int := ((c + 104729 * (k + 1)) % 4294967291) ^ 5 % 4294967279
def Dw.at_ (s : Dw) : Nat := ((s.k + 1) % (s.nums.length : Int)).toNat
def Dw.cell (s : Dw) : Int := s.nums.getD s.at_ 0
def Dw.v (s : Dw) (lim : Int) : Int := if s.cell < 1000000000000000000 then (mix s.cell s.k / 64 * 69621 + mix s.cell s.k) % 4294967231 / 8 % lim else s.cell % lim
def Dw.n (s : Dw) (lim : Int) : Dw := ⟨if s.cell < 1000000000000000000 then s.nums else s.nums.set s.at_ (s.cell / lim), s.k + 1, fun z => s.ne (by
  split at z
  · exact z
  · simpa using congrArg List.length z)⟩
def DS (s : Dw) (r : Sto) : Sto := .lst true (s.nums.map .int) :: .lst false [.ref 0, .int s.k] :: r
def RK (r : Sto) : Prop := r.all (okE (r.length + 2)) = true
theorem rk_nil : RK [] := rfl
theorem ws_DS {s : Dw} {r : Sto} (h : RK r) : WS (DS s r) := by
  unfold WS wf DS
  simp only [List.all_cons, okE, List.length_cons, refLt]
  have : r.all (okE (r.length + 1 + 1)) = true := h
  rw [this]
  simp
theorem Dw.v_ge {s : Dw} {lim : Int} (h : 0 < lim) : 0 ≤ s.v lim := by unfold Dw.v; split <;> exact Int.emod_nonneg _ (by omega)
theorem Dw.v_lt {s : Dw} {lim : Int} (h : 0 < lim) : s.v lim < lim := by unfold Dw.v; split <;> exact Int.emod_lt_of_pos _ h
theorem mulOk_r {i j : Int} (h : -18446744073709551616 < j ∧ j < 18446744073709551616) : mulOk i j = true := by simp [mulOk, h.1, h.2]
theorem mulOk_l {i j : Int} (h : -18446744073709551616 < i ∧ i < 18446744073709551616) : mulOk i j = true := by simp [mulOk, h.1, h.2]
section
variable {P : Prg}
theorem draw_spec [HasF P i__law_draw f__law_draw] {s : Dw} {r : Sto} {lim : Int} (hr : RK r) (hl : 0 < lim) (hl2 : lim < 1073741824) (F d : Nat) (hF : 20 ≤ F) (hd : 1 ≤ d) :
    (ev P F).c d i__law_draw [.ref 1, .int lim] (DS s r) = .ok (.int (s.v lim)) (DS (s.n lim) r) := by
  obtain ⟨F, rfl⟩ : ∃ j, F = j + 20 := ⟨F - 20, by omega⟩
  obtain ⟨d, rfl⟩ : ∃ j, d = j + 1 := ⟨d - 1, by omega⟩
  have hpos : 0 < s.nums.length := List.length_pos_iff.mpr s.ne
  have hlen : ((0 : Int) < (s.nums.length : Int)) = True := by simp; omega
  have hm0 : 0 ≤ (s.k + 1) % (s.nums.length : Int) := Int.emod_nonneg _ (by omega)
  have hm1 : (s.k + 1) % (s.nums.length : Int) < s.nums.length := Int.emod_lt_of_pos _ (by omega)
  have i0 : G8.ixN 2 0 = some 0 := rfl
  have i1 : G8.ixN 2 1 = some 1 := rfl
  have ix : G8.ixN s.nums.length ((s.k + 1) % (s.nums.length : Int)) = some s.at_ := ixN_pos hm0 hm1
  have hat : s.at_ < s.nums.length := by unfold Dw.at_; omega
  have hc : s.nums[s.at_]? = some s.cell := by unfold Dw.cell; rw [List.getD_eq_getElem?_getD, List.getElem?_eq_getElem hat]; rfl
  have at_ : (s.nums.map D.int)[s.at_]? = some (.int s.cell) := get_map _ hc
  have p6 : ((0 : Int) < lim) = True := by simp [hl]
  have hws := fun s' => ws_DS (s := s') hr
  have eDS : (DS s r).length = r.length + 2 := rfl
  rw [call_eq (fn := f__law_draw) rfl]
  by_cases hlt : s.cell < 1000000000000000000
  · have hlt' : decide (1000000000000000000 ≤ s.cell) = false := by simp; omega
    have m1 : mulOk 104729 (s.k + 1) = true := mulOk_l (by omega)
    have p1 : ((0 : Int) < 4294967291) = True := by simp
    have p2 : ((0 : Int) < 4294967279) = True := by simp
    have p3 : ((0 : Int) < 4294967231) = True := by simp
    have p4 : ((0 : Int) < 64 ∧ (64 : Int) < 1073741824) = True := by simp
    have p5 : ((0 : Int) < 8 ∧ (8 : Int) < 1073741824) = True := by simp
    have hmn : 0 ≤ (s.cell + 104729 * (s.k + 1)) % 4294967291 := Int.emod_nonneg _ (by omega)
    have hml : (s.cell + 104729 * (s.k + 1)) % 4294967291 < 4294967291 := Int.emod_lt_of_pos _ (by omega)
    have pw : ((0 : Int) ≤ 5 ∧ (5 : Int) ≤ 1000000 ∧ ((s.cell + 104729 * (s.k + 1)) % 4294967291).natAbs < 18446744073709551616) = True := by simp; omega
    have h5 : (5 : Int).toNat = 5 := rfl
    have m2 : mulOk (((s.cell + 104729 * (s.k + 1)) % 4294967291) ^ 5 % 4294967279 / 64) 69621 = true := mulOk_r (by omega)
    have en : DS (s.n lim) r = .lst true (s.nums.map .int) :: .lst false [.ref 0, .int (s.k + 1)] :: r := by unfold DS Dw.n; simp only [if_pos hlt]
    have ev_ : s.v lim = (((s.cell + 104729 * (s.k + 1)) % 4294967291) ^ 5 % 4294967279 / 64 * 69621 + ((s.cell + 104729 * (s.k + 1)) % 4294967291) ^ 5 % 4294967279) % 4294967231 / 8 % lim := by unfold Dw.v mix; rw [if_pos hlt]
    simp -dsimp -implicitDefEqProofs only [f__law_draw, eDS, G8.start, List.length_cons, List.length_nil, List.map_cons, List.map_nil, List.replicate, Nat.reduceAdd, Nat.reduceSub, List.cons_append, List.nil_append]
    unfold DS
    simp -dsimp -implicitDefEqProofs only [↓bL, ↓tL, ↓hL, ↓ev_for, ev_e, ev_s, stepE, stepS, b_ok, b_err, t_ok, t_err, th_n, th_r, th_e, ne_ok, blk, G8.evs, asgT, asg1, asgs, idxD, seqOf, binD, cmpD, setIdxD, D.top, D.nr, if_true, and_self, Bool.false_and, Bool.and_true, biD, List.getElem?_cons_zero, List.getElem?_cons_succ, List.set_cons_zero, List.set_cons_succ, Nat.reduceLeDiff, Bool.false_eq_true, if_false, Bool.not_true, Bool.not_false, evIt, itOf, compI, lstOf, Option.bind_some, isiD, res, Bool.and_self, Bool.true_and, beq_self_eq_true, i0, i1, List.length_cons, List.length_nil, Nat.reduceAdd, List.length_map, hlen, ix, at_, hlt', m1, m2, p1, p2, p3, p4, p5, p6, pw, h5]
    rw [← ev_, ← en]
    exact fin_pure (fn := f__law_draw) (v := .int (s.v lim)) rfl (hws (s.n lim)) fz_int
  · have hlt' : decide (1000000000000000000 ≤ s.cell) = true := by simp; omega
    have p7 : (lim < 1073741824) = True := by simp [hl2]
    have hset : (s.nums.map D.int).set s.at_ (.int (s.cell / lim)) = (s.nums.set s.at_ (s.cell / lim)).map D.int := by rw [List.map_set]
    have en : DS (s.n lim) r = .lst true ((s.nums.set s.at_ (s.cell / lim)).map .int) :: .lst false [.ref 0, .int (s.k + 1)] :: r := by unfold DS Dw.n; simp only [if_neg hlt]
    have ev_ : s.v lim = s.cell % lim := by unfold Dw.v; rw [if_neg hlt]
    simp -dsimp -implicitDefEqProofs only [f__law_draw, eDS, G8.start, List.length_cons, List.length_nil, List.map_cons, List.map_nil, List.replicate, Nat.reduceAdd, Nat.reduceSub, List.cons_append, List.nil_append]
    unfold DS
    simp -dsimp -implicitDefEqProofs only [↓bL, ↓tL, ↓hL, ↓ev_for, ev_e, ev_s, stepE, stepS, b_ok, b_err, t_ok, t_err, th_n, th_r, th_e, ne_ok, blk, G8.evs, asgT, asg1, asgs, idxD, seqOf, binD, cmpD, setIdxD, D.top, D.nr, if_true, and_self, Bool.false_and, Bool.and_true, biD, List.getElem?_cons_zero, List.getElem?_cons_succ, List.set_cons_zero, List.set_cons_succ, Nat.reduceLeDiff, Bool.false_eq_true, if_false, Bool.not_true, Bool.not_false, evIt, itOf, compI, lstOf, Option.bind_some, isiD, res, Bool.and_self, Bool.true_and, beq_self_eq_true, i0, i1, List.length_cons, List.length_nil, Nat.reduceAdd, List.length_map, hlen, ix, at_, hlt', p6, p7, hset]
    rw [← ev_, ← en]
    exact fin_pure (fn := f__law_draw) (v := .int (s.v lim)) rfl (hws (s.n lim)) fz_int
/-! ### _law_permutation -/
def insAt (xs : List Int) (k : Nat) (x : Int) : List Int := xs.take k ++ [x] ++ xs.drop k
/-- found, what was drawn last, the draws -/
def permStep (b : List Int × Option D × Option D × Dw) (x : Int) : List Int × Option D × Option D × Dw :=
  (insAt b.1 (b.2.2.2.v ((b.1.length : Int) + 1)).toNat x, some (.int x), some (.int (b.2.2.2.v ((b.1.length : Int) + 1))), b.2.2.2.n ((b.1.length : Int) + 1))
def permB (s : Dw) (n : Nat) : List Int × Option D × Option D × Dw := (rgI n).foldl permStep ([], none, none, s)
def permF (s : Dw) (n : Nat) : List Int := (permB s n).1
def permN (s : Dw) (n : Nat) : Dw := (permB s n).2.2.2
theorem permB_succ (s : Dw) (n : Nat) : permB s (n + 1) = permStep (permB s n) n := by unfold permB; rw [rgI_succ, List.foldl_append]; rfl
theorem insAt_perm (xs : List Int) (k : Nat) (x : Int) : (insAt xs k x).Perm (xs ++ [x]) := by
  unfold insAt
  have h1 : (xs.take k ++ [x] ++ xs.drop k).Perm (xs.take k ++ (xs.drop k ++ [x])) := by
    rw [List.append_assoc]
    exact List.Perm.append_left _ List.perm_append_comm
  rw [← List.append_assoc, List.take_append_drop] at h1
  exact h1
theorem permF_perm (s : Dw) : ∀ n : Nat, (permF s n).Perm (rgI n)
  | 0 => List.Perm.refl _
  | n + 1 => by
    unfold permF
    rw [permB_succ, rgI_succ]
    exact (insAt_perm _ _ _).trans ((permF_perm s n).append_right _)
theorem permF_length (s : Dw) (n : Nat) : (permF s n).length = n := by rw [(permF_perm s n).length_eq, rgI_length]
theorem cut_lo {xs : List D} {k : Int} (h0 : 0 ≤ k) (h : k ≤ xs.length) : cut xs none (some k) = xs.take k.toNat := by
  unfold cut
  simp only [G8.sIx, List.drop_zero, Nat.sub_zero]
  rw [if_neg (by omega), Nat.min_eq_left (by omega)]
theorem cut_hi {xs : List D} {k : Int} (h0 : 0 ≤ k) (h : k ≤ xs.length) : cut xs (some k) none = xs.drop k.toNat := by
  unfold cut
  simp only [G8.sIx]
  rw [if_neg (by omega), Nat.min_eq_left (by omega), List.take_of_length_le (by rw [List.length_drop]; omega)]
theorem cut_m1 {xs : List D} : cut xs none (some (-1)) = xs.dropLast := by
  unfold cut
  simp only [G8.sIx, List.drop_zero, Nat.sub_zero]
  rw [if_pos (by omega), List.dropLast_eq_take]
  congr 1
  omega
theorem perm_spec [HasF P i__law_permutation f__law_permutation] [HasF P i__law_draw f__law_draw] {s : Dw} {r : Sto} {n : Nat} (hr : RK r) (hn : n ≤ 1000000) (F d : Nat) (hF : 40 ≤ F) (hd : 2 ≤ d) :
    (ev P F).c d i__law_permutation [.ref 1, .int (n : Nat)] (DS s r) = .ok (tN (permF s n)) (DS (permN s n) r) := by
  obtain ⟨F, rfl⟩ : ∃ j, F = j + 40 := ⟨F - 40, by omega⟩
  obtain ⟨d, rfl⟩ : ∃ j, d = j + 2 := ⟨d - 2, by omega⟩
  rw [call_eq (fn := f__law_permutation) rfl]
  simp -dsimp -implicitDefEqProofs only [f__law_permutation, G8.start, List.length_cons, List.length_nil, List.map_cons, List.map_nil, List.replicate, Nat.reduceAdd, Nat.reduceSub, List.cons_append, List.nil_append]
  have lp : ∀ F', 35 ≤ F' → forS (turnF (ev P F') (d + 1) (.var 3) [.asg (.var 4) (.call 20 [(.var 0), (.bin .add (.bi .len [(.var 2)]) (.cst (.int 1)))]), .asg (.var 2) (.bin .add (.bin .add (.sl (.var 2) none (some (.var 4))) (.tup [(.var 3)])) (.sl (.var 2) (some (.var 4)) none))]) ((rgI n).map D.int)
      [some (.ref 1), some (.int (n : Nat)), some (.tup []), none, none] (DS s r) = .next [some (.ref 1), some (.int (n : Nat)), some (tN (permF s n)), (permB s n).2.1, (permB s n).2.2.1] (DS (permN s n) r) := by
    intro F' hF'
    obtain ⟨F', rfl⟩ : ∃ j, F' = j + 35 := ⟨F' - 35, by omega⟩
    exact (forS_fold (body := turnF (ev P (F' + 35)) (d + 1) (.var 3) [.asg (.var 4) (.call 20 [(.var 0), (.bin .add (.bi .len [(.var 2)]) (.cst (.int 1)))]), .asg (.var 2) (.bin .add (.bin .add (.sl (.var 2) none (some (.var 4))) (.tup [(.var 3)])) (.sl (.var 2) (some (.var 4)) none))]) D.int
        (fun b : List Int × Option D × Option D × Dw => [some (.ref 1), some (.int (n : Nat)), some (tN b.1), b.2.1, b.2.2.1]) (fun b => DS b.2.2.2 r) permStep (fun k b => b.1.length = k) (rgI n) 0 ([], none, none, s) rfl (fun k b x hx hk hI => by
      obtain ⟨fo, p, q, s⟩ := b
      rw [rgI_length, Nat.zero_add] at hk
      have hI : fo.length = k := hI
      have l1 : (0 : Int) < (fo.length : Int) + 1 := by omega
      have hv := s.v_ge l1
      have hv2 := s.v_lt l1
      have hv3 : s.v ((fo.length : Int) + 1) ≤ (fo.map D.int).length := by rw [List.length_map]; omega
      refine ⟨?_, ?_⟩
      · unfold turnF
        have z1 : ((List.map D.int fo).take (s.v ((fo.length : Int) + 1)).toNat).length + 1 ≤ LIM := by rw [List.length_take, List.length_map]; show _ ≤ 16777216; omega
        have z2 : ((List.map D.int fo).take (s.v ((fo.length : Int) + 1)).toNat).length + 1 + ((List.map D.int fo).drop (s.v ((fo.length : Int) + 1)).toNat).length ≤ LIM := by rw [List.length_take, List.length_drop, List.length_map]; show _ ≤ 16777216; omega
        simp -dsimp -implicitDefEqProofs only [↓bL, ↓tL, ↓hL, ↓ev_for, ev_e, ev_s, stepE, stepS, b_ok, b_err, t_ok, t_err, th_n, th_r, th_e, ne_ok, blk, G8.evs, asgT, asg1, asgs, idxD, seqOf, binD, cmpD, setIdxD, D.top, D.nr, if_true, and_self, Bool.false_and, Bool.and_true, biD, List.getElem?_cons_zero, List.getElem?_cons_succ, List.set_cons_zero, List.set_cons_succ, Nat.reduceLeDiff, Bool.false_eq_true, if_false, Bool.not_true, Bool.not_false, evIt, itOf, compI, lstOf, Option.bind_some, isiD, res, Bool.and_self, Bool.true_and, beq_self_eq_true, List.length_map, draw_spec hr l1 (show (fo.length : Int) + 1 < 1073741824 by omega), evO, slD, cut_lo hv hv3, cut_hi hv hv3, List.length_append, List.length_cons, List.length_nil, z1, z2]
        simp only [permStep, insAt, tN, List.map_append, List.map_take, List.map_drop, List.map_cons, List.map_nil]
      · simp only [permStep, insAt, List.length_append, List.length_take, List.length_drop, List.length_cons, List.length_nil]
        omega)).1
  have r1 : small (n : Int) = true := by simp [small]; omega
  simp -dsimp -implicitDefEqProofs only [↓bL, ↓tL, ↓hL, ↓ev_for, ev_e, ev_s, stepE, stepS, b_ok, b_err, t_ok, t_err, th_n, th_r, th_e, ne_ok, blk, G8.evs, asgT, asg1, asgs, idxD, seqOf, binD, cmpD, setIdxD, D.top, D.nr, if_true, and_self, Bool.false_and, Bool.and_true, biD, List.getElem?_cons_zero, List.getElem?_cons_succ, List.set_cons_zero, List.set_cons_succ, Nat.reduceLeDiff, Bool.false_eq_true, if_false, Bool.not_true, Bool.not_false, evIt, itOf, compI, lstOf, Option.bind_some, isiD, res, Bool.and_self, Bool.true_and, beq_self_eq_true, evIt, r1, rg_rgI, lp]
  exact fin_pure (fn := f__law_permutation) rfl (ws_DS hr) (fz_pl _ _ (pl_tN _ _))
end
end G8

set_option Elab.async false
set_option linter.all false
set_option maxRecDepth 100000
set_option maxHeartbeats 1000000
namespace G8
structure IsPol (rows : List (List Int)) : Prop where
  lo : 2 ≤ rows.length
  hi : rows.length ≤ 4
  pm : ∀ r ∈ rows, r.Perm (rgI rows.length)
structure IsSt (rows : List (List Int)) (st : List Int) : Prop where
  len : st.length = rows.length
  rg : ∀ x ∈ st, 0 ≤ x ∧ x ≤ 1000000000
  nd : st.Nodup
section
variable {P : Prg} {h : Sto}
theorem is_int_spec [HasF P i_is_int f_is_int] {i a b : Int} (hw : WS h) (F d : Nat) (hF : 12 ≤ F) (hd : 1 ≤ d) : (ev P F).c d i_is_int [.int i, .int a, .int b] h = .ok (.bl (decide (a ≤ i) && decide (i ≤ b))) h := by
  obtain ⟨F, rfl⟩ : ∃ j, F = j + 12 := ⟨F - 12, by omega⟩
  obtain ⟨d, rfl⟩ : ∃ j, d = j + 1 := ⟨d - 1, by omega⟩
  rw [call_eq (fn := f_is_int) rfl]
  simp -dsimp -implicitDefEqProofs only [f_is_int, G8.start, List.length_cons, List.length_nil, List.map_cons, List.map_nil, List.replicate, Nat.reduceAdd, Nat.reduceSub, List.cons_append, List.nil_append]
  by_cases h1 : a ≤ i
  · have e1 : decide (a ≤ i) = true := by simpa using h1
    simp -dsimp -implicitDefEqProofs only [↓bL, ↓tL, ↓hL, ↓ev_for, ev_e, ev_s, stepE, stepS, b_ok, b_err, t_ok, t_err, th_n, th_r, th_e, ne_ok, blk, G8.evs, asgT, asg1, asgs, idxD, seqOf, binD, cmpD, setIdxD, D.top, D.nr, if_true, and_self, Bool.false_and, Bool.and_true, biD, List.getElem?_cons_zero, List.getElem?_cons_succ, List.set_cons_zero, List.set_cons_succ, Nat.reduceLeDiff, Bool.false_eq_true, if_false, Bool.not_true, Bool.not_false, evIt, itOf, compI, lstOf, Option.bind_some, isiD, res, Bool.and_self, Bool.true_and, beq_self_eq_true, isiD, Bool.not_false, Bool.not_true, e1, Bool.true_and, List.append_nil]
    exact fin_pure (fn := f_is_int) rfl hw fz_bl
  · have e1 : decide (a ≤ i) = false := by simpa using h1
    simp -dsimp -implicitDefEqProofs only [↓bL, ↓tL, ↓hL, ↓ev_for, ev_e, ev_s, stepE, stepS, b_ok, b_err, t_ok, t_err, th_n, th_r, th_e, ne_ok, blk, G8.evs, asgT, asg1, asgs, idxD, seqOf, binD, cmpD, setIdxD, D.top, D.nr, if_true, and_self, Bool.false_and, Bool.and_true, biD, List.getElem?_cons_zero, List.getElem?_cons_succ, List.set_cons_zero, List.set_cons_succ, Nat.reduceLeDiff, Bool.false_eq_true, if_false, Bool.not_true, Bool.not_false, evIt, itOf, compI, lstOf, Option.bind_some, isiD, res, Bool.and_self, Bool.true_and, beq_self_eq_true, isiD, Bool.not_false, Bool.not_true, e1, Bool.false_and, List.append_nil]
    exact fin_pure (fn := f_is_int) rfl hw fz_bl
/-- all([is_int(x, a, b) for x in xs]) -/
theorem turn_isint [HasF P i_is_int f_is_int] {a b : Int} {ea eb : IE} {i : Nat} {σ : Sl} (hw : WS h) {F d : Nat} (hF : 12 ≤ F) (hd : 1 ≤ d) (hi : i < σ.length)
    (ha : ∀ x : Int, (ev P F).e d ea (σ.set i (some (.int x))) h = .ok (.int a) h) (hb : ∀ x : Int, (ev P F).e d eb (σ.set i (some (.int x))) h = .ok (.int b) h) (x : Int) :
    turn ((ev P (F + 1)).e d) (.var i) [] (.call i_is_int [.var i, ea, eb]) σ (.int x) h = .ok (some (.bl (decide (a ≤ x) && decide (x ≤ b)))) h := by
  have e1 : (ev P F).e d (.var i) (σ.set i (some (.int x))) h = .ok (.int x) h := by
    obtain ⟨F, rfl⟩ : ∃ j, F = j + 1 := ⟨F - 1, by omega⟩
    simp only [ev_e, stepE, List.getElem?_set_self hi]
  simp only [turn, asgC, tests, ↓bL, b_ok, if_true, ev_e, stepE, G8.evs, e1, ha x, hb x, is_int_spec hw F d hF hd]
theorem compS_isint [HasF P i_is_int f_is_int] {a b : Int} {ea eb : IE} {i : Nat} {σ : Sl} (hw : WS h) {F d : Nat} (hF : 13 ≤ F) (hd : 1 ≤ d) (hi : i < σ.length) {xs : List Int} (hl : xs.length ≤ 1000000)
    (ha : ∀ F', 5 ≤ F' → ∀ x : Int, (ev P F').e d ea (σ.set i (some (.int x))) h = .ok (.int a) h) (hb : ∀ F', 5 ≤ F' → ∀ x : Int, (ev P F').e d eb (σ.set i (some (.int x))) h = .ok (.int b) h) :
    compS (turn ((ev P F).e d) (.var i) [] (.call i_is_int [.var i, ea, eb]) σ) (xs.map D.int) [] h = .ok ((xs.map fun x => decide (a ≤ x) && decide (x ≤ b)).map D.bl) h := by
  obtain ⟨F, rfl⟩ : ∃ j, F = j + 1 := ⟨F - 1, by omega⟩
  rw [compS_map D.int (fun x => .bl (decide (a ≤ x) && decide (x ≤ b))) xs [] (fun x _ => turn_isint hw (by omega) hd hi (ha F (by omega)) (hb F (by omega)) x) (by show 0 + xs.length ≤ 16777216; omega), List.nil_append, List.map_map]
  rfl
theorem is_permutation_spec [HasF P i_is_permutation f_is_permutation] [HasF P i_is_int f_is_int] {xs : List Int} {n : Nat} (hp : xs.Perm (rgI n)) (hn : n ≤ 1000) (hw : WS h) (F d : Nat) (hF : 30 ≤ F) (hd : 2 ≤ d) :
    (ev P F).c d i_is_permutation [tN xs, .int (n : Nat)] h = .ok (.bl true) h := by
  obtain ⟨F, rfl⟩ : ∃ j, F = j + 30 := ⟨F - 30, by omega⟩
  obtain ⟨d, rfl⟩ : ∃ j, d = j + 2 := ⟨d - 2, by omega⟩
  rw [call_eq (fn := f_is_permutation) rfl]
  have hlen : xs.length = n := by rw [hp.length_eq]; simp [rgI]
  simp -dsimp -implicitDefEqProofs only [f_is_permutation, G8.start, List.length_cons, List.length_nil, List.map_cons, List.map_nil, List.replicate, Nat.reduceAdd, Nat.reduceSub, List.cons_append, List.nil_append]
  have hc : ∀ F', 20 ≤ F' → compS (turn ((ev P F').e (d + 1)) (.var 2) [] (.call 0 [.var 2, .cst (.int 0), .bin .sub (.var 1) (.cst (.int 1))]) [some (tN xs), some (.int (n : Nat)), none]) (xs.map D.int) [] h = .ok ((xs.map fun x => decide (0 ≤ x) && decide (x ≤ (n : Int) - 1)).map D.bl) h := by
    intro F' hF'
    exact compS_isint hw (by omega) (by omega) (by simp) (by omega) (fun G hG x => by
      obtain ⟨G, rfl⟩ : ∃ j, G = j + 5 := ⟨G - 5, by omega⟩
      simp -dsimp -implicitDefEqProofs only [↓bL, ↓tL, ↓hL, ↓ev_for, ev_e, ev_s, stepE, stepS, b_ok, b_err, t_ok, t_err, th_n, th_r, th_e, ne_ok, blk, G8.evs, asgT, asg1, asgs, idxD, seqOf, binD, cmpD, setIdxD, D.top, D.nr, if_true, and_self, Bool.false_and, Bool.and_true, biD, List.getElem?_cons_zero, List.getElem?_cons_succ, List.set_cons_zero, List.set_cons_succ, Nat.reduceLeDiff, Bool.false_eq_true, if_false, Bool.not_true, Bool.not_false, evIt, itOf, compI, lstOf, Option.bind_some, isiD, res, Bool.and_self, Bool.true_and, beq_self_eq_true]) (fun G hG x => by
      obtain ⟨G, rfl⟩ : ∃ j, G = j + 5 := ⟨G - 5, by omega⟩
      simp -dsimp -implicitDefEqProofs only [↓bL, ↓tL, ↓hL, ↓ev_for, ev_e, ev_s, stepE, stepS, b_ok, b_err, t_ok, t_err, th_n, th_r, th_e, ne_ok, blk, G8.evs, asgT, asg1, asgs, idxD, seqOf, binD, cmpD, setIdxD, D.top, D.nr, if_true, and_self, Bool.false_and, Bool.and_true, biD, List.getElem?_cons_zero, List.getElem?_cons_succ, List.set_cons_zero, List.set_cons_succ, Nat.reduceLeDiff, Bool.false_eq_true, if_false, Bool.not_true, Bool.not_false, evIt, itOf, compI, lstOf, Option.bind_some, isiD, res, Bool.and_self, Bool.true_and, beq_self_eq_true])
  have ha : ((xs.map fun x => decide (0 ≤ x) && decide (x ≤ (n : Int) - 1)).all id) = true := all_true _ xs fun x hx => by
    have := mem_rgI.mp (hp.mem_iff.mp hx)
    simp only [Bool.and_eq_true, decide_eq_true_eq]
    omega
  have r1 : ((0 : Int) ≤ (n : Int) ∧ (n : Int) ≤ 16777216) = True := by simp; omega
  have wp : G8.wipe [some (tN xs), some (.int (n : Nat)), none] [2] = [some (tN xs), some (.int (n : Nat)), none] := rfl
  simp -dsimp -implicitDefEqProofs only [↓bL, ↓tL, ↓hL, ↓ev_for, ev_e, ev_s, stepE, stepS, b_ok, b_err, t_ok, t_err, th_n, th_r, th_e, ne_ok, blk, G8.evs, asgT, asg1, asgs, idxD, seqOf, binD, cmpD, setIdxD, D.top, D.nr, if_true, and_self, Bool.false_and, Bool.and_true, biD, List.getElem?_cons_zero, List.getElem?_cons_succ, List.set_cons_zero, List.set_cons_succ, Nat.reduceLeDiff, Bool.false_eq_true, if_false, Bool.not_true, Bool.not_false, evIt, itOf, compI, lstOf, Option.bind_some, isiD, res, Bool.and_self, Bool.true_and, beq_self_eq_true, isiD, Bool.not_true, evIt, itOf, compI, wp, hc, lstOf, Option.bind_some, boolsD_map, ha, intsD_map, Option.bind_some, r1, rg_rgI, sort_perm hp, res, fit_lint, Bool.and_self, eqvs_int, D.eqv, decide_true, Bool.false_eq_true, if_false]
  exact fin_pure (fn := f_is_permutation) rfl hw fz_bl
theorem is_policy_spec [HasF P i_is_policy f_is_policy] [HasF P i_is_permutation f_is_permutation] [HasF P i_is_int f_is_int] {rows : List (List Int)} (hp : IsPol rows) (hw : WS h) (F d : Nat) (hF : 50 ≤ F) (hd : 3 ≤ d) : (ev P F).c d i_is_policy [tR rows] h = .ok (.bl true) h := by
  obtain ⟨F, rfl⟩ : ∃ j, F = j + 50 := ⟨F - 50, by omega⟩
  obtain ⟨d, rfl⟩ : ∃ j, d = j + 3 := ⟨d - 3, by omega⟩
  rw [call_eq (fn := f_is_policy) rfl]
  simp -dsimp -implicitDefEqProofs only [f_is_policy, G8.start, List.length_cons, List.length_nil, List.map_cons, List.map_nil, List.replicate, Nat.reduceAdd, Nat.reduceSub, List.cons_append, List.nil_append]
  have h1 := hp.lo
  have h2 := hp.hi
  have hc : ∀ F', 35 ≤ F' → compS (turn ((ev P F').e (d + 2)) (.var 1) [] (.call 4 [.var 1, .bi .len [.var 0]]) [some (tR rows), none]) (rows.map tN) [] h = .ok ((rows.map fun _ => true).map D.bl) h := by
    intro F' hF'
    obtain ⟨F', rfl⟩ : ∃ j, F' = j + 35 := ⟨F' - 35, by omega⟩
    rw [compS_map tN (fun _ => .bl true) rows [] (fun x hx => ?_) (by simp only [List.length_nil]; show 0 + rows.length ≤ 16777216; omega), List.nil_append, List.map_map]
    · rfl
    · simp only [turn, asgC, tests]
      simp -dsimp -implicitDefEqProofs only [↓bL, ↓tL, ↓hL, ↓ev_for, ev_e, ev_s, stepE, stepS, b_ok, b_err, t_ok, t_err, th_n, th_r, th_e, ne_ok, blk, G8.evs, asgT, asg1, asgs, idxD, seqOf, binD, cmpD, setIdxD, D.top, D.nr, if_true, and_self, Bool.false_and, Bool.and_true, biD, List.getElem?_cons_zero, List.getElem?_cons_succ, List.set_cons_zero, List.set_cons_succ, Nat.reduceLeDiff, Bool.false_eq_true, if_false, Bool.not_true, Bool.not_false, evIt, itOf, compI, lstOf, Option.bind_some, isiD, res, Bool.and_self, Bool.true_and, beq_self_eq_true, List.length_map, is_permutation_spec (hp.pm x hx) (show rows.length ≤ 1000 by omega) hw]
  have ha : ((rows.map fun _ => true).all id) = true := all_true _ rows fun x hx => rfl
  have l1 : decide ((2 : Int) ≤ (rows.length : Int)) = true := by simp; omega
  have l2 : decide ((rows.length : Int) ≤ 4) = true := by simp; omega
  have wp : G8.wipe [some (tR rows), none] [1] = [some (tR rows), none] := rfl
  simp -dsimp -implicitDefEqProofs only [↓bL, ↓tL, ↓hL, ↓ev_for, ev_e, ev_s, stepE, stepS, b_ok, b_err, t_ok, t_err, th_n, th_r, th_e, ne_ok, blk, G8.evs, asgT, asg1, asgs, idxD, seqOf, binD, cmpD, setIdxD, D.top, D.nr, if_true, and_self, Bool.false_and, Bool.and_true, biD, List.getElem?_cons_zero, List.getElem?_cons_succ, List.set_cons_zero, List.set_cons_succ, Nat.reduceLeDiff, Bool.false_eq_true, if_false, Bool.not_true, Bool.not_false, evIt, itOf, compI, lstOf, Option.bind_some, isiD, res, Bool.and_self, Bool.true_and, beq_self_eq_true, isiD, Bool.not_true, evIt, itOf, compI, wp, hc, lstOf, Option.bind_some, boolsD_map, ha, List.length_map, l1, l2, Bool.false_eq_true, if_false]
  exact fin_pure (fn := f_is_policy) rfl hw fz_bl
theorem check_policy_spec [HasF P i_check_policy f_check_policy] [HasF P i_is_policy f_is_policy] [HasF P i_is_permutation f_is_permutation] [HasF P i_is_int f_is_int] {rows : List (List Int)} (hp : IsPol rows) (hw : WS h) (F d : Nat) (hF : 60 ≤ F) (hd : 4 ≤ d) : (ev P F).c d i_check_policy [tR rows] h = .ok .non h := by
  obtain ⟨F, rfl⟩ : ∃ j, F = j + 60 := ⟨F - 60, by omega⟩
  obtain ⟨d, rfl⟩ : ∃ j, d = j + 4 := ⟨d - 4, by omega⟩
  rw [call_eq (fn := f_check_policy) rfl]
  simp -dsimp -implicitDefEqProofs only [f_check_policy, G8.start, List.length_cons, List.length_nil, List.map_cons, List.map_nil, List.replicate, Nat.reduceAdd, Nat.reduceSub, List.cons_append, List.nil_append]
  simp -dsimp -implicitDefEqProofs only [↓bL, ↓tL, ↓hL, ↓ev_for, ev_e, ev_s, stepE, stepS, b_ok, b_err, t_ok, t_err, th_n, th_r, th_e, ne_ok, blk, G8.evs, asgT, asg1, asgs, idxD, seqOf, binD, cmpD, setIdxD, D.top, D.nr, if_true, and_self, Bool.false_and, Bool.and_true, biD, List.getElem?_cons_zero, List.getElem?_cons_succ, List.set_cons_zero, List.set_cons_succ, Nat.reduceLeDiff, Bool.false_eq_true, if_false, Bool.not_true, Bool.not_false, evIt, itOf, compI, lstOf, Option.bind_some, isiD, res, Bool.and_self, Bool.true_and, beq_self_eq_true, is_policy_spec hp hw, Bool.not_true]
  exact fin_next (fn := f_check_policy) rfl hw
theorem dlenS_nodup {t : D → Sto → R D} : ∀ (xs acc : List Int), (∀ x ∈ xs, t (.int x) h = .ok (.int x) h) → (acc ++ xs).Nodup → acc.length + xs.length ≤ LIM → dlenS t (xs.map .int) (acc.map .int) h = .ok ((acc ++ xs).map .int) h
  | [], acc, _, _, _ => by simp [dlenS]
  | x :: xs, acc, ht, hn, hl => by
    rw [List.length_cons] at hl
    simp only [List.map_cons, dlenS]
    rw [ht x List.mem_cons_self]
    simp only [bL, b_ok]
    have hx : x ∉ acc := fun hm => (List.nodup_append.mp hn).2.2 x hm x List.mem_cons_self rfl
    have ea : addKey (.int x) (acc.map D.int) = (acc ++ [x]).map D.int := by
      unfold addKey
      rw [inD_int, decide_eq_false hx]
      simp
    rw [if_pos (by rw [List.length_map]; omega), ea, dlenS_nodup xs (acc ++ [x]) (fun y hy => ht y (List.mem_cons_of_mem _ hy)) (by rw [List.append_assoc]; exact hn) (by rw [List.length_append, List.length_cons, List.length_nil]; omega), List.append_assoc]
    rfl
theorem is_state_spec [HasF P i_is_state f_is_state] [HasF P i_is_int f_is_int] {rows : List (List Int)} {st : List Int} (hs : IsSt rows st) (hr : rows.length ≤ 1000) (hw : WS h) (F d : Nat) (hF : 50 ≤ F) (hd : 2 ≤ d) : (ev P F).c d i_is_state [tR rows, tN st] h = .ok (.bl true) h := by
  obtain ⟨F, rfl⟩ : ∃ j, F = j + 50 := ⟨F - 50, by omega⟩
  obtain ⟨d, rfl⟩ : ∃ j, d = j + 2 := ⟨d - 2, by omega⟩
  rw [call_eq (fn := f_is_state) rfl]
  simp -dsimp -implicitDefEqProofs only [f_is_state, G8.start, List.length_cons, List.length_nil, List.map_cons, List.map_nil, List.replicate, Nat.reduceAdd, Nat.reduceSub, List.cons_append, List.nil_append]
  have hl := hs.len
  have hc : ∀ F', 20 ≤ F' → compS (turn ((ev P F').e (d + 1)) (.var 2) [] (.call 0 [.var 2, .cst (.int 0), .cst (.int 1000000000)]) [some (tR rows), some (tN st), none]) (st.map D.int) [] h = .ok ((st.map fun x => decide (0 ≤ x) && decide (x ≤ 1000000000)).map D.bl) h := by
    intro F' hF'
    exact compS_isint hw (by omega) (by omega) (by simp) (by omega) (fun G hG x => by
      obtain ⟨G, rfl⟩ : ∃ j, G = j + 5 := ⟨G - 5, by omega⟩
      simp -dsimp -implicitDefEqProofs only [↓bL, ↓tL, ↓hL, ↓ev_for, ev_e, ev_s, stepE, stepS, b_ok, b_err, t_ok, t_err, th_n, th_r, th_e, ne_ok, blk, G8.evs, asgT, asg1, asgs, idxD, seqOf, binD, cmpD, setIdxD, D.top, D.nr, if_true, and_self, Bool.false_and, Bool.and_true, biD, List.getElem?_cons_zero, List.getElem?_cons_succ, List.set_cons_zero, List.set_cons_succ, Nat.reduceLeDiff, Bool.false_eq_true, if_false, Bool.not_true, Bool.not_false, evIt, itOf, compI, lstOf, Option.bind_some, isiD, res, Bool.and_self, Bool.true_and, beq_self_eq_true]) (fun G hG x => by
      obtain ⟨G, rfl⟩ : ∃ j, G = j + 5 := ⟨G - 5, by omega⟩
      simp -dsimp -implicitDefEqProofs only [↓bL, ↓tL, ↓hL, ↓ev_for, ev_e, ev_s, stepE, stepS, b_ok, b_err, t_ok, t_err, th_n, th_r, th_e, ne_ok, blk, G8.evs, asgT, asg1, asgs, idxD, seqOf, binD, cmpD, setIdxD, D.top, D.nr, if_true, and_self, Bool.false_and, Bool.and_true, biD, List.getElem?_cons_zero, List.getElem?_cons_succ, List.set_cons_zero, List.set_cons_succ, Nat.reduceLeDiff, Bool.false_eq_true, if_false, Bool.not_true, Bool.not_false, evIt, itOf, compI, lstOf, Option.bind_some, isiD, res, Bool.and_self, Bool.true_and, beq_self_eq_true])
  have ha : ((st.map fun x => decide (0 ≤ x) && decide (x ≤ 1000000000)).all id) = true := all_true _ st fun x hx => by
    have := hs.rg x hx
    simp only [Bool.and_eq_true, decide_eq_true_eq]
    omega
  have hd : ∀ F', 3 ≤ F' → dlenS (dturn ((ev P F').e (d + 1)) (.var 2) (.var 2) (.cst (.bl true)) [some (tR rows), some (tN st), none]) (st.map D.int) [] h = .ok (st.map D.int) h := by
    intro F' hF'
    obtain ⟨F', rfl⟩ : ∃ j, F' = j + 3 := ⟨F' - 3, by omega⟩
    have := dlenS_nodup (t := dturn ((ev P (F' + 3)).e (d + 1)) (.var 2) (.var 2) (.cst (.bl true)) [some (tR rows), some (tN st), none]) (h := h) st [] (fun x _ => by
      simp only [dturn, asgC]
      simp -dsimp -implicitDefEqProofs only [↓bL, ↓tL, ↓hL, ↓ev_for, ev_e, ev_s, stepE, stepS, b_ok, b_err, t_ok, t_err, th_n, th_r, th_e, ne_ok, blk, G8.evs, asgT, asg1, asgs, idxD, seqOf, binD, cmpD, setIdxD, D.top, D.nr, if_true, and_self, Bool.false_and, Bool.and_true, biD, List.getElem?_cons_zero, List.getElem?_cons_succ, List.set_cons_zero, List.set_cons_succ, Nat.reduceLeDiff, Bool.false_eq_true, if_false, Bool.not_true, Bool.not_false, evIt, itOf, compI, lstOf, Option.bind_some, isiD, res, Bool.and_self, Bool.true_and, beq_self_eq_true, leafKey]) (by simpa using hs.nd) (by simp only [List.length_nil]; show 0 + st.length ≤ 16777216; omega)
    simpa using this
  have wp : G8.wipe [some (tR rows), some (tN st), none] [2] = [some (tR rows), some (tN st), none] := rfl
  have bq : ((rows.length : Int) == (rows.length : Int)) = true := by simp
  simp -dsimp -implicitDefEqProofs only [↓bL, ↓tL, ↓hL, ↓ev_for, ev_e, ev_s, stepE, stepS, b_ok, b_err, t_ok, t_err, th_n, th_r, th_e, ne_ok, blk, G8.evs, asgT, asg1, asgs, idxD, seqOf, binD, cmpD, setIdxD, D.top, D.nr, if_true, and_self, Bool.false_and, Bool.and_true, biD, List.getElem?_cons_zero, List.getElem?_cons_succ, List.set_cons_zero, List.set_cons_succ, Nat.reduceLeDiff, Bool.false_eq_true, if_false, Bool.not_true, Bool.not_false, evIt, itOf, compI, lstOf, Option.bind_some, isiD, res, Bool.and_self, Bool.true_and, beq_self_eq_true, isiD, Bool.not_true, Bool.not_false, evIt, itOf, compI, wp, hc, hd, lstOf, Option.bind_some, boolsD_map, ha, List.length_map, hl, res, fit_int, Bool.and_self, D.eqv, bq, Bool.false_eq_true, if_false]
  exact fin_pure (fn := f_is_state) rfl hw fz_bl
theorem check_state_spec [HasF P i_check_state f_check_state] [HasF P i_check_policy f_check_policy] [HasF P i_is_policy f_is_policy] [HasF P i_is_permutation f_is_permutation] [HasF P i_is_int f_is_int] [HasF P i_is_state f_is_state] {rows : List (List Int)} {st : List Int} (hp : IsPol rows) (hs : IsSt rows st) (hw : WS h) (F d : Nat) (hF : 70 ≤ F) (hd : 5 ≤ d) : (ev P F).c d i_check_state [tR rows, tN st] h = .ok .non h := by
  obtain ⟨F, rfl⟩ : ∃ j, F = j + 70 := ⟨F - 70, by omega⟩
  obtain ⟨d, rfl⟩ : ∃ j, d = j + 5 := ⟨d - 5, by omega⟩
  rw [call_eq (fn := f_check_state) rfl]
  simp -dsimp -implicitDefEqProofs only [f_check_state, G8.start, List.length_cons, List.length_nil, List.map_cons, List.map_nil, List.replicate, Nat.reduceAdd, Nat.reduceSub, List.cons_append, List.nil_append]
  simp -dsimp -implicitDefEqProofs only [↓bL, ↓tL, ↓hL, ↓ev_for, ev_e, ev_s, stepE, stepS, b_ok, b_err, t_ok, t_err, th_n, th_r, th_e, ne_ok, blk, G8.evs, asgT, asg1, asgs, idxD, seqOf, binD, cmpD, setIdxD, D.top, D.nr, if_true, and_self, Bool.false_and, Bool.and_true, biD, List.getElem?_cons_zero, List.getElem?_cons_succ, List.set_cons_zero, List.set_cons_succ, Nat.reduceLeDiff, Bool.false_eq_true, if_false, Bool.not_true, Bool.not_false, evIt, itOf, compI, lstOf, Option.bind_some, isiD, res, Bool.and_self, Bool.true_and, beq_self_eq_true, check_policy_spec hp hw, is_state_spec hs (show rows.length ≤ 1000 by have := hp.hi; omega) hw, Bool.not_true]
  exact fin_next (fn := f_check_state) rfl hw
theorem check_block_spec [HasF P i_check_block f_check_block] [HasF P i_is_int f_is_int] {b : Int} (h0 : 0 ≤ b) (h1 : b ≤ 1000000000) (hw : WS h) (F d : Nat) (hF : 20 ≤ F) (hd : 2 ≤ d) : (ev P F).c d i_check_block [.int b] h = .ok .non h := by
  obtain ⟨F, rfl⟩ : ∃ j, F = j + 20 := ⟨F - 20, by omega⟩
  obtain ⟨d, rfl⟩ : ∃ j, d = j + 2 := ⟨d - 2, by omega⟩
  rw [call_eq (fn := f_check_block) rfl]
  simp -dsimp -implicitDefEqProofs only [f_check_block, G8.start, List.length_cons, List.length_nil, List.map_cons, List.map_nil, List.replicate, Nat.reduceAdd, Nat.reduceSub, List.cons_append, List.nil_append]
  have e : (decide (0 ≤ b) && decide (b ≤ 1000000000)) = true := by simp; omega
  simp -dsimp -implicitDefEqProofs only [↓bL, ↓tL, ↓hL, ↓ev_for, ev_e, ev_s, stepE, stepS, b_ok, b_err, t_ok, t_err, th_n, th_r, th_e, ne_ok, blk, G8.evs, asgT, asg1, asgs, idxD, seqOf, binD, cmpD, setIdxD, D.top, D.nr, if_true, and_self, Bool.false_and, Bool.and_true, biD, List.getElem?_cons_zero, List.getElem?_cons_succ, List.set_cons_zero, List.set_cons_succ, Nat.reduceLeDiff, Bool.false_eq_true, if_false, Bool.not_true, Bool.not_false, evIt, itOf, compI, lstOf, Option.bind_some, isiD, res, Bool.and_self, Bool.true_and, beq_self_eq_true, is_int_spec hw, e, Bool.not_true]
  exact fin_next (fn := f_check_block) rfl hw
/-- a list, as a value or in the store -/
def LV (h : Sto) (d : D) (xs : List D) : Prop := d = .lst xs ∨ ∃ n fl, d = .ref n ∧ h[n]? = some (.lst fl xs)
theorem is_sequence_spec [HasF P i_is_sequence f_is_sequence] [HasF P i_is_int f_is_int] {xs : List Int} {m : Int} (hm : (xs.length : Int) ≤ m) (h5 : xs.length ≤ 1000000) (hx : ∀ x ∈ xs, 0 ≤ x ∧ x ≤ 1000000000) (hw : WS h) (F d : Nat) (hF : 30 ≤ F) (hd : 2 ≤ d) : (ev P F).c d i_is_sequence [lN xs, .int m] h = .ok (.bl true) h := by
  obtain ⟨F, rfl⟩ : ∃ j, F = j + 30 := ⟨F - 30, by omega⟩
  obtain ⟨d, rfl⟩ : ∃ j, d = j + 2 := ⟨d - 2, by omega⟩
  rw [call_eq (fn := f_is_sequence) rfl]
  simp -dsimp -implicitDefEqProofs only [f_is_sequence, G8.start, List.length_cons, List.length_nil, List.map_cons, List.map_nil, List.replicate, Nat.reduceAdd, Nat.reduceSub, List.cons_append, List.nil_append]
  have hc : ∀ F', 20 ≤ F' → compS (turn ((ev P F').e (d + 1)) (.var 2) [] (.call 0 [.var 2, .cst (.int 0), .cst (.int 1000000000)]) [some (lN xs), some (.int m), none]) (xs.map D.int) [] h = .ok ((xs.map fun x => decide (0 ≤ x) && decide (x ≤ 1000000000)).map D.bl) h := by
    intro F' hF'
    exact compS_isint hw (by omega) (by omega) (by simp) (by omega) (fun G hG x => by
      obtain ⟨G, rfl⟩ : ∃ j, G = j + 5 := ⟨G - 5, by omega⟩
      simp -dsimp -implicitDefEqProofs only [↓bL, ↓tL, ↓hL, ↓ev_for, ev_e, ev_s, stepE, stepS, b_ok, b_err, t_ok, t_err, th_n, th_r, th_e, ne_ok, blk, G8.evs, asgT, asg1, asgs, idxD, seqOf, binD, cmpD, setIdxD, D.top, D.nr, if_true, and_self, Bool.false_and, Bool.and_true, biD, List.getElem?_cons_zero, List.getElem?_cons_succ, List.set_cons_zero, List.set_cons_succ, Nat.reduceLeDiff, Bool.false_eq_true, if_false, Bool.not_true, Bool.not_false, evIt, itOf, compI, lstOf, Option.bind_some, isiD, res, Bool.and_self, Bool.true_and, beq_self_eq_true]) (fun G hG x => by
      obtain ⟨G, rfl⟩ : ∃ j, G = j + 5 := ⟨G - 5, by omega⟩
      simp -dsimp -implicitDefEqProofs only [↓bL, ↓tL, ↓hL, ↓ev_for, ev_e, ev_s, stepE, stepS, b_ok, b_err, t_ok, t_err, th_n, th_r, th_e, ne_ok, blk, G8.evs, asgT, asg1, asgs, idxD, seqOf, binD, cmpD, setIdxD, D.top, D.nr, if_true, and_self, Bool.false_and, Bool.and_true, biD, List.getElem?_cons_zero, List.getElem?_cons_succ, List.set_cons_zero, List.set_cons_succ, Nat.reduceLeDiff, Bool.false_eq_true, if_false, Bool.not_true, Bool.not_false, evIt, itOf, compI, lstOf, Option.bind_some, isiD, res, Bool.and_self, Bool.true_and, beq_self_eq_true])
  have ha : ((xs.map fun x => decide (0 ≤ x) && decide (x ≤ 1000000000)).all id) = true := all_true _ xs fun x hx' => by
    have := hx x hx'
    simp only [Bool.and_eq_true, decide_eq_true_eq]
    omega
  have wp : G8.wipe [some (lN xs), some (.int m), none] [2] = [some (lN xs), some (.int m), none] := rfl
  have l1 : decide ((xs.length : Int) ≤ m) = true := by simpa using hm
  simp -dsimp -implicitDefEqProofs only [↓bL, ↓tL, ↓hL, ↓ev_for, ev_e, ev_s, stepE, stepS, b_ok, b_err, t_ok, t_err, th_n, th_r, th_e, ne_ok, blk, G8.evs, asgT, asg1, asgs, idxD, seqOf, binD, cmpD, setIdxD, D.top, D.nr, if_true, and_self, Bool.false_and, Bool.and_true, biD, List.getElem?_cons_zero, List.getElem?_cons_succ, List.set_cons_zero, List.set_cons_succ, Nat.reduceLeDiff, Bool.false_eq_true, if_false, Bool.not_true, Bool.not_false, evIt, itOf, compI, lstOf, Option.bind_some, isiD, res, Bool.and_self, Bool.true_and, beq_self_eq_true, isiD, evIt, itOf, compI, wp, hc, lstOf, Option.bind_some, boolsD_map, ha, List.length_map, l1]
  exact fin_pure (fn := f_is_sequence) rfl hw fz_bl
theorem check_sequence_spec [HasF P i_check_sequence f_check_sequence] [HasF P i_is_sequence f_is_sequence] [HasF P i_is_int f_is_int] {xs : List Int} (hm : xs.length ≤ 2000) (hx : ∀ x ∈ xs, 0 ≤ x ∧ x ≤ 1000000000) (hw : WS h) (F d : Nat) (hF : 40 ≤ F) (hd : 3 ≤ d) : (ev P F).c d i_check_sequence [lN xs] h = .ok .non h := by
  obtain ⟨F, rfl⟩ : ∃ j, F = j + 40 := ⟨F - 40, by omega⟩
  obtain ⟨d, rfl⟩ : ∃ j, d = j + 3 := ⟨d - 3, by omega⟩
  rw [call_eq (fn := f_check_sequence) rfl]
  simp -dsimp -implicitDefEqProofs only [f_check_sequence, G8.start, List.length_cons, List.length_nil, List.map_cons, List.map_nil, List.replicate, Nat.reduceAdd, Nat.reduceSub, List.cons_append, List.nil_append]
  simp -dsimp -implicitDefEqProofs only [↓bL, ↓tL, ↓hL, ↓ev_for, ev_e, ev_s, stepE, stepS, b_ok, b_err, t_ok, t_err, th_n, th_r, th_e, ne_ok, blk, G8.evs, asgT, asg1, asgs, idxD, seqOf, binD, cmpD, setIdxD, D.top, D.nr, if_true, and_self, Bool.false_and, Bool.and_true, biD, List.getElem?_cons_zero, List.getElem?_cons_succ, List.set_cons_zero, List.set_cons_succ, Nat.reduceLeDiff, Bool.false_eq_true, if_false, Bool.not_true, Bool.not_false, evIt, itOf, compI, lstOf, Option.bind_some, isiD, res, Bool.and_self, Bool.true_and, beq_self_eq_true, is_sequence_spec (show (xs.length : Int) ≤ 2000 by omega) (show xs.length ≤ 1000000 by omega) hx hw, Bool.not_true]
  exact fin_next (fn := f_check_sequence) rfl hw
end
end G8

set_option Elab.async false
set_option linter.all false
set_option maxRecDepth 100000
set_option maxHeartbeats 1000000
namespace G8
/-! ### what a hit does -/
def permA {α : Type} [Inhabited α] (st : List α) (row : List Int) : List α := (rgI st.length).map fun p => st.getD (row.idxOf p) default
theorem permA_length {α : Type} [Inhabited α] (st : List α) (row : List Int) : (permA st row).length = st.length := by simp [permA, rgI]
theorem enumD_zip {α : Type} (f : α → D) : ∀ (xs : List α) (k : Nat), enumD k (xs.map f) = (xs.zipIdx k).map fun p => .tup [.int (p.2 : Nat), f p.1]
  | [], _ => by simp [enumD]
  | x :: xs, k => by simp only [List.map_cons, enumD, List.zipIdx_cons, enumD_zip f xs (k + 1)]
mutual
theorem nr_pl : ∀ (n : Nat) (d : D), D.pl n d = true → D.nr d = true
  | _, .non, _ => by simp only [D.nr]
  | _, .bl _, _ => by simp only [D.nr]
  | _, .int _, _ => by simp only [D.nr]
  | _, .str _, _ => by simp only [D.nr]
  | n + 1, .tup xs, e => by simp only [D.pl] at e; simp only [D.nr]; exact nrs_pls n xs e
  | n + 1, .lst xs, e => by simp only [D.pl] at e; simp only [D.nr]; exact nrs_pls n xs e
  | 0, .tup xs, e => by simp [D.pl] at e
  | 0, .lst xs, e => by simp [D.pl] at e
  | 0, .scr xs, e => by simp [D.pl] at e
  | 0, .dct _ _, e => by simp [D.pl] at e
  | 0, .ref _, e => by simp [D.pl] at e
  | 0, .exc _, e => by simp [D.pl] at e
  | _ + 1, .scr xs, e => by simp [D.pl] at e
  | _ + 1, .dct _ _, e => by simp [D.pl] at e
  | _ + 1, .ref _, e => by simp [D.pl] at e
  | _ + 1, .exc _, e => by simp [D.pl] at e
theorem nrs_pls : ∀ (n : Nat) (ds : List D), D.pls n ds = true → D.nrs ds = true
  | _, [], _ => by simp only [D.nrs]
  | n, x :: xs, e => by
    simp only [D.pls, Bool.and_eq_true] at e
    simp only [D.nrs, nr_pl n x e.1, nrs_pls n xs e.2, Bool.and_self]
end
theorem top_pl {n : Nat} {d : D} (h : D.pl n d = true) : D.top d = true := top_of_nr (nr_pl n d h)
section
variable {α : Type} [Inhabited α] (f : α → D)
/-- moved[row[p]] = state[p], from p = k on -/
def mvs (st : List α) (acc : List D) (p : Int × Nat) : List D := acc.set p.1.toNat (f (st.getD p.2 default))
def mvB (st : List α) (b : List D × Option D × Option D) (p : Int × Nat) : List D × Option D × Option D := (mvs f st b.1 p, some (.int (p.2 : Nat)), some (.int p.1))
theorem mvB_fst (st : List α) : ∀ (ps : List (Int × Nat)) (b : List D × Option D × Option D), (ps.foldl (mvB f st) b).1 = ps.foldl (mvs f st) b.1
  | [], b => rfl
  | p :: ps, b => by simp only [List.foldl_cons, mvB_fst st ps]; rfl
theorem mvs_len (st : List α) : ∀ (ps : List (Int × Nat)) (acc : List D), (ps.foldl (mvs f st) acc).length = acc.length
  | [], _ => rfl
  | t :: ts, acc => by simp only [List.foldl_cons, mvs_len st ts, mvs, List.length_set]
theorem mvs_at (st : List α) : ∀ (ts : List Int) (k : Nat) (acc : List D) (j : Nat), ts.Nodup → (∀ t ∈ ts, 0 ≤ t ∧ t < acc.length) → j < acc.length →
    ((ts.zipIdx k).foldl (mvs f st) acc)[j]? = if (j : Int) ∈ ts then some (f (st.getD (k + ts.idxOf (j : Int)) default)) else acc[j]?
  | [], k, acc, j, _, _, _ => by simp
  | t :: ts, k, acc, j, hn, hr, hj => by
    obtain ⟨hn1, hn2⟩ := List.nodup_cons.mp hn
    obtain ⟨t0, t1⟩ := hr t List.mem_cons_self
    rw [List.zipIdx_cons, List.foldl_cons, mvs_at st ts (k + 1) _ j hn2 (fun z hz => by unfold mvs; rw [List.length_set]; exact hr z (List.mem_cons_of_mem _ hz)) (by unfold mvs; rw [List.length_set]; exact hj)]
    unfold mvs
    by_cases e : (j : Int) = t
    · have hnm : (j : Int) ∉ ts := by rw [e]; exact hn1
      have e2 : (t == t) = true := by simp
      rw [if_neg hnm, if_pos (by rw [e]; exact List.mem_cons_self)]
      have ej : t.toNat = j := by omega
      rw [ej, List.getElem?_set_self hj, e, List.idxOf_cons, e2]
      rfl
    · have ne : t.toNat ≠ j := by omega
      have e2 : (t == (j : Int)) = false := by simp [Ne.symm e]
      rw [List.getElem?_set_ne ne, List.idxOf_cons, e2]
      by_cases hm : (j : Int) ∈ ts
      · rw [if_pos hm, if_pos (List.mem_cons_of_mem _ hm)]
        congr 3
        simp only [cond_false]
        omega
      · rw [if_neg hm, if_neg (by simp [e, hm])]
theorem mvs_perm {st : List α} {row : List Int} (hp : row.Perm (rgI st.length)) : (row.zipIdx 0).foldl (mvs f st) (List.replicate st.length .non) = (permA st row).map f := by
  refine List.ext_getElem? fun j => ?_
  by_cases hj : j < st.length
  · rw [mvs_at f st row 0 _ j (hp.nodup_iff.mpr (rgI_nodup _)) (fun t ht => by rw [List.length_replicate]; exact mem_rgI.mp (hp.mem_iff.mp ht)) (by rw [List.length_replicate]; exact hj),
      if_pos (hp.mem_iff.mpr (mem_rgI.mpr ⟨by omega, by omega⟩)), Nat.zero_add]
    unfold permA rgI
    simp [hj]
  · rw [List.getElem?_eq_none (by rw [mvs_len, List.length_replicate]; omega), List.getElem?_eq_none (by rw [List.length_map, permA_length]; omega)]
end
theorem rep_flat (n : Nat) (x : D) : (List.replicate n [x]).flatten = List.replicate n x := by
  induction n with
  | zero => rfl
  | succ n ih => rw [List.replicate_succ, List.flatten_cons, ih, List.replicate_succ]; rfl
theorem mem_permA {α : Type} [Inhabited α] {st : List α} {row : List Int} (hp : row.Perm (rgI st.length)) {x : α} (h : x ∈ permA st row) : x ∈ st := by
  unfold permA at h
  obtain ⟨p, hp1, rfl⟩ := List.mem_map.mp h
  have hm := hp.mem_iff.mpr hp1
  have hl : row.idxOf p < st.length := by
    have := List.idxOf_lt_length_of_mem hm
    rw [hp.length_eq, rgI_length] at this
    exact this
  rw [List.getD_eq_getElem?_getD, List.getElem?_eq_getElem hl]
  exact List.getElem_mem _
section
variable {P : Prg} {h : Sto}
theorem permuted_spec [HasF P i_permuted f_permuted] {α : Type} [Inhabited α] (f : α → D) {st : List α} {row : List Int} (hf : ∀ x ∈ st, D.pl 8 (f x) = true) (hw : WS h) (hp : row.Perm (rgI st.length)) (h4 : st.length ≤ 50) (F d : Nat) (hF : 30 ≤ F) (hd : 1 ≤ d) :
    (ev P F).c d i_permuted [.tup (st.map f), tN row] h = .ok (.tup ((permA st row).map f)) h := by
  obtain ⟨F, rfl⟩ : ∃ j, F = j + 30 := ⟨F - 30, by omega⟩
  obtain ⟨d, rfl⟩ : ∃ j, d = j + 1 := ⟨d - 1, by omega⟩
  rw [call_eq (fn := f_permuted) rfl]
  simp -dsimp -implicitDefEqProofs only [f_permuted, G8.start, List.length_cons, List.length_nil, List.map_cons, List.map_nil, List.replicate, Nat.reduceAdd, Nat.reduceSub, List.cons_append, List.nil_append]
  have hrl : row.length = st.length := by rw [hp.length_eq, rgI_length]
  have lp : ∀ F', 20 ≤ F' → forS (turnF (ev P F') d (.tup [.var 3, .var 4]) [.asg (.idx (.var 2) (.var 4)) (.idx (.var 0) (.var 3))]) (enumD 0 (row.map D.int)) [some (.tup (st.map f)), some (tN row), some (.ref h.length), none, none] (h ++ [.lst true (List.replicate st.length .non)]) =
      .next [some (.tup (st.map f)), some (tN row), some (.ref h.length), ((row.zipIdx 0).foldl (mvB f st) (List.replicate st.length .non, none, none)).2.1, ((row.zipIdx 0).foldl (mvB f st) (List.replicate st.length .non, none, none)).2.2] (h ++ [.lst true ((permA st row).map f)]) := by
    intro F' hF'
    obtain ⟨F', rfl⟩ : ∃ j, F' = j + 20 := ⟨F' - 20, by omega⟩
    have := forS_fold (body := turnF (ev P (F' + 20)) d (.tup [.var 3, .var 4]) [.asg (.idx (.var 2) (.var 4)) (.idx (.var 0) (.var 3))]) (fun p : Int × Nat => D.tup [.int (p.2 : Nat), .int p.1])
      (fun b : List D × Option D × Option D => [some (.tup (st.map f)), some (tN row), some (.ref h.length), b.2.1, b.2.2]) (fun b => h ++ [.lst true b.1]) (mvB f st) (fun _ b => b.1.length = st.length) (row.zipIdx 0) 0 (List.replicate st.length .non, none, none) (by simp) (fun k b p hx _ hI => by
        obtain ⟨acc, x, y⟩ := b
        obtain ⟨t, k⟩ := p
        have hI : acc.length = st.length := hI
        obtain ⟨q1, q2, q3⟩ := List.mem_zipIdx hx
        have ht : t ∈ row := by rw [q3]; exact List.getElem_mem _
        obtain ⟨t0, t1⟩ := mem_rgI.mp (hp.mem_iff.mp ht)
        have hk : k < st.length := by omega
        have a1 : (st.map f)[k]? = some (f (st.getD k default)) := by rw [List.getElem?_map, List.getD_eq_getElem?_getD, List.getElem?_eq_getElem hk]; rfl
        have i2 : G8.ixN acc.length t = some t.toNat := ixN_pos t0 (by omega)
        have hg : st.getD k default ∈ st := by rw [List.getD_eq_getElem?_getD, List.getElem?_eq_getElem hk]; exact List.getElem_mem _
        have n1 := nr_pl 8 _ (hf _ hg)
        have n2 := top_pl (hf _ hg)
        refine ⟨?_, by simp only [mvB, mvs, List.length_set]; exact hI⟩
        unfold turnF
        simp -dsimp -implicitDefEqProofs only [↓bL, ↓tL, ↓hL, ↓ev_for, ev_e, ev_s, stepE, stepS, b_ok, b_err, t_ok, t_err, th_n, th_r, th_e, ne_ok, blk, G8.evs, asgT, asg1, asgs, idxD, seqOf, binD, cmpD, setIdxD, D.top, D.nr, if_true, and_self, Bool.false_and, Bool.and_true, biD, List.getElem?_cons_zero, List.getElem?_cons_succ, List.set_cons_zero, List.set_cons_succ, Nat.reduceLeDiff, Bool.false_eq_true, if_false, Bool.not_true, Bool.not_false, evIt, itOf, compI, lstOf, Option.bind_some, isiD, res, Bool.and_self, Bool.true_and, beq_self_eq_true, -D.top, -D.nr, gl0, List.length_map, ixN_nat hk, a1, i2, st0, n1, n2]
        rfl)
    have e := this.1
    simp only [mvB_fst, mvs_perm f hp] at e
    rw [enumD_zip D.int row 0]
    exact e
  have c1 : ((0 : Int) ≤ (st.length : Int)) = True := by simp
  have c2 : ((st.length : Int) ≤ 100000) = True := by simp; omega
  have n1 : D.nrs (List.replicate st.length D.non) = true := nrs_of fun y hy => by rw [(List.mem_replicate.mp hy).2]; simp only [D.nr]
  simp -dsimp -implicitDefEqProofs only [↓bL, ↓tL, ↓hL, ↓ev_for, ev_e, ev_s, stepE, stepS, b_ok, b_err, t_ok, t_err, th_n, th_r, th_e, ne_ok, blk, G8.evs, asgT, asg1, asgs, idxD, seqOf, binD, cmpD, setIdxD, D.top, D.nr, if_true, and_self, Bool.false_and, Bool.and_true, biD, List.getElem?_cons_zero, List.getElem?_cons_succ, List.set_cons_zero, List.set_cons_succ, Nat.reduceLeDiff, Bool.false_eq_true, if_false, Bool.not_true, Bool.not_false, evIt, itOf, compI, lstOf, Option.bind_some, isiD, res, Bool.and_self, Bool.true_and, beq_self_eq_true, List.length_map, List.length_cons, List.length_nil, Nat.reduceAdd, c1, c2, Int.toNat_natCast, rep_flat, n1, lp, gl0]
  refine fin_pureA (fn := f_permuted) rfl hw (fz_pl _ _ ?_)
  simp only [D.pl]
  exact pls_map f 10 _ fun x hx => pl_mono (by omega) (hf x (mem_permA hp hx))
end
end G8

set_option Elab.async false
set_option linter.all false
set_option maxRecDepth 100000
set_option maxHeartbeats 1000000
namespace G8
/-! ### one access -/
def stepL (rows : List (List Int)) (st : List Int) (b : Int) : List Int × Bool := if b ∈ st then (permA st (rows.getD (st.idxOf b) []), true) else (b :: st.dropLast, false)
def runL (rows : List (List Int)) : List Int → List Int → List Bool × List Int
  | st, [] => ([], st)
  | st, b :: bs => ((stepL rows st b).2 :: (runL rows (stepL rows st b).1 bs).1, (runL rows (stepL rows st b).1 bs).2)
theorem getD_mem {α : Type} {xs : List α} {k : Nat} {d : α} (h : k < xs.length) : xs.getD k d ∈ xs := by rw [List.getD_eq_getElem?_getD, List.getElem?_eq_getElem h]; exact List.getElem_mem _
theorem getD_get {α : Type} {xs : List α} {k : Nat} {d : α} (h : k < xs.length) : xs[k]? = some (xs.getD k d) := by rw [List.getD_eq_getElem?_getD, List.getElem?_eq_getElem h]; rfl
theorem mem_of_mem_dropLast {α : Type} {y : α} {xs : List α} (h : y ∈ xs.dropLast) : y ∈ xs := List.mem_of_mem_dropLast' h
theorem permA_nodup {st : List Int} {row : List Int} (hp : row.Perm (rgI st.length)) (hn : st.Nodup) : (permA st row).Nodup := by
  unfold permA
  rw [List.nodup_iff_pairwise_ne, List.pairwise_map]
  refine List.Pairwise.imp_of_mem ?_ (List.nodup_iff_pairwise_ne.mp (rgI_nodup st.length))
  intro a b ha hb hab e
  have ha' := hp.mem_iff.mpr ha
  have hb' := hp.mem_iff.mpr hb
  have la : row.idxOf a < st.length := by have := List.idxOf_lt_length_of_mem ha'; rw [hp.length_eq, rgI_length] at this; exact this
  have lb : row.idxOf b < st.length := by have := List.idxOf_lt_length_of_mem hb'; rw [hp.length_eq, rgI_length] at this; exact this
  rw [List.getD_eq_getElem?_getD, List.getD_eq_getElem?_getD, List.getElem?_eq_getElem la, List.getElem?_eq_getElem lb] at e
  have e2 : row.idxOf a = row.idxOf b := (List.getElem_inj hn).mp e
  have l3 := List.idxOf_lt_length_of_mem ha'
  have l4 := List.idxOf_lt_length_of_mem hb'
  have z1 : row[row.idxOf a] = a := List.getElem_idxOf l3
  have z2 : row[row.idxOf b] = b := List.getElem_idxOf l4
  have z3 : row[row.idxOf a] = row[row.idxOf b] := by simp only [e2]
  exact hab (z1.symm.trans (z3.trans z2))
theorem row_perm {rows : List (List Int)} (hp : IsPol rows) {k : Nat} (h : k < rows.length) : (rows.getD k []).Perm (rgI rows.length) := hp.pm _ (getD_mem h)
theorem idx_lt {st : List Int} {b : Int} (h : b ∈ st) : st.idxOf b < st.length := List.idxOf_lt_length_of_mem h
theorem stepL_ok {rows : List (List Int)} {st : List Int} {b : Int} (hp : IsPol rows) (hs : IsSt rows st) (h0 : 0 ≤ b) (h1 : b ≤ 1000000000) : IsSt rows (stepL rows st b).1 := by
  unfold stepL
  by_cases hm : b ∈ st
  · rw [if_pos hm]
    have hr := row_perm hp (k := st.idxOf b) (by rw [← hs.len]; exact idx_lt hm)
    rw [← hs.len] at hr
    exact ⟨by rw [permA_length]; exact hs.len, fun x hx => hs.rg x (mem_permA hr hx), permA_nodup hr hs.nd⟩
  · rw [if_neg hm]
    have h2 := hp.lo
    have h3 := hs.len
    refine ⟨by simp only [List.length_cons, List.length_dropLast]; omega, fun x hx => ?_, ?_⟩
    · rcases List.mem_cons.mp hx with e | e
      · rw [e]; exact ⟨h0, h1⟩
      · exact hs.rg x (mem_of_mem_dropLast e)
    · exact List.nodup_cons.mpr ⟨fun z => hm (mem_of_mem_dropLast z), hs.nd.sublist (List.dropLast_sublist _)⟩
theorem runL_ok {rows : List (List Int)} (hp : IsPol rows) : ∀ (xs st : List Int), IsSt rows st → (∀ x ∈ xs, 0 ≤ x ∧ x ≤ 1000000000) → IsSt rows (runL rows st xs).2
  | [], st, hs, _ => hs
  | b :: bs, st, hs, hx => runL_ok hp bs _ (stepL_ok hp hs (hx b List.mem_cons_self).1 (hx b List.mem_cons_self).2) fun x h => hx x (List.mem_cons_of_mem _ h)
theorem runL_snoc {rows : List (List Int)} {y : Int} : ∀ (xs st : List Int), runL rows st (xs ++ [y]) = ((runL rows st xs).1 ++ [(stepL rows (runL rows st xs).2 y).2], (stepL rows (runL rows st xs).2 y).1)
  | [], st => by simp [runL]
  | b :: bs, st => by simp only [List.cons_append, runL, runL_snoc bs]
theorem runL_take {rows : List (List Int)} : ∀ (xs st : List Int) (k : Nat), (runL rows st (xs.take k)).1 = (runL rows st xs).1.take k
  | [], st, k => by simp [runL]
  | b :: bs, st, 0 => by simp [runL]
  | b :: bs, st, k + 1 => by simp only [List.take_succ_cons, runL, runL_take bs]
theorem runL_length {rows : List (List Int)} : ∀ (xs st : List Int), (runL rows st xs).1.length = xs.length
  | [], st => rfl
  | b :: bs, st => by simp only [runL, List.length_cons, runL_length bs]
section
variable {P : Prg} {h : Sto}
theorem in_tN {x : Int} {xs : List Int} : contD (.int x) (tN xs) h = some (decide (x ∈ xs)) := by
  simp only [contD, flatD, flats_int, Bool.and_self, if_true, inD_int]
theorem fz_pair {h : Sto} {n0 : Nat} {xs : List Int} {b : Bool} : fz h n0 12 (.tup [tN xs, .bl b]) = some (.tup [tN xs, .bl b]) := fz_pl _ _ (by simp only [D.pl, D.pls, pls_int, Bool.and_self])
theorem step_spec [HasF P i_step f_step] [HasF P i_permuted f_permuted] {rows : List (List Int)} {st : List Int} {b : Int} (hp : IsPol rows) (hs : IsSt rows st) (hw : WS h) (F d : Nat) (hF : 50 ≤ F) (hd : 2 ≤ d) :
    (ev P F).c d i_step [tR rows, tN st, .int b] h = .ok (.tup [tN (stepL rows st b).1, .bl (stepL rows st b).2]) h := by
  obtain ⟨F, rfl⟩ : ∃ j, F = j + 50 := ⟨F - 50, by omega⟩
  obtain ⟨d, rfl⟩ : ∃ j, d = j + 2 := ⟨d - 2, by omega⟩
  rw [call_eq (fn := f_step) rfl]
  simp -dsimp -implicitDefEqProofs only [f_step, G8.start, List.length_cons, List.length_nil, List.map_cons, List.map_nil, List.replicate, Nat.reduceAdd, Nat.reduceSub, List.cons_append, List.nil_append]
  have h4 := hp.hi
  have h2 := hp.lo
  have hl := hs.len
  unfold stepL
  by_cases hm : b ∈ st
  · rw [if_pos hm]
    have hk : st.idxOf b < rows.length := by rw [← hl]; exact idx_lt hm
    have hr := row_perm hp hk
    rw [← hl] at hr
    have i1 := idxOf_map D.int eqv_int b st hm
    have g1 := get_map tN (getD_get (d := []) hk)
    simp -dsimp -implicitDefEqProofs only [↓bL, ↓tL, ↓hL, ↓ev_for, ev_e, ev_s, stepE, stepS, b_ok, b_err, t_ok, t_err, th_n, th_r, th_e, ne_ok, blk, G8.evs, asgT, asg1, asgs, idxD, seqOf, binD, cmpD, setIdxD, D.top, D.nr, if_true, and_self, Bool.false_and, Bool.and_true, biD, List.getElem?_cons_zero, List.getElem?_cons_succ, List.set_cons_zero, List.set_cons_succ, Nat.reduceLeDiff, Bool.false_eq_true, if_false, Bool.not_true, Bool.not_false, evIt, itOf, compI, lstOf, Option.bind_some, isiD, res, Bool.and_self, Bool.true_and, beq_self_eq_true, in_tN, hm, decide_true, mbPre, mbD, i1, List.length_map, ixN_nat hk, g1, permuted_spec D.int (fun x _ => show D.pl 8 (.int x) = true by simp only [D.pl]) hw hr (show st.length ≤ 50 by omega)]
    exact fin_pure (fn := f_step) rfl hw fz_pair
  · rw [if_neg hm]
    have z1 : 0 + 1 + ((st.map D.int).dropLast).length ≤ LIM := by rw [List.length_dropLast, List.length_map]; show _ ≤ 16777216; omega
    have e1 : (st.map D.int).dropLast = (st.dropLast).map D.int := by rw [List.map_dropLast]
    simp -dsimp -implicitDefEqProofs only [↓bL, ↓tL, ↓hL, ↓ev_for, ev_e, ev_s, stepE, stepS, b_ok, b_err, t_ok, t_err, th_n, th_r, th_e, ne_ok, blk, G8.evs, asgT, asg1, asgs, idxD, seqOf, binD, cmpD, setIdxD, D.top, D.nr, if_true, and_self, Bool.false_and, Bool.and_true, biD, List.getElem?_cons_zero, List.getElem?_cons_succ, List.set_cons_zero, List.set_cons_succ, Nat.reduceLeDiff, Bool.false_eq_true, if_false, Bool.not_true, Bool.not_false, evIt, itOf, compI, lstOf, Option.bind_some, isiD, res, Bool.and_self, Bool.true_and, beq_self_eq_true, in_tN, hm, decide_false, evO, slD, cut_m1, List.length_cons, List.length_nil, z1]
    simp only [e1, List.cons_append, List.nil_append]
    exact fin_pure (fn := f_step) rfl hw (fz_pair (xs := b :: st.dropLast))
/-- outcomes, state, block, hit -/
def runStep (rows : List (List Int)) (b : List Bool × List Int × Option D × Option D) (x : Int) : List Bool × List Int × Option D × Option D :=
  (b.1 ++ [(stepL rows b.2.1 x).2], (stepL rows b.2.1 x).1, some (.int x), some (.bl (stepL rows b.2.1 x).2))
theorem runStep_fold (rows : List (List Int)) : ∀ (xs : List Int) (b : List Bool × List Int × Option D × Option D), (xs.foldl (runStep rows) b).1 = b.1 ++ (runL rows b.2.1 xs).1 ∧ (xs.foldl (runStep rows) b).2.1 = (runL rows b.2.1 xs).2
  | [], b => by simp [runL]
  | x :: xs, b => by
    obtain ⟨e1, e2⟩ := runStep_fold rows xs (runStep rows b x)
    simp only [List.foldl_cons, runL]
    rw [e1, e2]
    simp [runStep]
theorem fz_run {h : Sto} {n0 k : Nat} {bs : List Bool} {xs : List Int} (hk : ¬ k < n0) (e : h[k]? = some (.lst true (bs.map D.bl))) : fz h n0 12 (.tup [.ref k, tN xs]) = some (.tup [lB bs, tN xs]) := by
  have q1 : fzL (fz h n0 10) (bs.map D.bl) = some (bs.map D.bl) := fzs_pl 10 _ (pls_bl 9 bs)
  have q2 : fzL (fz h n0 10) (xs.map D.int) = some (xs.map D.int) := fzs_pl 10 _ (pls_int 9 xs)
  simp only [fz, fzL, if_neg hk, e, q1, q2, Option.map_some, Option.bind_some]
theorem run_spec [HasF P i_run f_run] [HasF P i_check_state f_check_state] [HasF P i_check_policy f_check_policy] [HasF P i_is_policy f_is_policy] [HasF P i_is_permutation f_is_permutation] [HasF P i_is_int f_is_int] [HasF P i_is_state f_is_state] [HasF P i_check_sequence f_check_sequence] [HasF P i_is_sequence f_is_sequence] [HasF P i_step f_step] [HasF P i_permuted f_permuted] {rows : List (List Int)} {st xs : List Int} (hp : IsPol rows) (hs : IsSt rows st) (hm : xs.length ≤ 2000) (hx : ∀ x ∈ xs, 0 ≤ x ∧ x ≤ 1000000000) (hw : WS h) (F d : Nat) (hF : 90 ≤ F) (hd : 6 ≤ d) :
    (ev P F).c d i_run [tR rows, tN st, lN xs] h = .ok (.tup [lB (runL rows st xs).1, tN (runL rows st xs).2]) h := by
  obtain ⟨F, rfl⟩ : ∃ j, F = j + 90 := ⟨F - 90, by omega⟩
  obtain ⟨d, rfl⟩ : ∃ j, d = j + 6 := ⟨d - 6, by omega⟩
  rw [call_eq (fn := f_run) rfl]
  simp -dsimp -implicitDefEqProofs only [f_run, G8.start, List.length_cons, List.length_nil, List.map_cons, List.map_nil, List.replicate, Nat.reduceAdd, Nat.reduceSub, List.cons_append, List.nil_append]
  have hw2 : ∀ bs : List Bool, WS (h ++ [.lst true (bs.map D.bl)]) := fun bs => by
    have : wf h.length h = true := hw
    unfold WS wf
    rw [List.all_append, List.length_append]
    simp only [List.all_cons, List.all_nil, okE, Bool.and_true, List.length_cons, List.length_nil]
    exact wf_mono (by omega) this
  have lp : ∀ F', 70 ≤ F' → forS (turnF (ev P F') (d + 5) (.var 4) [.asg (.tup [(.var 1), (.var 5)]) (.call 10 [(.var 0), (.var 1), (.var 4)]), .exp (.mb .append (.var 3) [(.var 5)])]) (xs.map D.int) [some (tR rows), some (tN st), some (lN xs), some (.ref h.length), none, none] (h ++ [.lst true []]) =
      .next [some (tR rows), some (tN (runL rows st xs).2), some (lN xs), some (.ref h.length), (xs.foldl (runStep rows) ([], st, none, none)).2.2.1, (xs.foldl (runStep rows) ([], st, none, none)).2.2.2] (h ++ [.lst true ((runL rows st xs).1.map D.bl)]) := by
    intro F' hF'
    obtain ⟨F', rfl⟩ : ∃ j, F' = j + 70 := ⟨F' - 70, by omega⟩
    have := forS_fold (body := turnF (ev P (F' + 70)) (d + 5) (.var 4) [.asg (.tup [(.var 1), (.var 5)]) (.call 10 [(.var 0), (.var 1), (.var 4)]), .exp (.mb .append (.var 3) [(.var 5)])]) D.int
      (fun b : List Bool × List Int × Option D × Option D => [some (tR rows), some (tN b.2.1), some (lN xs), some (.ref h.length), b.2.2.1, b.2.2.2]) (fun b => h ++ [.lst true (b.1.map D.bl)]) (runStep rows) (fun k b => b.1.length = k ∧ IsSt rows b.2.1) xs 0 ([], st, none, none) ⟨rfl, hs⟩ (fun k b x hx' hk hI => by
        obtain ⟨bs, s, p, q⟩ := b
        obtain ⟨hI, hS⟩ := hI
        have hI : bs.length = k := hI
        have hS : IsSt rows s := hS
        have hx0 := hx x hx'
        refine ⟨?_, by simp only [runStep, List.length_append, List.length_cons, List.length_nil]; omega, stepL_ok hp hS hx0.1 hx0.2⟩
        unfold turnF
        have l1 : (bs.length < LIM) = True := by simp only [eq_iff_iff, iff_true]; show bs.length < 16777216; omega
        simp -dsimp -implicitDefEqProofs only [↓bL, ↓tL, ↓hL, ↓ev_for, ev_e, ev_s, stepE, stepS, b_ok, b_err, t_ok, t_err, th_n, th_r, th_e, ne_ok, blk, G8.evs, asgT, asg1, asgs, idxD, seqOf, binD, cmpD, setIdxD, D.top, D.nr, if_true, and_self, Bool.false_and, Bool.and_true, biD, List.getElem?_cons_zero, List.getElem?_cons_succ, List.set_cons_zero, List.set_cons_succ, Nat.reduceLeDiff, Bool.false_eq_true, if_false, Bool.not_true, Bool.not_false, evIt, itOf, compI, lstOf, Option.bind_some, isiD, res, Bool.and_self, Bool.true_and, beq_self_eq_true, step_spec hp hS (hw2 bs), mbPre, mbD, gl0, Option.isSome, List.length_map, l1, st0]
        simp only [runStep, List.map_append, List.map_cons, List.map_nil])
    have e := this.1
    rw [(runStep_fold rows xs _).1, (runStep_fold rows xs _).2] at e
    exact e
  simp -dsimp -implicitDefEqProofs only [↓bL, ↓tL, ↓hL, ↓ev_for, ev_e, ev_s, stepE, stepS, b_ok, b_err, t_ok, t_err, th_n, th_r, th_e, ne_ok, blk, G8.evs, asgT, asg1, asgs, idxD, seqOf, binD, cmpD, setIdxD, D.top, D.nr, if_true, and_self, Bool.false_and, Bool.and_true, biD, List.getElem?_cons_zero, List.getElem?_cons_succ, List.set_cons_zero, List.set_cons_succ, Nat.reduceLeDiff, Bool.false_eq_true, if_false, Bool.not_true, Bool.not_false, evIt, itOf, compI, lstOf, Option.bind_some, isiD, res, Bool.and_self, Bool.true_and, beq_self_eq_true, check_state_spec hp hs hw, check_sequence_spec hm hx hw, D.nrs, lp]
  exact fin_pureA (fn := f_run) rfl hw (fz_run (by omega) gl0)
theorem count_bl (b : Bool) : ∀ bs : List Bool, (bs.map D.bl).countP (fun z => D.eqv z (.bl b)) = bs.count b
  | [] => rfl
  | c :: bs => by
    rw [List.map_cons, List.countP_cons, List.count_cons, count_bl b bs, eqv_bl]
    by_cases e : c = b <;> simp [e]
theorem misses_spec [HasF P i_misses f_misses] [HasF P i_run f_run] [HasF P i_check_state f_check_state] [HasF P i_check_policy f_check_policy] [HasF P i_is_policy f_is_policy] [HasF P i_is_permutation f_is_permutation] [HasF P i_is_int f_is_int] [HasF P i_is_state f_is_state] [HasF P i_check_sequence f_check_sequence] [HasF P i_is_sequence f_is_sequence] [HasF P i_step f_step] [HasF P i_permuted f_permuted] {rows : List (List Int)} {st xs : List Int} (hp : IsPol rows) (hs : IsSt rows st) (hm : xs.length ≤ 2000) (hx : ∀ x ∈ xs, 0 ≤ x ∧ x ≤ 1000000000) (hw : WS h) (F d : Nat) (hF : 100 ≤ F) (hd : 7 ≤ d) :
    (ev P F).c d i_misses [tR rows, tN st, lN xs] h = .ok (.int ((runL rows st xs).1.count false : Nat)) h := by
  obtain ⟨F, rfl⟩ : ∃ j, F = j + 100 := ⟨F - 100, by omega⟩
  obtain ⟨d, rfl⟩ : ∃ j, d = j + 7 := ⟨d - 7, by omega⟩
  rw [call_eq (fn := f_misses) rfl]
  simp -dsimp -implicitDefEqProofs only [f_misses, G8.start, List.length_cons, List.length_nil, List.map_cons, List.map_nil, List.replicate, Nat.reduceAdd, Nat.reduceSub, List.cons_append, List.nil_append]
  have i0 : G8.ixN 2 0 = some 0 := rfl
  simp -dsimp -implicitDefEqProofs only [↓bL, ↓tL, ↓hL, ↓ev_for, ev_e, ev_s, stepE, stepS, b_ok, b_err, t_ok, t_err, th_n, th_r, th_e, ne_ok, blk, G8.evs, asgT, asg1, asgs, idxD, seqOf, binD, cmpD, setIdxD, D.top, D.nr, if_true, and_self, Bool.false_and, Bool.and_true, biD, List.getElem?_cons_zero, List.getElem?_cons_succ, List.set_cons_zero, List.set_cons_succ, Nat.reduceLeDiff, Bool.false_eq_true, if_false, Bool.not_true, Bool.not_false, evIt, itOf, compI, lstOf, Option.bind_some, isiD, res, Bool.and_self, Bool.true_and, beq_self_eq_true, run_spec hp hs hm hx hw, List.length_cons, List.length_nil, Nat.reduceAdd, i0, mbPre, mbD, Option.isSome, fit_bl, fits_bl, count_bl]
  exact fin_pure (fn := f_misses) rfl hw fz_int
end
end G8

set_option Elab.async false
set_option linter.all false
set_option maxRecDepth 100000
set_option maxHeartbeats 1000000
namespace G8
/-! ### the laws' own helpers -/
def recL (n : Nat) : List (List Int) := (rgI n).map fun hit => (rgI n).map fun p => if p < hit then p + 1 else if p = hit then 0 else p
def Dw.s0 (ns : List Int) : Dw := ⟨if ns = [] then [0] else ns, 0, by split <;> simp_all⟩
def permPair (n : Nat) (s : Dw) (_ : Int) : List Int × Dw := (permF s n, permN s n)
def polF (s : Dw) (n : Nat) : List (List Int) := if s.v 5 = 0 then recL n else if s.v 5 = 1 then List.replicate n (rgI n) else if s.v 5 = 2 ∧ n = 4 then [[0, 1, 2, 3], [1, 0, 3, 2], [2, 1, 0, 3], [1, 2, 3, 0]] else (foldM (permPair n) (rgI n) (s.n 5)).1
def polN (s : Dw) (n : Nat) : Dw := if s.v 5 = 0 then s.n 5 else if s.v 5 = 1 then s.n 5 else if s.v 5 = 2 ∧ n = 4 then s.n 5 else (foldM (permPair n) (rgI n) (s.n 5)).2
theorem recL_length (n : Nat) : (recL n).length = n := by simp [recL, rgI]
theorem recL_pol {n : Nat} (h0 : 2 ≤ n) (h1 : n ≤ 4) : IsPol (recL n) := by
  refine ⟨by rw [recL_length]; exact h0, by rw [recL_length]; exact h1, ?_⟩
  rw [recL_length]
  obtain rfl | rfl | rfl : n = 2 ∨ n = 3 ∨ n = 4 := by omega
  all_goals decide +kernel
theorem polF_length (s : Dw) {n : Nat} : (polF s n).length = n := by
  unfold polF
  split
  · exact recL_length n
  · split
    · simp
    · split
      · rename_i hq; simp [hq.2]
      · rw [foldM_length, rgI_length]
theorem polF_pol (s : Dw) {n : Nat} (h0 : 2 ≤ n) (h1 : n ≤ 4) : IsPol (polF s n) := by
  refine ⟨by rw [polF_length]; exact h0, by rw [polF_length]; exact h1, ?_⟩
  rw [polF_length]
  unfold polF
  split
  · have := (recL_pol h0 h1).pm
    rw [recL_length] at this
    exact this
  · split
    · intro r hr
      rw [(List.mem_replicate.mp hr).2]
    · split
      · rename_i hq
        rw [hq.2]
        decide +kernel
      · exact foldM_all (p := fun r : List Int => r.Perm (rgI n)) _ _ fun b x _ => permF_perm b n
def seqPair (lim : Int) (s : Dw) (_ : Int) : Int × Dw := (s.v lim, s.n lim)
def seqF (s : Dw) (n : Nat) (lim : Int) : List Int := (foldM (seqPair lim) (rgI n) s).1
def seqN (s : Dw) (n : Nat) (lim : Int) : Dw := (foldM (seqPair lim) (rgI n) s).2
theorem seqF_length (s : Dw) (n : Nat) (lim : Int) : (seqF s n lim).length = n := by unfold seqF; rw [foldM_length, rgI_length]
theorem seqF_rg (s : Dw) (n : Nat) {lim : Int} (h : 0 < lim) : ∀ x ∈ seqF s n lim, 0 ≤ x ∧ x < lim := foldM_all _ _ fun b x _ => ⟨b.v_ge h, b.v_lt h⟩
theorem take_st (s : Dw) {n m : Nat} {rows : List (List Int)} (hr : rows.length = n) (h : n ≤ m) (hm : m ≤ 1000000) : IsSt rows ((permF s m).take n) := by
  have hp := permF_perm s m
  refine ⟨by rw [List.length_take, hp.length_eq, rgI_length, hr]; omega, fun x hx => ?_, (hp.nodup_iff.mpr (rgI_nodup m)).sublist (List.take_sublist _ _)⟩
  have := mem_rgI.mp (hp.mem_iff.mp (List.mem_of_mem_take hx))
  omega
section
variable {P : Prg} {h : Sto}
theorem start_spec [HasF P i__law_start f__law_start] {ns : List Int} (hl : ns.length ≤ 100000) (F d : Nat) (hF : 20 ≤ F) (hd : 1 ≤ d) : (ev P F).c d i__law_start [.scr (ns.map .int)] [] = .ok (.ref 1) (DS (Dw.s0 ns) []) := by
  obtain ⟨F, rfl⟩ : ∃ j, F = j + 20 := ⟨F - 20, by omega⟩
  obtain ⟨d, rfl⟩ : ∃ j, d = j + 1 := ⟨d - 1, by omega⟩
  rw [call_eq (fn := f__law_start) rfl]
  simp -dsimp -implicitDefEqProofs only [f__law_start, G8.start, List.length_cons, List.length_nil, List.map_cons, List.map_nil, List.replicate, Nat.reduceAdd, Nat.reduceSub, List.cons_append, List.nil_append]
  have n1 := nrs_int ns
  have q1 : D.fit 40 (.lst []) = true := rfl
  by_cases hn : ns = []
  · subst hn
    simp only [List.map_nil] at *
    have q2 : D.eqv (.lst []) (.lst []) = true := rfl
    have q3 : D.nrs [D.int 0] = true := rfl
    have q4 : D.nrs [D.ref 0, D.int 0] = false := rfl
    have q5 : [D.ref 0, D.int 0].all D.top = true := rfl
    simp -dsimp -implicitDefEqProofs only [↓bL, ↓tL, ↓hL, ↓ev_for, ev_e, ev_s, stepE, stepS, b_ok, b_err, t_ok, t_err, th_n, th_r, th_e, ne_ok, blk, G8.evs, asgT, asg1, asgs, idxD, seqOf, binD, cmpD, setIdxD, D.top, D.nr, if_true, and_self, Bool.false_and, Bool.and_true, biD, List.getElem?_cons_zero, List.getElem?_cons_succ, List.set_cons_zero, List.set_cons_succ, Nat.reduceLeDiff, Bool.false_eq_true, if_false, Bool.not_true, Bool.not_false, evIt, itOf, compI, lstOf, Option.bind_some, isiD, res, Bool.and_self, Bool.true_and, beq_self_eq_true, q1, q2, List.nil_append, q3, List.length_nil, List.length_cons, Nat.reduceAdd, List.cons_append, q4, q5]
    rfl
  · have q2 : D.eqv (lN ns) (.lst []) = false := (eqv_lN ns []).trans (by simp [hn])
    have q4 : D.nrs [D.ref 0, D.int 0] = false := rfl
    have q5 : [D.ref 0, D.int 0].all D.top = true := rfl
    simp -dsimp -implicitDefEqProofs only [↓bL, ↓tL, ↓hL, ↓ev_for, ev_e, ev_s, stepE, stepS, b_ok, b_err, t_ok, t_err, th_n, th_r, th_e, ne_ok, blk, G8.evs, asgT, asg1, asgs, idxD, seqOf, binD, cmpD, setIdxD, D.top, D.nr, if_true, and_self, Bool.false_and, Bool.and_true, biD, List.getElem?_cons_zero, List.getElem?_cons_succ, List.set_cons_zero, List.set_cons_succ, Nat.reduceLeDiff, Bool.false_eq_true, if_false, Bool.not_true, Bool.not_false, evIt, itOf, compI, lstOf, Option.bind_some, isiD, res, Bool.and_self, Bool.true_and, beq_self_eq_true, q1, fit_lint, q2, List.nil_append, n1, List.length_nil, List.length_cons, Nat.reduceAdd, List.cons_append, q4, q5]
    unfold DS Dw.s0
    simp only [if_neg hn]
    rfl
theorem true_spec [HasF P i__law_true f__law_true] {a b : Bool} (hw : WS h) (F d : Nat) (hF : 12 ≤ F) (hd : 1 ≤ d) : (ev P F).c d i__law_true [.bl a, .bl b] h = .ok (.bl (decide (a = b))) h := by
  obtain ⟨F, rfl⟩ : ∃ j, F = j + 12 := ⟨F - 12, by omega⟩
  obtain ⟨d, rfl⟩ : ∃ j, d = j + 1 := ⟨d - 1, by omega⟩
  rw [call_eq (fn := f__law_true) rfl]
  simp -dsimp -implicitDefEqProofs only [f__law_true, G8.start, List.length_cons, List.length_nil, List.map_cons, List.map_nil, List.replicate, Nat.reduceAdd, Nat.reduceSub, List.cons_append, List.nil_append]
  simp -dsimp -implicitDefEqProofs only [↓bL, ↓tL, ↓hL, ↓ev_for, ev_e, ev_s, stepE, stepS, b_ok, b_err, t_ok, t_err, th_n, th_r, th_e, ne_ok, blk, G8.evs, asgT, asg1, asgs, idxD, seqOf, binD, cmpD, setIdxD, D.top, D.nr, if_true, and_self, Bool.false_and, Bool.and_true, biD, List.getElem?_cons_zero, List.getElem?_cons_succ, List.set_cons_zero, List.set_cons_succ, Nat.reduceLeDiff, Bool.false_eq_true, if_false, Bool.not_true, Bool.not_false, evIt, itOf, compI, lstOf, Option.bind_some, isiD, res, Bool.and_self, Bool.true_and, beq_self_eq_true, fit_bl, eqv_bl]
  exact fin_pure (fn := f__law_true) rfl hw fz_bl
theorem state_spec [HasF P i__law_state f__law_state] [HasF P i__law_permutation f__law_permutation] [HasF P i__law_draw f__law_draw] {s : Dw} {r : Sto} {n m : Nat} (hr : RK r) (hn : n ≤ m) (hm : m ≤ 1000000) (F d : Nat) (hF : 50 ≤ F) (hd : 3 ≤ d) :
    (ev P F).c d i__law_state [.ref 1, .int (n : Nat), .int (m : Nat)] (DS s r) = .ok (tN ((permF s m).take n)) (DS (permN s m) r) := by
  obtain ⟨F, rfl⟩ : ∃ j, F = j + 50 := ⟨F - 50, by omega⟩
  obtain ⟨d, rfl⟩ : ∃ j, d = j + 3 := ⟨d - 3, by omega⟩
  rw [call_eq (fn := f__law_state) rfl]
  simp -dsimp -implicitDefEqProofs only [f__law_state, G8.start, List.length_cons, List.length_nil, List.map_cons, List.map_nil, List.replicate, Nat.reduceAdd, Nat.reduceSub, List.cons_append, List.nil_append]
  have c := cut_lo (xs := (permF s m).map D.int) (k := (n : Int)) (by omega) (by rw [List.length_map, permF_length]; omega)
  simp -dsimp -implicitDefEqProofs only [↓bL, ↓tL, ↓hL, ↓ev_for, ev_e, ev_s, stepE, stepS, b_ok, b_err, t_ok, t_err, th_n, th_r, th_e, ne_ok, blk, G8.evs, asgT, asg1, asgs, idxD, seqOf, binD, cmpD, setIdxD, D.top, D.nr, if_true, and_self, Bool.false_and, Bool.and_true, biD, List.getElem?_cons_zero, List.getElem?_cons_succ, List.set_cons_zero, List.set_cons_succ, Nat.reduceLeDiff, Bool.false_eq_true, if_false, Bool.not_true, Bool.not_false, evIt, itOf, compI, lstOf, Option.bind_some, isiD, res, Bool.and_self, Bool.true_and, beq_self_eq_true, perm_spec hr hm, evO, slD, c, Int.toNat_natCast, ← List.map_take]
  exact fin_pure (fn := f__law_state) rfl (ws_DS hr) (fz_pl _ _ (pl_tN _ _))
theorem sequence_spec [HasF P i__law_sequence f__law_sequence] [HasF P i__law_draw f__law_draw] {s : Dw} {r : Sto} {n : Nat} {lim : Int} (hr : RK r) (hn : n ≤ 1000000) (hl : 0 < lim) (hl2 : lim < 1073741824) (F d : Nat) (hF : 40 ≤ F) (hd : 2 ≤ d) :
    (ev P F).c d i__law_sequence [.ref 1, .int (n : Nat), .int lim] (DS s r) = .ok (lN (seqF s n lim)) (DS (seqN s n lim) r) := by
  obtain ⟨F, rfl⟩ : ∃ j, F = j + 40 := ⟨F - 40, by omega⟩
  obtain ⟨d, rfl⟩ : ∃ j, d = j + 2 := ⟨d - 2, by omega⟩
  rw [call_eq (fn := f__law_sequence) rfl]
  simp -dsimp -implicitDefEqProofs only [f__law_sequence, G8.start, List.length_cons, List.length_nil, List.map_cons, List.map_nil, List.replicate, Nat.reduceAdd, Nat.reduceSub, List.cons_append, List.nil_append]
  have hc : ∀ F', 30 ≤ F' → compS (turn ((ev P F').e (d + 1)) (.var 3) [] (.call 20 [.var 0, .var 2]) [some (.ref 1), some (.int (n : Nat)), some (.int lim), none]) ((rgI n).map D.int) [] (DS s r) = .ok ((seqF s n lim).map D.int) (DS (seqN s n lim) r) := by
    intro F' hF'
    obtain ⟨F', rfl⟩ : ∃ j, F' = j + 30 := ⟨F' - 30, by omega⟩
    exact compS_fold D.int (fun s : Dw => DS s r) (seqPair lim) D.int (rgI n) [] s (fun s x _ => by
      simp only [turn, asgC, tests]
      simp -dsimp -implicitDefEqProofs only [↓bL, ↓tL, ↓hL, ↓ev_for, ev_e, ev_s, stepE, stepS, b_ok, b_err, t_ok, t_err, th_n, th_r, th_e, ne_ok, blk, G8.evs, asgT, asg1, asgs, idxD, seqOf, binD, cmpD, setIdxD, D.top, D.nr, if_true, and_self, Bool.false_and, Bool.and_true, biD, List.getElem?_cons_zero, List.getElem?_cons_succ, List.set_cons_zero, List.set_cons_succ, Nat.reduceLeDiff, Bool.false_eq_true, if_false, Bool.not_true, Bool.not_false, evIt, itOf, compI, lstOf, Option.bind_some, isiD, res, Bool.and_self, Bool.true_and, beq_self_eq_true, draw_spec hr hl hl2]
      rfl) (by rw [rgI_length]; show 0 + n ≤ 16777216; omega)
  have r1 : small (n : Int) = true := by simp [small]; omega
  have wp : G8.wipe [some (D.ref 1), some (.int (n : Nat)), some (.int lim), none] [3] = [some (.ref 1), some (.int (n : Nat)), some (.int lim), none] := rfl
  simp -dsimp -implicitDefEqProofs only [↓bL, ↓tL, ↓hL, ↓ev_for, ev_e, ev_s, stepE, stepS, b_ok, b_err, t_ok, t_err, th_n, th_r, th_e, ne_ok, blk, G8.evs, asgT, asg1, asgs, idxD, seqOf, binD, cmpD, setIdxD, D.top, D.nr, if_true, and_self, Bool.false_and, Bool.and_true, biD, List.getElem?_cons_zero, List.getElem?_cons_succ, List.set_cons_zero, List.set_cons_succ, Nat.reduceLeDiff, Bool.false_eq_true, if_false, Bool.not_true, Bool.not_false, evIt, itOf, compI, lstOf, Option.bind_some, isiD, res, Bool.and_self, Bool.true_and, beq_self_eq_true, r1, rg_rgI, wp, hc]
  exact fin_pure (fn := f__law_sequence) rfl (ws_DS hr) (fz_pl _ _ (pl_lN _ _))
theorem law_step_spec [HasF P i__law_step f__law_step] {rows : List (List Int)} {st : List Int} {b : Int} (hp : IsPol rows) (hs : IsSt rows st) (hw : WS h) (F d : Nat) (hF : 50 ≤ F) (hd : 1 ≤ d) :
    (ev P F).c d i__law_step [tR rows, tN st, .int b] h = .ok (.tup [tN (stepL rows st b).1, .bl (stepL rows st b).2]) h := by
  obtain ⟨F, rfl⟩ : ∃ j, F = j + 50 := ⟨F - 50, by omega⟩
  obtain ⟨d, rfl⟩ : ∃ j, d = j + 1 := ⟨d - 1, by omega⟩
  rw [call_eq (fn := f__law_step) rfl]
  simp -dsimp -implicitDefEqProofs only [f__law_step, G8.start, List.length_cons, List.length_nil, List.map_cons, List.map_nil, List.replicate, Nat.reduceAdd, Nat.reduceSub, List.cons_append, List.nil_append]
  have h4 := hp.hi
  have h2 := hp.lo
  have hl := hs.len
  unfold stepL
  by_cases hm : b ∈ st
  · rw [if_pos hm]
    have hk : st.idxOf b < rows.length := by rw [← hl]; exact idx_lt hm
    have hr := row_perm hp hk
    rw [← hl] at hr
    have i1 := idxOf_map D.int eqv_int b st hm
    have g1 := get_map tN (getD_get (d := []) hk)
    have hc : ∀ F', 30 ≤ F' → compS (turn ((ev P F').e d) (.var 4) [] (.idx (.var 1) (.mb .index (.var 3) [.var 4])) [some (tR rows), some (tN st), some (.int b), some (tN (rows.getD (st.idxOf b) [])), none]) ((rgI st.length).map D.int) [] h = .ok ((permA st (rows.getD (st.idxOf b) [])).map D.int) h := by
      intro F' hF'
      obtain ⟨F', rfl⟩ : ∃ j, F' = j + 30 := ⟨F' - 30, by omega⟩
      rw [compS_map D.int (fun p => D.int (st.getD ((rows.getD (st.idxOf b) []).idxOf p) default)) (rgI st.length) [] (fun x hx => ?_) (by rw [rgI_length]; show 0 + st.length ≤ 16777216; omega), List.nil_append]
      · unfold permA; rw [List.map_map]; rfl
      · have hx' := hr.mem_iff.mpr hx
        have i2 := idxOf_map D.int eqv_int x _ hx'
        have hk2 : (rows.getD (st.idxOf b) []).idxOf x < st.length := by have := idx_lt hx'; rw [hr.length_eq, rgI_length] at this; exact this
        have g2 := get_map D.int (getD_get (d := default) hk2)
        simp only [turn, asgC, tests]
        simp -dsimp -implicitDefEqProofs only [↓bL, ↓tL, ↓hL, ↓ev_for, ev_e, ev_s, stepE, stepS, b_ok, b_err, t_ok, t_err, th_n, th_r, th_e, ne_ok, blk, G8.evs, asgT, asg1, asgs, idxD, seqOf, binD, cmpD, setIdxD, D.top, D.nr, if_true, and_self, Bool.false_and, Bool.and_true, biD, List.getElem?_cons_zero, List.getElem?_cons_succ, List.set_cons_zero, List.set_cons_succ, Nat.reduceLeDiff, Bool.false_eq_true, if_false, Bool.not_true, Bool.not_false, evIt, itOf, compI, lstOf, Option.bind_some, isiD, res, Bool.and_self, Bool.true_and, beq_self_eq_true, mbPre, mbD, in_tN, hx', decide_true, i2, List.length_map, ixN_nat hk2, g2]
    have r1 : small (st.length : Int) = true := by simp [small]; omega
    have wp : G8.wipe [some (tR rows), some (tN st), some (.int b), some (tN (rows.getD (st.idxOf b) [])), none] [4] = [some (tR rows), some (tN st), some (.int b), some (tN (rows.getD (st.idxOf b) [])), none] := rfl
    simp -dsimp -implicitDefEqProofs only [↓bL, ↓tL, ↓hL, ↓ev_for, ev_e, ev_s, stepE, stepS, b_ok, b_err, t_ok, t_err, th_n, th_r, th_e, ne_ok, blk, G8.evs, asgT, asg1, asgs, idxD, seqOf, binD, cmpD, setIdxD, D.top, D.nr, if_true, and_self, Bool.false_and, Bool.and_true, biD, List.getElem?_cons_zero, List.getElem?_cons_succ, List.set_cons_zero, List.set_cons_succ, Nat.reduceLeDiff, Bool.false_eq_true, if_false, Bool.not_true, Bool.not_false, evIt, itOf, compI, lstOf, Option.bind_some, isiD, res, Bool.and_self, Bool.true_and, beq_self_eq_true, in_tN, hm, decide_true, Option.map_some, mbPre, mbD, i1, List.length_map, ixN_nat hk, g1, r1, rg_rgI, wp, hc]
    exact fin_pure (fn := f__law_step) rfl hw fz_pair
  · rw [if_neg hm]
    have z1 : 0 + 1 + ((st.map D.int).dropLast).length ≤ LIM := by rw [List.length_dropLast, List.length_map]; show _ ≤ 16777216; omega
    have e1 : (st.map D.int).dropLast = (st.dropLast).map D.int := by rw [List.map_dropLast]
    simp -dsimp -implicitDefEqProofs only [↓bL, ↓tL, ↓hL, ↓ev_for, ev_e, ev_s, stepE, stepS, b_ok, b_err, t_ok, t_err, th_n, th_r, th_e, ne_ok, blk, G8.evs, asgT, asg1, asgs, idxD, seqOf, binD, cmpD, setIdxD, D.top, D.nr, if_true, and_self, Bool.false_and, Bool.and_true, biD, List.getElem?_cons_zero, List.getElem?_cons_succ, List.set_cons_zero, List.set_cons_succ, Nat.reduceLeDiff, Bool.false_eq_true, if_false, Bool.not_true, Bool.not_false, evIt, itOf, compI, lstOf, Option.bind_some, isiD, res, Bool.and_self, Bool.true_and, beq_self_eq_true, in_tN, hm, decide_false, Option.map_some, evO, slD, cut_m1, List.length_cons, List.length_nil, z1]
    simp only [e1, List.cons_append, List.nil_append]
    exact fin_pure (fn := f__law_step) rfl hw (fz_pair (xs := b :: st.dropLast))
theorem law_run_spec [HasF P i__law_run f__law_run] [HasF P i__law_step f__law_step] {rows : List (List Int)} {st xs : List Int} (hp : IsPol rows) (hs : IsSt rows st) (hm : xs.length ≤ 1000000) (hx : ∀ x ∈ xs, 0 ≤ x ∧ x ≤ 1000000000) (hw : WS h) (F d : Nat) (hF : 90 ≤ F) (hd : 2 ≤ d) :
    (ev P F).c d i__law_run [tR rows, tN st, lN xs] h = .ok (.tup [lB (runL rows st xs).1, tN (runL rows st xs).2]) h := by
  obtain ⟨F, rfl⟩ : ∃ j, F = j + 90 := ⟨F - 90, by omega⟩
  obtain ⟨d, rfl⟩ : ∃ j, d = j + 2 := ⟨d - 2, by omega⟩
  rw [call_eq (fn := f__law_run) rfl]
  simp -dsimp -implicitDefEqProofs only [f__law_run, G8.start, List.length_cons, List.length_nil, List.map_cons, List.map_nil, List.replicate, Nat.reduceAdd, Nat.reduceSub, List.cons_append, List.nil_append]
  have hw2 : ∀ bs : List Bool, WS (h ++ [.lst true (bs.map D.bl)]) := fun bs => by
    have : wf h.length h = true := hw
    unfold WS wf
    rw [List.all_append, List.length_append]
    simp only [List.all_cons, List.all_nil, okE, Bool.and_true, List.length_cons, List.length_nil]
    exact wf_mono (by omega) this
  have lp : ∀ F', 70 ≤ F' → forS (turnF (ev P F') (d + 1) (.var 4) [.asg (.tup [(.var 1), (.var 5)]) (.call 26 [(.var 0), (.var 1), (.var 4)]), .exp (.mb .append (.var 3) [(.var 5)])]) (xs.map D.int) [some (tR rows), some (tN st), some (lN xs), some (.ref h.length), none, none] (h ++ [.lst true []]) =
      .next [some (tR rows), some (tN (runL rows st xs).2), some (lN xs), some (.ref h.length), (xs.foldl (runStep rows) ([], st, none, none)).2.2.1, (xs.foldl (runStep rows) ([], st, none, none)).2.2.2] (h ++ [.lst true ((runL rows st xs).1.map D.bl)]) := by
    intro F' hF'
    obtain ⟨F', rfl⟩ : ∃ j, F' = j + 70 := ⟨F' - 70, by omega⟩
    have := forS_fold (body := turnF (ev P (F' + 70)) (d + 1) (.var 4) [.asg (.tup [(.var 1), (.var 5)]) (.call 26 [(.var 0), (.var 1), (.var 4)]), .exp (.mb .append (.var 3) [(.var 5)])]) D.int
      (fun b : List Bool × List Int × Option D × Option D => [some (tR rows), some (tN b.2.1), some (lN xs), some (.ref h.length), b.2.2.1, b.2.2.2]) (fun b => h ++ [.lst true (b.1.map D.bl)]) (runStep rows) (fun k b => b.1.length = k ∧ IsSt rows b.2.1) xs 0 ([], st, none, none) ⟨rfl, hs⟩ (fun k b x hx' hk hI => by
        obtain ⟨bs, s, p, q⟩ := b
        obtain ⟨hI, hS⟩ := hI
        have hI : bs.length = k := hI
        have hS : IsSt rows s := hS
        have hx0 := hx x hx'
        refine ⟨?_, by simp only [runStep, List.length_append, List.length_cons, List.length_nil]; omega, stepL_ok hp hS hx0.1 hx0.2⟩
        unfold turnF
        have l1 : (bs.length < LIM) = True := by simp only [eq_iff_iff, iff_true]; show bs.length < 16777216; omega
        simp -dsimp -implicitDefEqProofs only [↓bL, ↓tL, ↓hL, ↓ev_for, ev_e, ev_s, stepE, stepS, b_ok, b_err, t_ok, t_err, th_n, th_r, th_e, ne_ok, blk, G8.evs, asgT, asg1, asgs, idxD, seqOf, binD, cmpD, setIdxD, D.top, D.nr, if_true, and_self, Bool.false_and, Bool.and_true, biD, List.getElem?_cons_zero, List.getElem?_cons_succ, List.set_cons_zero, List.set_cons_succ, Nat.reduceLeDiff, Bool.false_eq_true, if_false, Bool.not_true, Bool.not_false, evIt, itOf, compI, lstOf, Option.bind_some, isiD, res, Bool.and_self, Bool.true_and, beq_self_eq_true, law_step_spec hp hS (hw2 bs), mbPre, mbD, gl0, Option.isSome, List.length_map, l1, st0]
        simp only [runStep, List.map_append, List.map_cons, List.map_nil])
    have e := this.1
    rw [(runStep_fold rows xs _).1, (runStep_fold rows xs _).2] at e
    exact e
  simp -dsimp -implicitDefEqProofs only [↓bL, ↓tL, ↓hL, ↓ev_for, ev_e, ev_s, stepE, stepS, b_ok, b_err, t_ok, t_err, th_n, th_r, th_e, ne_ok, blk, G8.evs, asgT, asg1, asgs, idxD, seqOf, binD, cmpD, setIdxD, D.top, D.nr, if_true, and_self, Bool.false_and, Bool.and_true, biD, List.getElem?_cons_zero, List.getElem?_cons_succ, List.set_cons_zero, List.set_cons_succ, Nat.reduceLeDiff, Bool.false_eq_true, if_false, Bool.not_true, Bool.not_false, evIt, itOf, compI, lstOf, Option.bind_some, isiD, res, Bool.and_self, Bool.true_and, beq_self_eq_true, D.nrs, lp]
  exact fin_pureA (fn := f__law_run) rfl hw (fz_run (by omega) gl0)
end
end G8

set_option Elab.async false
set_option linter.all false
set_option maxRecDepth 100000
set_option maxHeartbeats 1000000
namespace G8
theorem ws_snoc {h : Sto} (hw : WS h) {o : O} (ho : okE (h.length + 1) o = true) : WS (h ++ [o]) := by
  have : wf h.length h = true := hw
  unfold WS wf
  rw [List.all_append, List.length_append]
  simp only [List.all_cons, List.all_nil, Bool.and_true, List.length_cons, List.length_nil, Nat.zero_add, ho]
  exact wf_mono (by omega) this
def recRow (n : Nat) (hit : Int) : List Int := (rgI n).map fun p => if p < hit then p + 1 else if p = hit then 0 else p
theorem eqv_int' {x y : Int} : (x == y) = decide (x = y) := by by_cases h : x = y <;> simp [h]
theorem nr_tN (xs : List Int) : D.nr (tN xs) = true := by simp only [D.nr, nrs_int]
section
variable {P : Prg} {h : Sto}
theorem recent_spec [HasF P i__law_recent f__law_recent] {n : Nat} (hn : n ≤ 1000) (hw : WS h) (F d : Nat) (hF : 60 ≤ F) (hd : 1 ≤ d) : (ev P F).c d i__law_recent [.int (n : Nat)] h = .ok (tR (recL n)) h := by
  obtain ⟨F, rfl⟩ : ∃ j, F = j + 60 := ⟨F - 60, by omega⟩
  obtain ⟨d, rfl⟩ : ∃ j, d = j + 1 := ⟨d - 1, by omega⟩
  rw [call_eq (fn := f__law_recent) rfl]
  simp -dsimp -implicitDefEqProofs only [f__law_recent, G8.start, List.length_cons, List.length_nil, List.map_cons, List.map_nil, List.replicate, Nat.reduceAdd, Nat.reduceSub, List.cons_append, List.nil_append]
  have r1 : small (n : Int) = true := by simp [small]; omega
  have hc : ∀ (F' : Nat) (hit : Int) (h' : Sto), 20 ≤ F' → compS (turn ((ev P F').e d) (.var 3) [] (.ite (.cmp .lt (.var 3) (.var 2)) (.bin .add (.var 3) (.cst (.int 1))) (.ite (.cmp .eq (.var 3) (.var 2)) (.cst (.int 0)) (.var 3))) [some (.int (n : Nat)), some (.ref h.length), some (.int hit), none]) ((rgI n).map D.int) [] h' = .ok ((recRow n hit).map D.int) h' := by
    intro F' hit h' hF'
    obtain ⟨F', rfl⟩ : ∃ j, F' = j + 20 := ⟨F' - 20, by omega⟩
    rw [compS_map D.int (fun p => D.int (if p < hit then p + 1 else if p = hit then 0 else p)) (rgI n) [] (fun p hp => ?_) (by rw [rgI_length]; show 0 + n ≤ 16777216; omega), List.nil_append]
    · unfold recRow; rw [List.map_map]; rfl
    · simp only [turn, asgC, tests]
      by_cases a1 : p < hit
      · have a2 : decide (p < hit) = true := by simpa using a1
        simp -dsimp -implicitDefEqProofs only [↓bL, ↓tL, ↓hL, ↓ev_for, ev_e, ev_s, stepE, stepS, b_ok, b_err, t_ok, t_err, th_n, th_r, th_e, ne_ok, blk, G8.evs, asgT, asg1, asgs, idxD, seqOf, binD, cmpD, setIdxD, D.top, D.nr, if_true, and_self, Bool.false_and, Bool.and_true, biD, List.getElem?_cons_zero, List.getElem?_cons_succ, List.set_cons_zero, List.set_cons_succ, Nat.reduceLeDiff, Bool.false_eq_true, if_false, Bool.not_true, Bool.not_false, evIt, itOf, compI, lstOf, Option.bind_some, isiD, res, Bool.and_self, Bool.true_and, beq_self_eq_true, a2]
        rw [if_pos a1]
      · have a2 : decide (p < hit) = false := by simpa using a1
        by_cases a3 : p = hit
        · have a4 : D.eqv (.int p) (.int hit) = true := by rw [eqv_int]; simpa using a3
          simp -dsimp -implicitDefEqProofs only [↓bL, ↓tL, ↓hL, ↓ev_for, ev_e, ev_s, stepE, stepS, b_ok, b_err, t_ok, t_err, th_n, th_r, th_e, ne_ok, blk, G8.evs, asgT, asg1, asgs, idxD, seqOf, binD, cmpD, setIdxD, D.top, D.nr, if_true, and_self, Bool.false_and, Bool.and_true, biD, List.getElem?_cons_zero, List.getElem?_cons_succ, List.set_cons_zero, List.set_cons_succ, Nat.reduceLeDiff, Bool.false_eq_true, if_false, Bool.not_true, Bool.not_false, evIt, itOf, compI, lstOf, Option.bind_some, isiD, res, Bool.and_self, Bool.true_and, beq_self_eq_true, a2, fit_int, a4]
          rw [if_neg a1, if_pos a3]
        · have a4 : D.eqv (.int p) (.int hit) = false := by rw [eqv_int]; simpa using a3
          simp -dsimp -implicitDefEqProofs only [↓bL, ↓tL, ↓hL, ↓ev_for, ev_e, ev_s, stepE, stepS, b_ok, b_err, t_ok, t_err, th_n, th_r, th_e, ne_ok, blk, G8.evs, asgT, asg1, asgs, idxD, seqOf, binD, cmpD, setIdxD, D.top, D.nr, if_true, and_self, Bool.false_and, Bool.and_true, biD, List.getElem?_cons_zero, List.getElem?_cons_succ, List.set_cons_zero, List.set_cons_succ, Nat.reduceLeDiff, Bool.false_eq_true, if_false, Bool.not_true, Bool.not_false, evIt, itOf, compI, lstOf, Option.bind_some, isiD, res, Bool.and_self, Bool.true_and, beq_self_eq_true, a2, fit_int, a4]
          rw [if_neg a1, if_neg a3]
  have lp : ∀ F', 40 ≤ F' → forS (turnF (ev P F') d (.var 2) [.exp (.mb .append (.var 1) [(.bi .tuple [(.comp (.var 3) (.rng1 (.var 0)) [] (.ite (.cmp .lt (.var 3) (.var 2)) (.bin .add (.var 3) (.cst (.int 1))) (.ite (.cmp .eq (.var 3) (.var 2)) (.cst (.int 0)) (.var 3))) [3])])])]) ((rgI n).map D.int) [some (.int (n : Nat)), some (.ref h.length), none, none] (h ++ [.lst true []]) =
      .next [some (.int (n : Nat)), some (.ref h.length), ((rgI n).foldl (fun (b : List (List Int) × Option D) x => (b.1 ++ [recRow n x], some (D.int x))) ([], none)).2, none] (h ++ [.lst true ((recL n).map tN)]) := by
    intro F' hF'
    obtain ⟨F', rfl⟩ : ∃ j, F' = j + 40 := ⟨F' - 40, by omega⟩
    have := forS_fold (body := turnF (ev P (F' + 40)) d (.var 2) [.exp (.mb .append (.var 1) [(.bi .tuple [(.comp (.var 3) (.rng1 (.var 0)) [] (.ite (.cmp .lt (.var 3) (.var 2)) (.bin .add (.var 3) (.cst (.int 1))) (.ite (.cmp .eq (.var 3) (.var 2)) (.cst (.int 0)) (.var 3))) [3])])])]) D.int
      (fun b : List (List Int) × Option D => [some (.int (n : Nat)), some (.ref h.length), b.2, none]) (fun b => h ++ [.lst true (b.1.map tN)]) (fun b x => (b.1 ++ [recRow n x], some (D.int x))) (fun k b => b.1.length = k) (rgI n) 0 ([], none) rfl (fun k b x hx hk hI => by
        obtain ⟨acc, y⟩ := b
        rw [rgI_length, Nat.zero_add] at hk
        have hI : acc.length = k := hI
        refine ⟨?_, by simp only [List.length_append, List.length_cons, List.length_nil]; omega⟩
        have l1 : (acc.length < LIM) = True := by simp only [eq_iff_iff, iff_true]; show acc.length < 16777216; omega
        unfold turnF
        have wp : ∀ a b c : Option D, G8.wipe [a, b, c, none] [3] = [a, b, c, none] := fun _ _ _ => rfl
        simp -dsimp -implicitDefEqProofs only [↓bL, ↓tL, ↓hL, ↓ev_for, ev_e, ev_s, stepE, stepS, b_ok, b_err, t_ok, t_err, th_n, th_r, th_e, ne_ok, blk, G8.evs, asgT, asg1, asgs, idxD, seqOf, binD, cmpD, setIdxD, D.top, D.nr, if_true, and_self, Bool.false_and, Bool.and_true, biD, List.getElem?_cons_zero, List.getElem?_cons_succ, List.set_cons_zero, List.set_cons_succ, Nat.reduceLeDiff, Bool.false_eq_true, if_false, Bool.not_true, Bool.not_false, evIt, itOf, compI, lstOf, Option.bind_some, isiD, res, Bool.and_self, Bool.true_and, beq_self_eq_true, mbPre, mbD, gl0, Option.isSome, r1, rg_rgI, wp, hc, nrs_int, List.length_map, l1, st0]
        simp only [List.map_append, List.map_cons, List.map_nil])
    have e := this.1
    have z : ∀ (xs : List Int) (b : List (List Int) × Option D), (xs.foldl (fun (b : List (List Int) × Option D) x => (b.1 ++ [recRow n x], some (D.int x))) b).1 = b.1 ++ xs.map (recRow n) := by
      intro xs
      induction xs with
      | nil => intro b; simp
      | cons x xs ih => intro b; rw [List.foldl_cons, ih]; simp
    rw [z] at e
    exact e
  simp -dsimp -implicitDefEqProofs only [↓bL, ↓tL, ↓hL, ↓ev_for, ev_e, ev_s, stepE, stepS, b_ok, b_err, t_ok, t_err, th_n, th_r, th_e, ne_ok, blk, G8.evs, asgT, asg1, asgs, idxD, seqOf, binD, cmpD, setIdxD, D.top, D.nr, if_true, and_self, Bool.false_and, Bool.and_true, biD, List.getElem?_cons_zero, List.getElem?_cons_succ, List.set_cons_zero, List.set_cons_succ, Nat.reduceLeDiff, Bool.false_eq_true, if_false, Bool.not_true, Bool.not_false, evIt, itOf, compI, lstOf, Option.bind_some, isiD, res, Bool.and_self, Bool.true_and, beq_self_eq_true, D.nrs, r1, rg_rgI, lp, gl0]
  exact fin_pureA (fn := f__law_recent) rfl hw (fz_pl _ _ (pl_tR 8 _))
theorem policy_spec [HasF P i__law_policy f__law_policy] [HasF P i__law_draw f__law_draw] [HasF P i__law_recent f__law_recent] [HasF P i__law_permutation f__law_permutation] {s : Dw} {r : Sto} {n : Nat} (hr : RK r) (hn : 2 ≤ n) (hn2 : n ≤ 4) (F d : Nat) (hF : 80 ≤ F) (hd : 3 ≤ d) :
    (ev P F).c d i__law_policy [.ref 1, .int (n : Nat)] (DS s r) = .ok (tR (polF s n)) (DS (polN s n) r) := by
  obtain ⟨F, rfl⟩ : ∃ j, F = j + 80 := ⟨F - 80, by omega⟩
  obtain ⟨d, rfl⟩ : ∃ j, d = j + 3 := ⟨d - 3, by omega⟩
  rw [call_eq (fn := f__law_policy) rfl]
  simp -dsimp -implicitDefEqProofs only [f__law_policy, G8.start, List.length_cons, List.length_nil, List.map_cons, List.map_nil, List.replicate, Nat.reduceAdd, Nat.reduceSub, List.cons_append, List.nil_append]
  have hws := ws_DS (s := s.n 5) hr
  have dr := fun F d hF hd => draw_spec (P := P) (s := s) hr (show (0 : Int) < 5 by omega) (by omega) F d hF hd
  unfold polF polN
  by_cases k0 : s.v 5 = 0
  · rw [if_pos k0, if_pos k0]
    have a1 : D.eqv (.int (s.v 5)) (.int 0) = true := by rw [eqv_int]; simpa using k0
    simp -dsimp -implicitDefEqProofs only [↓bL, ↓tL, ↓hL, ↓ev_for, ev_e, ev_s, stepE, stepS, b_ok, b_err, t_ok, t_err, th_n, th_r, th_e, ne_ok, blk, G8.evs, asgT, asg1, asgs, idxD, seqOf, binD, cmpD, setIdxD, D.top, D.nr, if_true, and_self, Bool.false_and, Bool.and_true, biD, List.getElem?_cons_zero, List.getElem?_cons_succ, List.set_cons_zero, List.set_cons_succ, Nat.reduceLeDiff, Bool.false_eq_true, if_false, Bool.not_true, Bool.not_false, evIt, itOf, compI, lstOf, Option.bind_some, isiD, res, Bool.and_self, Bool.true_and, beq_self_eq_true, dr, fit_int, a1, recent_spec (show n ≤ 1000 by omega) hws]
    exact fin_pure (fn := f__law_policy) rfl hws (fz_pl _ _ (pl_tR 8 _))
  · rw [if_neg k0, if_neg k0]
    have a1 : D.eqv (.int (s.v 5)) (.int 0) = false := by rw [eqv_int]; simpa using k0
    by_cases k1 : s.v 5 = 1
    · rw [if_pos k1, if_pos k1]
      have a2 : D.eqv (.int (s.v 5)) (.int 1) = true := by rw [eqv_int]; simpa using k1
      have c1 : ((0 : Int) ≤ (n : Int) ∧ (n : Int) ≤ 16777216) = True := by simp; omega
      have c2 : ((2 : Int) ≤ (n : Int) ∧ (n : Int) ≤ 1000 ∧ True) = True := by simp; omega
      simp -dsimp -implicitDefEqProofs only [↓bL, ↓tL, ↓hL, ↓ev_for, ev_e, ev_s, stepE, stepS, b_ok, b_err, t_ok, t_err, th_n, th_r, th_e, ne_ok, blk, G8.evs, asgT, asg1, asgs, idxD, seqOf, binD, cmpD, setIdxD, D.top, D.nr, if_true, and_self, Bool.false_and, Bool.and_true, biD, List.getElem?_cons_zero, List.getElem?_cons_succ, List.set_cons_zero, List.set_cons_succ, Nat.reduceLeDiff, Bool.false_eq_true, if_false, Bool.not_true, Bool.not_false, evIt, itOf, compI, lstOf, Option.bind_some, isiD, res, Bool.and_self, Bool.true_and, beq_self_eq_true, dr, fit_int, a1, a2, c1, rg_rgI, List.length_cons, List.length_nil, Nat.reduceAdd, c2, Int.toNat_natCast, rep_flat]
      have e : List.replicate n (tN (rgI n)) = (List.replicate n (rgI n)).map tN := by rw [List.map_replicate]
      rw [e]
      exact fin_pure (fn := f__law_policy) rfl hws (fz_pl _ _ (pl_tR 8 _))
    · rw [if_neg k1, if_neg k1]
      have a2 : D.eqv (.int (s.v 5)) (.int 1) = false := by rw [eqv_int]; simpa using k1
      by_cases k2 : s.v 5 = 2 ∧ n = 4
      · rw [if_pos k2, if_pos k2]
        have a3 : D.eqv (.int (s.v 5)) (.int 2) = true := by rw [eqv_int]; simpa using k2.1
        have a4 : D.eqv (.int (n : Int)) (.int 4) = true := by rw [eqv_int, decide_eq_true]; have := k2.2; omega
        simp -dsimp -implicitDefEqProofs only [↓bL, ↓tL, ↓hL, ↓ev_for, ev_e, ev_s, stepE, stepS, b_ok, b_err, t_ok, t_err, th_n, th_r, th_e, ne_ok, blk, G8.evs, asgT, asg1, asgs, idxD, seqOf, binD, cmpD, setIdxD, D.top, D.nr, if_true, and_self, Bool.false_and, Bool.and_true, biD, List.getElem?_cons_zero, List.getElem?_cons_succ, List.set_cons_zero, List.set_cons_succ, Nat.reduceLeDiff, Bool.false_eq_true, if_false, Bool.not_true, Bool.not_false, evIt, itOf, compI, lstOf, Option.bind_some, isiD, res, Bool.and_self, Bool.true_and, beq_self_eq_true, dr, fit_int, a1, a2, a3, a4]
        exact fin_pure (fn := f__law_policy) rfl hws (fz_pl _ _ (pl_tR 8 [[0, 1, 2, 3], [1, 0, 3, 2], [2, 1, 0, 3], [1, 2, 3, 0]]))
      · rw [if_neg k2, if_neg k2]
        have hc : ∀ F', 50 ≤ F' → compS (turn ((ev P F').e (d + 2)) (.var 3) [] (.call 22 [.var 0, .var 1]) [some (.ref 1), some (.int (n : Nat)), some (.int (s.v 5)), none]) ((rgI n).map D.int) [] (DS (s.n 5) r) = .ok ((foldM (permPair n) (rgI n) (s.n 5)).1.map tN) (DS (foldM (permPair n) (rgI n) (s.n 5)).2 r) := by
          intro F' hF'
          obtain ⟨F', rfl⟩ : ∃ j, F' = j + 50 := ⟨F' - 50, by omega⟩
          exact compS_fold D.int (fun s : Dw => DS s r) (permPair n) tN (rgI n) [] (s.n 5) (fun s x _ => by
            simp only [turn, asgC, tests]
            simp -dsimp -implicitDefEqProofs only [↓bL, ↓tL, ↓hL, ↓ev_for, ev_e, ev_s, stepE, stepS, b_ok, b_err, t_ok, t_err, th_n, th_r, th_e, ne_ok, blk, G8.evs, asgT, asg1, asgs, idxD, seqOf, binD, cmpD, setIdxD, D.top, D.nr, if_true, and_self, Bool.false_and, Bool.and_true, biD, List.getElem?_cons_zero, List.getElem?_cons_succ, List.set_cons_zero, List.set_cons_succ, Nat.reduceLeDiff, Bool.false_eq_true, if_false, Bool.not_true, Bool.not_false, evIt, itOf, compI, lstOf, Option.bind_some, isiD, res, Bool.and_self, Bool.true_and, beq_self_eq_true, perm_spec hr (show n ≤ 1000000 by omega)]
            rfl) (by rw [rgI_length]; show 0 + n ≤ 16777216; omega)
        have r1 : small (n : Int) = true := by simp [small]; omega
        have wp : ∀ a b c : Option D, G8.wipe [a, b, c, none] [3] = [a, b, c, none] := fun _ _ _ => rfl
        have a5 : ∀ F', 10 ≤ F' → (ev P F').e (d + 2) (.and (.cmp .eq (.var 2) (.cst (.int 2))) (.cmp .eq (.var 1) (.cst (.int 4)))) [some (.ref 1), some (.int (n : Nat)), some (.int (s.v 5)), none] (DS (s.n 5) r) = .ok (.bl false) (DS (s.n 5) r) := by
          intro F' hF'
          obtain ⟨F', rfl⟩ : ∃ j, F' = j + 10 := ⟨F' - 10, by omega⟩
          by_cases k3 : s.v 5 = 2
          · have a3 : D.eqv (.int (s.v 5)) (.int 2) = true := by rw [eqv_int]; simpa using k3
            have a4 : D.eqv (.int (n : Int)) (.int 4) = false := by
              rw [eqv_int, decide_eq_false]
              intro z
              exact k2 ⟨k3, by omega⟩
            simp -dsimp -implicitDefEqProofs only [↓bL, ↓tL, ↓hL, ↓ev_for, ev_e, ev_s, stepE, stepS, b_ok, b_err, t_ok, t_err, th_n, th_r, th_e, ne_ok, blk, G8.evs, asgT, asg1, asgs, idxD, seqOf, binD, cmpD, setIdxD, D.top, D.nr, if_true, and_self, Bool.false_and, Bool.and_true, biD, List.getElem?_cons_zero, List.getElem?_cons_succ, List.set_cons_zero, List.set_cons_succ, Nat.reduceLeDiff, Bool.false_eq_true, if_false, Bool.not_true, Bool.not_false, evIt, itOf, compI, lstOf, Option.bind_some, isiD, res, Bool.and_self, Bool.true_and, beq_self_eq_true, fit_int, a3, a4]
          · have a3 : D.eqv (.int (s.v 5)) (.int 2) = false := by rw [eqv_int]; simpa using k3
            simp -dsimp -implicitDefEqProofs only [↓bL, ↓tL, ↓hL, ↓ev_for, ev_e, ev_s, stepE, stepS, b_ok, b_err, t_ok, t_err, th_n, th_r, th_e, ne_ok, blk, G8.evs, asgT, asg1, asgs, idxD, seqOf, binD, cmpD, setIdxD, D.top, D.nr, if_true, and_self, Bool.false_and, Bool.and_true, biD, List.getElem?_cons_zero, List.getElem?_cons_succ, List.set_cons_zero, List.set_cons_succ, Nat.reduceLeDiff, Bool.false_eq_true, if_false, Bool.not_true, Bool.not_false, evIt, itOf, compI, lstOf, Option.bind_some, isiD, res, Bool.and_self, Bool.true_and, beq_self_eq_true, fit_int, a3]
        simp -dsimp -implicitDefEqProofs only [↓bL, ↓tL, ↓hL, ↓ev_for, ev_e, ev_s, stepE, stepS, b_ok, b_err, t_ok, t_err, th_n, th_r, th_e, ne_ok, blk, G8.evs, asgT, asg1, asgs, idxD, seqOf, binD, cmpD, setIdxD, D.top, D.nr, if_true, and_self, Bool.false_and, Bool.and_true, biD, List.getElem?_cons_zero, List.getElem?_cons_succ, List.set_cons_zero, List.set_cons_succ, Nat.reduceLeDiff, Bool.false_eq_true, if_false, Bool.not_true, Bool.not_false, evIt, itOf, compI, lstOf, Option.bind_some, isiD, res, Bool.and_self, Bool.true_and, beq_self_eq_true, dr, fit_int, a1, a2, ↓a5, r1, rg_rgI, wp, hc]
        exact fin_pure (fn := f__law_policy) rfl (ws_DS hr) (fz_pl _ _ (pl_tR 8 _))
end
end G8

set_option Elab.async false
set_option linter.all false
set_option maxRecDepth 100000
set_option maxHeartbeats 1000000
namespace G8
/-! ### CacheSet -/
def entD (e : Int × Bool) : D := .tup [.int e.1, .bl e.2]
def CS (h : Sto) (rows : List (List Int)) (st : List Int) (log : List (Int × Bool)) (t : Sto) : Sto := h ++ .ins 4 [(0, tR rows), (1, tN st), (2, .ref (h.length + 1))] :: .lst true (log.map entD) :: t
def CK (h t : Sto) : Prop := wf (h.length + 2 + t.length) h = true ∧ wf (h.length + 2 + t.length) t = true
theorem CS_length {h t : Sto} {rows : List (List Int)} {st : List Int} {log : List (Int × Bool)} : (CS h rows st log t).length = h.length + 2 + t.length := by unfold CS; rw [List.length_append, List.length_cons, List.length_cons]; omega
theorem ws_CS {h t : Sto} {rows : List (List Int)} {st : List Int} {log : List (Int × Bool)} (k : CK h t) : WS (CS h rows st log t) := by
  have h1 : h.all (okE (h.length + 2 + t.length)) = true := k.1
  have h2 : t.all (okE (h.length + 2 + t.length)) = true := k.2
  unfold WS wf
  rw [CS_length]
  unfold CS
  rw [List.all_append, List.all_cons, List.all_cons, h1, h2]
  simp [okE, refLt]
  omega
theorem nr_tR (rows : List (List Int)) : D.nr (tR rows) = true := by
  simp only [D.nr]
  exact nrs_of fun y hy => by obtain ⟨x, _, rfl⟩ := List.mem_map.mp hy; exact nr_tN x
theorem top_tR (rows : List (List Int)) : D.top (tR rows) = true := top_of_nr (nr_tR rows)
theorem top_tN (xs : List Int) : D.top (tN xs) = true := top_of_nr (nr_tN xs)
theorem cs_g0 {h t : Sto} {rows : List (List Int)} {st : List Int} {log : List (Int × Bool)} : (CS h rows st log t)[h.length]? = some (.ins 4 [(0, tR rows), (1, tN st), (2, .ref (h.length + 1))]) := gl0
theorem cs_g1 {h t : Sto} {rows : List (List Int)} {st : List Int} {log : List (Int × Bool)} : (CS h rows st log t)[h.length + 1]? = some (.lst true (log.map entD)) := gl1
theorem cs_s0 {h t : Sto} {rows : List (List Int)} {st st' : List Int} {log : List (Int × Bool)} : (CS h rows st log t).set h.length (.ins 4 [(0, tR rows), (1, tN st'), (2, .ref (h.length + 1))]) = CS h rows st' log t := st0
theorem cs_s1 {h t : Sto} {rows : List (List Int)} {st : List Int} {log : List (Int × Bool)} {b : Int} {x : Bool} : (CS h rows st log t).set (h.length + 1) (.lst true (log.map entD ++ [entD (b, x)])) = CS h rows st (log ++ [(b, x)]) t := by
  unfold CS
  rw [st1, List.map_append]
  rfl
theorem lk0 {a b c : D} : List.lookup 0 [(0, a), (1, b), (2, c)] = some a := rfl
theorem lk1 {a b c : D} : List.lookup 1 [(0, a), (1, b), (2, c)] = some b := rfl
theorem lk2 {a b c : D} : List.lookup 2 [(0, a), (1, b), (2, c)] = some c := rfl
theorem pf1 {a b c x : D} : putF 1 x [(0, a), (1, b), (2, c)] = [(0, a), (1, x), (2, c)] := rfl
section
variable {P : Prg} {h t : Sto} {rows : List (List Int)} {st : List Int} {log : List (Int × Bool)}
theorem init_spec [HasI P 4 i_CacheSet___init__] [HasF P i_CacheSet___init__ f_CacheSet___init__] [HasF P i_check_state f_check_state] [HasF P i_check_policy f_check_policy] [HasF P i_is_policy f_is_policy] [HasF P i_is_permutation f_is_permutation] [HasF P i_is_int f_is_int] [HasF P i_is_state f_is_state] (hp : IsPol rows) (hs : IsSt rows st) (hw : WS h) (F d : Nat) (hF : 80 ≤ F) (hd : 6 ≤ d) :
    (ev P F).c d i_CacheSet___init__ [.ref h.length, tR rows, tN st] (h ++ [.ins 4 []]) = .ok .non (CS h rows st [] []) := by
  obtain ⟨F, rfl⟩ : ∃ j, F = j + 80 := ⟨F - 80, by omega⟩
  obtain ⟨d, rfl⟩ : ∃ j, d = j + 6 := ⟨d - 6, by omega⟩
  rw [call_eq (fn := f_CacheSet___init__) rfl]
  simp -dsimp -implicitDefEqProofs only [f_CacheSet___init__, G8.start, List.length_cons, List.length_nil, List.map_cons, List.map_nil, List.replicate, Nat.reduceAdd, Nat.reduceSub, List.cons_append, List.nil_append]
  have hw2 : WS (h ++ [.ins 4 []]) := ws_snoc hw rfl
  have l0 : (h ++ [O.ins 4 [(0, tR rows), (1, tN st)]]).length = h.length + 1 := by simp
  have p0 : ∀ x : D, putF 0 x [] = [(0, x)] := fun _ => rfl
  have p1 : ∀ x y : D, putF 1 x [(0, y)] = [(0, y), (1, x)] := fun _ _ => rfl
  have p2 : ∀ x y z : D, putF 2 x [(0, y), (1, z)] = [(0, y), (1, z), (2, x)] := fun _ _ _ => rfl
  have c0 : (0 < 100 ∧ True) = True := by simp
  have c1 : (0 + 1 < 100 ∧ True) = True := by simp
  have c2 : (0 + 1 + 1 < 100 ∧ True) = True := by simp
  have g2 : ∀ {x y : O}, (h ++ [x] ++ [y])[h.length]? = some x := by intro x y; simp
  have s2 : ∀ {x y z : O}, (h ++ [x] ++ [y]).set h.length z = h ++ [z, y] := by intro x y z; simp
  simp -dsimp -implicitDefEqProofs only [↓bL, ↓tL, ↓hL, ↓ev_for, ev_e, ev_s, stepE, stepS, b_ok, b_err, t_ok, t_err, th_n, th_r, th_e, ne_ok, blk, G8.evs, asgT, asg1, asgs, idxD, seqOf, binD, cmpD, setIdxD, D.top, D.nr, if_true, and_self, Bool.false_and, Bool.and_true, biD, List.getElem?_cons_zero, List.getElem?_cons_succ, List.set_cons_zero, List.set_cons_succ, Nat.reduceLeDiff, Bool.false_eq_true, if_false, Bool.not_true, Bool.not_false, evIt, itOf, compI, lstOf, Option.bind_some, isiD, res, Bool.and_self, Bool.true_and, beq_self_eq_true, -D.top, -D.nr, check_state_spec hp hs hw2, setFldD, gl0, top_tR, top_tN, c0, c1, c2, List.length_nil, List.length_cons, p0, p1, p2, st0, D.nrs, l0, g2, s2, show D.top (.ref (h.length + 1)) = true from rfl]
  unfold fin leave CS
  simp only [List.map_nil]
theorem meth_CS {m f : Nat} [q : HasM P 4 m f] : methOf P (CS h rows st log t) m (.ref h.length) = some f := by
  simp only [methOf, cs_g0]
  exact q.h
theorem contents_spec [HasM P 4 1 i_CacheSet_contents] [HasF P i_CacheSet_contents f_CacheSet_contents] (k : CK h t) (F d : Nat) (hF : 10 ≤ F) (hd : 1 ≤ d) : (ev P F).c d i_CacheSet_contents [.ref h.length] (CS h rows st log t) = .ok (tN st) (CS h rows st log t) := by
  obtain ⟨F, rfl⟩ : ∃ j, F = j + 10 := ⟨F - 10, by omega⟩
  obtain ⟨d, rfl⟩ : ∃ j, d = j + 1 := ⟨d - 1, by omega⟩
  rw [call_eq (fn := f_CacheSet_contents) rfl]
  simp -dsimp -implicitDefEqProofs only [f_CacheSet_contents, G8.start, List.length_cons, List.length_nil, List.map_cons, List.map_nil, List.replicate, Nat.reduceAdd, Nat.reduceSub, List.cons_append, List.nil_append]
  simp -dsimp -implicitDefEqProofs only [↓bL, ↓tL, ↓hL, ↓ev_for, ev_e, ev_s, stepE, stepS, b_ok, b_err, t_ok, t_err, th_n, th_r, th_e, ne_ok, blk, G8.evs, asgT, asg1, asgs, idxD, seqOf, binD, cmpD, setIdxD, D.top, D.nr, if_true, and_self, Bool.false_and, Bool.and_true, biD, List.getElem?_cons_zero, List.getElem?_cons_succ, List.set_cons_zero, List.set_cons_succ, Nat.reduceLeDiff, Bool.false_eq_true, if_false, Bool.not_true, Bool.not_false, evIt, itOf, compI, lstOf, Option.bind_some, isiD, res, Bool.and_self, Bool.true_and, beq_self_eq_true, fldD, cs_g0, lk1]
  exact fin_pure (fn := f_CacheSet_contents) rfl (ws_CS k) (fz_pl _ _ (pl_tN _ _))
theorem ixN_m1 {n : Nat} (h : 0 < n) : G8.ixN n (-1) = some (n - 1) := by
  simp only [G8.ixN]
  rw [if_neg (by omega), if_pos (by omega)]
  congr 1
  omega
theorem victim_spec [HasM P 4 2 i_CacheSet_victim] [HasF P i_CacheSet_victim f_CacheSet_victim] (hl : 0 < st.length) (k : CK h t) (F d : Nat) (hF : 10 ≤ F) (hd : 1 ≤ d) : (ev P F).c d i_CacheSet_victim [.ref h.length] (CS h rows st log t) = .ok (.int (st.getD (st.length - 1) 0)) (CS h rows st log t) := by
  obtain ⟨F, rfl⟩ : ∃ j, F = j + 10 := ⟨F - 10, by omega⟩
  obtain ⟨d, rfl⟩ : ∃ j, d = j + 1 := ⟨d - 1, by omega⟩
  rw [call_eq (fn := f_CacheSet_victim) rfl]
  simp -dsimp -implicitDefEqProofs only [f_CacheSet_victim, G8.start, List.length_cons, List.length_nil, List.map_cons, List.map_nil, List.replicate, Nat.reduceAdd, Nat.reduceSub, List.cons_append, List.nil_append]
  have g := get_map D.int (getD_get (xs := st) (d := 0) (k := st.length - 1) (by omega))
  simp -dsimp -implicitDefEqProofs only [↓bL, ↓tL, ↓hL, ↓ev_for, ev_e, ev_s, stepE, stepS, b_ok, b_err, t_ok, t_err, th_n, th_r, th_e, ne_ok, blk, G8.evs, asgT, asg1, asgs, idxD, seqOf, binD, cmpD, setIdxD, D.top, D.nr, if_true, and_self, Bool.false_and, Bool.and_true, biD, List.getElem?_cons_zero, List.getElem?_cons_succ, List.set_cons_zero, List.set_cons_succ, Nat.reduceLeDiff, Bool.false_eq_true, if_false, Bool.not_true, Bool.not_false, evIt, itOf, compI, lstOf, Option.bind_some, isiD, res, Bool.and_self, Bool.true_and, beq_self_eq_true, fldD, cs_g0, lk1, List.length_map, ixN_m1 hl, g]
  exact fin_pure (fn := f_CacheSet_victim) rfl (ws_CS k) fz_int
theorem access_spec [HasM P 4 0 i_CacheSet_access] [HasF P i_CacheSet_access f_CacheSet_access] [HasF P i_check_block f_check_block] [HasF P i_is_int f_is_int] [HasF P i_step f_step] [HasF P i_permuted f_permuted] {b : Int} (hp : IsPol rows) (hs : IsSt rows st) (hb : 0 ≤ b ∧ b ≤ 1000000000) (hl : log.length ≤ 1000000) (k : CK h t) (F d : Nat) (hF : 60 ≤ F) (hd : 3 ≤ d) :
    (ev P F).c d i_CacheSet_access [.ref h.length, .int b] (CS h rows st log t) = .ok (.bl (stepL rows st b).2) (CS h rows (stepL rows st b).1 (log ++ [(b, (stepL rows st b).2)]) t) := by
  obtain ⟨F, rfl⟩ : ∃ j, F = j + 60 := ⟨F - 60, by omega⟩
  obtain ⟨d, rfl⟩ : ∃ j, d = j + 3 := ⟨d - 3, by omega⟩
  rw [call_eq (fn := f_CacheSet_access) rfl]
  simp -dsimp -implicitDefEqProofs only [f_CacheSet_access, G8.start, List.length_cons, List.length_nil, List.map_cons, List.map_nil, List.replicate, Nat.reduceAdd, Nat.reduceSub, List.cons_append, List.nil_append]
  have c0 : ((0 + 1 + 1 + 1) < 100 ∧ True) = True := by simp
  have l1 : (log.length < LIM ∧ True) = True := by simp only [and_true, eq_iff_iff, iff_true]; show log.length < 16777216; omega
  have e2 : ∀ x : Bool, D.tup [.int b, .bl x] = entD (b, x) := fun _ => rfl
  have n1 : ∀ x : Bool, D.nr (entD (b, x)) = true := fun x => by simp only [entD, D.nr, D.nrs, Bool.and_self]
  have n2 : ∀ x : Bool, D.top (entD (b, x)) = true := fun x => top_of_nr (n1 x)
  simp -dsimp -implicitDefEqProofs only [↓bL, ↓tL, ↓hL, ↓ev_for, ev_e, ev_s, stepE, stepS, b_ok, b_err, t_ok, t_err, th_n, th_r, th_e, ne_ok, blk, G8.evs, asgT, asg1, asgs, idxD, seqOf, binD, cmpD, setIdxD, D.top, D.nr, if_true, and_self, Bool.false_and, Bool.and_true, biD, List.getElem?_cons_zero, List.getElem?_cons_succ, List.set_cons_zero, List.set_cons_succ, Nat.reduceLeDiff, Bool.false_eq_true, if_false, Bool.not_true, Bool.not_false, evIt, itOf, compI, lstOf, Option.bind_some, isiD, res, Bool.and_self, Bool.true_and, beq_self_eq_true, -D.top, -D.nr, check_block_spec hb.1 hb.2 (ws_CS k), fldD, cs_g0, lk0, lk1, lk2, step_spec hp hs (ws_CS k), setFldD, top_tN, c0, List.length_nil, List.length_cons, pf1, cs_s0, mbPre, mbD, cs_g1, Option.isSome, List.length_map, l1, e2, n1, n2, cs_s1]
  have := fin_pure (fn := f_CacheSet_access) (v := .bl (stepL rows st b).2) (h := CS h rows (stepL rows st b).1 (log ++ [(b, (stepL rows st b).2)]) t) rfl (ws_CS k) fz_bl
  rw [CS_length] at this ⊢
  exact this
theorem counts_spec [HasM P 4 3 i_CacheSet_counts] [HasF P i_CacheSet_counts f_CacheSet_counts] (hl : log.length ≤ 1000000) (k : CK h t) (F d : Nat) (hF : 20 ≤ F) (hd : 1 ≤ d) :
    (ev P F).c d i_CacheSet_counts [.ref h.length] (CS h rows st log t) = .ok (.tup [.int (log.length : Nat), .int ((log.filter fun e => !e.2).length : Nat)]) (CS h rows st log t) := by
  obtain ⟨F, rfl⟩ : ∃ j, F = j + 20 := ⟨F - 20, by omega⟩
  obtain ⟨d, rfl⟩ : ∃ j, d = j + 1 := ⟨d - 1, by omega⟩
  rw [call_eq (fn := f_CacheSet_counts) rfl]
  simp -dsimp -implicitDefEqProofs only [f_CacheSet_counts, G8.start, List.length_cons, List.length_nil, List.map_cons, List.map_nil, List.replicate, Nat.reduceAdd, Nat.reduceSub, List.cons_append, List.nil_append]
  have hc : ∀ F', 10 ≤ F' → compD (turn ((ev P F').e d) (.tup [.var 1, .var 2]) [.not (.var 2)] (.var 2) [some (.ref h.length), none, none]) (h.length + 1) false log.length 0 [] (CS h rows st log t) = .ok ((log.filter fun e => !e.2).map fun e => D.bl e.2) (CS h rows st log t) := by
    intro F' hF'
    obtain ⟨F', rfl⟩ : ∃ j, F' = j + 10 := ⟨F' - 10, by omega⟩
    exact compD_filter entD (fun e => !e.2) (fun e => D.bl e.2) log cs_g1 (fun e _ => by
      simp only [turn, asgC, asgVs, asgV, tests, entD]
      cases e.2 <;> simp -dsimp -implicitDefEqProofs only [↓bL, ↓tL, ↓hL, ↓ev_for, ev_e, ev_s, stepE, stepS, b_ok, b_err, t_ok, t_err, th_n, th_r, th_e, ne_ok, blk, G8.evs, asgT, asg1, asgs, idxD, seqOf, binD, cmpD, setIdxD, D.top, D.nr, if_true, and_self, Bool.false_and, Bool.and_true, biD, List.getElem?_cons_zero, List.getElem?_cons_succ, List.set_cons_zero, List.set_cons_succ, Nat.reduceLeDiff, Bool.false_eq_true, if_false, Bool.not_true, Bool.not_false, evIt, itOf, compI, lstOf, Option.bind_some, isiD, res, Bool.and_self, Bool.true_and, beq_self_eq_true]) log 0 [] rfl (by omega) (by show 0 + log.length ≤ 16777216; omega)
  have wp : G8.wipe [some (D.ref h.length), none, none] [1, 2] = [some (.ref h.length), none, none] := rfl
  simp -dsimp -implicitDefEqProofs only [↓bL, ↓tL, ↓hL, ↓ev_for, ev_e, ev_s, stepE, stepS, b_ok, b_err, t_ok, t_err, th_n, th_r, th_e, ne_ok, blk, G8.evs, asgT, asg1, asgs, idxD, seqOf, binD, cmpD, setIdxD, D.top, D.nr, if_true, and_self, Bool.false_and, Bool.and_true, biD, List.getElem?_cons_zero, List.getElem?_cons_succ, List.set_cons_zero, List.set_cons_succ, Nat.reduceLeDiff, Bool.false_eq_true, if_false, Bool.not_true, Bool.not_false, evIt, itOf, compI, lstOf, Option.bind_some, isiD, res, Bool.and_self, Bool.true_and, beq_self_eq_true, fldD, cs_g0, lk2, cs_g1, List.length_map, wp, lenAt, hc]
  exact fin_pure (fn := f_CacheSet_counts) rfl (ws_CS k) (fz_pl _ _ (by simp only [D.pl, D.pls, Bool.and_self]))
theorem pl_ent (n : Nat) (log : List (Int × Bool)) : D.pl (n + 4) (.lst (log.map entD)) = true := by
  simp only [D.pl]
  exact pls_map entD (n + 2) log fun e _ => by simp only [entD, D.pl, D.pls, Bool.and_self]
theorem history_spec [HasM P 4 4 i_CacheSet_history] [HasF P i_CacheSet_history f_CacheSet_history] (k : CK h t) (F d : Nat) (hF : 20 ≤ F) (hd : 1 ≤ d) :
    (ev P F).c d i_CacheSet_history [.ref h.length] (CS h rows st log t) = .ok (.lst (log.map entD)) (CS h rows st log t) := by
  obtain ⟨F, rfl⟩ : ∃ j, F = j + 20 := ⟨F - 20, by omega⟩
  obtain ⟨d, rfl⟩ : ∃ j, d = j + 1 := ⟨d - 1, by omega⟩
  rw [call_eq (fn := f_CacheSet_history) rfl]
  simp -dsimp -implicitDefEqProofs only [f_CacheSet_history, G8.start, List.length_cons, List.length_nil, List.map_cons, List.map_nil, List.replicate, Nat.reduceAdd, Nat.reduceSub, List.cons_append, List.nil_append]
  simp -dsimp -implicitDefEqProofs only [↓bL, ↓tL, ↓hL, ↓ev_for, ev_e, ev_s, stepE, stepS, b_ok, b_err, t_ok, t_err, th_n, th_r, th_e, ne_ok, blk, G8.evs, asgT, asg1, asgs, idxD, seqOf, binD, cmpD, setIdxD, D.top, D.nr, if_true, and_self, Bool.false_and, Bool.and_true, biD, List.getElem?_cons_zero, List.getElem?_cons_succ, List.set_cons_zero, List.set_cons_succ, Nat.reduceLeDiff, Bool.false_eq_true, if_false, Bool.not_true, Bool.not_false, evIt, itOf, compI, lstOf, Option.bind_some, isiD, res, Bool.and_self, Bool.true_and, beq_self_eq_true, fldD, cs_g0, lk2, cs_g1]
  exact fin_pure (fn := f_CacheSet_history) rfl (ws_CS k) (fz_pl _ _ (pl_ent 8 _))
end
end G8

set_option Elab.async false
set_option linter.all false
set_option maxRecDepth 100000
set_option maxHeartbeats 1000000
namespace G8
/-! ### the named policies -/
section
variable {P : Prg} {h : Sto}
theorem check_ways_spec [HasF P i_check_ways f_check_ways] [HasF P i_is_int f_is_int] {n : Nat} (h0 : 2 ≤ n) (h1 : n ≤ 4) (hw : WS h) (F d : Nat) (hF : 20 ≤ F) (hd : 2 ≤ d) : (ev P F).c d i_check_ways [.int (n : Nat)] h = .ok .non h := by
  obtain ⟨F, rfl⟩ : ∃ j, F = j + 20 := ⟨F - 20, by omega⟩
  obtain ⟨d, rfl⟩ : ∃ j, d = j + 2 := ⟨d - 2, by omega⟩
  rw [call_eq (fn := f_check_ways) rfl]
  simp -dsimp -implicitDefEqProofs only [f_check_ways, G8.start, List.length_cons, List.length_nil, List.map_cons, List.map_nil, List.replicate, Nat.reduceAdd, Nat.reduceSub, List.cons_append, List.nil_append]
  have e : (decide ((2 : Int) ≤ (n : Int)) && decide ((n : Int) ≤ 4)) = true := by simp; omega
  simp -dsimp -implicitDefEqProofs only [↓bL, ↓tL, ↓hL, ↓ev_for, ev_e, ev_s, stepE, stepS, b_ok, b_err, t_ok, t_err, th_n, th_r, th_e, ne_ok, blk, G8.evs, asgT, asg1, asgs, idxD, seqOf, binD, cmpD, setIdxD, D.top, D.nr, if_true, and_self, Bool.false_and, Bool.and_true, biD, List.getElem?_cons_zero, List.getElem?_cons_succ, List.set_cons_zero, List.set_cons_succ, Nat.reduceLeDiff, Bool.false_eq_true, if_false, Bool.not_true, Bool.not_false, evIt, itOf, compI, lstOf, Option.bind_some, isiD, res, Bool.and_self, Bool.true_and, beq_self_eq_true, is_int_spec hw, e, Bool.not_true]
  exact fin_next (fn := f_check_ways) rfl hw
theorem lru_spec [HasF P i_lru f_lru] [HasF P i_check_ways f_check_ways] [HasF P i_is_int f_is_int] {n : Nat} (h0 : 2 ≤ n) (h1 : n ≤ 4) (hw : WS h) (F d : Nat) (hF : 50 ≤ F) (hd : 3 ≤ d) : (ev P F).c d i_lru [.int (n : Nat)] h = .ok (tR (recL n)) h := by
  obtain ⟨F, rfl⟩ : ∃ j, F = j + 50 := ⟨F - 50, by omega⟩
  obtain ⟨d, rfl⟩ : ∃ j, d = j + 3 := ⟨d - 3, by omega⟩
  rw [call_eq (fn := f_lru) rfl]
  simp -dsimp -implicitDefEqProofs only [f_lru, G8.start, List.length_cons, List.length_nil, List.map_cons, List.map_nil, List.replicate, Nat.reduceAdd, Nat.reduceSub, List.cons_append, List.nil_append]
  have r1 : small (n : Int) = true := by simp [small]; omega
  have hc0 : ∀ (F' : Nat) (hit : Int), 10 ≤ F' → compS (turn ((ev P F').e (d + 2)) (.var 2) [] ce_lru_0 [some (.int (n : Nat)), some (.int hit), none]) ((rgI n).map D.int) [] h = .ok ((recRow n hit).map D.int) h := by
    intro F' hit hF'
    obtain ⟨F', rfl⟩ : ∃ j, F' = j + 10 := ⟨F' - 10, by omega⟩
    rw [compS_map D.int (fun p => D.int (if p < hit then p + 1 else if p = hit then 0 else p)) (rgI n) [] (fun p hp => ?_) (by rw [rgI_length]; show 0 + n ≤ 16777216; omega), List.nil_append]
    · unfold recRow; rw [List.map_map]; rfl
    · simp only [turn, asgC, tests, ce_lru_0]
      by_cases a3 : p = hit
      · have a4 : D.eqv (.int p) (.int hit) = true := by rw [eqv_int]; simpa using a3
        simp -dsimp -implicitDefEqProofs only [↓bL, ↓tL, ↓hL, ↓ev_for, ev_e, ev_s, stepE, stepS, b_ok, b_err, t_ok, t_err, th_n, th_r, th_e, ne_ok, blk, G8.evs, asgT, asg1, asgs, idxD, seqOf, binD, cmpD, setIdxD, D.top, D.nr, if_true, and_self, Bool.false_and, Bool.and_true, biD, List.getElem?_cons_zero, List.getElem?_cons_succ, List.set_cons_zero, List.set_cons_succ, Nat.reduceLeDiff, Bool.false_eq_true, if_false, Bool.not_true, Bool.not_false, evIt, itOf, compI, lstOf, Option.bind_some, isiD, res, Bool.and_self, Bool.true_and, beq_self_eq_true, fit_int, a4]
        rw [if_neg (by omega), if_pos a3]
      · have a4 : D.eqv (.int p) (.int hit) = false := by rw [eqv_int]; simpa using a3
        by_cases a1 : p < hit
        · have a2 : decide (p < hit) = true := by simpa using a1
          simp -dsimp -implicitDefEqProofs only [↓bL, ↓tL, ↓hL, ↓ev_for, ev_e, ev_s, stepE, stepS, b_ok, b_err, t_ok, t_err, th_n, th_r, th_e, ne_ok, blk, G8.evs, asgT, asg1, asgs, idxD, seqOf, binD, cmpD, setIdxD, D.top, D.nr, if_true, and_self, Bool.false_and, Bool.and_true, biD, List.getElem?_cons_zero, List.getElem?_cons_succ, List.set_cons_zero, List.set_cons_succ, Nat.reduceLeDiff, Bool.false_eq_true, if_false, Bool.not_true, Bool.not_false, evIt, itOf, compI, lstOf, Option.bind_some, isiD, res, Bool.and_self, Bool.true_and, beq_self_eq_true, a2, fit_int, a4]
          rw [if_pos a1]
        · have a2 : decide (p < hit) = false := by simpa using a1
          simp -dsimp -implicitDefEqProofs only [↓bL, ↓tL, ↓hL, ↓ev_for, ev_e, ev_s, stepE, stepS, b_ok, b_err, t_ok, t_err, th_n, th_r, th_e, ne_ok, blk, G8.evs, asgT, asg1, asgs, idxD, seqOf, binD, cmpD, setIdxD, D.top, D.nr, if_true, and_self, Bool.false_and, Bool.and_true, biD, List.getElem?_cons_zero, List.getElem?_cons_succ, List.set_cons_zero, List.set_cons_succ, Nat.reduceLeDiff, Bool.false_eq_true, if_false, Bool.not_true, Bool.not_false, evIt, itOf, compI, lstOf, Option.bind_some, isiD, res, Bool.and_self, Bool.true_and, beq_self_eq_true, a2, fit_int, a4]
          rw [if_neg a1, if_neg a3]
  have hc1 : ∀ F', 20 ≤ F' → compS (turn ((ev P F').e (d + 2)) (.var 1) [] ce_lru_1 [some (.int (n : Nat)), none, none]) ((rgI n).map D.int) [] h = .ok ((recL n).map tN) h := by
    intro F' hF'
    obtain ⟨F', rfl⟩ : ∃ j, F' = j + 20 := ⟨F' - 20, by omega⟩
    rw [compS_map D.int (fun hit => tN (recRow n hit)) (rgI n) [] (fun p hp => ?_) (by rw [rgI_length]; show 0 + n ≤ 16777216; omega), List.nil_append]
    · unfold recL; rw [List.map_map]; rfl
    · simp only [turn, asgC, tests, ce_lru_1]
      simp -dsimp -implicitDefEqProofs only [↓bL, ↓tL, ↓hL, ↓ev_for, ev_e, ev_s, stepE, stepS, b_ok, b_err, t_ok, t_err, th_n, th_r, th_e, ne_ok, blk, G8.evs, asgT, asg1, asgs, idxD, seqOf, binD, cmpD, setIdxD, D.top, D.nr, if_true, and_self, Bool.false_and, Bool.and_true, biD, List.getElem?_cons_zero, List.getElem?_cons_succ, List.set_cons_zero, List.set_cons_succ, Nat.reduceLeDiff, Bool.false_eq_true, if_false, Bool.not_true, Bool.not_false, evIt, itOf, compI, lstOf, Option.bind_some, isiD, res, Bool.and_self, Bool.true_and, beq_self_eq_true, r1, rg_rgI, G8.wipe, hc0]
  simp -dsimp -implicitDefEqProofs only [↓bL, ↓tL, ↓hL, ↓ev_for, ev_e, ev_s, stepE, stepS, b_ok, b_err, t_ok, t_err, th_n, th_r, th_e, ne_ok, blk, G8.evs, asgT, asg1, asgs, idxD, seqOf, binD, cmpD, setIdxD, D.top, D.nr, if_true, and_self, Bool.false_and, Bool.and_true, biD, List.getElem?_cons_zero, List.getElem?_cons_succ, List.set_cons_zero, List.set_cons_succ, Nat.reduceLeDiff, Bool.false_eq_true, if_false, Bool.not_true, Bool.not_false, evIt, itOf, compI, lstOf, Option.bind_some, isiD, res, Bool.and_self, Bool.true_and, beq_self_eq_true, check_ways_spec h0 h1 hw, r1, rg_rgI, G8.wipe, hc1]
  exact fin_pure (fn := f_lru) rfl hw (fz_pl _ _ (pl_tR 8 _))
def fifL (n : Nat) : List (List Int) := List.replicate n (rgI n)
theorem fifo_spec [HasF P i_fifo f_fifo] [HasF P i_check_ways f_check_ways] [HasF P i_is_int f_is_int] {n : Nat} (h0 : 2 ≤ n) (h1 : n ≤ 4) (hw : WS h) (F d : Nat) (hF : 50 ≤ F) (hd : 3 ≤ d) : (ev P F).c d i_fifo [.int (n : Nat)] h = .ok (tR (fifL n)) h := by
  obtain ⟨F, rfl⟩ : ∃ j, F = j + 50 := ⟨F - 50, by omega⟩
  obtain ⟨d, rfl⟩ : ∃ j, d = j + 3 := ⟨d - 3, by omega⟩
  rw [call_eq (fn := f_fifo) rfl]
  simp -dsimp -implicitDefEqProofs only [f_fifo, G8.start, List.length_cons, List.length_nil, List.map_cons, List.map_nil, List.replicate, Nat.reduceAdd, Nat.reduceSub, List.cons_append, List.nil_append]
  have r1 : small (n : Int) = true := by simp [small]; omega
  have c1 : ((0 : Int) ≤ (n : Int) ∧ (n : Int) ≤ 16777216) = True := by simp; omega
  have hc1 : ∀ F', 20 ≤ F' → compS (turn ((ev P F').e (d + 2)) (.var 1) [] ce_fifo_0 [some (.int (n : Nat)), none]) ((rgI n).map D.int) [] h = .ok ((fifL n).map tN) h := by
    intro F' hF'
    obtain ⟨F', rfl⟩ : ∃ j, F' = j + 20 := ⟨F' - 20, by omega⟩
    rw [compS_map D.int (fun hit => tN (rgI n)) (rgI n) [] (fun p hp => ?_) (by rw [rgI_length]; show 0 + n ≤ 16777216; omega), List.nil_append]
    · unfold fifL; rw [List.map_const', rgI_length, List.map_replicate]
    · simp only [turn, asgC, tests, ce_fifo_0]
      simp -dsimp -implicitDefEqProofs only [↓bL, ↓tL, ↓hL, ↓ev_for, ev_e, ev_s, stepE, stepS, b_ok, b_err, t_ok, t_err, th_n, th_r, th_e, ne_ok, blk, G8.evs, asgT, asg1, asgs, idxD, seqOf, binD, cmpD, setIdxD, D.top, D.nr, if_true, and_self, Bool.false_and, Bool.and_true, biD, List.getElem?_cons_zero, List.getElem?_cons_succ, List.set_cons_zero, List.set_cons_succ, Nat.reduceLeDiff, Bool.false_eq_true, if_false, Bool.not_true, Bool.not_false, evIt, itOf, compI, lstOf, Option.bind_some, isiD, res, Bool.and_self, Bool.true_and, beq_self_eq_true, c1, rg_rgI]
  simp -dsimp -implicitDefEqProofs only [↓bL, ↓tL, ↓hL, ↓ev_for, ev_e, ev_s, stepE, stepS, b_ok, b_err, t_ok, t_err, th_n, th_r, th_e, ne_ok, blk, G8.evs, asgT, asg1, asgs, idxD, seqOf, binD, cmpD, setIdxD, D.top, D.nr, if_true, and_self, Bool.false_and, Bool.and_true, biD, List.getElem?_cons_zero, List.getElem?_cons_succ, List.set_cons_zero, List.set_cons_succ, Nat.reduceLeDiff, Bool.false_eq_true, if_false, Bool.not_true, Bool.not_false, evIt, itOf, compI, lstOf, Option.bind_some, isiD, res, Bool.and_self, Bool.true_and, beq_self_eq_true, check_ways_spec h0 h1 hw, r1, rg_rgI, G8.wipe, hc1]
  exact fin_pure (fn := f_fifo) rfl hw (fz_pl _ _ (pl_tR 8 _))
def plruL : List (List Int) := [[0, 1, 2, 3], [1, 0, 3, 2], [2, 1, 0, 3], [1, 2, 3, 0]]
theorem plru_spec [HasF P i_tree_plru f_tree_plru] (hw : WS h) (F d : Nat) (hF : 20 ≤ F) (hd : 1 ≤ d) : (ev P F).c d i_tree_plru [] h = .ok (tR plruL) h := by
  obtain ⟨F, rfl⟩ : ∃ j, F = j + 20 := ⟨F - 20, by omega⟩
  obtain ⟨d, rfl⟩ : ∃ j, d = j + 1 := ⟨d - 1, by omega⟩
  rw [call_eq (fn := f_tree_plru) rfl]
  simp -dsimp -implicitDefEqProofs only [f_tree_plru, G8.start, List.length_cons, List.length_nil, List.map_cons, List.map_nil, List.replicate, Nat.reduceAdd, Nat.reduceSub, List.cons_append, List.nil_append]
  simp -dsimp -implicitDefEqProofs only [↓bL, ↓tL, ↓hL, ↓ev_for, ev_e, ev_s, stepE, stepS, b_ok, b_err, t_ok, t_err, th_n, th_r, th_e, ne_ok, blk, G8.evs, asgT, asg1, asgs, idxD, seqOf, binD, cmpD, setIdxD, D.top, D.nr, if_true, and_self, Bool.false_and, Bool.and_true, biD, List.getElem?_cons_zero, List.getElem?_cons_succ, List.set_cons_zero, List.set_cons_succ, Nat.reduceLeDiff, Bool.false_eq_true, if_false, Bool.not_true, Bool.not_false, evIt, itOf, compI, lstOf, Option.bind_some, isiD, res, Bool.and_self, Bool.true_and, beq_self_eq_true]
  exact fin_pure (fn := f_tree_plru) rfl hw (fz_pl _ _ (pl_tR 8 plruL))
theorem fifL_pol {n : Nat} (h0 : 2 ≤ n) (h1 : n ≤ 4) : IsPol (fifL n) := by
  unfold fifL
  exact ⟨by simpa using h0, by simpa using h1, fun r hr => by rw [(List.mem_replicate.mp hr).2, List.length_replicate]⟩
theorem plruL_pol : IsPol plruL := ⟨by decide, by decide, by decide +kernel⟩
end
end G8

set_option Elab.async false
set_option linter.all false
set_option maxRecDepth 100000
set_option maxHeartbeats 1000000
namespace G8
/-! ### renaming blocks -/
theorem getD_map {α β : Type} {f : α → β} {xs : List α} {k : Nat} {a : α} {b : β} (h : k < xs.length) : (xs.map f).getD k b = f (xs.getD k a) := by
  rw [List.getD_eq_getElem?_getD, List.getD_eq_getElem?_getD, List.getElem?_map, List.getElem?_eq_getElem h]; rfl
theorem perm_idx {st row : List Int} {n : Nat} (hp : row.Perm (rgI n)) {p : Int} (h : p ∈ rgI n) : row.idxOf p < n := by
  have := idx_lt (hp.mem_iff.mpr h)
  rwa [hp.length_eq, rgI_length] at this
theorem permA_map {α β : Type} [Inhabited α] [Inhabited β] {φ : α → β} {st : List α} {row : List Int} (hp : row.Perm (rgI st.length)) : permA (st.map φ) row = (permA st row).map φ := by
  unfold permA
  rw [List.length_map, List.map_map]
  refine List.map_congr_left fun p hq => ?_
  exact getD_map (perm_idx (st := []) hp hq)
theorem mem_map_inj {φ : Int → Int} {st : List Int} {b : Int} (inj : ∀ x ∈ st, φ x = φ b → x = b) : φ b ∈ st.map φ ↔ b ∈ st := by
  constructor
  · intro h
    obtain ⟨x, hx, e⟩ := List.mem_map.mp h
    rw [← inj x hx e]; exact hx
  · exact fun h => List.mem_map_of_mem h
theorem idxOf_map_inj {φ : Int → Int} {b : Int} : ∀ {st : List Int}, (∀ x ∈ st, φ x = φ b → x = b) → (st.map φ).idxOf (φ b) = st.idxOf b
  | [], _ => rfl
  | x :: st, inj => by
    have ih := idxOf_map_inj (φ := φ) (b := b) (st := st) fun y hy => inj y (List.mem_cons_of_mem _ hy)
    rw [List.map_cons, List.idxOf_cons, List.idxOf_cons, ih]
    by_cases e : x = b
    · subst e; simp
    · have e1 : (x == b) = false := by simpa using e
      have e2 : (φ x == φ b) = false := by
        simp only [beq_eq_false_iff_ne, ne_eq]
        exact fun z => e (inj x List.mem_cons_self z)
      rw [e1, e2]
theorem stepL_map {φ : Int → Int} {rows : List (List Int)} {st : List Int} {b : Int} (hp : IsPol rows) (hl : st.length = rows.length) (inj : ∀ x ∈ st, φ x = φ b → x = b) :
    stepL rows (st.map φ) (φ b) = ((stepL rows st b).1.map φ, (stepL rows st b).2) := by
  unfold stepL
  by_cases hm : b ∈ st
  · rw [if_pos hm, if_pos ((mem_map_inj inj).mpr hm), idxOf_map_inj inj]
    have hr := row_perm hp (k := st.idxOf b) (by rw [← hl]; exact idx_lt hm)
    rw [← hl] at hr
    rw [permA_map hr]
  · rw [if_neg hm, if_neg (fun z => hm ((mem_map_inj inj).mp z)), List.map_cons, List.map_dropLast]
theorem mem_stepL {rows : List (List Int)} {st : List Int} {b x : Int} (hp : IsPol rows) (hl : st.length = rows.length) (h : x ∈ (stepL rows st b).1) : x = b ∨ x ∈ st := by
  unfold stepL at h
  by_cases hm : b ∈ st
  · rw [if_pos hm] at h
    have hr := row_perm hp (k := st.idxOf b) (by rw [← hl]; exact idx_lt hm)
    rw [← hl] at hr
    exact .inr (mem_permA hr h)
  · rw [if_neg hm] at h
    rcases List.mem_cons.mp h with e | e
    · exact .inl e
    · exact .inr (mem_of_mem_dropLast e)
theorem stepL_len {rows : List (List Int)} {st : List Int} {b : Int} (h : st ≠ []) : (stepL rows st b).1.length = st.length := by
  unfold stepL
  split
  · exact permA_length _ _
  · have : 0 < st.length := List.length_pos_iff.mpr h
    simp only [List.length_cons, List.length_dropLast]; omega
theorem stepL_nodup {rows : List (List Int)} {st : List Int} {b : Int} (hp : IsPol rows) (hl : st.length = rows.length) (hn : st.Nodup) : (stepL rows st b).1.Nodup := by
  unfold stepL
  by_cases hm : b ∈ st
  · rw [if_pos hm]
    have hr := row_perm hp (k := st.idxOf b) (by rw [← hl]; exact idx_lt hm)
    rw [← hl] at hr
    exact permA_nodup hr hn
  · rw [if_neg hm]
    exact List.nodup_cons.mpr ⟨fun z => hm (mem_of_mem_dropLast z), hn.sublist (List.dropLast_sublist _)⟩
theorem stepL_hit {rows : List (List Int)} {st : List Int} {b : Int} : (stepL rows st b).2 = decide (b ∈ st) := by
  unfold stepL
  by_cases hm : b ∈ st
  · rw [if_pos hm, decide_eq_true hm]
  · rw [if_neg hm, decide_eq_false hm]
/-! ### pairs -/
def relF (one two : List Int) : List (Option Int) := one.map fun b => if b ∈ two then some ((two.idxOf b : Nat) : Int) else none
theorem relF_length {one two : List Int} : (relF one two).length = one.length := by simp [relF]
theorem relF_map {φ : Int → Int} {one two : List Int} (inj : ∀ x ∈ one, ∀ y ∈ two, φ y = φ x → y = x) : relF (one.map φ) (two.map φ) = relF one two := by
  unfold relF
  rw [List.map_map]
  refine List.map_congr_left fun x hx => ?_
  have i := inj x hx
  simp only [Function.comp]
  by_cases h : x ∈ two
  · rw [if_pos h, if_pos ((mem_map_inj i).mpr h), idxOf_map_inj i]
  · rw [if_neg h, if_neg (fun z => h ((mem_map_inj i).mp z))]
inductive Mov where
  | new
  | both (i : Int)
  | first (i : Int)
  | second (j : Int)
  deriving DecidableEq
def movesL (p : List (Option Int)) : List Mov := .new :: ((p.zipIdx 0).map fun q => match q.1 with
  | none => Mov.first (q.2 : Nat)
  | some _ => .both (q.2 : Nat)) ++ ((rgI p.length).filter fun j => !decide (some j ∈ p)).map .second
def twoL (p : List (Option Int)) : List Int := (rgI p.length).map fun j => if some j ∈ p then ((p.idxOf (some j) : Nat) : Int) else p.length + j
def blkL (k : Nat) : Mov → Int
  | .new => 2 * k
  | .both i => i
  | .first i => i
  | .second j => k + j
def mi (b : Bool) : Int := if b then 0 else 1
def spP (f g : List (List Int)) (p : List (Option Int)) (m : Mov) : List (Option Int) × Int × Int :=
  (relF (stepL f (rgI p.length) (blkL p.length m)).1 (stepL g (twoL p) (blkL p.length m)).1, mi (stepL f (rgI p.length) (blkL p.length m)).2, mi (stepL g (twoL p) (blkL p.length m)).2)
def mvOf (a b : List Int) (x : Int) : Mov := if x ∈ a then (if x ∈ b then .both ((a.idxOf x : Nat) : Int) else .first ((a.idxOf x : Nat) : Int)) else if x ∈ b then .second ((b.idxOf x : Nat) : Int) else .new
structure IsPr (k : Nat) (p : List (Option Int)) : Prop where
  len : p.length = k
  rg : ∀ j, some j ∈ p → 0 ≤ j ∧ j < k
  nd : ∀ i j : Nat, ∀ v : Int, p[i]? = some (some v) → p[j]? = some (some v) → i = j
theorem get_idx {xs : List Int} {x : Int} (h : x ∈ xs) : xs[xs.idxOf x]? = some x := by
  have hl := idx_lt h
  rw [List.getElem?_eq_getElem hl, List.getElem_idxOf hl]
theorem idx_get {xs : List Int} {x : Int} {i : Nat} (hn : xs.Nodup) (h : xs[i]? = some x) : xs.idxOf x = i := by
  obtain ⟨hi, e⟩ := List.getElem?_eq_some_iff.mp h
  subst e
  exact hn.idxOf_getElem i hi
theorem idx_inj {xs : List Int} {x y : Int} (hx : x ∈ xs) (hy : y ∈ xs) (h : xs.idxOf x = xs.idxOf y) : x = y := by
  have a := get_idx hx
  have b := get_idx hy
  rw [h, b] at a
  exact (Option.some.inj a).symm
theorem relF_pr {a b : List Int} (hl : a.length = b.length) (ha : a.Nodup) : IsPr a.length (relF a b) := by
  refine ⟨relF_length, fun j hj => ?_, fun i j v hi hj => ?_⟩
  · obtain ⟨x, hx, e⟩ := List.mem_map.mp hj
    by_cases h : x ∈ b
    · rw [if_pos h] at e
      have := idx_lt h
      injection e with e
      omega
    · rw [if_neg h] at e; cases e
  · unfold relF at hi hj
    rw [List.getElem?_map] at hi hj
    cases h1 : a[i]? with
    | none => rw [h1] at hi; cases hi
    | some x =>
      cases h2 : a[j]? with
      | none => rw [h2] at hj; cases hj
      | some y =>
        rw [h1] at hi
        rw [h2] at hj
        simp only [Option.map_some, Option.some.injEq] at hi hj
        by_cases q1 : x ∈ b
        · by_cases q2 : y ∈ b
          · rw [if_pos q1] at hi
            rw [if_pos q2] at hj
            have e3 : b.idxOf x = b.idxOf y := by injection hi with hi; injection hj with hj; omega
            have e4 := idx_inj q1 q2 e3
            subst e4
            have := idx_get ha h1
            have := idx_get ha h2
            omega
          · rw [if_neg q2] at hj; cases hj
        · rw [if_neg q1] at hi; cases hi
theorem map_rgI_getD (a : List Int) (d : Int) : (rgI a.length).map (fun i => a.getD i.toNat d) = a := by
  refine List.ext_getElem? fun j => ?_
  unfold rgI
  by_cases hj : j < a.length
  · simp [hj]
  · simp [hj]
section
variable {f g : List (List Int)} {a b : List Int} {x : Int}
/-- what a label stands for -/
def lab (a b : List Int) (x : Int) (l : Int) : Int := if l < a.length then a.getD l.toNat 0 else if l < 2 * a.length then b.getD (l - a.length).toNat 0 else x
def okl (a b : List Int) (x : Int) (l : Int) : Prop := (0 ≤ l ∧ l < a.length) ∨ (∃ j : Nat, j < a.length ∧ l = a.length + j ∧ b.getD j 0 ∉ a) ∨ (l = 2 * a.length ∧ x ∉ a ∧ x ∉ b)
theorem lab_inj (hl : a.length = b.length) (ha : a.Nodup) (hb : b.Nodup) {l m : Int} (h1 : okl a b x l) (h2 : okl a b x m) (e : lab a b x l = lab a b x m) : l = m := by
  have ga : ∀ {i : Int}, 0 ≤ i → i < a.length → a[i.toNat]? = some (a.getD i.toNat 0) := fun h0 h => getD_get (by omega)
  have gb : ∀ {i : Nat}, i < a.length → b[i]? = some (b.getD i 0) := fun h => getD_get (by omega)
  have la : ∀ {i : Int}, 0 ≤ i → i < a.length → lab a b x i = a.getD i.toNat 0 := fun h0 h => by unfold lab; rw [if_pos h]
  have lb : ∀ {j : Nat}, j < a.length → lab a b x (a.length + j) = b.getD j 0 := fun {j} h => by
    unfold lab; rw [if_neg (by omega), if_pos (by omega)]; congr 1; omega
  have lx : lab a b x (2 * a.length) = x := by unfold lab; rw [if_neg (by omega), if_neg (by omega)]
  have ma : ∀ {i : Int}, 0 ≤ i → i < a.length → a.getD i.toNat 0 ∈ a := fun h0 h => getD_mem (by omega)
  have mb : ∀ {i : Nat}, i < a.length → b.getD i 0 ∈ b := fun h => getD_mem (by omega)
  rcases h1 with ⟨p1, p2⟩ | ⟨j, p1, rfl, p3⟩ | ⟨rfl, p2, p3⟩ <;> rcases h2 with ⟨q1, q2⟩ | ⟨k, q1, rfl, q3⟩ | ⟨rfl, q2, q3⟩
  · rw [la p1 p2, la q1 q2] at e
    have e1 := idx_get ha (ga p1 p2)
    have e2 := idx_get ha (ga q1 q2)
    rw [e] at e1
    omega
  · rw [la p1 p2, lb q1] at e
    exact absurd (e ▸ ma p1 p2) q3
  · rw [la p1 p2, lx] at e
    exact absurd (e ▸ ma p1 p2) q2
  · rw [la q1 q2, lb p1] at e
    exact absurd (e.symm ▸ ma q1 q2) p3
  · rw [lb p1, lb q1] at e
    have e1 := idx_get hb (gb p1)
    have e2 := idx_get hb (gb q1)
    rw [e] at e1
    omega
  · rw [lb p1, lx] at e
    exact absurd (e ▸ mb p1) q3
  · rw [la q1 q2, lx] at e
    exact absurd (e.symm ▸ ma q1 q2) p2
  · rw [lb q1, lx] at e
    exact absurd (e.symm ▸ mb q1) p3
  · rfl
theorem twoL_at (hl : a.length = b.length) (ha : a.Nodup) (hb : b.Nodup) {j : Nat} (hj : j < a.length) : (some (j : Int) ∈ relF a b ↔ b.getD j 0 ∈ a) ∧ (b.getD j 0 ∈ a → (relF a b).idxOf (some (j : Int)) = a.idxOf (b.getD j 0)) := by
  have gb : b[j]? = some (b.getD j 0) := getD_get (by omega)
  have mb : b.getD j 0 ∈ b := getD_mem (by omega)
  have ib := idx_get hb gb
  have h1 : some (j : Int) ∈ relF a b ↔ b.getD j 0 ∈ a := by
    constructor
    · intro h
      obtain ⟨y, hy, e⟩ := List.mem_map.mp h
      by_cases q : y ∈ b
      · rw [if_pos q] at e
        have e2 : b.idxOf y = j := by injection e with e; omega
        have e3 : b.idxOf y = b.idxOf (b.getD j 0) := by rw [e2, ib]
        rw [← idx_inj q mb e3]; exact hy
      · rw [if_neg q] at e; cases e
    · intro h
      refine List.mem_map.mpr ⟨_, h, ?_⟩
      rw [if_pos mb, ib]
  refine ⟨h1, fun h => ?_⟩
  have hm := h1.mpr h
  have hlt := List.idxOf_lt_length_of_mem hm
  have e1 := List.getElem_idxOf hlt
  have e2 : (relF a b)[(relF a b).idxOf (some (j : Int))]? = some (some (j : Int)) := by rw [List.getElem?_eq_getElem hlt, e1]
  have e3 : (relF a b)[a.idxOf (b.getD j 0)]? = some (some (j : Int)) := by
    unfold relF
    rw [List.getElem?_map, get_idx h]
    simp only [Option.map_some]
    rw [if_pos mb, ib]
  exact (relF_pr hl ha).nd _ _ _ e2 e3
theorem twoL_lab (hl : a.length = b.length) (ha : a.Nodup) (hb : b.Nodup) : (twoL (relF a b)).map (lab a b x) = b := by
  unfold twoL
  rw [List.map_map, relF_length]
  have e := map_rgI_getD b 0
  rw [← hl] at e
  refine Eq.trans (List.map_congr_left fun j hj => ?_) e
  obtain ⟨j0, j1⟩ := mem_rgI.mp hj
  obtain ⟨n, rfl⟩ : ∃ n : Nat, j = n := ⟨j.toNat, by omega⟩
  have hn : n < a.length := by omega
  obtain ⟨t1, t2⟩ := twoL_at hl ha hb hn
  simp only [Function.comp, Int.toNat_natCast]
  by_cases h : b.getD n 0 ∈ a
  · rw [if_pos (t1.mpr h), t2 h]
    unfold lab
    have := idx_lt h
    rw [if_pos (by omega), Int.toNat_natCast, List.getD_eq_getElem?_getD, get_idx h]
    rfl
  · rw [if_neg (fun z => h (t1.mp z))]
    unfold lab
    rw [if_neg (by omega), if_pos (by omega)]
    congr 1
    omega
theorem twoL_okl (hl : a.length = b.length) (ha : a.Nodup) (hb : b.Nodup) {l : Int} (h : l ∈ twoL (relF a b)) : okl a b x l := by
  unfold twoL at h
  obtain ⟨j, hj, rfl⟩ := List.mem_map.mp h
  rw [relF_length] at hj ⊢
  obtain ⟨j0, j1⟩ := mem_rgI.mp hj
  obtain ⟨n, rfl⟩ : ∃ n : Nat, j = n := ⟨j.toNat, by omega⟩
  have hn : n < a.length := by omega
  obtain ⟨t1, t2⟩ := twoL_at hl ha hb hn
  by_cases h : b.getD n 0 ∈ a
  · rw [if_pos (t1.mpr h), t2 h]
    have := idx_lt h
    exact .inl ⟨by omega, by omega⟩
  · rw [if_neg (fun z => h (t1.mp z))]
    exact .inr (.inl ⟨n, hn, rfl, h⟩)
theorem one_lab : (rgI a.length).map (lab a b x) = a := by
  refine Eq.trans (List.map_congr_left fun j hj => ?_) (map_rgI_getD a 0)
  obtain ⟨j0, j1⟩ := mem_rgI.mp hj
  unfold lab
  rw [if_pos j1]
theorem blk_lab (hl : a.length = b.length) : lab a b x (blkL a.length (mvOf a b x)) = x ∧ ((b.Nodup) → okl a b x (blkL a.length (mvOf a b x))) := by
  unfold mvOf
  have ga : x ∈ a → a.getD (a.idxOf x) 0 = x := fun h => by rw [List.getD_eq_getElem?_getD, get_idx h]; rfl
  have gb : x ∈ b → b.getD (b.idxOf x) 0 = x := fun h => by rw [List.getD_eq_getElem?_getD, get_idx h]; rfl
  by_cases h : x ∈ a
  · have := idx_lt h
    have e : blkL a.length (if x ∈ a then (if x ∈ b then Mov.both ((a.idxOf x : Nat) : Int) else .first ((a.idxOf x : Nat) : Int)) else if x ∈ b then .second ((b.idxOf x : Nat) : Int) else .new) = ((a.idxOf x : Nat) : Int) := by
      rw [if_pos h]; split <;> rfl
    rw [e]
    refine ⟨?_, fun _ => .inl ⟨by omega, by omega⟩⟩
    unfold lab
    rw [if_pos (by omega), Int.toNat_natCast, ga h]
  · rw [if_neg h]
    by_cases h2 : x ∈ b
    · rw [if_pos h2]
      have := idx_lt h2
      simp only [blkL]
      refine ⟨?_, fun _ => .inr (.inl ⟨b.idxOf x, by omega, rfl, by rw [gb h2]; exact h⟩)⟩
      unfold lab
      rw [if_neg (by omega), if_pos (by omega)]
      have : ((a.length : Int) + ((b.idxOf x : Nat) : Int) - a.length).toNat = b.idxOf x := by omega
      rw [this, gb h2]
    · rw [if_neg h2]
      simp only [blkL]
      refine ⟨?_, fun _ => .inr (.inr ⟨rfl, h, h2⟩)⟩
      unfold lab
      rw [if_neg (by omega), if_neg (by omega)]
/-- what a move does to a pair is what the access does to the states -/
theorem spP_real (hf : IsPol f) (hg : IsPol g) (la : a.length = f.length) (lb : b.length = g.length) (hl : a.length = b.length) (ha : a.Nodup) (hb : b.Nodup) :
    spP f g (relF a b) (mvOf a b x) = (relF (stepL f a x).1 (stepL g b x).1, mi (stepL f a x).2, mi (stepL g b x).2) := by
  obtain ⟨bl, bo⟩ := blk_lab (x := x) hl
  have bo := bo hb
  unfold spP
  rw [relF_length]
  generalize blkL a.length (mvOf a b x) = l at bl bo
  have i1 : ∀ y ∈ rgI a.length, okl a b x y := fun y hy => .inl (mem_rgI.mp hy)
  have i2 : ∀ y ∈ twoL (relF a b), okl a b x y := fun y hy => twoL_okl hl ha hb hy
  have l1 : (rgI a.length).length = f.length := by rw [rgI_length, la]
  have l2 : (twoL (relF a b)).length = g.length := by unfold twoL; rw [List.length_map, rgI_length, relF_length]; omega
  have s1 := stepL_map (φ := lab a b x) (b := l) hf l1 fun y hy e => lab_inj hl ha hb (i1 y hy) bo e
  have s2 := stepL_map (φ := lab a b x) (b := l) hg l2 fun y hy e => lab_inj hl ha hb (i2 y hy) bo e
  rw [one_lab, bl] at s1
  rw [twoL_lab hl ha hb, bl] at s2
  rw [s1, s2]
  rw [relF_map fun y hy z hz e => lab_inj hl ha hb (by
      rcases mem_stepL hg l2 hz with q | q
      · rw [q]; exact bo
      · exact i2 z q) (by
      rcases mem_stepL hf l1 hy with q | q
      · rw [q]; exact bo
      · exact i1 y q) e]
theorem mem_moves_of (hl : a.length = b.length) (ha : a.Nodup) (hb : b.Nodup) : mvOf a b x ∈ movesL (relF a b) := by
  unfold mvOf movesL
  by_cases h : x ∈ a
  · rw [if_pos h]
    have hi := idx_lt h
    have hz : ((relF a b)[a.idxOf x]'(by rw [relF_length]; exact hi), a.idxOf x) ∈ (relF a b).zipIdx 0 := by
      rw [List.mem_zipIdx_iff_getElem?]
      exact List.getElem?_eq_getElem _
    have hv : (relF a b)[a.idxOf x]'(by rw [relF_length]; exact hi) = if x ∈ b then some ((b.idxOf x : Nat) : Int) else none := by
      unfold relF
      rw [List.getElem_map, List.getElem_idxOf]
    rw [hv] at hz
    refine List.mem_append_left _ (List.mem_cons_of_mem _ (List.mem_map.mpr ⟨_, hz, ?_⟩))
    by_cases h2 : x ∈ b
    · simp only [if_pos h2]
    · simp only [if_neg h2]
  · rw [if_neg h]
    by_cases h2 : x ∈ b
    · rw [if_pos h2]
      have hi := idx_lt h2
      refine List.mem_append_right _ (List.mem_map.mpr ⟨_, List.mem_filter.mpr ⟨mem_rgI.mpr ⟨by omega, by rw [relF_length]; omega⟩, ?_⟩, rfl⟩)
      have t := (twoL_at hl ha hb (j := b.idxOf x) (by omega)).1
      have gb : b.getD (b.idxOf x) 0 = x := by rw [List.getD_eq_getElem?_getD, get_idx h2]; rfl
      rw [gb] at t
      simp only [Bool.not_eq_true', decide_eq_false_iff_not]
      exact fun z => h (t.mp z)
    · rw [if_neg h2]
      exact List.mem_append_left _ List.mem_cons_self
end
/-- one after another -/
def folL (f g : List (List Int)) : List (Option Int) → List Mov → List (Option Int) × Int × Int
  | p, [] => (p, 0, 0)
  | p, m :: ms => ((folL f g (spP f g p m).1 ms).1, (spP f g p m).2.1 + (folL f g (spP f g p m).1 ms).2.1, (spP f g p m).2.2 + (folL f g (spP f g p m).1 ms).2.2)
def vmv (f g : List (List Int)) : List (Option Int) → List Mov → Prop
  | _, [] => True
  | p, m :: ms => m ∈ movesL p ∧ vmv f g (spP f g p m).1 ms
theorem twoL_nd {p : List (Option Int)} {k : Nat} (h : IsPr k p) : (twoL p).Nodup := by
  unfold twoL
  rw [List.nodup_iff_pairwise_ne, List.pairwise_map]
  refine List.Pairwise.imp_of_mem ?_ (List.nodup_iff_pairwise_ne.mp (rgI_nodup p.length))
  intro i j hi hj hij e
  have r1 := mem_rgI.mp hi
  have r2 := mem_rgI.mp hj
  have lt : ∀ {v : Int}, some v ∈ p → p.idxOf (some v) < p.length := fun h => List.idxOf_lt_length_of_mem h
  have gt : ∀ {v : Int}, some v ∈ p → p[p.idxOf (some v)]? = some (some v) := fun {v} hh => by
    rw [List.getElem?_eq_getElem (lt hh), List.getElem_idxOf]
  by_cases a1 : some i ∈ p <;> by_cases a2 : some j ∈ p
  · rw [if_pos a1, if_pos a2] at e
    have g1 := gt a1
    have g2 := gt a2
    rw [show p.idxOf (some i) = p.idxOf (some j) by omega, g2] at g1
    injection g1 with g1
    injection g1 with g1
    exact hij g1.symm
  · rw [if_pos a1, if_neg a2] at e
    have := lt a1
    omega
  · rw [if_neg a1, if_pos a2] at e
    have := lt a2
    omega
  · rw [if_neg a1, if_neg a2] at e
    omega
theorem spP_pr {f g : List (List Int)} {p : List (Option Int)} {k : Nat} (hf : IsPol f) (hg : IsPol g) (lf : f.length = k) (lg : g.length = k) (h : IsPr k p) (m : Mov) : IsPr k (spP f g p m).1 := by
  have k2 := hf.lo
  have l1 : (rgI p.length).length = f.length := by rw [rgI_length, h.len, lf]
  have l2 : (twoL p).length = g.length := by unfold twoL; rw [List.length_map, rgI_length, h.len, lg]
  have n1 : (rgI p.length) ≠ [] := fun z => by rw [z] at l1; simp at l1; omega
  have n2 : (twoL p) ≠ [] := fun z => by rw [z] at l2; simp at l2; omega
  have e1 := stepL_len (rows := f) (b := blkL p.length m) n1
  have e2 := stepL_len (rows := g) (b := blkL p.length m) n2
  have := relF_pr (a := (stepL f (rgI p.length) (blkL p.length m)).1) (b := (stepL g (twoL p) (blkL p.length m)).1) (by omega) (stepL_nodup hf l1 (rgI_nodup _))
  rw [e1, l1, lf] at this
  exact this
end G8

set_option Elab.async false
set_option linter.all false
set_option maxRecDepth 100000
set_option maxHeartbeats 1000000
namespace G8
/-! ### pairs as values -/
def opD : Option Int → D
  | none => .non
  | some i => .int i
abbrev tQ (p : List (Option Int)) : D := .tup (p.map opD)
theorem eqv_op (a b : Option Int) : D.eqv (opD a) (opD b) = decide (a = b) := by
  cases a <;> cases b <;> simp [opD, D.eqv, eqv_int']
theorem inD_op (x : Option Int) (acc : List (Option Int)) : inD (opD x) (acc.map opD) = decide (x ∈ acc) := (inD_map _ eqv_op x acc).trans (decide_eq_decide.mpr Iff.rfl)
theorem pl_op (n : Nat) (x : Option Int) : D.pl (n + 1) (opD x) = true := by cases x <;> simp only [opD, D.pl]
theorem pl_tO (n : Nat) (xs : List (Option Int)) : D.pl (n + 3) (tQ xs) = true := by simp only [D.pl]; exact pls_map opD (n + 1) xs fun x _ => pl_op n x
theorem flat_op (x : Option Int) : flatD (opD x) = true := by cases x <;> rfl
theorem flats_op : ∀ xs : List (Option Int), (xs.map opD).all flatD = true
  | [] => rfl
  | x :: xs => by simp only [List.map_cons, List.all_cons, flat_op, flats_op xs, Bool.and_self]
theorem fit_op (n : Nat) (x : Option Int) : D.fit n (opD x) = true := by cases x <;> cases n <;> simp only [opD, D.fit]
theorem fit_tO (n : Nat) (xs : List (Option Int)) : D.fit (n + 1) (tQ xs) = true := by simp only [D.fit]; exact fits_map opD n xs fun x _ => fit_op n x
theorem eqv_tO (xs ys : List (Option Int)) : D.eqv (tQ xs) (tQ ys) = decide (xs = ys) := by simp only [D.eqv, eqvs_map _ eqv_op]
theorem nr_op (x : Option Int) : D.nr (opD x) = true := by cases x <;> simp only [opD, D.nr]
theorem top_op (x : Option Int) : D.top (opD x) = true := by cases x <;> simp only [opD, D.top, D.nr]
theorem nr_tO (xs : List (Option Int)) : D.nr (tQ xs) = true := nr_pl 3 _ (pl_tO 0 xs)
theorem in_tO {h : Sto} {x : Int} {xs : List (Option Int)} : contD (.int x) (tQ xs) h = some (decide (some x ∈ xs)) := by
  have := inD_op (some x) xs
  simp only [opD] at this
  simp only [contD, flatD, flats_op, Bool.and_self, if_true, this]
theorem in_lN' {h : Sto} {x : Int} {xs : List Int} : contD (.int x) (.lst (xs.map D.int)) h = some (decide (x ∈ xs)) := by
  simp only [contD, lstOf, fit_int, fits_int, Bool.and_self, if_true, inD_int]
theorem in_ref' {h : Sto} {x : Int} {xs : List Int} {n : Nat} {fl : Bool} (e : h[n]? = some (.lst fl (xs.map D.int))) : contD (.int x) (.ref n) h = some (decide (x ∈ xs)) := by
  simp only [contD, lstOf, e, fit_int, fits_int, Bool.and_self, if_true, inD_int]
def mvD : Mov → D
  | .new => .tup [.str [110, 101, 119], .non]
  | .both i => .tup [.str [98, 111, 116, 104], .int i]
  | .first i => .tup [.str [102, 105, 114, 115, 116], .int i]
  | .second j => .tup [.str [115, 101, 99, 111, 110, 100], .int j]
theorem eqv_mv (a b : Mov) : D.eqv (mvD a) (mvD b) = decide (a = b) := by
  cases a <;> cases b <;> simp [mvD, D.eqv, D.eqvs, eqv_int']
theorem pl_mv (n : Nat) (x : Mov) : D.pl (n + 2) (mvD x) = true := by cases x <;> simp only [mvD, D.pl, D.pls, Bool.and_self]
theorem fit_mv (n : Nat) (x : Mov) : D.fit (n + 1) (mvD x) = true := by
  cases x <;> simp only [mvD, D.fit, D.fits, fit_int, fit_non, List.all_cons, List.all_nil] <;> cases n <;> simp [D.fit]
abbrev lM (ms : List Mov) : D := .lst (ms.map mvD)
theorem fits_lM (n : Nat) (ms : List Mov) : D.fits (n + 1) (ms.map mvD) = true := fits_map mvD (n + 1) ms fun x _ => fit_mv n x
theorem pl_lM (n : Nat) (ms : List Mov) : D.pl (n + 4) (lM ms) = true := by simp only [D.pl]; exact pls_map mvD (n + 2) ms fun x _ => pl_mv n x
theorem in_lM {h : Sto} {m : Mov} {ms : List Mov} : contD (mvD m) (lM ms) h = some (decide (m ∈ ms)) := by
  have := inD_map mvD eqv_mv m ms
  have f1 := fit_mv 39 m
  have f2 := fits_lM 39 ms
  cases m <;> simp only [mvD] at this f1 ⊢ <;> simp only [contD, lstOf, f1, f2, Bool.and_self, if_true, this]
theorem forD_fold {α β : Type} {body : D → Sl → Sto → F} (f : α → D) (σ : β → Sl) (h : β → Sto) (stp : β → α → β) (I : Nat → β → Prop) {n : Nat} {fl : Bool} {xs : List α} (hn : ∀ b, (h b)[n]? = some (.lst fl (xs.map f))) : ∀ (ys : List α) (i : Nat) (b : β), xs.drop i = ys → i + ys.length = xs.length → I i b → (∀ k b x, x ∈ ys → k < i + ys.length → I k b → body (f x) (σ b) (h b) = .next (σ (stp b x)) (h (stp b x)) ∧ I (k + 1) (stp b x)) → forD body n false ys.length i (σ b) (h b) = .next (σ (ys.foldl stp b)) (h (ys.foldl stp b)) ∧ I (i + ys.length) (ys.foldl stp b)
  | [], i, b, hd, hl, hi, _ => by
    have e : (xs.map f)[i]? = none := List.getElem?_eq_none (by rw [List.length_map]; simp at hl; omega)
    refine ⟨?_, hi⟩
    unfold forD
    simp [itemAt, hn, e]
  | x :: ys, i, b, hd, hl, hi, hs => by
    obtain ⟨e, hi'⟩ := hs i b x List.mem_cons_self (by simp) hi
    rw [List.length_cons] at hl
    have hlt : i < xs.length := by omega
    have hd2 := List.drop_eq_getElem_cons hlt
    rw [hd] at hd2
    injection hd2 with h1 h2
    have e2 : (xs.map f)[i]? = some (f x) := by rw [List.getElem?_map, List.getElem?_eq_getElem hlt, ← h1]; rfl
    have := forD_fold (body := body) f σ h stp I hn ys (i + 1) (stp b x) h2.symm (by omega) hi' fun k b y hy hk => hs k b y (List.mem_cons_of_mem _ hy) (by rw [List.length_cons]; omega)
    rw [List.length_cons, show i + (ys.length + 1) = i + 1 + ys.length by omega, List.foldl_cons]
    refine ⟨?_, this.2⟩
    unfold forD
    simp only [itemAt, hn, e2, e, Bool.false_eq_true, if_false]
    exact this.1
/-- a list, as a value or in the store -/
def LW (h : Sto) (d : D) (xs : List D) : Prop := d = .lst xs ∨ ∃ n fl, d = .ref n ∧ n < h.length ∧ h[n]? = some (.lst fl xs)
theorem fz_li {h : Sto} {n0 k : Nat} {xs : List Int} {i : Int} (hk : ¬ k < n0) (e : h[k]? = some (.lst true (xs.map D.int))) : fz h n0 12 (.tup [.ref k, .int i]) = some (.tup [lN xs, .int i]) := by
  have q1 : fzL (fz h n0 10) (xs.map D.int) = some (xs.map D.int) := fzs_pl 10 _ (pls_int 9 xs)
  simp only [fz, fzL, if_neg hk, e, q1, Option.map_some, Option.bind_some]
section
variable {P : Prg} {h : Sto}
theorem check_same_ways_spec [HasF P i_check_same_ways f_check_same_ways] [HasF P i_check_policy f_check_policy] [HasF P i_is_policy f_is_policy] [HasF P i_is_permutation f_is_permutation] [HasF P i_is_int f_is_int] {f g : List (List Int)} (hf : IsPol f) (hg : IsPol g) (hl : f.length = g.length) (hw : WS h) (F d : Nat) (hF : 80 ≤ F) (hd : 5 ≤ d) : (ev P F).c d i_check_same_ways [tR f, tR g] h = .ok .non h := by
  obtain ⟨F, rfl⟩ : ∃ j, F = j + 80 := ⟨F - 80, by omega⟩
  obtain ⟨d, rfl⟩ : ∃ j, d = j + 5 := ⟨d - 5, by omega⟩
  rw [call_eq (fn := f_check_same_ways) rfl]
  simp -dsimp -implicitDefEqProofs only [f_check_same_ways, G8.start, List.length_cons, List.length_nil, List.map_cons, List.map_nil, List.replicate, Nat.reduceAdd, Nat.reduceSub, List.cons_append, List.nil_append]
  have a4 : D.eqv (.int (f.length : Int)) (.int (g.length : Int)) = true := by rw [eqv_int]; simp; omega
  simp -dsimp -implicitDefEqProofs only [↓bL, ↓tL, ↓hL, ↓ev_for, ev_e, ev_s, stepE, stepS, b_ok, b_err, t_ok, t_err, th_n, th_r, th_e, ne_ok, blk, G8.evs, asgT, asg1, asgs, idxD, seqOf, binD, cmpD, setIdxD, D.top, D.nr, if_true, and_self, Bool.false_and, Bool.and_true, biD, List.getElem?_cons_zero, List.getElem?_cons_succ, List.set_cons_zero, List.set_cons_succ, Nat.reduceLeDiff, Bool.false_eq_true, if_false, Bool.not_true, Bool.not_false, evIt, itOf, compI, lstOf, Option.bind_some, isiD, res, Bool.and_self, Bool.true_and, beq_self_eq_true, check_policy_spec hf hw, check_policy_spec hg hw, List.length_map, fit_int, a4]
  exact fin_next (fn := f_check_same_ways) rfl hw
theorem after_access_spec [HasF P i_after_access f_after_access] {rows : List (List Int)} {st : List Int} {b : Int} {sd : D} (hp : IsPol rows) (hl : st.length = rows.length) (hs : LW h sd (st.map D.int)) (hw : WS h) (F d : Nat) (hF : 40 ≤ F) (hd : 1 ≤ d) :
    (ev P F).c d i_after_access [tR rows, sd, .int b] h = .ok (.tup [lN (stepL rows st b).1, .int (mi (stepL rows st b).2)]) h := by
  obtain ⟨F, rfl⟩ : ∃ j, F = j + 40 := ⟨F - 40, by omega⟩
  obtain ⟨d, rfl⟩ : ∃ j, d = j + 1 := ⟨d - 1, by omega⟩
  rw [call_eq (fn := f_after_access) rfl]
  simp -dsimp -implicitDefEqProofs only [f_after_access, G8.start, List.length_cons, List.length_nil, List.map_cons, List.map_nil, List.replicate, Nat.reduceAdd, Nat.reduceSub, List.cons_append, List.nil_append]
  have h4 := hp.hi
  have h2 := hp.lo
  have cn : ∀ t : Sto, contD (.int b) sd (h ++ t) = some (decide (b ∈ st)) ∧ lstOf (h ++ t) sd = some (st.map D.int) ∧ seqOf (h ++ t) sd = some (st.map D.int) ∧ (∀ i : Int, idxD sd (.int i) (h ++ t) = (match ixN st.length i with
      | some k => (match (st.map D.int)[k]? with
        | some y => .ok y (h ++ t)
        | none => .stuck)
      | none => .stuck)) ∧ (∀ lo hi, slD sd lo hi (h ++ t) = .ok (.lst (cut (st.map D.int) lo hi)) (h ++ t)) ∧ mbPre (h ++ t) sd .index = true := by
    intro t
    rcases hs with rfl | ⟨n, fl, rfl, hn, e⟩
    · refine ⟨in_lN', rfl, rfl, fun i => ?_, fun _ _ => rfl, rfl⟩
      simp only [idxD, seqOf, List.length_map]
      try rfl
    · have e' : (h ++ t)[n]? = some (.lst fl (st.map D.int)) := by rw [List.getElem?_append_left hn, e]
      refine ⟨in_ref' e', by simp only [lstOf, e'], by simp only [seqOf, e'], fun i => ?_, fun _ _ => by simp only [slD, lstOf, e'], by simp only [mbPre, lstOf, e', Option.isSome]⟩
      simp only [idxD, seqOf, e', List.length_map]
      try rfl
  have c0 := cn []
  rw [List.append_nil] at c0
  obtain ⟨n1, n2, n3, n4, n5, n6⟩ := c0
  unfold stepL
  by_cases hm : b ∈ st
  · rw [if_pos hm]
    have hk : st.idxOf b < rows.length := by rw [← hl]; exact idx_lt hm
    have hr := row_perm hp hk
    rw [← hl] at hr
    have i1 := idxOf_map D.int eqv_int b st hm
    have g1 := get_map tN (getD_get (d := []) hk)
    generalize hrow : rows.getD (st.idxOf b) [] = row at hr g1
    have hrl : row.length = st.length := by rw [hr.length_eq, rgI_length]
    have lp : ∀ F', 20 ≤ F' → forS (turnF (ev P F') d (.tup [.var 4, .var 5]) lb_after_access_0) (enumD 0 (row.map D.int)) [some (tR rows), some sd, some (.int b), some (.ref h.length), none, none] (h ++ [.lst true (List.replicate st.length .non)]) =
        .next [some (tR rows), some sd, some (.int b), some (.ref h.length), ((row.zipIdx 0).foldl (mvB D.int st) (List.replicate st.length .non, none, none)).2.1, ((row.zipIdx 0).foldl (mvB D.int st) (List.replicate st.length .non, none, none)).2.2] (h ++ [.lst true ((permA st row).map D.int)]) := by
      intro F' hF'
      obtain ⟨F', rfl⟩ : ∃ j, F' = j + 20 := ⟨F' - 20, by omega⟩
      have := forS_fold (body := turnF (ev P (F' + 20)) d (.tup [.var 4, .var 5]) lb_after_access_0) (fun p : Int × Nat => D.tup [.int (p.2 : Nat), .int p.1])
        (fun b_ : List D × Option D × Option D => [some (tR rows), some sd, some (.int b), some (.ref h.length), b_.2.1, b_.2.2]) (fun b => h ++ [.lst true b.1]) (mvB D.int st) (fun _ b => b.1.length = st.length) (row.zipIdx 0) 0 (List.replicate st.length .non, none, none) (by simp) (fun k b_ p hx _ hI => by
          obtain ⟨acc, x, y⟩ := b_
          obtain ⟨t, k⟩ := p
          have hI : acc.length = st.length := hI
          obtain ⟨q1, q2, q3⟩ := List.mem_zipIdx hx
          have ht : t ∈ row := by rw [q3]; exact List.getElem_mem _
          obtain ⟨t0, t1⟩ := mem_rgI.mp (hr.mem_iff.mp ht)
          have hk : k < st.length := by omega
          have a1 : (st.map D.int)[k]? = some (.int (st.getD k default)) := by rw [List.getElem?_map, List.getD_eq_getElem?_getD, List.getElem?_eq_getElem hk]; rfl
          have i2 : G8.ixN acc.length t = some t.toNat := ixN_pos t0 (by omega)
          refine ⟨?_, by simp only [mvB, mvs, List.length_set]; exact hI⟩
          have i3 : idxD sd (.int ((k : Nat) : Int)) (h ++ [.lst true acc]) = .ok (.int (st.getD k default)) (h ++ [.lst true acc]) := by
            rw [(cn [.lst true acc]).2.2.2.1]
            simp only [ixN_nat hk, a1]
          unfold turnF lb_after_access_0
          simp -dsimp -implicitDefEqProofs only [↓bL, ↓tL, ↓hL, ↓ev_for, ev_e, ev_s, stepE, stepS, b_ok, b_err, t_ok, t_err, th_n, th_r, th_e, ne_ok, blk, G8.evs, asgT, asg1, asgs, idxD, seqOf, binD, cmpD, setIdxD, D.top, D.nr, if_true, and_self, Bool.false_and, Bool.and_true, biD, List.getElem?_cons_zero, List.getElem?_cons_succ, List.set_cons_zero, List.set_cons_succ, Nat.reduceLeDiff, Bool.false_eq_true, if_false, Bool.not_true, Bool.not_false, evIt, itOf, compI, lstOf, Option.bind_some, isiD, res, Bool.and_self, Bool.true_and, beq_self_eq_true, -idxD, gl0, i3, i2, st0]
          rfl)
      have e := this.1
      simp only [mvB_fst, mvs_perm D.int hr] at e
      rw [enumD_zip D.int row 0]
      exact e
    have c1 : ((0 : Int) ≤ (st.length : Int)) = True := by simp
    have c2 : ((st.length : Int) ≤ 100000) = True := by simp; omega
    have nn : D.nrs (List.replicate st.length D.non) = true := nrs_of fun y hy => by rw [(List.mem_replicate.mp hy).2]; simp only [D.nr]
    have m1 : ∀ t : Sto, mbD .index sd [.int b] (h ++ t) = .ok (.int ((st.idxOf b : Nat) : Int)) (h ++ t) := by
      intro t
      have := cn t
      simp only [mbD, this.1, this.2.2.1, hm, decide_true, i1]
    have m2 : ∀ t : Sto, mbPre (h ++ t) sd .index = true := fun t => (cn t).2.2.2.2.2
    have bl : biD .len [sd] h = .ok (.int (st.length : Nat)) h := by
      rcases hs with rfl | ⟨n, fl, rfl, hn, e⟩
      · simp only [biD, seqOf, List.length_map]
      · simp only [biD, seqOf, e, List.length_map]
    simp -dsimp -implicitDefEqProofs only [↓bL, ↓tL, ↓hL, ↓ev_for, ev_e, ev_s, stepE, stepS, b_ok, b_err, t_ok, t_err, th_n, th_r, th_e, ne_ok, blk, G8.evs, asgT, asg1, asgs, idxD, seqOf, binD, cmpD, setIdxD, D.top, D.nr, if_true, and_self, Bool.false_and, Bool.and_true, biD, List.getElem?_cons_zero, List.getElem?_cons_succ, List.set_cons_zero, List.set_cons_succ, Nat.reduceLeDiff, Bool.false_eq_true, if_false, Bool.not_true, Bool.not_false, evIt, itOf, compI, lstOf, Option.bind_some, isiD, res, Bool.and_self, Bool.true_and, beq_self_eq_true, -seqOf, -biD, n1, hm, decide_true, bl, List.length_cons, List.length_nil, Nat.reduceAdd, c1, c2, Int.toNat_natCast, rep_flat, nn, m1, m2, lp, gl0]
    simp only [idxD, seqOf, List.length_map, ixN_nat hk, g1]
    simp -dsimp -implicitDefEqProofs only [↓bL, ↓tL, ↓hL, ↓ev_for, ev_e, ev_s, stepE, stepS, b_ok, b_err, t_ok, t_err, th_n, th_r, th_e, ne_ok, blk, G8.evs, asgT, asg1, asgs, idxD, seqOf, binD, cmpD, setIdxD, D.top, D.nr, if_true, and_self, Bool.false_and, Bool.and_true, biD, List.getElem?_cons_zero, List.getElem?_cons_succ, List.set_cons_zero, List.set_cons_succ, Nat.reduceLeDiff, Bool.false_eq_true, if_false, Bool.not_true, Bool.not_false, evIt, itOf, compI, lstOf, Option.bind_some, isiD, res, Bool.and_self, Bool.true_and, beq_self_eq_true, lp]
    exact fin_pureA (fn := f_after_access) rfl hw (fz_li (by omega) gl0)
  · rw [if_neg hm]
    have z1 : 0 + 1 + ((st.map D.int).dropLast).length ≤ LIM := by rw [List.length_dropLast, List.length_map]; show _ ≤ 16777216; omega
    have e1 : (st.map D.int).dropLast = (st.dropLast).map D.int := by rw [List.map_dropLast]
    simp -dsimp -implicitDefEqProofs only [↓bL, ↓tL, ↓hL, ↓ev_for, ev_e, ev_s, stepE, stepS, b_ok, b_err, t_ok, t_err, th_n, th_r, th_e, ne_ok, blk, G8.evs, asgT, asg1, asgs, idxD, seqOf, binD, cmpD, setIdxD, D.top, D.nr, if_true, and_self, Bool.false_and, Bool.and_true, biD, List.getElem?_cons_zero, List.getElem?_cons_succ, List.set_cons_zero, List.set_cons_succ, Nat.reduceLeDiff, Bool.false_eq_true, if_false, Bool.not_true, Bool.not_false, evIt, itOf, compI, lstOf, Option.bind_some, isiD, res, Bool.and_self, Bool.true_and, beq_self_eq_true, -lstOf, n1, hm, decide_false, evO, n5, cut_m1]
    simp only [lstOf, List.length_cons, List.length_nil, z1, if_true]
    simp only [e1, List.cons_append, List.nil_append]
    simp -dsimp -implicitDefEqProofs only [↓bL, ↓tL, ↓hL, ↓ev_for, ev_e, ev_s, stepE, stepS, b_ok, b_err, t_ok, t_err, th_n, th_r, th_e, ne_ok, blk, G8.evs, asgT, asg1, asgs, idxD, seqOf, binD, cmpD, setIdxD, D.top, D.nr, if_true, and_self, Bool.false_and, Bool.and_true, biD, List.getElem?_cons_zero, List.getElem?_cons_succ, List.set_cons_zero, List.set_cons_succ, Nat.reduceLeDiff, Bool.false_eq_true, if_false, Bool.not_true, Bool.not_false, evIt, itOf, compI, lstOf, Option.bind_some, isiD, res, Bool.and_self, Bool.true_and, beq_self_eq_true]
    exact fin_pure (fn := f_after_access) rfl hw (fz_pl _ _ (by simp only [D.pl, D.pls, pls_int, Bool.and_self]))
end
end G8

set_option Elab.async false
set_option linter.all false
set_option maxRecDepth 100000
set_option maxHeartbeats 1000000
namespace G8
/-! ### step_pair, moves_of -/
def setP (acc : List (Option Int)) (q : Option Int × Nat) : List (Option Int) := match q.1 with
  | none => acc
  | some j => acc.set j.toNat (some (q.2 : Nat))
theorem setP_len : ∀ (qs : List (Option Int × Nat)) (acc : List (Option Int)), (qs.foldl setP acc).length = acc.length
  | [], _ => rfl
  | q :: qs, acc => by
    rw [List.foldl_cons, setP_len qs]
    unfold setP
    split <;> simp
theorem setP_at : ∀ (p : List (Option Int)) (k : Nat) (acc : List (Option Int)) (j : Nat), (∀ (i i' : Nat) (v : Int), p[i]? = some (some v) → p[i']? = some (some v) → i = i') → (∀ v, some v ∈ p → 0 ≤ v ∧ v < acc.length) → j < acc.length →
    ((p.zipIdx k).foldl setP acc)[j]? = if some (j : Int) ∈ p then some (some (((k + p.idxOf (some (j : Int)) : Nat)) : Int)) else acc[j]?
  | [], k, acc, j, _, _, _ => by simp
  | t :: ts, k, acc, j, hn, hr, hj => by
    have hn' : ∀ (i i' : Nat) (v : Int), ts[i]? = some (some v) → ts[i']? = some (some v) → i = i' := fun i i' v a b => by
      have := hn (i + 1) (i' + 1) v (by simpa using a) (by simpa using b)
      omega
    have hl : (setP acc (t, k)).length = acc.length := setP_len [(t, k)] acc
    rw [List.zipIdx_cons, List.foldl_cons, setP_at ts (k + 1) _ j hn' (fun v hv => by rw [hl]; exact hr v (List.mem_cons_of_mem _ hv)) (by rw [hl]; exact hj)]
    by_cases e : t = some (j : Int)
    · subst e
      have hnm : some (j : Int) ∉ ts := fun z => by
        have l := List.idxOf_lt_length_of_mem z
        have g : ts[ts.idxOf (some (j : Int))]? = some (some (j : Int)) := by rw [List.getElem?_eq_getElem l, List.getElem_idxOf]
        have := hn 0 (ts.idxOf (some (j : Int)) + 1) j (by simp) (by simpa using g)
        omega
      rw [if_neg hnm, if_pos List.mem_cons_self]
      simp [setP, hj]
    · have e2 : (t == some (j : Int)) = false := by simpa using e
      have e3 : (setP acc (t, k))[j]? = acc[j]? := by
        unfold setP
        cases t with
        | none => rfl
        | some v =>
          have := hr v List.mem_cons_self
          simp only
          rw [List.getElem?_set_ne]
          intro z
          apply e
          congr 1
          omega
      rw [e3, List.idxOf_cons, e2]
      by_cases hm : some (j : Int) ∈ ts
      · rw [if_pos hm, if_pos (List.mem_cons_of_mem _ hm)]
        simp only [cond_false]
        congr 3
        omega
      · rw [if_neg hm, if_neg (by simp [Ne.symm e, hm])]
def fillP (n : Nat) (acc : List (Option Int)) (j : Int) : List (Option Int) := if acc.getD j.toNat none = none then acc.set j.toNat (some (n + j)) else acc
theorem fillP_len (n : Nat) : ∀ (js : List Int) (acc : List (Option Int)), (js.foldl (fillP n) acc).length = acc.length
  | [], _ => rfl
  | q :: qs, acc => by
    rw [List.foldl_cons, fillP_len n qs]
    unfold fillP
    split <;> simp
theorem fillP_at (n : Nat) (acc : List (Option Int)) : ∀ (m j : Nat), m ≤ acc.length → j < acc.length → ((rgI m).foldl (fillP n) acc)[j]? = if j < m ∧ acc.getD j none = none then some (some ((n : Int) + j)) else acc[j]?
  | 0, j, _, _ => by simp [rgI]
  | m + 1, j, hm, hj => by
    have ih := fun j hj => fillP_at n acc m j (by omega) hj
    rw [rgI_succ, List.foldl_append, List.foldl_cons, List.foldl_nil]
    have hl := fillP_len n (rgI m) acc
    generalize (rgI m).foldl (fillP n) acc = b at ih hl
    have ihm := ih m (by omega)
    rw [if_neg (by omega)] at ihm
    have e1 : b.getD m none = acc.getD m none := by rw [List.getD_eq_getElem?_getD, List.getD_eq_getElem?_getD, ihm]
    unfold fillP
    simp only [Int.toNat_natCast, e1]
    by_cases q : acc.getD m none = none
    · rw [if_pos q]
      by_cases ej : j = m
      · subst ej
        rw [List.getElem?_set_self (by omega), if_pos ⟨by omega, q⟩]
      · rw [List.getElem?_set_ne (Ne.symm ej), ih j hj]
        by_cases q2 : j < m ∧ acc.getD j none = none
        · rw [if_pos q2, if_pos ⟨by omega, q2.2⟩]
        · rw [if_neg q2, if_neg (fun z => q2 ⟨by omega, z.2⟩)]
    · rw [if_neg q, ih j hj]
      by_cases q2 : j < m ∧ acc.getD j none = none
      · rw [if_pos q2, if_pos ⟨by omega, q2.2⟩]
      · rw [if_neg q2, if_neg]
        rintro ⟨z1, z2⟩
        by_cases ej : j = m
        · subst ej; exact q z2
        · exact q2 ⟨by omega, z2⟩
theorem two_fold {p : List (Option Int)} {k : Nat} (h : IsPr k p) : ((rgI k).foldl (fillP k) ((p.zipIdx 0).foldl setP (List.replicate k none))).map opD = (twoL p).map D.int := by
  have e : (rgI k).foldl (fillP k) ((p.zipIdx 0).foldl setP (List.replicate k none)) = (twoL p).map some := by
    have l0 : ((p.zipIdx 0).foldl setP (List.replicate k none)).length = k := by rw [setP_len]; simp
    refine List.ext_getElem? fun j => ?_
    by_cases hj : j < k
    · have s := setP_at p 0 (List.replicate k none) j h.nd (fun v hv => by rw [List.length_replicate]; exact h.rg v hv) (by simpa using hj)
      rw [fillP_at k _ k j (by omega) (by omega), s]
      have hr : (rgI p.length)[j]? = some (j : Int) := by unfold rgI; rw [h.len]; simp [hj]
      have hr2 : (twoL p)[j]? = some (if some (j : Int) ∈ p then ((p.idxOf (some (j : Int)) : Nat) : Int) else p.length + (j : Int)) := by
        unfold twoL
        rw [List.getElem?_map, hr]
        rfl
      rw [List.getElem?_map, hr2, List.getD_eq_getElem?_getD, s]
      by_cases q : some (j : Int) ∈ p
      · simp [q]
      · have : (List.replicate k (none : Option Int))[j]? = some none := by simp [hj]
        simp only [if_neg q, this, Option.getD_some, Option.map_some]
        rw [if_pos ⟨hj, trivial⟩, h.len]
    · rw [List.getElem?_eq_none (by rw [fillP_len]; omega), List.getElem?_eq_none (by rw [List.length_map]; unfold twoL; rw [List.length_map, rgI_length, h.len]; omega)]
  rw [e, List.map_map]
  rfl
theorem str_ne {P : Prg} : True := trivial
section
variable {P : Prg} {h : Sto}
/-- kind, position -/
def mvK : Mov → D
  | .new => .str [110, 101, 119]
  | .both _ => .str [98, 111, 116, 104]
  | .first _ => .str [102, 105, 114, 115, 116]
  | .second _ => .str [115, 101, 99, 111, 110, 100]
def mvP : Mov → D
  | .new => .non
  | .both i => .int i
  | .first i => .int i
  | .second i => .int i
theorem mvD_kp (m : Mov) : mvD m = .tup [mvK m, mvP m] := by cases m <;> rfl
def mOk (k : Nat) : Mov → Prop
  | .new => True
  | .both i => 0 ≤ i ∧ i < k
  | .first i => 0 ≤ i ∧ i < k
  | .second i => 0 ≤ i ∧ i < k
def sP0 (b : List (Option Int) × Option D × Option D) (q : Option Int × Nat) : List (Option Int) × Option D × Option D := (setP b.1 q, some (.int (q.2 : Nat)), some (opD q.1))
theorem sP0_fst : ∀ (qs : List (Option Int × Nat)) (b : List (Option Int) × Option D × Option D), (qs.foldl sP0 b).1 = qs.foldl setP b.1
  | [], _ => rfl
  | q :: qs, b => by rw [List.foldl_cons, sP0_fst qs, List.foldl_cons]; rfl
def sP1 (n : Nat) (b : List (Option Int) × Option D) (j : Int) : List (Option Int) × Option D := (fillP n b.1 j, some (.int j))
theorem sP1_fst (n : Nat) : ∀ (qs : List Int) (b : List (Option Int) × Option D), (qs.foldl (sP1 n) b).1 = qs.foldl (fillP n) b.1
  | [], _ => rfl
  | q :: qs, b => by rw [List.foldl_cons, sP1_fst n qs, List.foldl_cons]; rfl
theorem set_op {xs : List (Option Int)} {k : Nat} {i : Int} : (xs.map opD).set k (.int i) = (xs.set k (some i)).map opD := by rw [List.map_set]; rfl
theorem step_pair_spec [HasF P i_step_pair f_step_pair] [HasF P i_after_access f_after_access] {f g : List (List Int)} {p : List (Option Int)} {m : Mov} {k : Nat} (hf : IsPol f) (hg : IsPol g) (lf : f.length = k) (lg : g.length = k) (hp : IsPr k p) (hm : mOk k m) (hw : WS h) (F d : Nat) (hF : 80 ≤ F) (hd : 2 ≤ d) :
    (ev P F).c d i_step_pair [tR f, tR g, tQ p, mvD m] h = .ok (.tup [tQ (spP f g p m).1, .int (spP f g p m).2.1, .int (spP f g p m).2.2]) h := by
  obtain ⟨F, rfl⟩ : ∃ j, F = j + 80 := ⟨F - 80, by omega⟩
  obtain ⟨d, rfl⟩ : ∃ j, d = j + 2 := ⟨d - 2, by omega⟩
  rw [call_eq (fn := f_step_pair) rfl, mvD_kp]
  simp -dsimp -implicitDefEqProofs only [f_step_pair, G8.start, List.length_cons, List.length_nil, List.map_cons, List.map_nil, List.replicate, Nat.reduceAdd, Nat.reduceSub, List.cons_append, List.nil_append]
  have h4 := hf.hi
  have h2 := hf.lo
  have hpl := hp.len
  have r1 : small (k : Int) = true := by simp [small]; omega
  have c1 : ((k : Int) ≤ 16777216) = True := by simp; omega
  have c2 : ((0 : Int) ≤ (k : Int)) = True := by simp
  have c3 : ((k : Int) ≤ 100000) = True := by simp; omega
  have nn : D.nrs (List.replicate k D.non) = true := nrs_of fun y hy => by rw [(List.mem_replicate.mp hy).2]; simp only [D.nr]
  have rp : List.replicate k D.non = (List.replicate k (none : Option Int)).map opD := by rw [List.map_replicate]; rfl
  have lp0 : ∀ F', 40 ≤ F' → forS (turnF (ev P F') (d + 1) (.tup [.var 11, .var 7]) lb_step_pair_0) (enumD 0 (p.map opD)) [some (tR f), some (tR g), some (tQ p), some (.tup [mvK m, mvP m]), some (.int (k : Nat)), some (lN (rgI k)), some (.ref h.length), none, none, some (mvK m), some (mvP m), none, none, none, none] (h ++ [.lst true ((List.replicate k (none : Option Int)).map opD)]) =
      .next [some (tR f), some (tR g), some (tQ p), some (.tup [mvK m, mvP m]), some (.int (k : Nat)), some (lN (rgI k)), some (.ref h.length), ((p.zipIdx 0).foldl sP0 (List.replicate k none, none, none)).2.2, none, some (mvK m), some (mvP m), ((p.zipIdx 0).foldl sP0 (List.replicate k none, none, none)).2.1, none, none, none] (h ++ [.lst true (((p.zipIdx 0).foldl setP (List.replicate k none)).map opD)]) := by
    intro F' hF'
    obtain ⟨F', rfl⟩ : ∃ j, F' = j + 40 := ⟨F' - 40, by omega⟩
    have := forS_fold (body := turnF (ev P (F' + 40)) (d + 1) (.tup [.var 11, .var 7]) lb_step_pair_0) (fun q : Option Int × Nat => D.tup [.int (q.2 : Nat), opD q.1])
      (fun b : List (Option Int) × Option D × Option D => [some (tR f), some (tR g), some (tQ p), some (.tup [mvK m, mvP m]), some (.int (k : Nat)), some (lN (rgI k)), some (.ref h.length), b.2.2, none, some (mvK m), some (mvP m), b.2.1, none, none, none]) (fun b => h ++ [.lst true (b.1.map opD)]) sP0 (fun _ b => b.1.length = k) (p.zipIdx 0) 0 (List.replicate k none, none, none) (by simp) (fun _ b q hx _ hI => by
        obtain ⟨acc, x, y⟩ := b
        obtain ⟨o, i⟩ := q
        have hI : acc.length = k := hI
        have ho : o ∈ p := by
          obtain ⟨q1, q2, q3⟩ := List.mem_zipIdx hx
          rw [q3]; exact List.getElem_mem _
        refine ⟨?_, by have := setP_len [(o, i)] acc; simp only [sP0]; exact this.trans hI⟩
        unfold turnF lb_step_pair_0
        cases o with
        | none =>
          simp -dsimp -implicitDefEqProofs only [↓bL, ↓tL, ↓hL, ↓ev_for, ev_e, ev_s, stepE, stepS, b_ok, b_err, t_ok, t_err, th_n, th_r, th_e, ne_ok, blk, G8.evs, asgT, asg1, asgs, idxD, seqOf, binD, cmpD, setIdxD, D.top, D.nr, if_true, and_self, Bool.false_and, Bool.and_true, biD, List.getElem?_cons_zero, List.getElem?_cons_succ, List.set_cons_zero, List.set_cons_succ, Nat.reduceLeDiff, Bool.false_eq_true, if_false, Bool.not_true, Bool.not_false, evIt, itOf, compI, lstOf, Option.bind_some, isiD, res, Bool.and_self, Bool.true_and, beq_self_eq_true, opD]
          rfl
        | some j =>
          have hj := hp.rg j ho
          have i2 : G8.ixN acc.length j = some j.toNat := ixN_pos hj.1 (by omega)
          simp -dsimp -implicitDefEqProofs only [↓bL, ↓tL, ↓hL, ↓ev_for, ev_e, ev_s, stepE, stepS, b_ok, b_err, t_ok, t_err, th_n, th_r, th_e, ne_ok, blk, G8.evs, asgT, asg1, asgs, idxD, seqOf, binD, cmpD, setIdxD, D.top, D.nr, if_true, and_self, Bool.false_and, Bool.and_true, biD, List.getElem?_cons_zero, List.getElem?_cons_succ, List.set_cons_zero, List.set_cons_succ, Nat.reduceLeDiff, Bool.false_eq_true, if_false, Bool.not_true, Bool.not_false, evIt, itOf, compI, lstOf, Option.bind_some, isiD, res, Bool.and_self, Bool.true_and, beq_self_eq_true, opD, gl0, List.length_map, i2, st0, set_op]
          rfl)
    have e := this.1
    simp only [sP0_fst] at e
    rw [enumD_zip opD p 0]
    exact e
  have hlen0 : ((p.zipIdx 0).foldl setP (List.replicate k none)).length = k := by rw [setP_len]; simp
  have lp1 : ∀ (F' : Nat) (s7 s11 : Option D), 40 ≤ F' → forS (turnF (ev P F') (d + 1) (.var 7) lb_step_pair_1) ((rgI k).map D.int) [some (tR f), some (tR g), some (tQ p), some (.tup [mvK m, mvP m]), some (.int (k : Nat)), some (lN (rgI k)), some (.ref h.length), s7, none, some (mvK m), some (mvP m), s11, none, none, none] (h ++ [.lst true (((p.zipIdx 0).foldl setP (List.replicate k none)).map opD)]) =
      .next [some (tR f), some (tR g), some (tQ p), some (.tup [mvK m, mvP m]), some (.int (k : Nat)), some (lN (rgI k)), some (.ref h.length), ((rgI k).foldl (sP1 k) ((p.zipIdx 0).foldl setP (List.replicate k none), s7)).2, none, some (mvK m), some (mvP m), s11, none, none, none] (h ++ [.lst true ((twoL p).map D.int)]) := by
    intro F' s7 s11 hF'
    obtain ⟨F', rfl⟩ : ∃ j, F' = j + 40 := ⟨F' - 40, by omega⟩
    have := forS_fold (body := turnF (ev P (F' + 40)) (d + 1) (.var 7) lb_step_pair_1) D.int
      (fun b : List (Option Int) × Option D => [some (tR f), some (tR g), some (tQ p), some (.tup [mvK m, mvP m]), some (.int (k : Nat)), some (lN (rgI k)), some (.ref h.length), b.2, none, some (mvK m), some (mvP m), s11, none, none, none]) (fun b => h ++ [.lst true (b.1.map opD)]) (sP1 k) (fun _ b => b.1.length = k) (rgI k) 0 ((p.zipIdx 0).foldl setP (List.replicate k none), s7) hlen0 (fun _ b j hx _ hI => by
        obtain ⟨acc, x⟩ := b
        have hI : acc.length = k := hI
        obtain ⟨j0, j1⟩ := mem_rgI.mp hx
        have i2 : G8.ixN acc.length j = some j.toNat := ixN_pos j0 (by omega)
        have g1 := get_map opD (getD_get (xs := acc) (k := j.toNat) (d := none) (by omega))
        refine ⟨?_, by have := fillP_len k [j] acc; simp only [sP1]; exact this.trans hI⟩
        unfold turnF lb_step_pair_1
        simp only [sP1, fillP]
        cases e : acc.getD j.toNat none with
        | none =>
          rw [e] at g1
          simp only [opD] at g1
          simp -dsimp -implicitDefEqProofs only [↓bL, ↓tL, ↓hL, ↓ev_for, ev_e, ev_s, stepE, stepS, b_ok, b_err, t_ok, t_err, th_n, th_r, th_e, ne_ok, blk, G8.evs, asgT, asg1, asgs, idxD, seqOf, binD, cmpD, setIdxD, D.top, D.nr, if_true, and_self, Bool.false_and, Bool.and_true, biD, List.getElem?_cons_zero, List.getElem?_cons_succ, List.set_cons_zero, List.set_cons_succ, Nat.reduceLeDiff, Bool.false_eq_true, if_false, Bool.not_true, Bool.not_false, evIt, itOf, compI, lstOf, Option.bind_some, isiD, res, Bool.and_self, Bool.true_and, beq_self_eq_true, gl0, List.length_map, i2, g1, st0, set_op]
        | some v =>
          rw [e] at g1
          simp only [opD] at g1
          simp -dsimp -implicitDefEqProofs only [↓bL, ↓tL, ↓hL, ↓ev_for, ev_e, ev_s, stepE, stepS, b_ok, b_err, t_ok, t_err, th_n, th_r, th_e, ne_ok, blk, G8.evs, asgT, asg1, asgs, idxD, seqOf, binD, cmpD, setIdxD, D.top, D.nr, if_true, and_self, Bool.false_and, Bool.and_true, biD, List.getElem?_cons_zero, List.getElem?_cons_succ, List.set_cons_zero, List.set_cons_succ, Nat.reduceLeDiff, Bool.false_eq_true, if_false, Bool.not_true, Bool.not_false, evIt, itOf, compI, lstOf, Option.bind_some, isiD, res, Bool.and_self, Bool.true_and, beq_self_eq_true, gl0, List.length_map, i2, g1]
          simp)
    have e := this.1
    simp only [sP1_fst] at e
    rw [two_fold hp] at e
    exact e
  have wsA : ∀ xs : List Int, WS (h ++ [.lst true (xs.map D.int)]) := fun xs => ws_snoc hw rfl
  have l1 : (rgI k).length = f.length := by rw [rgI_length, lf]
  have l2 : (twoL p).length = g.length := by unfold twoL; rw [List.length_map, rgI_length, hpl, lg]
  have aa1 := after_access_spec (P := P) (b := blkL k m) hf l1 (.inl rfl) (wsA (twoL p))
  have aa2 := after_access_spec (P := P) (b := blkL k m) hg l2 (.inr ⟨h.length, true, rfl, by simp, gl0⟩) (wsA (twoL p))
  have bk : ∀ (F' : Nat) (s7 s11 : Option D) (h' : Sto), 20 ≤ F' → (ev P F').e (d + 1) (.ite (.cmp .eq (.var 9) (.cst (.str [110, 101, 119]))) (.bin .mul (.cst (.int 2)) (.var 4)) (.ite (.cmp .eq (.var 9) (.cst (.str [115, 101, 99, 111, 110, 100]))) (.bin .add (.var 4) (.var 10)) (.var 10))) [some (tR f), some (tR g), some (tQ p), some (.tup [mvK m, mvP m]), some (.int (k : Nat)), some (lN (rgI k)), some (.ref h.length), s7, none, some (mvK m), some (mvP m), s11, none, none, none] h' = .ok (.int (blkL k m)) h' := by
    intro F' s7 s11 h' hF'
    obtain ⟨F', rfl⟩ : ∃ j, F' = j + 20 := ⟨F' - 20, by omega⟩
    have f1 : D.fit 40 (.str [110, 101, 119]) = true := by decide
    have f2 : D.fit 40 (.str [115, 101, 99, 111, 110, 100]) = true := by decide
    have f3 : D.fit 40 (.str [98, 111, 116, 104]) = true := by decide
    have f4 : D.fit 40 (.str [102, 105, 114, 115, 116]) = true := by decide
    have mo : mulOk 2 (k : Int) = true := mulOk_l (by omega)
    cases m with
    | new =>
      have q1 : D.eqv (.str [110, 101, 119]) (.str [110, 101, 119]) = true := by decide
      simp -dsimp -implicitDefEqProofs only [↓bL, ↓tL, ↓hL, ↓ev_for, ev_e, ev_s, stepE, stepS, b_ok, b_err, t_ok, t_err, th_n, th_r, th_e, ne_ok, blk, G8.evs, asgT, asg1, asgs, idxD, seqOf, binD, cmpD, setIdxD, D.top, D.nr, if_true, and_self, Bool.false_and, Bool.and_true, biD, List.getElem?_cons_zero, List.getElem?_cons_succ, List.set_cons_zero, List.set_cons_succ, Nat.reduceLeDiff, Bool.false_eq_true, if_false, Bool.not_true, Bool.not_false, evIt, itOf, compI, lstOf, Option.bind_some, isiD, res, Bool.and_self, Bool.true_and, beq_self_eq_true, mvK, mvP, f1, q1, mo, blkL]
    | both i =>
      have q1 : D.eqv (.str [98, 111, 116, 104]) (.str [110, 101, 119]) = false := by decide
      have q2 : D.eqv (.str [98, 111, 116, 104]) (.str [115, 101, 99, 111, 110, 100]) = false := by decide
      simp -dsimp -implicitDefEqProofs only [↓bL, ↓tL, ↓hL, ↓ev_for, ev_e, ev_s, stepE, stepS, b_ok, b_err, t_ok, t_err, th_n, th_r, th_e, ne_ok, blk, G8.evs, asgT, asg1, asgs, idxD, seqOf, binD, cmpD, setIdxD, D.top, D.nr, if_true, and_self, Bool.false_and, Bool.and_true, biD, List.getElem?_cons_zero, List.getElem?_cons_succ, List.set_cons_zero, List.set_cons_succ, Nat.reduceLeDiff, Bool.false_eq_true, if_false, Bool.not_true, Bool.not_false, evIt, itOf, compI, lstOf, Option.bind_some, isiD, res, Bool.and_self, Bool.true_and, beq_self_eq_true, mvK, mvP, f1, f2, f3, q1, q2, blkL]
    | first i =>
      have q1 : D.eqv (.str [102, 105, 114, 115, 116]) (.str [110, 101, 119]) = false := by decide
      have q2 : D.eqv (.str [102, 105, 114, 115, 116]) (.str [115, 101, 99, 111, 110, 100]) = false := by decide
      simp -dsimp -implicitDefEqProofs only [↓bL, ↓tL, ↓hL, ↓ev_for, ev_e, ev_s, stepE, stepS, b_ok, b_err, t_ok, t_err, th_n, th_r, th_e, ne_ok, blk, G8.evs, asgT, asg1, asgs, idxD, seqOf, binD, cmpD, setIdxD, D.top, D.nr, if_true, and_self, Bool.false_and, Bool.and_true, biD, List.getElem?_cons_zero, List.getElem?_cons_succ, List.set_cons_zero, List.set_cons_succ, Nat.reduceLeDiff, Bool.false_eq_true, if_false, Bool.not_true, Bool.not_false, evIt, itOf, compI, lstOf, Option.bind_some, isiD, res, Bool.and_self, Bool.true_and, beq_self_eq_true, mvK, mvP, f1, f2, f4, q1, q2, blkL]
    | second i =>
      have q1 : D.eqv (.str [115, 101, 99, 111, 110, 100]) (.str [110, 101, 119]) = false := by decide
      have q2 : D.eqv (.str [115, 101, 99, 111, 110, 100]) (.str [115, 101, 99, 111, 110, 100]) = true := by decide
      simp -dsimp -implicitDefEqProofs only [↓bL, ↓tL, ↓hL, ↓ev_for, ev_e, ev_s, stepE, stepS, b_ok, b_err, t_ok, t_err, th_n, th_r, th_e, ne_ok, blk, G8.evs, asgT, asg1, asgs, idxD, seqOf, binD, cmpD, setIdxD, D.top, D.nr, if_true, and_self, Bool.false_and, Bool.and_true, biD, List.getElem?_cons_zero, List.getElem?_cons_succ, List.set_cons_zero, List.set_cons_succ, Nat.reduceLeDiff, Bool.false_eq_true, if_false, Bool.not_true, Bool.not_false, evIt, itOf, compI, lstOf, Option.bind_some, isiD, res, Bool.and_self, Bool.true_and, beq_self_eq_true, mvK, mvP, f1, f2, q1, q2, blkL]
  have hc : ∀ (F' : Nat) (s0 s1 s2 s3 s4 s5 s7 s8 s9 s10 s11 s12 s13 : Option D) (one two : List Int) (h' : Sto), 20 ≤ F' → one.length ≤ 1000 → compS (turn ((ev P F').e (d + 1)) (.var 14) [] ce_step_pair_0 [s0, s1, s2, s3, s4, s5, some (lN two), s7, s8, s9, s10, s11, s12, s13, none]) (one.map D.int) [] h' = .ok ((relF one two).map opD) h' := by
    intro F' s0 s1 s2 s3 s4 s5 s7 s8 s9 s10 s11 s12 s13 one two h' hF' ho
    obtain ⟨F', rfl⟩ : ∃ j, F' = j + 20 := ⟨F' - 20, by omega⟩
    rw [compS_map D.int (fun b => opD (if b ∈ two then some ((two.idxOf b : Nat) : Int) else none)) one [] (fun x hx => ?_) (by show 0 + one.length ≤ 16777216; omega), List.nil_append]
    · unfold relF; rw [List.map_map]; rfl
    · simp only [turn, asgC, tests, ce_step_pair_0]
      by_cases hm : x ∈ two
      · have i1 := idxOf_map D.int eqv_int x two hm
        simp -dsimp -implicitDefEqProofs only [↓bL, ↓tL, ↓hL, ↓ev_for, ev_e, ev_s, stepE, stepS, b_ok, b_err, t_ok, t_err, th_n, th_r, th_e, ne_ok, blk, G8.evs, asgT, asg1, asgs, idxD, seqOf, binD, cmpD, setIdxD, D.top, D.nr, if_true, and_self, Bool.false_and, Bool.and_true, biD, List.getElem?_cons_zero, List.getElem?_cons_succ, List.set_cons_zero, List.set_cons_succ, Nat.reduceLeDiff, Bool.false_eq_true, if_false, Bool.not_true, Bool.not_false, evIt, itOf, compI, lstOf, Option.bind_some, isiD, res, Bool.and_self, Bool.true_and, beq_self_eq_true, in_lN', hm, decide_true, mbPre, mbD, Option.isSome, i1]
        rfl
      · simp -dsimp -implicitDefEqProofs only [↓bL, ↓tL, ↓hL, ↓ev_for, ev_e, ev_s, stepE, stepS, b_ok, b_err, t_ok, t_err, th_n, th_r, th_e, ne_ok, blk, G8.evs, asgT, asg1, asgs, idxD, seqOf, binD, cmpD, setIdxD, D.top, D.nr, if_true, and_self, Bool.false_and, Bool.and_true, biD, List.getElem?_cons_zero, List.getElem?_cons_succ, List.set_cons_zero, List.set_cons_succ, Nat.reduceLeDiff, Bool.false_eq_true, if_false, Bool.not_true, Bool.not_false, evIt, itOf, compI, lstOf, Option.bind_some, isiD, res, Bool.and_self, Bool.true_and, beq_self_eq_true, in_lN', hm, decide_false]
        rfl
  have l3 : ∀ b : Int, (stepL f (rgI k) b).1.length ≤ 1000 := fun b => by
    rw [stepL_len (fun z => by rw [z] at l1; simp at l1; omega), rgI_length]; omega
  simp -dsimp -implicitDefEqProofs only [↓bL, ↓tL, ↓hL, ↓ev_for, ev_e, ev_s, stepE, stepS, b_ok, b_err, t_ok, t_err, th_n, th_r, th_e, ne_ok, blk, G8.evs, asgT, asg1, asgs, idxD, seqOf, binD, cmpD, setIdxD, D.top, D.nr, if_true, and_self, Bool.false_and, Bool.and_true, biD, List.getElem?_cons_zero, List.getElem?_cons_succ, List.set_cons_zero, List.set_cons_succ, Nat.reduceLeDiff, Bool.false_eq_true, if_false, Bool.not_true, Bool.not_false, evIt, itOf, compI, lstOf, Option.bind_some, isiD, res, Bool.and_self, Bool.true_and, beq_self_eq_true, List.length_map, hpl, c1, rg_rgI, List.length_cons, List.length_nil, Nat.reduceAdd, c2, c3, Int.toNat_natCast, rep_flat, rp, show D.nrs ((List.replicate k (none : Option Int)).map opD) = true from rp ▸ nn, lp0, r1, lp1, ↓bk, aa1, aa2, G8.wipe, hc, l3]
  have : spP f g p m = (relF (stepL f (rgI k) (blkL k m)).1 (stepL g (twoL p) (blkL k m)).1, mi (stepL f (rgI k) (blkL k m)).2, mi (stepL g (twoL p) (blkL k m)).2) := by unfold spP; rw [hpl]
  rw [this]
  refine fin_pureA (fn := f_step_pair) rfl hw (fz_pl _ _ ?_)
  have := pl_tO 8 (relF (stepL f (rgI k) (blkL k m)).1 (stepL g (twoL p) (blkL k m)).1)
  simp only [D.pl, D.pls, Bool.and_true] at this ⊢
  exact this
end
end G8

set_option Elab.async false
set_option linter.all false
set_option maxRecDepth 100000
set_option maxHeartbeats 1000000
namespace G8
def enMv (q : Option Int × Nat) : Mov := match q.1 with
  | none => .first (q.2 : Nat)
  | some _ => .both (q.2 : Nat)
def moS (b : List Mov × Option D × Option D) (q : Option Int × Nat) : List Mov × Option D × Option D := (b.1 ++ [enMv q], some (.int (q.2 : Nat)), some (opD q.1))
theorem moS_fst : ∀ (qs : List (Option Int × Nat)) (b : List Mov × Option D × Option D), (qs.foldl moS b).1 = b.1 ++ qs.map enMv
  | [], b => by simp
  | q :: qs, b => by rw [List.foldl_cons, moS_fst qs]; simp [moS]
theorem movesL_eq (p : List (Option Int)) : movesL p = (.new :: (p.zipIdx 0).map enMv) ++ ((rgI p.length).filter fun j => !decide (some j ∈ p)).map .second := rfl
theorem moves_ok {p : List (Option Int)} {m : Mov} (h : m ∈ movesL p) : mOk p.length m := by
  rw [movesL_eq] at h
  rcases List.mem_append.mp h with q | q
  · rcases List.mem_cons.mp q with e | q
    · rw [e]; trivial
    · obtain ⟨⟨o, i⟩, hz, rfl⟩ := List.mem_map.mp q
      have := List.mem_zipIdx hz
      cases o <;> simp only [enMv, mOk] <;> omega
  · obtain ⟨j, hj, rfl⟩ := List.mem_map.mp q
    exact mem_rgI.mp (List.mem_filter.mp hj).1
theorem nd_fm {k : Nat} {p : List (Option Int)} (h : IsPr k p) : (p.filterMap id).Nodup := by
  rw [List.nodup_iff_pairwise_ne, List.pairwise_filterMap, List.pairwise_iff_getElem]
  intro i j hi hj hij v hv w hw e
  subst e
  have := h.nd i j v (by rw [List.getElem?_eq_getElem hi]; simpa using hv) (by rw [List.getElem?_eq_getElem hj]; simpa using hw)
  omega
theorem filt_some : ∀ p : List (Option Int), (p.filter Option.isSome).map opD = (p.filterMap id).map D.int
  | [] => rfl
  | none :: p => by simp [filt_some p]
  | some v :: p => by simp [filt_some p, opD]
theorem mem_fm {p : List (Option Int)} {v : Int} (h : v ∈ p.filterMap id) : some v ∈ p := by
  obtain ⟨o, ho, e⟩ := List.mem_filterMap.mp h
  simp only [id] at e
  rw [← e]; exact ho
section
variable {P : Prg} {h : Sto}
theorem moves_of_spec [HasF P i_moves_of f_moves_of] {p : List (Option Int)} (h4 : p.length ≤ 100) (hw : WS h) (F d : Nat) (hF : 50 ≤ F) (hd : 1 ≤ d) : (ev P F).c d i_moves_of [tQ p] h = .ok (lM (movesL p)) h := by
  obtain ⟨F, rfl⟩ : ∃ j, F = j + 50 := ⟨F - 50, by omega⟩
  obtain ⟨d, rfl⟩ : ∃ j, d = j + 1 := ⟨d - 1, by omega⟩
  rw [call_eq (fn := f_moves_of) rfl]
  simp -dsimp -implicitDefEqProofs only [f_moves_of, G8.start, List.length_cons, List.length_nil, List.map_cons, List.map_nil, List.replicate, Nat.reduceAdd, Nat.reduceSub, List.cons_append, List.nil_append]
  have r1 : small (p.length : Int) = true := by simp [small]; omega
  have lp : ∀ F', 30 ≤ F' → forS (turnF (ev P F') d (.tup [.var 3, .var 4]) lb_moves_of_0) (enumD 0 (p.map opD)) [some (tQ p), some (.int (p.length : Nat)), some (.ref h.length), none, none] (h ++ [.lst true [.tup [.str [110, 101, 119], .non]]]) =
      .next [some (tQ p), some (.int (p.length : Nat)), some (.ref h.length), ((p.zipIdx 0).foldl moS ([.new], none, none)).2.1, ((p.zipIdx 0).foldl moS ([.new], none, none)).2.2] (h ++ [.lst true ((.new :: (p.zipIdx 0).map enMv).map mvD)]) := by
    intro F' hF'
    obtain ⟨F', rfl⟩ : ∃ j, F' = j + 30 := ⟨F' - 30, by omega⟩
    have := forS_fold (body := turnF (ev P (F' + 30)) d (.tup [.var 3, .var 4]) lb_moves_of_0) (fun q : Option Int × Nat => D.tup [.int (q.2 : Nat), opD q.1])
      (fun b : List Mov × Option D × Option D => [some (tQ p), some (.int (p.length : Nat)), some (.ref h.length), b.2.1, b.2.2]) (fun b => h ++ [.lst true (b.1.map mvD)]) moS (fun k b => b.1.length = k + 1) (p.zipIdx 0) 0 ([.new], none, none) rfl (fun k b q hx hk hI => by
        obtain ⟨acc, x, y⟩ := b
        obtain ⟨o, i⟩ := q
        have hI : acc.length = k + 1 := hI
        refine ⟨?_, by simp only [moS, List.length_append, List.length_cons, List.length_nil]; omega⟩
        have l1 : (acc.length < LIM) = True := by
          simp only [eq_iff_iff, iff_true]
          rw [List.length_zipIdx] at hk
          show acc.length < 16777216; omega
        have sM : ∀ m : Mov, acc.map mvD ++ [mvD m] = (acc ++ [m]).map mvD := fun m => by rw [List.map_append]; rfl
        unfold turnF lb_moves_of_0
        cases o with
        | none =>
          have := sM (.first (i : Nat))
          simp only [mvD] at this
          simp -dsimp -implicitDefEqProofs only [↓bL, ↓tL, ↓hL, ↓ev_for, ev_e, ev_s, stepE, stepS, b_ok, b_err, t_ok, t_err, th_n, th_r, th_e, ne_ok, blk, G8.evs, asgT, asg1, asgs, idxD, seqOf, binD, cmpD, setIdxD, D.top, D.nr, if_true, and_self, Bool.false_and, Bool.and_true, biD, List.getElem?_cons_zero, List.getElem?_cons_succ, List.set_cons_zero, List.set_cons_succ, Nat.reduceLeDiff, Bool.false_eq_true, if_false, Bool.not_true, Bool.not_false, evIt, itOf, compI, lstOf, Option.bind_some, isiD, res, Bool.and_self, Bool.true_and, beq_self_eq_true, opD, mbPre, mbD, gl0, Option.isSome, List.length_map, l1, D.nrs, st0, this]
          rfl
        | some j =>
          have := sM (.both (i : Nat))
          simp only [mvD] at this
          simp -dsimp -implicitDefEqProofs only [↓bL, ↓tL, ↓hL, ↓ev_for, ev_e, ev_s, stepE, stepS, b_ok, b_err, t_ok, t_err, th_n, th_r, th_e, ne_ok, blk, G8.evs, asgT, asg1, asgs, idxD, seqOf, binD, cmpD, setIdxD, D.top, D.nr, if_true, and_self, Bool.false_and, Bool.and_true, biD, List.getElem?_cons_zero, List.getElem?_cons_succ, List.set_cons_zero, List.set_cons_succ, Nat.reduceLeDiff, Bool.false_eq_true, if_false, Bool.not_true, Bool.not_false, evIt, itOf, compI, lstOf, Option.bind_some, isiD, res, Bool.and_self, Bool.true_and, beq_self_eq_true, opD, mbPre, mbD, gl0, Option.isSome, List.length_map, l1, D.nrs, st0, this]
          rfl)
    have e := this.1
    simp only [moS_fst] at e
    rw [enumD_zip opD p 0]
    exact e
  have hc : ∀ (F' : Nat) (s2 s3 : Option D) (h' : Sto), 20 ≤ F' → compS (turn ((ev P F').e d) (.var 4) ci_moves_of_0 ce_moves_of_0 [some (tQ p), some (.int (p.length : Nat)), s2, s3, none]) ((rgI p.length).map D.int) [] h' = .ok ((((rgI p.length).filter fun j => !decide (some j ∈ p)).map Mov.second).map mvD) h' := by
    intro F' s2 s3 h' hF'
    obtain ⟨F', rfl⟩ : ∃ j, F' = j + 20 := ⟨F' - 20, by omega⟩
    rw [compS_filter D.int (fun j => !decide (some j ∈ p)) (fun j => mvD (.second j)) (rgI p.length) [] (fun x hx => ?_) (by rw [rgI_length]; show 0 + p.length ≤ 16777216; omega), List.nil_append, List.map_map]
    · rfl
    · simp only [turn, asgC, tests, ci_moves_of_0, ce_moves_of_0]
      by_cases hm : some x ∈ p
      · simp -dsimp -implicitDefEqProofs only [↓bL, ↓tL, ↓hL, ↓ev_for, ev_e, ev_s, stepE, stepS, b_ok, b_err, t_ok, t_err, th_n, th_r, th_e, ne_ok, blk, G8.evs, asgT, asg1, asgs, idxD, seqOf, binD, cmpD, setIdxD, D.top, D.nr, if_true, and_self, Bool.false_and, Bool.and_true, biD, List.getElem?_cons_zero, List.getElem?_cons_succ, List.set_cons_zero, List.set_cons_succ, Nat.reduceLeDiff, Bool.false_eq_true, if_false, Bool.not_true, Bool.not_false, evIt, itOf, compI, lstOf, Option.bind_some, isiD, res, Bool.and_self, Bool.true_and, beq_self_eq_true, in_tO, hm, decide_true, Option.map_some]
      · simp -dsimp -implicitDefEqProofs only [↓bL, ↓tL, ↓hL, ↓ev_for, ev_e, ev_s, stepE, stepS, b_ok, b_err, t_ok, t_err, th_n, th_r, th_e, ne_ok, blk, G8.evs, asgT, asg1, asgs, idxD, seqOf, binD, cmpD, setIdxD, D.top, D.nr, if_true, and_self, Bool.false_and, Bool.and_true, biD, List.getElem?_cons_zero, List.getElem?_cons_succ, List.set_cons_zero, List.set_cons_succ, Nat.reduceLeDiff, Bool.false_eq_true, if_false, Bool.not_true, Bool.not_false, evIt, itOf, compI, lstOf, Option.bind_some, isiD, res, Bool.and_self, Bool.true_and, beq_self_eq_true, in_tO, hm, decide_false, Option.map_some]
        rfl
  have ll : (p.zipIdx).length + 1 + ((rgI p.length).filter fun j => !decide (some j ∈ p)).length ≤ LIM := by
    have := List.length_filter_le (fun j => !decide (some j ∈ p)) (rgI p.length)
    rw [rgI_length] at this
    rw [List.length_zipIdx]
    show _ ≤ 16777216
    omega
  simp -dsimp -implicitDefEqProofs only [↓bL, ↓tL, ↓hL, ↓ev_for, ev_e, ev_s, stepE, stepS, b_ok, b_err, t_ok, t_err, th_n, th_r, th_e, ne_ok, blk, G8.evs, asgT, asg1, asgs, idxD, seqOf, binD, cmpD, setIdxD, D.top, D.nr, if_true, and_self, Bool.false_and, Bool.and_true, biD, List.getElem?_cons_zero, List.getElem?_cons_succ, List.set_cons_zero, List.set_cons_succ, Nat.reduceLeDiff, Bool.false_eq_true, if_false, Bool.not_true, Bool.not_false, evIt, itOf, compI, lstOf, Option.bind_some, isiD, res, Bool.and_self, Bool.true_and, beq_self_eq_true, List.length_map, D.nrs, lp, r1, rg_rgI, G8.wipe, hc, gl0, List.length_cons, ll]
  rw [← List.map_append, ← movesL_eq]
  exact fin_pureA (fn := f_moves_of) rfl hw (fz_pl _ _ (pl_lM 8 _))
theorem is_pair_spec [HasF P i_is_pair f_is_pair] [HasF P i_is_int f_is_int] {p : List (Option Int)} {k : Nat} (hp : IsPr k p) (h4 : k ≤ 100) (hw : WS h) (F d : Nat) (hF : 50 ≤ F) (hd : 2 ≤ d) : (ev P F).c d i_is_pair [.int (k : Nat), tQ p] h = .ok (.bl true) h := by
  obtain ⟨F, rfl⟩ : ∃ j, F = j + 50 := ⟨F - 50, by omega⟩
  obtain ⟨d, rfl⟩ : ∃ j, d = j + 2 := ⟨d - 2, by omega⟩
  rw [call_eq (fn := f_is_pair) rfl]
  simp -dsimp -implicitDefEqProofs only [f_is_pair, G8.start, List.length_cons, List.length_nil, List.map_cons, List.map_nil, List.replicate, Nat.reduceAdd, Nat.reduceSub, List.cons_append, List.nil_append]
  have hl := hp.len
  have hc0 : ∀ F', 20 ≤ F' → compS (turn ((ev P F').e (d + 1)) (.var 3) [] ce_is_pair_0 [some (.int (k : Nat)), some (tQ p), none, none]) (p.map opD) [] h = .ok ((p.map fun _ => true).map D.bl) h := by
    intro F' hF'
    obtain ⟨F', rfl⟩ : ∃ j, F' = j + 20 := ⟨F' - 20, by omega⟩
    rw [compS_map opD (fun _ => .bl true) p [] (fun x hx => ?_) (by show 0 + p.length ≤ 16777216; omega), List.nil_append, List.map_map]
    · rfl
    · simp only [turn, asgC, tests, ce_is_pair_0]
      cases x with
      | none => simp -dsimp -implicitDefEqProofs only [↓bL, ↓tL, ↓hL, ↓ev_for, ev_e, ev_s, stepE, stepS, b_ok, b_err, t_ok, t_err, th_n, th_r, th_e, ne_ok, blk, G8.evs, asgT, asg1, asgs, idxD, seqOf, binD, cmpD, setIdxD, D.top, D.nr, if_true, and_self, Bool.false_and, Bool.and_true, biD, List.getElem?_cons_zero, List.getElem?_cons_succ, List.set_cons_zero, List.set_cons_succ, Nat.reduceLeDiff, Bool.false_eq_true, if_false, Bool.not_true, Bool.not_false, evIt, itOf, compI, lstOf, Option.bind_some, isiD, res, Bool.and_self, Bool.true_and, beq_self_eq_true, opD]
      | some j =>
        have hj := hp.rg j hx
        have e : (decide ((0 : Int) ≤ j) && decide (j ≤ (k : Int) - 1)) = true := by simp; omega
        simp -dsimp -implicitDefEqProofs only [↓bL, ↓tL, ↓hL, ↓ev_for, ev_e, ev_s, stepE, stepS, b_ok, b_err, t_ok, t_err, th_n, th_r, th_e, ne_ok, blk, G8.evs, asgT, asg1, asgs, idxD, seqOf, binD, cmpD, setIdxD, D.top, D.nr, if_true, and_self, Bool.false_and, Bool.and_true, biD, List.getElem?_cons_zero, List.getElem?_cons_succ, List.set_cons_zero, List.set_cons_succ, Nat.reduceLeDiff, Bool.false_eq_true, if_false, Bool.not_true, Bool.not_false, evIt, itOf, compI, lstOf, Option.bind_some, isiD, res, Bool.and_self, Bool.true_and, beq_self_eq_true, opD, is_int_spec hw, e]
  have hc1 : ∀ F', 20 ≤ F' → compS (turn ((ev P F').e (d + 1)) (.var 3) ci_is_pair_0 ce_is_pair_1 [some (.int (k : Nat)), some (tQ p), none, none]) (p.map opD) [] h = .ok ((p.filterMap id).map D.int) h := by
    intro F' hF'
    obtain ⟨F', rfl⟩ : ∃ j, F' = j + 20 := ⟨F' - 20, by omega⟩
    rw [compS_filter opD Option.isSome opD p [] (fun x hx => ?_) (by show 0 + p.length ≤ 16777216; omega), List.nil_append, filt_some]
    simp only [turn, asgC, tests, ci_is_pair_0, ce_is_pair_1]
    cases x with
    | none => simp -dsimp -implicitDefEqProofs only [↓bL, ↓tL, ↓hL, ↓ev_for, ev_e, ev_s, stepE, stepS, b_ok, b_err, t_ok, t_err, th_n, th_r, th_e, ne_ok, blk, G8.evs, asgT, asg1, asgs, idxD, seqOf, binD, cmpD, setIdxD, D.top, D.nr, if_true, and_self, Bool.false_and, Bool.and_true, biD, List.getElem?_cons_zero, List.getElem?_cons_succ, List.set_cons_zero, List.set_cons_succ, Nat.reduceLeDiff, Bool.false_eq_true, if_false, Bool.not_true, Bool.not_false, evIt, itOf, compI, lstOf, Option.bind_some, isiD, res, Bool.and_self, Bool.true_and, beq_self_eq_true, opD, Option.isSome]
    | some j => simp -dsimp -implicitDefEqProofs only [↓bL, ↓tL, ↓hL, ↓ev_for, ev_e, ev_s, stepE, stepS, b_ok, b_err, t_ok, t_err, th_n, th_r, th_e, ne_ok, blk, G8.evs, asgT, asg1, asgs, idxD, seqOf, binD, cmpD, setIdxD, D.top, D.nr, if_true, and_self, Bool.false_and, Bool.and_true, biD, List.getElem?_cons_zero, List.getElem?_cons_succ, List.set_cons_zero, List.set_cons_succ, Nat.reduceLeDiff, Bool.false_eq_true, if_false, Bool.not_true, Bool.not_false, evIt, itOf, compI, lstOf, Option.bind_some, isiD, res, Bool.and_self, Bool.true_and, beq_self_eq_true, opD, Option.isSome]
  have lf : (p.filterMap id).length ≤ p.length := List.length_filterMap_le _ _
  have hd' : ∀ F', 3 ≤ F' → dlenS (dturn ((ev P F').e (d + 1)) (.var 3) (.var 3) (.cst (.bl true)) [some (.int (k : Nat)), some (tQ p), some (lN (p.filterMap id)), none]) ((p.filterMap id).map D.int) [] h = .ok ((p.filterMap id).map D.int) h := by
    intro F' hF'
    obtain ⟨F', rfl⟩ : ∃ j, F' = j + 3 := ⟨F' - 3, by omega⟩
    have := dlenS_nodup (t := dturn ((ev P (F' + 3)).e (d + 1)) (.var 3) (.var 3) (.cst (.bl true)) [some (.int (k : Nat)), some (tQ p), some (lN (p.filterMap id)), none]) (h := h) (p.filterMap id) [] (fun x _ => by
      simp only [dturn, asgC]
      simp -dsimp -implicitDefEqProofs only [↓bL, ↓tL, ↓hL, ↓ev_for, ev_e, ev_s, stepE, stepS, b_ok, b_err, t_ok, t_err, th_n, th_r, th_e, ne_ok, blk, G8.evs, asgT, asg1, asgs, idxD, seqOf, binD, cmpD, setIdxD, D.top, D.nr, if_true, and_self, Bool.false_and, Bool.and_true, biD, List.getElem?_cons_zero, List.getElem?_cons_succ, List.set_cons_zero, List.set_cons_succ, Nat.reduceLeDiff, Bool.false_eq_true, if_false, Bool.not_true, Bool.not_false, evIt, itOf, compI, lstOf, Option.bind_some, isiD, res, Bool.and_self, Bool.true_and, beq_self_eq_true, leafKey]) (by simpa using nd_fm hp) (by simp only [List.length_nil]; show 0 + (p.filterMap id).length ≤ 16777216; omega)
    simpa using this
  have ha : ((p.map fun _ => true).all id) = true := all_true _ p fun x hx => rfl
  have bq : ∀ n : Nat, D.eqv (.int (n : Int)) (.int (n : Int)) = true := fun n => by rw [eqv_int]; simp
  simp -dsimp -implicitDefEqProofs only [↓bL, ↓tL, ↓hL, ↓ev_for, ev_e, ev_s, stepE, stepS, b_ok, b_err, t_ok, t_err, th_n, th_r, th_e, ne_ok, blk, G8.evs, asgT, asg1, asgs, idxD, seqOf, binD, cmpD, setIdxD, D.top, D.nr, if_true, and_self, Bool.false_and, Bool.and_true, biD, List.getElem?_cons_zero, List.getElem?_cons_succ, List.set_cons_zero, List.set_cons_succ, Nat.reduceLeDiff, Bool.false_eq_true, if_false, Bool.not_true, Bool.not_false, evIt, itOf, compI, lstOf, Option.bind_some, isiD, res, Bool.and_self, Bool.true_and, beq_self_eq_true, isiD, List.length_map, hl, bq, fit_int, G8.wipe, hc0, boolsD_map, ha, hc1, hd']
  exact fin_pure (fn := f_is_pair) rfl hw fz_bl
/-- pair, one, two, slots -/
abbrev FoS := List (Option Int) × Int × Int × Option D × Option D × Option D
def foS (f g : List (List Int)) (b : FoS) (m : Mov) : FoS := ((spP f g b.1 m).1, b.2.1 + (spP f g b.1 m).2.1, b.2.2.1 + (spP f g b.1 m).2.2, some (mvD m), some (.int (spP f g b.1 m).2.1), some (.int (spP f g b.1 m).2.2))
theorem foS_fol (f g : List (List Int)) : ∀ (ms : List Mov) (b : FoS), (ms.foldl (foS f g) b).1 = (folL f g b.1 ms).1 ∧ (ms.foldl (foS f g) b).2.1 = b.2.1 + (folL f g b.1 ms).2.1 ∧ (ms.foldl (foS f g) b).2.2.1 = b.2.2.1 + (folL f g b.1 ms).2.2
  | [], b => by simp [folL]
  | m :: ms, b => by
    obtain ⟨e1, e2, e3⟩ := foS_fol f g ms (foS f g b m)
    rw [List.foldl_cons, e1, e2, e3]
    simp only [folL, foS]
    refine ⟨trivial, by omega, by omega⟩
/-- the body's turn -/
theorem follow_turn [HasF P i_follow f_follow] [HasF P i_check_same_ways f_check_same_ways] [HasF P i_check_policy f_check_policy] [HasF P i_is_policy f_is_policy] [HasF P i_is_permutation f_is_permutation] [HasF P i_is_int f_is_int] [HasF P i_is_pair f_is_pair] [HasF P i_moves_of f_moves_of] [HasF P i_step_pair f_step_pair] [HasF P i_after_access f_after_access] {f g : List (List Int)} {k : Nat} (hf : IsPol f) (hg : IsPol g) (lf : f.length = k) (lg : g.length = k) (hw : WS h) {b : FoS} {m : Mov} {s2 s3 : D} (hp : IsPr k b.1) (hm : m ∈ movesL b.1) (F d : Nat) (hF : 100 ≤ F) (hd : 2 ≤ d) :
    turnF (ev P F) d (.var 4) lb_follow_0 (mvD m) [some (tR f), some (tR g), some (tQ b.1), some s3, b.2.2.2.1, some (.int b.2.1), some (.int b.2.2.1), b.2.2.2.2.1, b.2.2.2.2.2, none] h =
      .next [some (tR f), some (tR g), some (tQ (foS f g b m).1), some s3, (foS f g b m).2.2.2.1, some (.int (foS f g b m).2.1), some (.int (foS f g b m).2.2.1), (foS f g b m).2.2.2.2.1, (foS f g b m).2.2.2.2.2, none] h := by
  obtain ⟨F, rfl⟩ : ∃ j, F = j + 100 := ⟨F - 100, by omega⟩
  obtain ⟨d, rfl⟩ : ∃ j, d = j + 2 := ⟨d - 2, by omega⟩
  obtain ⟨p, one, two, x, y, z⟩ := b
  have hp : IsPr k p := hp
  have hm : m ∈ movesL p := hm
  have h4 := hf.hi
  have ok := moves_ok hm
  rw [hp.len] at ok
  have sp := step_pair_spec (P := P) hf hg lf lg hp ok hw
  have mo := moves_of_spec (P := P) (p := p) (by rw [hp.len]; omega) hw
  have it : itOf h false (mvD m) = some (.items [mvK m, mvP m]) := by rw [mvD_kp]; rfl
  have ii : isiD P h (mvD m) .tuple = some true := by rw [mvD_kp]; rfl
  have hc : ∀ (F' : Nat) (s0 s1 s2 s3 s5 s6 s7 s8 : Option D), 10 ≤ F' → compS (turn ((ev P F').e (d + 2)) (.var 9) [] ce_follow_0 [s0, s1, s2, s3, some (mvD m), s5, s6, s7, s8, none]) [mvK m, mvP m] [] h = .ok ([false, false].map D.bl) h := by
    intro F' s0 s1 s2 s3 s5 s6 s7 s8 hF'
    obtain ⟨F', rfl⟩ : ∃ j, F' = j + 10 := ⟨F' - 10, by omega⟩
    have c1 : (([] : List D).length < LIM) = True := by simp
    have c2 : (0 + 1 < LIM) = True := by decide
    cases m <;> simp -dsimp -implicitDefEqProofs only [↓bL, ↓tL, ↓hL, ↓ev_for, ev_e, ev_s, stepE, stepS, b_ok, b_err, t_ok, t_err, th_n, th_r, th_e, ne_ok, blk, G8.evs, asgT, asg1, asgs, idxD, seqOf, binD, cmpD, setIdxD, D.top, D.nr, if_true, and_self, Bool.false_and, Bool.and_true, biD, List.getElem?_cons_zero, List.getElem?_cons_succ, List.set_cons_zero, List.set_cons_succ, Nat.reduceLeDiff, Bool.false_eq_true, if_false, Bool.not_true, Bool.not_false, evIt, itOf, compI, lstOf, Option.bind_some, isiD, res, Bool.and_self, Bool.true_and, beq_self_eq_true, compS, turn, asgC, tests, ce_follow_0, mvK, mvP, c1, List.length_cons, List.length_nil, c2, List.nil_append, List.cons_append] <;> rfl
  have an : ([false, false] : List Bool).any id = false := rfl
  unfold turnF lb_follow_0
  simp -dsimp -implicitDefEqProofs only [↓bL, ↓tL, ↓hL, ↓ev_for, ev_e, ev_s, stepE, stepS, b_ok, b_err, t_ok, t_err, th_n, th_r, th_e, ne_ok, blk, G8.evs, asgT, asg1, asgs, idxD, seqOf, binD, cmpD, setIdxD, D.top, D.nr, if_true, and_self, Bool.false_and, Bool.and_true, biD, List.getElem?_cons_zero, List.getElem?_cons_succ, List.set_cons_zero, List.set_cons_succ, Nat.reduceLeDiff, Bool.false_eq_true, if_false, Bool.not_true, Bool.not_false, evIt, itOf, compI, lstOf, Option.bind_some, isiD, res, Bool.and_self, Bool.true_and, beq_self_eq_true, -isiD, -itOf, ii, it, G8.wipe, hc, boolsD_map, an, mo, in_lM, hm, decide_true, Option.map_some, sp, setAll]
  rfl
theorem follow_inv {f g : List (List Int)} {k : Nat} (hf : IsPol f) (hg : IsPol g) (lf : f.length = k) (lg : g.length = k) {p : List (Option Int)} {ms : List Mov} {m : Mov} (hp : IsPr k p) (hv : vmv f g p (m :: ms)) : m ∈ movesL p ∧ IsPr k (spP f g p m).1 ∧ vmv f g (spP f g p m).1 ms := ⟨hv.1, spP_pr hf hg lf lg hp m, hv.2⟩
/-- the loop, item by item -/
theorem forS_fol {body : D → Sl → Sto → F} {f g : List (List Int)} {k : Nat} (hf : IsPol f) (hg : IsPol g) (lf : f.length = k) (lg : g.length = k) (σ : FoS → Sl) (hb : ∀ b m, IsPr k b.1 → m ∈ movesL b.1 → body (mvD m) (σ b) h = .next (σ (foS f g b m)) h) : ∀ (ms : List Mov) (b : FoS), IsPr k b.1 → vmv f g b.1 ms → forS body (ms.map mvD) (σ b) h = .next (σ (ms.foldl (foS f g) b)) h
  | [], b, _, _ => by simp [forS]
  | m :: ms, b, hp, hv => by
    obtain ⟨v1, v2, v3⟩ := follow_inv hf hg lf lg hp hv
    simp only [List.map_cons, forS, hb b m hp v1, List.foldl_cons]
    exact forS_fol hf hg lf lg σ hb ms (foS f g b m) v2 v3
theorem forD_fol {body : D → Sl → Sto → F} {f g : List (List Int)} {k : Nat} (hf : IsPol f) (hg : IsPol g) (lf : f.length = k) (lg : g.length = k) (σ : FoS → Sl) (hb : ∀ b m, IsPr k b.1 → m ∈ movesL b.1 → body (mvD m) (σ b) h = .next (σ (foS f g b m)) h) {n : Nat} {fl : Bool} {all : List Mov} (hn : h[n]? = some (.lst fl (all.map mvD))) : ∀ (ms : List Mov) (i : Nat) (b : FoS), all.drop i = ms → i + ms.length = all.length → IsPr k b.1 → vmv f g b.1 ms → forD body n false ms.length i (σ b) h = .next (σ (ms.foldl (foS f g) b)) h
  | [], i, b, hd, hl, _, _ => by
    have e : (all.map mvD)[i]? = none := List.getElem?_eq_none (by rw [List.length_map]; simp at hl; omega)
    unfold forD
    simp [itemAt, hn, e]
  | m :: ms, i, b, hd, hl, hp, hv => by
    obtain ⟨v1, v2, v3⟩ := follow_inv hf hg lf lg hp hv
    rw [List.length_cons] at hl
    have hlt : i < all.length := by omega
    have hd2 := List.drop_eq_getElem_cons hlt
    rw [hd] at hd2
    injection hd2 with h1 h2
    have e2 : (all.map mvD)[i]? = some (mvD m) := by rw [List.getElem?_map, List.getElem?_eq_getElem hlt, ← h1]; rfl
    have := forD_fol hf hg lf lg σ hb hn ms (i + 1) (foS f g b m) h2.symm (by omega) v2 v3
    unfold forD
    simp only [List.length_cons, itemAt, hn, e2, hb b m hp v1, Bool.false_eq_true, if_false, List.foldl_cons]
    exact this
theorem follow_spec [HasF P i_follow f_follow] [HasF P i_check_same_ways f_check_same_ways] [HasF P i_check_policy f_check_policy] [HasF P i_is_policy f_is_policy] [HasF P i_is_permutation f_is_permutation] [HasF P i_is_int f_is_int] [HasF P i_is_pair f_is_pair] [HasF P i_moves_of f_moves_of] [HasF P i_step_pair f_step_pair] [HasF P i_after_access f_after_access] {f g : List (List Int)} {k : Nat} {p : List (Option Int)} {ms : List Mov} {md : D} (hf : IsPol f) (hg : IsPol g) (lf : f.length = k) (lg : g.length = k) (hp : IsPr k p) (hl : ms.length ≤ 2000) (hv : vmv f g p ms) (hmd : LW h md (ms.map mvD)) (hw : WS h) (F d : Nat) (hF : 140 ≤ F) (hd : 6 ≤ d) :
    (ev P F).c d i_follow [tR f, tR g, tQ p, md] h = .ok (.tup [tQ (folL f g p ms).1, .int (folL f g p ms).2.1, .int (folL f g p ms).2.2]) h := by
  obtain ⟨F, rfl⟩ : ∃ j, F = j + 140 := ⟨F - 140, by omega⟩
  obtain ⟨d, rfl⟩ : ∃ j, d = j + 6 := ⟨d - 6, by omega⟩
  rw [call_eq (fn := f_follow) rfl]
  simp -dsimp -implicitDefEqProofs only [f_follow, G8.start, List.length_cons, List.length_nil, List.map_cons, List.map_nil, List.replicate, Nat.reduceAdd, Nat.reduceSub, List.cons_append, List.nil_append]
  have h4 := hf.hi
  have cw := check_same_ways_spec (P := P) hf hg (by omega) hw
  have ip := is_pair_spec (P := P) hp (by omega) hw
  obtain ⟨e1, e2, e3⟩ := foS_fol f g ms (p, 0, 0, none, none, none)
  simp only [Int.zero_add] at e1 e2 e3
  have l1 : decide (2000 < (ms.length : Int)) = false := by simp; omega
  have plr : D.pl 12 (.tup [tQ (folL f g p ms).1, .int (folL f g p ms).2.1, .int (folL f g p ms).2.2]) = true := by
    have := pl_tO 8 (folL f g p ms).1
    simp only [D.pl, D.pls, Bool.and_true] at this ⊢
    exact this
  rcases hmd with rfl | ⟨n, fl, rfl, hn, e⟩
  · have lp : ∀ F', 100 ≤ F' → forS (turnF (ev P F') (d + 5) (.var 4) lb_follow_0) (ms.map mvD) [some (tR f), some (tR g), some (tQ p), some (lM ms), none, some (.int 0), some (.int 0), none, none, none] h = .next [some (tR f), some (tR g), some (tQ (folL f g p ms).1), some (lM ms), (ms.foldl (foS f g) (p, 0, 0, none, none, none)).2.2.2.1, some (.int (folL f g p ms).2.1), some (.int (folL f g p ms).2.2), (ms.foldl (foS f g) (p, 0, 0, none, none, none)).2.2.2.2.1, (ms.foldl (foS f g) (p, 0, 0, none, none, none)).2.2.2.2.2, none] h := by
      intro F' hF'
      have := forS_fol (h := h) (body := turnF (ev P F') (d + 5) (.var 4) lb_follow_0) hf hg lf lg (fun b : FoS => [some (tR f), some (tR g), some (tQ b.1), some (lM ms), b.2.2.2.1, some (.int b.2.1), some (.int b.2.2.1), b.2.2.2.2.1, b.2.2.2.2.2, none]) (fun b m hp hm => follow_turn (s2 := .non) hf hg lf lg hw hp hm F' (d + 5) hF' (by omega)) ms (p, 0, 0, none, none, none) hp hv
      rw [e1, e2, e3] at this
      exact this
    simp -dsimp -implicitDefEqProofs only [↓bL, ↓tL, ↓hL, ↓ev_for, ev_e, ev_s, stepE, stepS, b_ok, b_err, t_ok, t_err, th_n, th_r, th_e, ne_ok, blk, G8.evs, asgT, asg1, asgs, idxD, seqOf, binD, cmpD, setIdxD, D.top, D.nr, if_true, and_self, Bool.false_and, Bool.and_true, biD, List.getElem?_cons_zero, List.getElem?_cons_succ, List.set_cons_zero, List.set_cons_succ, Nat.reduceLeDiff, Bool.false_eq_true, if_false, Bool.not_true, Bool.not_false, evIt, itOf, compI, lstOf, Option.bind_some, isiD, res, Bool.and_self, Bool.true_and, beq_self_eq_true, cw, List.length_map, lf, ip, l1, lp]
    exact fin_pure (fn := f_follow) rfl hw (fz_pl _ _ plr)
  · have lp : ∀ F', 100 ≤ F' → forD (turnF (ev P F') (d + 5) (.var 4) lb_follow_0) n false ms.length 0 [some (tR f), some (tR g), some (tQ p), some (.ref n), none, some (.int 0), some (.int 0), none, none, none] h = .next [some (tR f), some (tR g), some (tQ (folL f g p ms).1), some (.ref n), (ms.foldl (foS f g) (p, 0, 0, none, none, none)).2.2.2.1, some (.int (folL f g p ms).2.1), some (.int (folL f g p ms).2.2), (ms.foldl (foS f g) (p, 0, 0, none, none, none)).2.2.2.2.1, (ms.foldl (foS f g) (p, 0, 0, none, none, none)).2.2.2.2.2, none] h := by
      intro F' hF'
      have := forD_fol (h := h) (body := turnF (ev P F') (d + 5) (.var 4) lb_follow_0) hf hg lf lg (fun b : FoS => [some (tR f), some (tR g), some (tQ b.1), some (.ref n), b.2.2.2.1, some (.int b.2.1), some (.int b.2.2.1), b.2.2.2.2.1, b.2.2.2.2.2, none]) (fun b m hp hm => follow_turn (s2 := .non) hf hg lf lg hw hp hm F' (d + 5) hF' (by omega)) e ms 0 (p, 0, 0, none, none, none) rfl (by omega) hp hv
      rw [e1, e2, e3] at this
      exact this
    have la : lenAt h n = ms.length := by simp only [lenAt, e, List.length_map]
    simp -dsimp -implicitDefEqProofs only [↓bL, ↓tL, ↓hL, ↓ev_for, ev_e, ev_s, stepE, stepS, b_ok, b_err, t_ok, t_err, th_n, th_r, th_e, ne_ok, blk, G8.evs, asgT, asg1, asgs, idxD, seqOf, binD, cmpD, setIdxD, D.top, D.nr, if_true, and_self, Bool.false_and, Bool.and_true, biD, List.getElem?_cons_zero, List.getElem?_cons_succ, List.set_cons_zero, List.set_cons_succ, Nat.reduceLeDiff, Bool.false_eq_true, if_false, Bool.not_true, Bool.not_false, evIt, itOf, compI, lstOf, Option.bind_some, isiD, res, Bool.and_self, Bool.true_and, beq_self_eq_true, cw, List.length_map, lf, ip, e, l1, la, lp]
    exact fin_pure (fn := f_follow) rfl hw (fz_pl _ _ plr)
theorem pick_spec [HasF P i__law_pick f__law_pick] [HasF P i__law_draw f__law_draw] {s : Dw} {r : Sto} {cs : List D} (hr : RK r) (h0 : cs ≠ []) (h1 : cs.length < 1000) (hpl : ∀ c ∈ cs, D.pl 12 c = true) (F d : Nat) (hF : 40 ≤ F) (hd : 2 ≤ d) :
    (ev P F).c d i__law_pick [.ref 1, .lst cs] (DS s r) = .ok (cs.getD (s.v (cs.length : Nat)).toNat .non) (DS (s.n (cs.length : Nat)) r) := by
  obtain ⟨F, rfl⟩ : ∃ j, F = j + 40 := ⟨F - 40, by omega⟩
  obtain ⟨d, rfl⟩ : ∃ j, d = j + 2 := ⟨d - 2, by omega⟩
  rw [call_eq (fn := f__law_pick) rfl]
  simp -dsimp -implicitDefEqProofs only [f__law_pick, G8.start, List.length_cons, List.length_nil, List.map_cons, List.map_nil, List.replicate, Nat.reduceAdd, Nat.reduceSub, List.cons_append, List.nil_append]
  have hl : 0 < cs.length := List.length_pos_iff.mpr h0
  have l0 : (0 : Int) < (cs.length : Int) := by omega
  have v0 := s.v_ge l0
  have v1 := s.v_lt l0
  have g := getD_get (xs := cs) (k := (s.v (cs.length : Nat)).toNat) (d := D.non) (by omega)
  simp -dsimp -implicitDefEqProofs only [↓bL, ↓tL, ↓hL, ↓ev_for, ev_e, ev_s, stepE, stepS, b_ok, b_err, t_ok, t_err, th_n, th_r, th_e, ne_ok, blk, G8.evs, asgT, asg1, asgs, idxD, seqOf, binD, cmpD, setIdxD, D.top, D.nr, if_true, and_self, Bool.false_and, Bool.and_true, biD, List.getElem?_cons_zero, List.getElem?_cons_succ, List.set_cons_zero, List.set_cons_succ, Nat.reduceLeDiff, Bool.false_eq_true, if_false, Bool.not_true, Bool.not_false, evIt, itOf, compI, lstOf, Option.bind_some, isiD, res, Bool.and_self, Bool.true_and, beq_self_eq_true, draw_spec hr l0 (by omega), ixN_pos v0 v1, g]
  exact fin_pure (fn := f__law_pick) rfl (ws_DS hr) (fz_pl _ _ (hpl _ (getD_mem (by omega))))
end
end G8

set_option Elab.async false
set_option linter.all false
set_option maxRecDepth 100000
set_option maxHeartbeats 4000000
namespace G8
theorem ds_app {s : Dw} {r t : Sto} : DS s r ++ t = DS s (r ++ t) := rfl
theorem ds_len {s : Dw} {r : Sto} : (DS s r).length = r.length + 2 := rfl
theorem ds_g2 {s : Dw} {o : O} {r : Sto} : (DS s (o :: r))[2]? = some o := rfl
theorem ds_s2 {s : Dw} {o o' : O} {r : Sto} : (DS s (o :: r)).set 2 o' = DS s (o' :: r) := rfl
namespace K11
/-- both states, the moves, the misses -/
def go (f g : List (List Int)) : List Int → List Int → List Int → List Mov × List Int × List Int × Int × Int
  | a, b, [] => ([], a, b, 0, 0)
  | a, b, x :: xs => (mvOf a b x :: (go f g (stepL f a x).1 (stepL g b x).1 xs).1, (go f g (stepL f a x).1 (stepL g b x).1 xs).2.1, (go f g (stepL f a x).1 (stepL g b x).1 xs).2.2.1, mi (stepL f a x).2 + (go f g (stepL f a x).1 (stepL g b x).1 xs).2.2.2.1, mi (stepL g b x).2 + (go f g (stepL f a x).1 (stepL g b x).1 xs).2.2.2.2)
theorem go_len (f g : List (List Int)) : ∀ (xs a b : List Int), (go f g a b xs).1.length = xs.length
  | [], _, _ => rfl
  | x :: xs, a, b => by simp only [go, List.length_cons, go_len f g xs]
theorem go_fol {f g : List (List Int)} (hf : IsPol f) (hg : IsPol g) (hfg : f.length = g.length) : ∀ (xs a b : List Int), a.length = f.length → b.length = f.length → a.Nodup → b.Nodup →
    folL f g (relF a b) (go f g a b xs).1 = (relF (go f g a b xs).2.1 (go f g a b xs).2.2.1, (go f g a b xs).2.2.2.1, (go f g a b xs).2.2.2.2) ∧ vmv f g (relF a b) (go f g a b xs).1
  | [], a, b, _, _, _, _ => ⟨rfl, trivial⟩
  | x :: xs, a, b, la, lb, na, nb => by
    have f2 := hf.lo
    have e := spP_real (x := x) hf hg la (by omega) (by omega) na nb
    have n1 : a ≠ [] := fun z => by rw [z] at la; simp at la; omega
    have n2 : b ≠ [] := fun z => by rw [z] at lb; simp at lb; omega
    obtain ⟨i1, i2⟩ := go_fol hf hg hfg xs (stepL f a x).1 (stepL g b x).1 (by rw [stepL_len n1, la]) (by rw [stepL_len n2, lb]) (stepL_nodup hf la na) (stepL_nodup hg (by omega) nb)
    simp only [go, folL, vmv, e, i1]
    exact ⟨trivial, mem_moves_of (by omega) na nb, i2⟩
theorem fol_app (f g : List (List Int)) : ∀ (ms ms' : List Mov) (p : List (Option Int)), folL f g p (ms ++ ms') = ((folL f g (folL f g p ms).1 ms').1, (folL f g p ms).2.1 + (folL f g (folL f g p ms).1 ms').2.1, (folL f g p ms).2.2 + (folL f g (folL f g p ms).1 ms').2.2)
  | [], ms', p => by simp [folL]
  | m :: ms, ms', p => by
    simp only [List.cons_append, folL, fol_app f g ms ms' _, Prod.mk.injEq]
    refine ⟨trivial, by omega, by omega⟩
theorem vmv_app {f g : List (List Int)} : ∀ {ms ms' : List Mov} {p : List (Option Int)}, vmv f g p (ms ++ ms') → vmv f g p ms ∧ vmv f g (folL f g p ms).1 ms'
  | [], ms', p, h => ⟨trivial, h⟩
  | m :: ms, ms', p, h => by
    obtain ⟨h1, h2⟩ := h
    obtain ⟨i1, i2⟩ := vmv_app h2
    exact ⟨⟨h1, i1⟩, i2⟩
theorem fol_pr {f g : List (List Int)} {k : Nat} (hf : IsPol f) (hg : IsPol g) (lf : f.length = k) (lg : g.length = k) : ∀ (ms : List Mov) {p : List (Option Int)}, IsPr k p → IsPr k (folL f g p ms).1
  | [], _, h => h
  | m :: ms, p, h => fol_pr hf hg lf lg ms (spP_pr hf hg lf lg h m)
/-- a, b, moves, misses, slots -/
abbrev St := List Int × List Int × List Mov × Int × Int × Option D × Option D × Option D
def stp (f g : List (List Int)) (b : St) (x : Int) : St :=
  ((stepL f b.1 x).1, (stepL g b.2.1 x).1, b.2.2.1 ++ [mvOf b.1 b.2.1 x], b.2.2.2.1 + mi (stepL f b.1 x).2, b.2.2.2.2.1 + mi (stepL g b.2.1 x).2, some (.int x), some (mvD (mvOf b.1 b.2.1 x)), some (.tup [.tup [tN (stepL f b.1 x).1, .bl (stepL f b.1 x).2], .tup [tN (stepL g b.2.1 x).1, .bl (stepL g b.2.1 x).2]]))
theorem stp_go (f g : List (List Int)) : ∀ (xs : List Int) (b : St), (xs.foldl (stp f g) b).1 = (go f g b.1 b.2.1 xs).2.1 ∧ (xs.foldl (stp f g) b).2.1 = (go f g b.1 b.2.1 xs).2.2.1 ∧ (xs.foldl (stp f g) b).2.2.1 = b.2.2.1 ++ (go f g b.1 b.2.1 xs).1 ∧ (xs.foldl (stp f g) b).2.2.2.1 = b.2.2.2.1 + (go f g b.1 b.2.1 xs).2.2.2.1 ∧ (xs.foldl (stp f g) b).2.2.2.2.1 = b.2.2.2.2.1 + (go f g b.1 b.2.1 xs).2.2.2.2
  | [], b => by simp [go]
  | x :: xs, b => by
    obtain ⟨e1, e2, e3, e4, e5⟩ := stp_go f g xs (stp f g b x)
    rw [List.foldl_cons, e1, e2, e3, e4, e5]
    simp only [stp, go, List.append_assoc, List.cons_append, List.nil_append]
    refine ⟨trivial, trivial, trivial, by omega, by omega⟩
section
variable {P : Prg} {h : Sto}
theorem law_follow_spec [HasF P i__law_follow f__law_follow] [HasF P i_follow f_follow] [HasF P i_check_same_ways f_check_same_ways] [HasF P i_check_policy f_check_policy] [HasF P i_is_policy f_is_policy] [HasF P i_is_permutation f_is_permutation] [HasF P i_is_int f_is_int] [HasF P i_is_pair f_is_pair] [HasF P i_moves_of f_moves_of] [HasF P i_step_pair f_step_pair] [HasF P i_after_access f_after_access] [HasF P i__law_error f__law_error] {f g : List (List Int)} {k : Nat} {p : List (Option Int)} {ms : List Mov} {md : D} (hf : IsPol f) (hg : IsPol g) (lf : f.length = k) (lg : g.length = k) (hp : IsPr k p) (hl : ms.length ≤ 2000) (hv : vmv f g p ms) (hmd : LW h md (ms.map mvD)) (hw : WS h) (F d : Nat) (hF : 160 ≤ F) (hd : 7 ≤ d) :
    (ev P F).c d i__law_follow [tR f, tR g, tQ p, md] h = .ok (.tup [tQ (folL f g p ms).1, .int (folL f g p ms).2.1, .int (folL f g p ms).2.2]) h := by
  obtain ⟨F, rfl⟩ : ∃ j, F = j + 160 := ⟨F - 160, by omega⟩
  obtain ⟨d, rfl⟩ : ∃ j, d = j + 7 := ⟨d - 7, by omega⟩
  rw [call_eq (fn := f__law_follow) rfl]
  simp -dsimp -implicitDefEqProofs only [f__law_follow, G8.start, List.length_cons, List.length_nil, List.map_cons, List.map_nil, List.replicate, Nat.reduceAdd, Nat.reduceSub, List.cons_append, List.nil_append]
  have plr : D.pl 12 (.tup [tQ (folL f g p ms).1, .int (folL f g p ms).2.1, .int (folL f g p ms).2.2]) = true := by
    have := pl_tO 8 (folL f g p ms).1
    simp only [D.pl, D.pls, Bool.and_true] at this ⊢
    exact this
  simp -dsimp -implicitDefEqProofs only [↓bL, ↓tL, ↓hL, ↓ev_for, ev_e, ev_s, stepE, stepS, b_ok, b_err, t_ok, t_err, th_n, th_r, th_e, ne_ok, blk, G8.evs, asgT, asg1, asgs, idxD, seqOf, binD, cmpD, setIdxD, D.top, D.nr, if_true, and_self, Bool.false_and, Bool.and_true, biD, List.getElem?_cons_zero, List.getElem?_cons_succ, List.set_cons_zero, List.set_cons_succ, Nat.reduceLeDiff, Bool.false_eq_true, if_false, Bool.not_true, Bool.not_false, evIt, itOf, compI, lstOf, Option.bind_some, isiD, res, Bool.and_self, Bool.true_and, beq_self_eq_true, follow_spec hf hg lf lg hp hl hv hmd hw]
  exact fin_pure (fn := f__law_follow) rfl hw (fz_pl _ _ plr)
theorem rel_comp {ce : IE} {F d i : Nat} {σ : Sl} {one two : List Int} {td : IE} (hce : ce = .ite (.cmp .isin (.var i) td) (.mb .index td [.var i]) (.cst .non)) (hF : 20 ≤ F) (hi : i < σ.length) (h1 : one.length ≤ 1000)
    (ht : ∀ (F' : Nat) (x : Int), 10 ≤ F' → (ev P F').e d td (σ.set i (some (.int x))) h = .ok (tN two) h) :
    compS (turn ((ev P F).e d) (.var i) [] ce σ) (one.map D.int) [] h = .ok ((relF one two).map opD) h := by
  obtain ⟨F, rfl⟩ : ∃ j, F = j + 20 := ⟨F - 20, by omega⟩
  rw [compS_map D.int (fun b => opD (if b ∈ two then some ((two.idxOf b : Nat) : Int) else none)) one [] (fun x hx => ?_) (by show 0 + one.length ≤ 16777216; omega), List.nil_append]
  · unfold relF; rw [List.map_map]; rfl
  · simp only [turn, asgC, tests, hce]
    have gv : (σ.set i (some (.int x)))[i]? = some (some (.int x)) := List.getElem?_set_self hi
    have t1 := fun F' => ht F' x
    by_cases hm : x ∈ two
    · have i1 := idxOf_map D.int eqv_int x two hm
      simp -dsimp -implicitDefEqProofs only [↓bL, ↓tL, ↓hL, ↓ev_for, ev_e, ev_s, stepE, stepS, b_ok, b_err, t_ok, t_err, th_n, th_r, th_e, ne_ok, blk, G8.evs, asgT, asg1, asgs, idxD, seqOf, binD, cmpD, setIdxD, D.top, D.nr, if_true, and_self, Bool.false_and, Bool.and_true, biD, List.getElem?_cons_zero, List.getElem?_cons_succ, List.set_cons_zero, List.set_cons_succ, Nat.reduceLeDiff, Bool.false_eq_true, if_false, Bool.not_true, Bool.not_false, evIt, itOf, compI, lstOf, Option.bind_some, isiD, res, Bool.and_self, Bool.true_and, beq_self_eq_true, gv, ↓t1, in_tN, hm, decide_true, mbPre, mbD, i1]
      rfl
    · simp -dsimp -implicitDefEqProofs only [↓bL, ↓tL, ↓hL, ↓ev_for, ev_e, ev_s, stepE, stepS, b_ok, b_err, t_ok, t_err, th_n, th_r, th_e, ne_ok, blk, G8.evs, asgT, asg1, asgs, idxD, seqOf, binD, cmpD, setIdxD, D.top, D.nr, if_true, and_self, Bool.false_and, Bool.and_true, biD, List.getElem?_cons_zero, List.getElem?_cons_succ, List.set_cons_zero, List.set_cons_succ, Nat.reduceLeDiff, Bool.false_eq_true, if_false, Bool.not_true, Bool.not_false, evIt, itOf, compI, lstOf, Option.bind_some, isiD, res, Bool.and_self, Bool.true_and, beq_self_eq_true, gv, ↓t1, in_tN, hm, decide_false]
      rfl
end
end K11
open K11
section
variable {P : Prg}
theorem law_k11 [HasF P i_law_k11 f_law_k11] [HasF P i__law_start f__law_start] [HasF P i__law_draw f__law_draw] [HasF P i__law_policy f__law_policy] [HasF P i__law_recent f__law_recent] [HasF P i__law_permutation f__law_permutation] [HasF P i__law_state f__law_state] [HasF P i__law_pick f__law_pick] [HasF P i__law_sequence f__law_sequence] [HasF P i__law_follow f__law_follow] [HasF P i_follow f_follow] [HasF P i_check_same_ways f_check_same_ways] [HasF P i_check_policy f_check_policy] [HasF P i_is_policy f_is_policy] [HasF P i_is_permutation f_is_permutation] [HasF P i_is_int f_is_int] [HasF P i_is_pair f_is_pair] [HasF P i_moves_of f_moves_of] [HasF P i_step_pair f_step_pair] [HasF P i_after_access f_after_access] [HasF P i__law_error f__law_error] [HasF P i__law_step f__law_step] : LawOk P 40 i_law_k11 63 := by
  intro ns hns
  obtain ⟨s0, e0⟩ : ∃ s0, s0 = Dw.s0 ns := ⟨_, rfl⟩
  have w1 := s0.v_ge (show (0 : Int) < 3 by omega)
  have w2 := s0.v_lt (show (0 : Int) < 3 by omega)
  obtain ⟨n, hn⟩ : ∃ n : Nat, 2 + s0.v 3 = (n : Int) := ⟨(2 + s0.v 3).toNat, by omega⟩
  have hn2 : 2 ≤ n := by omega
  have hn4 : n ≤ 4 := by omega
  obtain ⟨s1, e1⟩ : ∃ s1, s1 = s0.n 3 := ⟨_, rfl⟩
  have hf := polF_pol s1 hn2 hn4
  have lf := polF_length s1 (n := n)
  obtain ⟨f, ef⟩ : ∃ f, f = polF s1 n := ⟨_, rfl⟩
  rw [← ef] at hf lf
  obtain ⟨s2, e2⟩ : ∃ s2, s2 = polN s1 n := ⟨_, rfl⟩
  have hg := polF_pol s2 hn2 hn4
  have lg := polF_length s2 (n := n)
  obtain ⟨g, eg⟩ : ∃ g, g = polF s2 n := ⟨_, rfl⟩
  rw [← eg] at hg lg
  obtain ⟨s3, e3⟩ : ∃ s3, s3 = polN s2 n := ⟨_, rfl⟩
  obtain ⟨m, hm⟩ : ∃ m : Nat, (n : Int) + 3 = (m : Int) := ⟨n + 3, by omega⟩
  obtain ⟨one, eo⟩ : ∃ one, one = (permF s3 m).take n := ⟨_, rfl⟩
  have ho : IsSt f one := by rw [eo]; exact take_st s3 lf (by omega) (by omega)
  obtain ⟨s4, e4⟩ : ∃ s4, s4 = permN s3 m := ⟨_, rfl⟩
  obtain ⟨ot, et⟩ : ∃ ot, ot = (permF s4 m).take n := ⟨_, rfl⟩
  have hot : IsSt f ot := by rw [et]; exact take_st s4 lf (by omega) (by omega)
  obtain ⟨s5, e5⟩ : ∃ s5, s5 = permN s4 m := ⟨_, rfl⟩
  obtain ⟨s6, e6⟩ : ∃ s6, s6 = s5.n 2 := ⟨_, rfl⟩
  have hr : RK ([] : Sto) := rk_nil
  have pk := pick_spec (P := P) (s := s5) (cs := [tN one, tN ot]) hr (by simp) (by simp) (by
    intro c hc
    simp only [List.mem_cons, List.not_mem_nil, or_false] at hc
    rcases hc with rfl | rfl
    · exact pl_tN 10 _
    · exact pl_tN 10 _)
  obtain ⟨two, ew, htw⟩ : ∃ two, [tN one, tN ot].getD (s5.v 2).toNat .non = tN two ∧ IsSt f two := by
    have v0 := s5.v_ge (show (0 : Int) < 2 by omega)
    have v1 := s5.v_lt (show (0 : Int) < 2 by omega)
    obtain q | q : s5.v 2 = 0 ∨ s5.v 2 = 1 := by omega
    · exact ⟨one, by rw [q]; rfl, ho⟩
    · exact ⟨ot, by rw [q]; rfl, hot⟩
  have pk : ∀ (F d : Nat), 40 ≤ F → 2 ≤ d → (ev P F).c d i__law_pick [.ref 1, .lst [tN one, tN ot]] (DS s5 []) = .ok (tN two) (DS s6 []) := fun F d a b => by
    have := pk F d a b
    rw [show (([tN one, tN ot].length : Nat) : Int) = 2 from rfl, ew, ← e6] at this
    exact this
  have w5 := s6.v_ge (show (0 : Int) < 25 by omega)
  have w6 := s6.v_lt (show (0 : Int) < 25 by omega)
  obtain ⟨l, hl⟩ : ∃ l : Nat, s6.v 25 = (l : Int) := ⟨(s6.v 25).toNat, by omega⟩
  obtain ⟨s7, e7⟩ : ∃ s7, s7 = s6.n 25 := ⟨_, rfl⟩
  obtain ⟨xs, ex⟩ : ∃ xs, xs = seqF s7 l ((m : Int) + 1) := ⟨_, rfl⟩
  have hxl : xs.length = l := by rw [ex]; exact seqF_length _ _ _
  have hx0 : ∀ x ∈ xs, 0 ≤ x ∧ x ≤ 1000000000 := fun x h => by
    rw [ex] at h
    have := seqF_rg s7 l (lim := (m : Int) + 1) (by omega) x h
    omega
  obtain ⟨s8, e8⟩ : ∃ s8, s8 = seqN s7 l ((m : Int) + 1) := ⟨_, rfl⟩
  have lo : one.length = n := by rw [ho.len, lf]
  have lt : two.length = n := by rw [htw.len, lf]
  obtain ⟨gf, gv⟩ := go_fol hf hg (by omega) xs one two (by omega) (by omega) ho.nd htw.nd
  have gl := go_len f g xs one two
  obtain ⟨ms, fa, fb, c0, c1, eG⟩ : ∃ ms fa fb c0 c1, go f g one two xs = (ms, fa, fb, c0, c1) := ⟨_, _, _, _, _, rfl⟩
  rw [eG] at gf gv gl
  simp only at gf gv gl
  obtain ⟨g1, g2, g3, g4, g5⟩ := stp_go f g xs (one, two, [], 0, 0, none, none, none)
  rw [eG] at g1 g2 g3 g4 g5
  simp only [List.nil_append, Int.zero_add] at g1 g2 g3 g4 g5
  have hpr := relF_pr (a := one) (b := two) (by omega) ho.nd
  rw [lo] at hpr
  have RKm : ∀ ys : List D, RK [.lst true ys] := fun ys => rfl
  have hwm : ∀ (s : Dw) (ys : List D), WS (DS s [.lst true ys]) := fun s ys => ws_DS (RKm ys)
  have w7 := s8.v_ge (show (0 : Int) < (ms.length : Int) + 1 by omega)
  have w8 := s8.v_lt (show (0 : Int) < (ms.length : Int) + 1 by omega)
  obtain ⟨mid, hmid⟩ : ∃ mid : Nat, s8.v ((ms.length : Int) + 1) = (mid : Int) := ⟨(s8.v ((ms.length : Int) + 1)).toNat, by omega⟩
  obtain ⟨s9, e9⟩ : ∃ s9, s9 = s8.n ((ms.length : Int) + 1) := ⟨_, rfl⟩
  refine ⟨300, ?_⟩
  rw [call_eq (fn := f_law_k11) rfl]
  simp -dsimp -implicitDefEqProofs only [f_law_k11, G8.start, List.length_cons, List.length_nil, List.map_cons, List.map_nil, List.replicate, Nat.reduceAdd, Nat.reduceSub, List.cons_append, List.nil_append]
  have q1 := start_spec (P := P) (ns := ns) (by omega)
  rw [← e0] at q1
  have q2 := draw_spec (P := P) (s := s0) hr (show (0 : Int) < 3 by omega) (by omega)
  rw [← e1] at q2
  have q3 := policy_spec (P := P) (s := s1) hr hn2 hn4
  rw [← ef, ← e2] at q3
  have q4 := policy_spec (P := P) (s := s2) hr hn2 hn4
  rw [← eg, ← e3] at q4
  have q5 := state_spec (P := P) (s := s3) hr (show n ≤ m by omega) (show m ≤ 1000000 by omega)
  rw [← eo, ← e4] at q5
  have q6 := state_spec (P := P) (s := s4) hr (show n ≤ m by omega) (show m ≤ 1000000 by omega)
  rw [← et, ← e5] at q6
  have q7 := draw_spec (P := P) (s := s6) hr (show (0 : Int) < 25 by omega) (by omega)
  rw [← e7] at q7
  have q8 := sequence_spec (P := P) (s := s7) (n := l) hr (by omega) (show (0 : Int) < (m : Int) + 1 by omega) (by omega)
  rw [← ex, ← e8] at q8
  have q9 := draw_spec (P := P) (s := s8) (r := [.lst true (ms.map mvD)]) (RKm _) (show (0 : Int) < (ms.length : Int) + 1 by omega) (by omega)
  rw [← e9] at q9
  have i0 : G8.ixN (0 + 1 + 1) 0 = some 0 := rfl
  have i1 : G8.ixN (0 + 1 + 1) 1 = some 1 := rfl
  have hc0 : ∀ (F' : Nat) (h : Sto), 20 ≤ F' → compS (turn ((ev P F').e 39) (.var 8) [] ce_law_k11_0 [some (.scr (ns.map .int)), some (.ref 1), some (.int (n : Nat)), some (.int (m : Nat)), some (tN one), some (tN two), none, none, none, none, none, none, none, some (tR f), some (tR g), none, none, none, none, none, none]) (one.map D.int) [] h = .ok ((relF one two).map opD) h := by
    intro F' h hF'
    exact rel_comp (td := .var 5) rfl hF' (by simp) (by omega) fun F'' x hF'' => by
      obtain ⟨F'', rfl⟩ : ∃ j, F'' = j + 10 := ⟨F'' - 10, by omega⟩
      simp -dsimp -implicitDefEqProofs only [↓bL, ↓tL, ↓hL, ↓ev_for, ev_e, ev_s, stepE, stepS, b_ok, b_err, t_ok, t_err, th_n, th_r, th_e, ne_ok, blk, G8.evs, asgT, asg1, asgs, idxD, seqOf, binD, cmpD, setIdxD, D.top, D.nr, if_true, and_self, Bool.false_and, Bool.and_true, biD, List.getElem?_cons_zero, List.getElem?_cons_succ, List.set_cons_zero, List.set_cons_succ, Nat.reduceLeDiff, Bool.false_eq_true, if_false, Bool.not_true, Bool.not_false, evIt, itOf, compI, lstOf, Option.bind_some, isiD, res, Bool.and_self, Bool.true_and, beq_self_eq_true]
  have lp : ∀ F', 100 ≤ F' → forS (turnF (ev P F') 39 (.var 8) lb_law_k11_0) (xs.map D.int) [some (.scr (ns.map .int)), some (.ref 1), some (.int (n : Nat)), some (.int (m : Nat)), some (tN one), some (tN two), some (tQ (relF one two)), some (lN xs), none, none, none, none, none, some (tR f), some (tR g), some (.ref 2), some (.lst [.int 0, .int 0]), some (.tup [tN one, tN two]), none, none, none] (DS s8 [.lst true []]) =
      .next [some (.scr (ns.map .int)), some (.ref 1), some (.int (n : Nat)), some (.int (m : Nat)), some (tN one), some (tN two), some (tQ (relF one two)), some (lN xs), (xs.foldl (stp f g) (one, two, [], 0, 0, none, none, none)).2.2.2.2.2.1, none, none, none, none, some (tR f), some (tR g), some (.ref 2), some (.lst [.int c0, .int c1]), some (.tup [tN fa, tN fb]), (xs.foldl (stp f g) (one, two, [], 0, 0, none, none, none)).2.2.2.2.2.2.1, (xs.foldl (stp f g) (one, two, [], 0, 0, none, none, none)).2.2.2.2.2.2.2, none] (DS s8 [.lst true (ms.map mvD)]) := by
    intro F' hF'
    obtain ⟨F', rfl⟩ : ∃ j, F' = j + 100 := ⟨F' - 100, by omega⟩
    have := (forS_fold (body := turnF (ev P (F' + 100)) 39 (.var 8) lb_law_k11_0) D.int
      (fun b : St => [some (.scr (ns.map .int)), some (.ref 1), some (.int (n : Nat)), some (.int (m : Nat)), some (tN one), some (tN two), some (tQ (relF one two)), some (lN xs), b.2.2.2.2.2.1, none, none, none, none, some (tR f), some (tR g), some (.ref 2), some (.lst [.int b.2.2.2.1, .int b.2.2.2.2.1]), some (.tup [tN b.1, tN b.2.1]), b.2.2.2.2.2.2.1, b.2.2.2.2.2.2.2, none]) (fun b => DS s8 [.lst true (b.2.2.1.map mvD)]) (stp f g) (fun k b => b.2.2.1.length = k ∧ IsSt f b.1 ∧ IsSt f b.2.1) xs 0 (one, two, [], 0, 0, none, none, none) ⟨rfl, ho, htw⟩ (fun k b x hx hk hI => by
        obtain ⟨a, b, ms, k0, k1, o8, o18, o19⟩ := b
        obtain ⟨hI, ha, hb⟩ := hI
        have hI : ms.length = k := hI
        have ha : IsSt f a := ha
        have hb : IsSt f b := hb
        have hb' : IsSt g b := ⟨by rw [hb.len]; omega, hb.rg, hb.nd⟩
        have hx0' := hx0 x hx
        have okb := stepL_ok hg hb' hx0'.1 hx0'.2
        refine ⟨?_, by simp only [stp, List.length_append, List.length_cons, List.length_nil]; omega, stepL_ok hf ha hx0'.1 hx0'.2, ⟨show (stepL g b x).1.length = f.length by rw [okb.len]; omega, okb.rg, okb.nd⟩⟩
        have l1 : (ms.length < LIM) = True := by simp only [eq_iff_iff, iff_true]; show ms.length < 16777216; omega
        have sA := law_step_spec (P := P) (b := x) hf ha (hwm s8 (ms.map mvD ++ [mvD (mvOf a b x)]))
        have sB := law_step_spec (P := P) (b := x) hg hb' (hwm s8 (ms.map mvD ++ [mvD (mvOf a b x)]))
        have tm : D.top (mvD (mvOf a b x)) = true := top_pl (pl_mv 0 _)
        have nm : D.nr (mvD (mvOf a b x)) = true := nr_pl 2 _ (pl_mv 0 _)
        have cc0 : (([] : List D).length < LIM) = True := by simp
        have cc1 : (0 + 1 < LIM) = True := by decide
        have hc : ∀ (F'' : Nat) (h : Sto) (s0 s1 s2 s3 s4 s5 s6 s7 s8 s9 s10 s11 s12 s13 s14 s15 s17 s18 : Option D) (y z : Bool), 20 ≤ F'' → compS (turn ((ev P F'').e 39) (.var 20) [] ce_law_k11_1 [s0, s1, s2, s3, s4, s5, s6, s7, s8, s9, s10, s11, s12, s13, s14, s15, some (.lst [.int k0, .int k1]), s17, s18, some (.tup [.tup [tN (stepL f a x).1, .bl y], .tup [tN (stepL g b x).1, .bl z]]), none]) [.int 0, .int 1] [] h = .ok [.int (k0 + mi y), .int (k1 + mi z)] h := by
          intro F'' h s0 s1 s2 s3 s4 s5 s6 s7 s8 s9 s10 s11 s12 s13 s14 s15 s17 s18 y z hF''
          obtain ⟨F'', rfl⟩ : ∃ j, F'' = j + 20 := ⟨F'' - 20, by omega⟩
          cases y <;> cases z <;> simp -dsimp -implicitDefEqProofs only [↓bL, ↓tL, ↓hL, ↓ev_for, ev_e, ev_s, stepE, stepS, b_ok, b_err, t_ok, t_err, th_n, th_r, th_e, ne_ok, blk, G8.evs, asgT, asg1, asgs, idxD, seqOf, binD, cmpD, setIdxD, D.top, D.nr, if_true, and_self, Bool.false_and, Bool.and_true, biD, List.getElem?_cons_zero, List.getElem?_cons_succ, List.set_cons_zero, List.set_cons_succ, Nat.reduceLeDiff, Bool.false_eq_true, if_false, Bool.not_true, Bool.not_false, evIt, itOf, compI, lstOf, Option.bind_some, isiD, res, Bool.and_self, Bool.true_and, beq_self_eq_true, compS, turn, asgC, tests, ce_law_k11_1, List.length_cons, List.length_nil, i0, i1, cc0, cc1, List.nil_append, List.cons_append] <;> rfl
        unfold turnF lb_law_k11_0
        by_cases h1 : x ∈ a
        · have ia := idxOf_map D.int eqv_int x a h1
          by_cases h2 : x ∈ b
          · have em : mvOf a b x = .both ((a.idxOf x : Nat) : Int) := by unfold mvOf; rw [if_pos h1, if_pos h2]
            rw [em] at sA sB tm nm
            simp only [mvD] at sA sB tm nm
            simp -dsimp -implicitDefEqProofs only [↓bL, ↓tL, ↓hL, ↓ev_for, ev_e, ev_s, stepE, stepS, b_ok, b_err, t_ok, t_err, th_n, th_r, th_e, ne_ok, blk, G8.evs, asgT, asg1, asgs, idxD, seqOf, binD, cmpD, setIdxD, D.top, D.nr, if_true, and_self, Bool.false_and, Bool.and_true, biD, List.getElem?_cons_zero, List.getElem?_cons_succ, List.set_cons_zero, List.set_cons_succ, Nat.reduceLeDiff, Bool.false_eq_true, if_false, Bool.not_true, Bool.not_false, evIt, itOf, compI, lstOf, Option.bind_some, isiD, res, Bool.and_self, Bool.true_and, beq_self_eq_true, -D.top, -D.nr, List.length_cons, List.length_nil, i0, i1, in_tN, h1, h2, decide_true, mbPre, mbD, ia, ds_g2, Option.isSome, tm, nm, List.length_map, l1, ds_s2, sA, sB, G8.wipe, hc]
            simp only [stp, em, List.map_append, List.map_cons, List.map_nil, mvD]
          · have em : mvOf a b x = .first ((a.idxOf x : Nat) : Int) := by unfold mvOf; rw [if_pos h1, if_neg h2]
            rw [em] at sA sB tm nm
            simp only [mvD] at sA sB tm nm
            simp -dsimp -implicitDefEqProofs only [↓bL, ↓tL, ↓hL, ↓ev_for, ev_e, ev_s, stepE, stepS, b_ok, b_err, t_ok, t_err, th_n, th_r, th_e, ne_ok, blk, G8.evs, asgT, asg1, asgs, idxD, seqOf, binD, cmpD, setIdxD, D.top, D.nr, if_true, and_self, Bool.false_and, Bool.and_true, biD, List.getElem?_cons_zero, List.getElem?_cons_succ, List.set_cons_zero, List.set_cons_succ, Nat.reduceLeDiff, Bool.false_eq_true, if_false, Bool.not_true, Bool.not_false, evIt, itOf, compI, lstOf, Option.bind_some, isiD, res, Bool.and_self, Bool.true_and, beq_self_eq_true, -D.top, -D.nr, List.length_cons, List.length_nil, i0, i1, in_tN, h1, h2, decide_true, decide_false, mbPre, mbD, ia, ds_g2, Option.isSome, tm, nm, List.length_map, l1, ds_s2, sA, sB, G8.wipe, hc]
            simp only [stp, em, List.map_append, List.map_cons, List.map_nil, mvD]
        · by_cases h2 : x ∈ b
          · have ib := idxOf_map D.int eqv_int x b h2
            have em : mvOf a b x = .second ((b.idxOf x : Nat) : Int) := by unfold mvOf; rw [if_neg h1, if_pos h2]
            rw [em] at sA sB tm nm
            simp only [mvD] at sA sB tm nm
            simp -dsimp -implicitDefEqProofs only [↓bL, ↓tL, ↓hL, ↓ev_for, ev_e, ev_s, stepE, stepS, b_ok, b_err, t_ok, t_err, th_n, th_r, th_e, ne_ok, blk, G8.evs, asgT, asg1, asgs, idxD, seqOf, binD, cmpD, setIdxD, D.top, D.nr, if_true, and_self, Bool.false_and, Bool.and_true, biD, List.getElem?_cons_zero, List.getElem?_cons_succ, List.set_cons_zero, List.set_cons_succ, Nat.reduceLeDiff, Bool.false_eq_true, if_false, Bool.not_true, Bool.not_false, evIt, itOf, compI, lstOf, Option.bind_some, isiD, res, Bool.and_self, Bool.true_and, beq_self_eq_true, -D.top, -D.nr, List.length_cons, List.length_nil, i0, i1, in_tN, h1, h2, decide_true, decide_false, mbPre, mbD, ib, ds_g2, Option.isSome, tm, nm, List.length_map, l1, ds_s2, sA, sB, G8.wipe, hc]
            simp only [stp, em, List.map_append, List.map_cons, List.map_nil, mvD]
          · have em : mvOf a b x = .new := by unfold mvOf; rw [if_neg h1, if_neg h2]
            rw [em] at sA sB tm nm
            simp only [mvD] at sA sB tm nm
            simp -dsimp -implicitDefEqProofs only [↓bL, ↓tL, ↓hL, ↓ev_for, ev_e, ev_s, stepE, stepS, b_ok, b_err, t_ok, t_err, th_n, th_r, th_e, ne_ok, blk, G8.evs, asgT, asg1, asgs, idxD, seqOf, binD, cmpD, setIdxD, D.top, D.nr, if_true, and_self, Bool.false_and, Bool.and_true, biD, List.getElem?_cons_zero, List.getElem?_cons_succ, List.set_cons_zero, List.set_cons_succ, Nat.reduceLeDiff, Bool.false_eq_true, if_false, Bool.not_true, Bool.not_false, evIt, itOf, compI, lstOf, Option.bind_some, isiD, res, Bool.and_self, Bool.true_and, beq_self_eq_true, -D.top, -D.nr, List.length_cons, List.length_nil, i0, i1, in_tN, h1, h2, decide_false, mbPre, mbD, ds_g2, Option.isSome, tm, nm, List.length_map, l1, ds_s2, sA, sB, G8.wipe, hc]
            simp only [stp, em, List.map_append, List.map_cons, List.map_nil, mvD])).1
    rw [g1, g2, g3, g4, g5] at this
    exact this
  have hc2 : ∀ (F' : Nat) (h : Sto) (o18 o19 : Option D), 20 ≤ F' → compS (turn ((ev P F').e 39) (.var 8) [] ce_law_k11_2 [some (.scr (ns.map .int)), some (.ref 1), some (.int (n : Nat)), some (.int (m : Nat)), some (tN one), some (tN two), some (tQ (relF one two)), some (lN xs), none, none, none, none, none, some (tR f), some (tR g), some (.ref 2), some (.lst [.int c0, .int c1]), some (.tup [tN fa, tN fb]), o18, o19, none]) (fa.map D.int) [] h = .ok ((relF fa fb).map opD) h := by
    intro F' h o18 o19 hF'
    have lfa : fa.length ≤ 1000 := by
      have := congrArg (fun q => q.1.length) gf
      simp only [relF_length] at this
      have h2 := (fol_pr hf hg lf lg ms hpr).len
      omega
    exact rel_comp (td := .idx (.var 17) (.cst (.int 1))) rfl hF' (by simp) lfa fun F'' x hF'' => by
      obtain ⟨F'', rfl⟩ : ∃ j, F'' = j + 10 := ⟨F'' - 10, by omega⟩
      simp -dsimp -implicitDefEqProofs only [↓bL, ↓tL, ↓hL, ↓ev_for, ev_e, ev_s, stepE, stepS, b_ok, b_err, t_ok, t_err, th_n, th_r, th_e, ne_ok, blk, G8.evs, asgT, asg1, asgs, idxD, seqOf, binD, cmpD, setIdxD, D.top, D.nr, if_true, and_self, Bool.false_and, Bool.and_true, biD, List.getElem?_cons_zero, List.getElem?_cons_succ, List.set_cons_zero, List.set_cons_succ, Nat.reduceLeDiff, Bool.false_eq_true, if_false, Bool.not_true, Bool.not_false, evIt, itOf, compI, lstOf, Option.bind_some, isiD, res, Bool.and_self, Bool.true_and, beq_self_eq_true, List.length_cons, List.length_nil, i1]
  have hv2 := vmv_app (f := f) (g := g) (ms := ms.take mid) (ms' := ms.drop mid) (p := relF one two) (by rw [List.take_append_drop]; exact gv)
  have fa2 := fol_app f g (ms.take mid) (ms.drop mid) (relF one two)
  rw [List.take_append_drop, gf] at fa2
  obtain ⟨hp_, hc_, hd_, eH⟩ : ∃ hp_ hc_ hd_, folL f g (relF one two) (ms.take mid) = (hp_, hc_, hd_) := ⟨_, _, _, rfl⟩
  have hpr2 := fol_pr hf hg lf lg (ms.take mid) hpr
  rw [eH] at fa2 hv2 hpr2
  simp only at fa2 hv2 hpr2
  obtain ⟨tp_, tc_, td_, eT⟩ : ∃ tp_ tc_ td_, folL f g hp_ (ms.drop mid) = (tp_, tc_, td_) := ⟨_, _, _, rfl⟩
  rw [eT] at fa2
  simp only [Prod.mk.injEq] at fa2
  obtain ⟨z1, z2, z3⟩ := fa2
  have F1 := law_follow_spec (P := P) (md := .ref 2) hf hg lf lg hpr (by omega) gv (.inr ⟨2, true, rfl, by rw [ds_len]; simp, ds_g2⟩) (hwm s8 (ms.map mvD))
  rw [gf] at F1
  have F2 := law_follow_spec (P := P) (md := lM (ms.take mid)) hf hg lf lg hpr (by rw [List.length_take]; omega) hv2.1 (.inl rfl) (hwm s9 (ms.map mvD))
  rw [eH] at F2
  have F3 := law_follow_spec (P := P) (md := lM (ms.drop mid)) hf hg lf lg hpr2 (by rw [List.length_drop]; omega) hv2.2 (.inl rfl) (hwm s9 (ms.map mvD))
  rw [eT] at F3
  simp only at F1 F2 F3
  have ft : ∀ (p : List (Option Int)) (i j : Int), D.fit 40 (.tup [tQ p, .int i, .int j]) = true := fun p i j => by
    have := fit_tO 38 p
    simp only [D.fit, D.fits, Bool.and_true] at this ⊢
    exact this
  have qt : ∀ (p : List (Option Int)) (i j : Int), D.eqv (.tup [tQ p, .int i, .int j]) (.tup [tQ p, .int i, .int j]) = true := fun p i j => by
    have := eqv_tO p p
    simp only [D.eqv, D.eqvs, Bool.and_true, beq_self_eq_true] at this ⊢
    simpa using this
  have cl := cut_lo (xs := ms.map mvD) (k := (mid : Int)) (by omega) (by rw [List.length_map]; omega)
  have ch := cut_hi (xs := ms.map mvD) (k := (mid : Int)) (by omega) (by rw [List.length_map]; omega)
  have j0 : G8.ixN (0 + 1 + 1 + 1) 0 = some 0 := rfl
  have j1 : G8.ixN (0 + 1 + 1 + 1) 1 = some 1 := rfl
  have j2 : G8.ixN (0 + 1 + 1 + 1) 2 = some 2 := rfl
  refine ⟨DS s9 [.lst true (ms.map mvD)], ?_⟩
  simp -dsimp -implicitDefEqProofs only [↓bL, ↓tL, ↓hL, ↓ev_for, ev_e, ev_s, stepE, stepS, b_ok, b_err, t_ok, t_err, th_n, th_r, th_e, ne_ok, blk, G8.evs, asgT, asg1, asgs, idxD, seqOf, binD, cmpD, setIdxD, D.top, D.nr, if_true, and_self, Bool.false_and, Bool.and_true, biD, List.getElem?_cons_zero, List.getElem?_cons_succ, List.set_cons_zero, List.set_cons_succ, Nat.reduceLeDiff, Bool.false_eq_true, if_false, Bool.not_true, Bool.not_false, evIt, itOf, compI, lstOf, Option.bind_some, isiD, res, Bool.and_self, Bool.true_and, beq_self_eq_true, q1, q2, hn, q3, q4, hm, q5, q6, pk, setAll, G8.wipe, hc0, q7, hl, q8, D.nrs, ds_len, List.length_nil, Nat.reduceAdd, ds_app, List.nil_append, lp, List.length_cons, i0, i1, hc2, F1, ft, qt, ds_g2, List.length_map, q9, hmid, evO, slD, cl, ch, Int.toNat_natCast, ← List.map_take, ← List.map_drop, F2, F3, j0, j1, j2]
  rw [← z1, ← z2, ← z3, qt]
  rfl
end
end G8

set_option Elab.async false
set_option linter.all false
set_option maxRecDepth 100000
set_option maxHeartbeats 0
namespace L_k11
open PySem PySem.Spec L2 G8
def prg : Prg := ⟨([(0, f_is_int), (4, f_is_permutation), (5, f_is_policy), (6, f_check_policy), (52, f_check_same_ways), (99, f_step_pair), (100, f_after_access), (101, f_moves_of), (109, f_follow), (110, f_is_pair), (19, f__law_start), (20, f__law_draw), (50, f__law_pick), (82, f__law_error), (22, f__law_permutation), (23, f__law_recent)] : List (Nat × Fn)) ++ ([(24, f__law_policy), (25, f__law_state), (26, f__law_step), (28, f__law_sequence), (115, f__law_follow), (116, f_law_k11)] : List (Nat × Fn)), [], [], [(0, 0), (1, 0), (1, 1), (2, 0), (2, 2), (3, 0), (3, 3), (6, 0), (6, 6), (7, 0), (7, 7), (8, 0), (8, 8), (9, 0), (9, 9)]⟩
instance : HasF prg 0 f_is_int := ⟨rfl⟩
instance : HasF prg 4 f_is_permutation := ⟨rfl⟩
instance : HasF prg 5 f_is_policy := ⟨rfl⟩
instance : HasF prg 6 f_check_policy := ⟨rfl⟩
instance : HasF prg 52 f_check_same_ways := ⟨rfl⟩
instance : HasF prg 99 f_step_pair := ⟨rfl⟩
instance : HasF prg 100 f_after_access := ⟨rfl⟩
instance : HasF prg 101 f_moves_of := ⟨rfl⟩
instance : HasF prg 109 f_follow := ⟨rfl⟩
instance : HasF prg 110 f_is_pair := ⟨rfl⟩
instance : HasF prg 19 f__law_start := ⟨rfl⟩
instance : HasF prg 20 f__law_draw := ⟨rfl⟩
instance : HasF prg 50 f__law_pick := ⟨rfl⟩
instance : HasF prg 82 f__law_error := ⟨rfl⟩
instance : HasF prg 22 f__law_permutation := ⟨rfl⟩
instance : HasF prg 23 f__law_recent := ⟨rfl⟩
instance : HasF prg 24 f__law_policy := ⟨rfl⟩
instance : HasF prg 25 f__law_state := ⟨rfl⟩
instance : HasF prg 26 f__law_step := ⟨rfl⟩
instance : HasF prg 28 f__law_sequence := ⟨rfl⟩
instance : HasF prg 115 f__law_follow := ⟨rfl⟩
instance : HasF prg 116 f_law_k11 := ⟨rfl⟩
def top (i : Nat) : Stmt := PySem.Challenge.pw_waypolicies_k11_whole_follow.main.body.getD i (.Pass ⟨0, 0, 0, 0⟩)
def inC (st : Stmt) (j : Nat) : Stmt := match st with
  | .ClassDef _ _ _ body _ _ _ _ _ _ _ => body.getD j (.Pass ⟨0, 0, 0, 0⟩)
  | _ => .Pass ⟨0, 0, 0, 0⟩
def dd0 : Dd := ⟨⟨("is_int", none), "is_int", "is_int", defArgs (top 9), defBody (top 9), defScope (top 9), [], []⟩, ["value", "low", "high"], ["value", "low", "high"]⟩
def dd1 : Dd := ⟨⟨("is_permutation", none), "is_permutation", "is_permutation", defArgs (top 12), defBody (top 12), defScope (top 12), [], []⟩, ["value", "size", "item"], ["value", "size"]⟩
def dd2 : Dd := ⟨⟨("is_policy", none), "is_policy", "is_policy", defArgs (top 13), defBody (top 13), defScope (top 13), [], []⟩, ["value", "item"], ["value"]⟩
def dd3 : Dd := ⟨⟨("check_policy", none), "check_policy", "check_policy", defArgs (top 14), defBody (top 14), defScope (top 14), [], []⟩, ["value"], ["value"]⟩
def dd4 : Dd := ⟨⟨("check_same_ways", none), "check_same_ways", "check_same_ways", defArgs (top 16), defBody (top 16), defScope (top 16), [], []⟩, ["first", "second"], ["first", "second"]⟩
def dd5 : Dd := ⟨⟨("step_pair", none), "step_pair", "step_pair", defArgs (top 19), defBody (top 19), defScope (top 19), [], []⟩, ["first", "second", "pair", "move", "ways", "one", "two", "j", "block", "kind", "position", "i", "missed_one", "missed_two", "item"], ["first", "second", "pair", "move"]⟩
def dd6 : Dd := ⟨⟨("after_access", none), "after_access", "after_access", defArgs (top 20), defBody (top 20), defScope (top 20), [], []⟩, ["policy", "state", "block", "moved", "position", "target"], ["policy", "state", "block"]⟩
def dd7 : Dd := ⟨⟨("moves_of", none), "moves_of", "moves_of", defArgs (top 21), defBody (top 21), defScope (top 21), [], []⟩, ["pair", "ways", "found", "i", "j"], ["pair"]⟩
def dd8 : Dd := ⟨⟨("follow", none), "follow", "follow", defArgs (top 22), defBody (top 22), defScope (top 22), [], []⟩, ["first", "second", "pair", "moves", "move", "one", "two", "missed_one", "missed_two", "part"], ["first", "second", "pair", "moves"]⟩
def dd9 : Dd := ⟨⟨("is_pair", none), "is_pair", "is_pair", defArgs (top 23), defBody (top 23), defScope (top 23), [], []⟩, ["ways", "value", "used", "item"], ["ways", "value"]⟩
def dd10 : Dd := ⟨⟨("_law_start", none), "_law_start", "_law_start", defArgs (top 25), defBody (top 25), defScope (top 25), [], []⟩, ["script"], ["script"]⟩
def dd11 : Dd := ⟨⟨("_law_draw", none), "_law_draw", "_law_draw", defArgs (top 26), defBody (top 26), defScope (top 26), [], []⟩, ["draws", "limit", "numbers", "at", "cell", "mixed"], ["draws", "limit"]⟩
def dd12 : Dd := ⟨⟨("_law_pick", none), "_law_pick", "_law_pick", defArgs (top 27), defBody (top 27), defScope (top 27), [], []⟩, ["draws", "choices"], ["draws", "choices"]⟩
def dd13 : Dd := ⟨⟨("_law_error", none), "_law_error", "_law_error", defArgs (top 28), defBody (top 28), defScope (top 28), [], []⟩, ["caught", "kinds"], ["caught"]⟩
def dd14 : Dd := ⟨⟨("_law_permutation", none), "_law_permutation", "_law_permutation", defArgs (top 29), defBody (top 29), defScope (top 29), [], []⟩, ["draws", "size", "found", "item", "at"], ["draws", "size"]⟩
def dd15 : Dd := ⟨⟨("_law_recent", none), "_law_recent", "_law_recent", defArgs (top 30), defBody (top 30), defScope (top 30), [], []⟩, ["ways", "found", "hit", "p"], ["ways"]⟩
def dd16 : Dd := ⟨⟨("_law_policy", none), "_law_policy", "_law_policy", defArgs (top 31), defBody (top 31), defScope (top 31), [], []⟩, ["draws", "ways", "kind", "hit"], ["draws", "ways"]⟩
def dd17 : Dd := ⟨⟨("_law_state", none), "_law_state", "_law_state", defArgs (top 32), defBody (top 32), defScope (top 32), [], []⟩, ["draws", "ways", "limit"], ["draws", "ways", "limit"]⟩
def dd18 : Dd := ⟨⟨("_law_step", none), "_law_step", "_law_step", defArgs (top 33), defBody (top 33), defScope (top 33), [], []⟩, ["policy", "state", "block", "row", "p"], ["policy", "state", "block"]⟩
def dd19 : Dd := ⟨⟨("_law_sequence", none), "_law_sequence", "_law_sequence", defArgs (top 34), defBody (top 34), defScope (top 34), [], []⟩, ["draws", "length", "limit", "k"], ["draws", "length", "limit"]⟩
def dd20 : Dd := ⟨⟨("_law_follow", none), "_law_follow", "_law_follow", defArgs (top 35), defBody (top 35), defScope (top 35), [], []⟩, ["first", "second", "pair", "moves", "found", "caught", "e"], ["first", "second", "pair", "moves"]⟩
def dd21 : Dd := ⟨⟨("law", none), "law", "law", defArgs (top 36), defBody (top 36), defScope (top 36), [], []⟩, ["script", "draws", "ways", "limit", "one", "two", "pair", "sequence", "block", "final", "middle", "head", "tail", "first", "second", "moves", "counts", "now", "kind", "steps", "k"], ["script"]⟩
def ck : Ck := ⟨["ValueError", "all", "any", "bool", "enumerate", "int", "isinstance", "len", "list", "range", "sorted", "tuple"], ([("_law_draw", 20), ("_law_error", 82), ("_law_follow", 115), ("_law_permutation", 22), ("_law_pick", 50), ("_law_policy", 24), ("_law_recent", 23), ("_law_sequence", 28), ("_law_start", 19), ("_law_state", 25), ("_law_step", 26), ("after_access", 100), ("check_policy", 6), ("check_same_ways", 52), ("follow", 109), ("is_int", 0)] : List (Str × Nat)) ++ ([("is_pair", 110), ("is_permutation", 4), ("is_policy", 5), ("moves_of", 101), ("step_pair", 99)] : List (Str × Nat)), [("MOST_MOVES", 2000), ("MOST_WAYS", 4)], [], [("BadAccess", 3), ("BadCertificate", 7), ("BadLog", 6), ("BadPolicy", 1), ("BadState", 2), ("BadText", 8), ("CacheError", 0), ("NotFound", 9)], ["policy", "state", "log", "cache", "ways", "next_block", "candidates", "past"], [], []⟩
def txt : Txt := ⟨prg, ck, ["CacheError", "BadPolicy", "BadState", "BadAccess", "CacheSet", "Prober", "BadLog", "BadCertificate", "BadText", "NotFound", "Recorder"], [], ([(0, dd0), (4, dd1), (5, dd2), (6, dd3), (52, dd4), (99, dd5), (100, dd6), (101, dd7), (109, dd8), (110, dd9), (19, dd10), (20, dd11), (50, dd12), (82, dd13), (22, dd14), (23, dd15)] : List (Nat × Dd)) ++ ([(24, dd16), (25, dd17), (26, dd18), (28, dd19), (115, dd20), (116, dd21)] : List (Nat × Dd)), ([.glo "law", .free "ValueError", .free "all", .free "any", .free "bool", .free "enumerate", .free "int", .free "isinstance", .free "len", .free "list", .free "range", .free "sorted", .free "tuple", .glo "_law_draw", .glo "_law_error", .glo "_law_follow"] : List He.Fa) ++ ([.glo "_law_permutation", .glo "_law_pick", .glo "_law_policy", .glo "_law_recent", .glo "_law_sequence", .glo "_law_start", .glo "_law_state", .glo "_law_step", .glo "after_access", .glo "check_policy", .glo "check_same_ways", .glo "follow", .glo "is_int", .glo "is_pair", .glo "is_permutation", .glo "is_policy"] : List He.Fa) ++ ([.glo "moves_of", .glo "step_pair", .int "MOST_MOVES" 2000, .int "MOST_WAYS" 4, .glo "BadAccess", .exc "BadAccess", .glo "BadCertificate", .exc "BadCertificate", .glo "BadLog", .exc "BadLog", .glo "BadPolicy", .exc "BadPolicy", .glo "BadState", .exc "BadState", .glo "BadText", .exc "BadText"] : List He.Fa) ++ ([.glo "CacheError", .exc "CacheError", .glo "NotFound", .exc "NotFound"] : List He.Fa)⟩
theorem s_ok : txt.sB = true := by decide +kernel
theorem f_ok : txt.fnsB txt.ds txt.P.fns = true := by decide +kernel
theorem b0 : dd0.bnd := fun _ _ _ _ _ _ us hl => match us, hl with
  | [_, _, _], _ => rfl
theorem b1 : dd1.bnd := fun _ _ _ _ _ _ us hl => match us, hl with
  | [_, _], _ => rfl
theorem b2 : dd2.bnd := fun _ _ _ _ _ _ us hl => match us, hl with
  | [_], _ => rfl
theorem b3 : dd3.bnd := fun _ _ _ _ _ _ us hl => match us, hl with
  | [_], _ => rfl
theorem b4 : dd4.bnd := fun _ _ _ _ _ _ us hl => match us, hl with
  | [_, _], _ => rfl
theorem b5 : dd5.bnd := fun _ _ _ _ _ _ us hl => match us, hl with
  | [_, _, _, _], _ => rfl
theorem b6 : dd6.bnd := fun _ _ _ _ _ _ us hl => match us, hl with
  | [_, _, _], _ => rfl
theorem b7 : dd7.bnd := fun _ _ _ _ _ _ us hl => match us, hl with
  | [_], _ => rfl
theorem b8 : dd8.bnd := fun _ _ _ _ _ _ us hl => match us, hl with
  | [_, _, _, _], _ => rfl
theorem b9 : dd9.bnd := fun _ _ _ _ _ _ us hl => match us, hl with
  | [_, _], _ => rfl
theorem b10 : dd10.bnd := fun _ _ _ _ _ _ us hl => match us, hl with
  | [_], _ => rfl
theorem b11 : dd11.bnd := fun _ _ _ _ _ _ us hl => match us, hl with
  | [_, _], _ => rfl
theorem b12 : dd12.bnd := fun _ _ _ _ _ _ us hl => match us, hl with
  | [_, _], _ => rfl
theorem b13 : dd13.bnd := fun _ _ _ _ _ _ us hl => match us, hl with
  | [_], _ => rfl
theorem b14 : dd14.bnd := fun _ _ _ _ _ _ us hl => match us, hl with
  | [_, _], _ => rfl
theorem b15 : dd15.bnd := fun _ _ _ _ _ _ us hl => match us, hl with
  | [_], _ => rfl
theorem b16 : dd16.bnd := fun _ _ _ _ _ _ us hl => match us, hl with
  | [_, _], _ => rfl
theorem b17 : dd17.bnd := fun _ _ _ _ _ _ us hl => match us, hl with
  | [_, _, _], _ => rfl
theorem b18 : dd18.bnd := fun _ _ _ _ _ _ us hl => match us, hl with
  | [_, _, _], _ => rfl
theorem b19 : dd19.bnd := fun _ _ _ _ _ _ us hl => match us, hl with
  | [_, _, _], _ => rfl
theorem b20 : dd20.bnd := fun _ _ _ _ _ _ us hl => match us, hl with
  | [_, _, _, _], _ => rfl
theorem b21 : dd21.bnd := fun _ _ _ _ _ _ us hl => match us, hl with
  | [_], _ => rfl
theorem b_ok : ∀ D ∈ txt.ds, D.2.bnd := all_bnd ⟨b0, b1, b2, b3, b4, b5, b6, b7, b8, b9, b10, b11, b12, b13, b14, b15, b16, b17, b18, b19, b20, b21, trivial⟩
abbrev R : PySem.W.OpenRow := PySem.W.OpenLaw.row PySem.Challenge.rw_waypolicies_k11_whole_follow
abbrev hk : PySem.W.Hook := hookE 6 txt.fa txt.fnD txt.exB
def ob (s : PySem.W.SharedT) : He.AlD × Bool := obsE 6 txt.fa txt.fnD txt.exB (HandSHeadRun.getT s)
theorem ob_eq (s : PySem.W.SharedT) : ob s = hk.obs s.abs := obsE_eq (HandSHeadRun.getT_eq s)
def loose : List Str := (["CacheError", "BadPolicy", "BadState", "BadAccess", "BadLog", "BadCertificate", "BadText", "NotFound", "is_int", "MOST_WAYS", "is_permutation", "is_policy", "check_policy", "check_same_ways", "MOST_MOVES", "step_pair"] : List Str) ++ (["after_access", "moves_of", "follow", "is_pair", "_law_start", "_law_draw", "_law_pick", "_law_error", "_law_permutation", "_law_recent", "_law_policy", "_law_state", "_law_step", "_law_sequence", "_law_follow"] : List Str)
theorem run (w : World) : HandSHeadRun.RunEq R (PySem.W.view R.prog [36]) hk ob 20000 loose w := by
  intro os
  kernel_rfl
end L_k11
open PySem PySem.W PySem.Calls PyProof.Rows
theorem L_k11.end_ (law : G8.LawOk L_k11.prg 40 116 63) : PySem.Challenge.rw_waypolicies_k11_whole_follow.Holds := by
  w_on; o_law
  refine HandSHeadRun.head_any (r := OpenLaw.row PySem.Challenge.rw_waypolicies_k11_whole_follow) (q := view (OpenLaw.row PySem.Challenge.rw_waypolicies_k11_whole_follow).prog [36]) (H := L_k11.hk) (ob := L_k11.ob) (M := 20000) (loose := L_k11.loose) (d := HandSHeadRun.topDef (OpenLaw.row PySem.Challenge.rw_waypolicies_k11_whole_follow).prog 36) (kwd := []) L_k11.ob_eq
    (by kernel_rfl) (fun s => by kernel_rfl) L_k11.run (by kernel_rfl) (by kernel_rfl) (by kernel_rfl) (by rfl) (by first | assumption | decide +kernel) (by decide +kernel) ⟨rfl, rfl, rfl, rfl, rfl, by decide +kernel⟩ ?hw ?hc
  case hw => w_witness2
  case hc =>
    refine L2.walk_ofE (l := PySem.Challenge.rw_waypolicies_k11_whole_follow) (n := 63) (k := 40) (x := "script") (CX := L2.CX0) rfl (by decide) (by kernel_rfl) ⟨rfl, by decide, by decide⟩ ?F (fun _ _ _ _ z => z)
    intro w mg fa h Y G hmg0
    obtain ⟨K, KX, c⟩ := Y
    have hmg : mg ("law" : PySem.Str) = some (.ref fa) := by
      have e : (HandSHeadRun.topDef (OpenLaw.row PySem.Challenge.rw_waypolicies_k11_whole_follow).prog 36).name = ("law" : PySem.Str) := by kernel_rfl
      rw [← e]
      exact hmg0
    exact G8.law_F (t := L_k11.txt) (D := L_k11.dd21) KX G c hmg rfl rfl rfl rfl (by decide +kernel) L_k11.s_ok L_k11.f_ok L_k11.b_ok law


theorem PySem.Challenge.cw_waypolicies_k11_whole_follow_holds : PySem.Challenge.rw_waypolicies_k11_whole_follow.Holds := by
  exact L_k11.end_ G8.law_k11
