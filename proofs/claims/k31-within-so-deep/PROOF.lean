import PyProof.Rows.All
import Wide.All
import OpenK.AllK
import Wide.FinOn
import PyProof.ReprReads
import PyProof.P3Statements
import PyProof.EqLayable
import HandS.ForMost
import HandS.TupAny
import HandS.TupLe
import HandS.Deep
import HandS.Zip
import HandS.Rev
import HandS.RevRange
import HandS.Conv
import HandS.IsInst
import HandS.More
import HandS.Style
import HandS.Flow
import HandS.NoneIn
import KE.GoesEnum
import KE.GoesZip
import KE.GoesMore
import HandS.Iter
import KE.KDictZip
import HandS.TupMul
import KE.DataMinMax
import PyProof.Rows.SumAny
import PyProof.SumWalkG
import PyProof.SeqI3
import HandS.SortRule
import HandS.SortInts
import KE.KDictPairs
import KE.KDictSum
import HandS.TupLen
import HandS.WordsDict
import HandS.SetFor
import HandS.Defaults
import HandS.HeadEnd
import HandS.Words
import HandS.Ends
import HandS.Codes
import HandS.Head3
import HandS.Head4
import HandS.HeadHook1
import HandS.HeadHook2
import HandS.HeadHook4
import PyProof.ReprLen
import KE.KStateDown
import HandS.Head0
import HandS.Head1
import HandS.Head2
import PySem.Challenge.RW_keepwhole_k31_within_so_deep
set_option Elab.async false
set_option linter.all false
set_option maxRecDepth 100000
set_option maxHeartbeats 4000007
/-! Pm, part A: values as trees, a small store, a small language, and what its terms come to. -/
namespace Pm
open PySem (Str PyData)

/-- a value: tup, lst (never written again), dct (likewise; t: its keys are tuples) by their parts; ref n: the n-th object of the store -/
inductive D where
  | non | bl (b : Bool) | int (i : Int) | str (s : Str)
  | tup (xs : List D) | lst (xs : List D) | dct (t : Bool) (ks vs : List D) | ref (n : Nat)

/-- an object that may be written -/
inductive Ob where
  | lst (xs : List D) | dct (t : Bool) (ks vs : List D) | fdc (t : Bool) (ks vs : List D) | ins (c : Nat) (fs : List (Nat × D))

mutual
def D.deq : D → D → Bool
  | .non, .non => true
  | .bl a, .bl b => a == b
  | .int a, .int b => a == b
  | .str a, .str b => decide (a = b)
  | .tup xs, .tup ys => deqL xs ys
  | .lst xs, .lst ys => deqL xs ys
  | .dct t ks vs, .dct u ls ws => t == u && (deqL ks ls && deqL vs ws)
  | .ref a, .ref b => a == b
  | _, _ => false
def deqL : List D → List D → Bool
  | [], [] => true
  | x :: xs, y :: ys => D.deq x y && deqL xs ys
  | _, _ => false
end
mutual
theorem D.deq_iff : ∀ a b : D, D.deq a b = true ↔ a = b
  | .non, b => by cases b <;> simp [D.deq]
  | .bl _, b => by cases b <;> simp [D.deq]
  | .int _, b => by cases b <;> simp [D.deq]
  | .str _, b => by cases b <;> simp [D.deq]
  | .tup xs, b => by cases b <;> simp [D.deq, deqL_iff xs]
  | .lst xs, b => by cases b <;> simp [D.deq, deqL_iff xs]
  | .dct t ks vs, b => by cases b <;> simp [D.deq, deqL_iff ks, deqL_iff vs]
  | .ref _, b => by cases b <;> simp [D.deq]
theorem deqL_iff : ∀ a b : List D, deqL a b = true ↔ a = b
  | [], b => by cases b <;> simp [deqL]
  | x :: xs, b => by cases b <;> simp [deqL, D.deq_iff x, deqL_iff xs]
end
instance : DecidableEq D := fun a b => decidable_of_iff _ (D.deq_iff a b)

abbrev Env := List (Option D)
abbrev Sto := List Ob
abbrev Rv := Option (D × Sto)
abbrev Call := Nat → List D → Sto → Rv

def lim : Nat := 1000000

mutual
def D.py : D → PyData
  | .non => .none | .bl b => .bool b | .int i => .int i | .str s => .str s
  | .tup xs => .tuple (pyL xs) | .lst xs => .list (pyL xs)
  | .dct _ _ _ => .none | .ref _ => .none
def pyL : List D → List PyData
  | [] => [] | x :: xs => x.py :: pyL xs
end
mutual
/-- no object of the store within -/
def D.noRef : D → Bool
  | .non => true | .bl _ => true | .int _ => true | .str _ => true
  | .tup xs => noRefL xs | .lst xs => noRefL xs
  | .dct _ ks vs => noRefL ks && noRefL vs | .ref _ => false
def noRefL : List D → Bool
  | [] => true | x :: xs => x.noRef && noRefL xs
end
mutual
/-- plain data: no object of the store, no dict -/
def D.flat : D → Bool
  | .non => true | .bl _ => true | .int _ => true | .str _ => true
  | .tup xs => flatL xs | .lst xs => flatL xs
  | .dct _ _ _ => false | .ref _ => false
def flatL : List D → Bool
  | [] => true | x :: xs => x.flat && flatL xs
end
mutual
/-- no list, no dict within -/
def D.noLst : D → Bool
  | .non => true | .bl _ => true | .int _ => true | .str _ => true
  | .tup xs => noLstL xs | .lst _ => false
  | .dct _ _ _ => false | .ref _ => false
def noLstL : List D → Bool
  | [] => true | x :: xs => x.noLst && noLstL xs
end

def D.isTup : D → Bool
  | .tup _ => true | _ => false
def D.plain : D → Bool
  | .non => true | .bl _ => true | .int _ => true | .str _ => true | _ => false
def D.ok (d : D) : Bool := d.flat && PySem.SeqAt.shaped d.py

inductive Bop where | add | sub | mul | fdiv | mod | pow
  deriving DecidableEq
inductive Cop where | eq | ne | lt | le | gt | ge | is | isn | in_ | nin
  deriving DecidableEq
inductive Ty where | int | bool | str | list | tuple | dict
  deriving DecidableEq
inductive Bi where | len | abs | int | str | all | any | sum | min | max | tuple | list | dict | dictT | sorted | set
  deriving DecidableEq
inductive Bm where | append | extend | insert | pop | remove | index | get | count | reverse | join | split | setdefault | items | clear | replace
  deriving DecidableEq

mutual
inductive IE where
  | bad
  | cst (d : D) | var (i : Nat)
  | tup (es : List IE) | lst (m : Bool) (es : List IE) | dct0 (m t : Bool)
  | bin (o : Bop) (m : Bool) (a b : IE) | neg (a : IE)
  | not (a : IE) | and (a b : IE) | or (a b : IE)
  | cmp (o : Cop) (a b : IE) | cmp2 (o p : Cop) (a b c : IE)
  | ife (c : Ts) (a b : IE)
  | rngL (tup m : Bool) (es : List IE) | trev (a : IE) | lzip (m : Bool) (a b : IE) | dget (a k d : IE)
  | idx (a i : IE) | slc (m : Bool) (a lo hi : IE) | rev (m : Bool) (a : IE)
  | call (f : Nat) (md : Nat) (es : List IE)
  | mk (c : Nat) (es : List IE) | mth (o : IE) (m : Nat) (es : List IE)
  | bm (b : Bm) (m : Bool) (o : IE) (es : List IE)
  | bi (b : Bi) (m : Bool) (es : List IE)
  | isi (a : IE) (ts : List Ty)
  | fld (o : IE) (f : Nat)
  | comp (m : Bool) (own : List Nat) (t : Tg) (it : It) (cs : List Ts) (e : IE)
/-- a test -/
inductive Ts where
  | val (e : IE) | not (a : Ts) | and (a b : Ts) | or (a b : Ts)
inductive It where
  | val (e : IE) | rng (es : List IE) | enm (e : IE) | zip (a b : IE) | rev (e : IE) | revr (es : List IE) | items (e : IE)
inductive Tg where
  | nm (i : Nat) | tup (ts : List Tg) | sub (o i : IE) | fld (o : IE) (f : Nat)
end

mutual
/-- the slots that a target stores -/
def Tg.slots : Tg → List Nat
  | .nm i => [i] | .tup ts => slotsL ts | .sub _ _ => [] | .fld _ _ => []
def slotsL : List Tg → List Nat
  | [] => [] | t :: ts => t.slots ++ slotsL ts
end

inductive IS where
  | bad
  | asg (t : Tg) (e : IE) | par (is : List Nat) (es : List IE)
  | aug (i : Nat) (o : Bop) (e : IE) | augS (o i : IE) (p : Bop) (e : IE) | augF (o : IE) (f : Nat) (p : Bop) (e : IE)
  | expr (e : IE) | ret (e : IE)
  | ife (c : Ts) (a b : List IS)
  | for_ (t : Tg) (it : It) (b : List IS) | whl (c : Ts) (b : List IS)
  | pass | brk | cnt

/-! ### values -/
def eqD (a b : D) : Option Bool := if a.ok && b.ok then some (PyData.eqv a.py b.py) else none
mutual
def ltD : D → D → Option Bool
  | .int a, .int b => some (decide (a < b))
  | .str a, .str b => some (decide (a.cps.toList < b.cps.toList))
  | .tup xs, .tup ys => ltL xs ys
  | _, _ => none
def ltL : List D → List D → Option Bool
  | [], [] => some false
  | [], _ :: _ => some true
  | _ :: _, [] => some false
  | x :: xs, y :: ys => if PyData.eqv x.py y.py then ltL xs ys else ltD x y
end
/-- any two may be compared -/
def cmpA (xs : List D) : Bool := xs.all fun x => xs.all fun y => (ltD x y).isSome
/-- lists of ints, as tuples rise -/
def lexI : List Int → List Int → Bool
  | [], [] => false
  | [], _ :: _ => true
  | _ :: _, [] => false
  | a :: as, b :: bs => if a = b then lexI as bs else decide (a < b)
def ixN (n : Nat) (i : Int) : Option Nat := if 0 ≤ i then (if i < n then some i.toNat else none) else if -(n : Int) ≤ i then some (i + n).toNat else none
def sIx (n d : Nat) : D → Option Nat
  | .non => some d
  | .int v => some (if v < 0 then (v + (n : Int)).toNat else min v.toNat n)
  | _ => none
def cut (xs : List D) (lo hi : D) : Option (List D) := match sIx xs.length 0 lo, sIx xs.length xs.length hi with
  | some a, some b => some ((xs.drop a).take (b - a))
  | _, _ => none
mutual
/-- equality of keys: numbers, texts, tuples of these -/
def keq : D → D → Bool
  | .int a, .int b => a == b
  | .str a, .str b => decide (a = b)
  | .tup xs, .tup ys => keqL xs ys
  | _, _ => false
def keqL : List D → List D → Bool
  | [], [] => true
  | x :: xs, y :: ys => keq x y && keqL xs ys
  | _, _ => false
end
def look (k : D) : List D → List D → Option D
  | a :: ks, v :: vs => if keq a k then some v else look k ks vs
  | _, _ => none
def repl (k v : D) : List D → List D → List D
  | a :: ks, w :: vs => (if keq a k then v else w) :: repl k v ks vs
  | _, _ => []
def put (k v : D) (ks vs : List D) : List D × List D := if (look k ks vs).isSome then (ks, repl k v ks vs) else (ks ++ [k], vs ++ [v])
def D.scal : D → Bool
  | .int _ => true | .str _ => true | _ => false
def D.isKey (t : Bool) : D → Bool
  | .int _ => !t | .str _ => !t | .tup xs => t && xs.all D.scal | _ => false

def arith : Bop → Int → Int → Option Int
  | .add, i, j => some (i + j)
  | .sub, i, j => some (i - j)
  | .mul, i, j => if i.natAbs < 18446744073709551616 || j.natAbs < 18446744073709551616 then some (i * j) else none
  | .fdiv, i, j => if 0 < j && j < 1073741824 then some (i / j) else none
  | .mod, i, j => if 0 < j then some (i % j) else none
  | .pow, i, j => if 0 ≤ j && j ≤ 1000000 && i.natAbs < 18446744073709551616 then some (i ^ j.toNat) else none

/-- a list as a new value: an object, or by its parts -/
def newL (m : Bool) (xs : List D) (st : Sto) : D × Sto := if m then (.ref st.length, st ++ [.lst xs]) else (.lst xs, st)
def newD (m t : Bool) (ks vs : List D) (st : Sto) : D × Sto := if m then (.ref st.length, st ++ [.dct t ks vs]) else (.dct t ks vs, st)
/-- the items of a list or tuple -/
def seqOf (st : Sto) : D → Option (List D)
  | .tup xs => some xs
  | .lst xs => some xs
  | .ref r => match st[r]? with
    | some (.lst xs) => some xs
    | _ => none
  | _ => none
def lstOf (st : Sto) : D → Option (List D)
  | .lst xs => some xs
  | .ref r => match st[r]? with
    | some (.lst xs) => some xs
    | _ => none
  | _ => none
def dctOf (st : Sto) : D → Option (Bool × List D × List D)
  | .dct t ks vs => some (t, ks, vs)
  | .ref r => match st[r]? with
    | some (.dct t ks vs) => some (t, ks, vs)
    | some (.fdc t ks vs) => some (t, ks, vs)
    | _ => none
  | _ => none
/-- plain data of what may be an object that is a list of plain data -/
def deref (st : Sto) (d : D) : Option D := if d.noRef then some d else match d with
  | .ref r => match st[r]? with
    | some (.lst xs) => if noRefL xs then some (.lst xs) else none
    | some (.dct t ks vs) => if noRefL ks && noRefL vs then some (.dct t ks vs) else none
    | _ => none
  | _ => none

def binop (o : Bop) (m : Bool) (a b : D) (st : Sto) : Rv := match a, b with
  | .int i, .int j => (arith o i j).map fun k => (.int k, st)
  | .str x, .str y => if o = .add && x.length + y.length ≤ lim then some (.str (x ++ y), st) else none
  | .tup xs, .tup ys => if o = .add && xs.length + ys.length ≤ lim then some (.tup (xs ++ ys), st) else none
  | .tup xs, .int k => if o = .mul && !xs.isEmpty then (if 2 ≤ k then (if k ≤ 1000 && xs.length ≤ 1000 then some (.tup (List.replicate k.toNat xs).flatten, st) else none) else if k = 1 then some (.tup xs, st) else if k = 0 then some (.tup [], st) else none) else none
  | a, .int k => match o, lstOf st a with
    | .mul, some xs => if xs.length * k.toNat ≤ lim && k ≤ 1000000 && -1000000 ≤ k then some (newL m (List.replicate k.toNat xs).flatten st) else none
    | _, _ => none
  | a, b => match o, lstOf st a, lstOf st b with
    | .add, some xs, some ys => if xs.length + ys.length ≤ lim then some (newL m (xs ++ ys) st) else none
    | _, _, _ => none

def inD (st : Sto) (a b : D) : Option Bool := match b with
  | .str z => match a with
    | .str x => some (!(PySem.Builtin.Str.occurrences z x 0 z.length 1).isEmpty)
    | _ => none
  | _ => match dctOf st b with
    | some (t, ks, vs) => if a.isKey t then some (look a ks vs).isSome else none
    | none => match seqOf st b with
      | some xs => if a.plain && xs.all D.plain then some (xs.any fun z => PyData.eqv z.py a.py) else match b with
        | .tup _ => none
        | _ => if a.ok && (D.lst xs).ok then some (xs.any fun z => PyData.eqv z.py a.py) else none
      | none => none
def cmpop (o : Cop) (st : Sto) (a b : D) : Option Bool := match o with
  | .eq => match a, b with
    | .str x, .str y => some (x == y)
    | a, b => (deref st a).bind fun a => (deref st b).bind fun b => eqD a b
  | .ne => match a, b with
    | .str x, .str y => some (!(x == y))
    | a, b => (deref st a).bind fun a => (deref st b).bind fun b => (eqD a b).map (!·)
  | .lt => match a, b with
    | .int i, .int j => some (decide (i < j))
    | .str x, .str y => some (decide (x.cps.toList < y.cps.toList))
    | .tup xs, .tup ys => if (D.tup xs).ok && (D.tup ys).ok then ltL xs ys else none
    | _, _ => none
  | .gt => match a, b with
    | .int i, .int j => some (decide (j < i))
    | .str x, .str y => some (decide (y.cps.toList < x.cps.toList))
    | _, _ => none
  | .le => match a, b with
    | .int i, .int j => some (decide (i ≤ j))
    | .str x, .str y => some (!decide (y.cps.toList < x.cps.toList))
    | _, _ => none
  | .ge => match a, b with
    | .int i, .int j => some (decide (j ≤ i))
    | .str x, .str y => some (!decide (x.cps.toList < y.cps.toList))
    | _, _ => none
  | .is => match a, b with
    | a, .non => some (decide (a = .non))
    | .bl x, .bl y => some (decide (x = y))
    | _, _ => none
  | .isn => match a, b with
    | a, .non => some (!decide (a = .non))
    | .bl x, .bl y => some (!decide (x = y))
    | _, _ => none
  | .in_ => inD st a b
  | .nin => (inD st a b).map (!·)
def tru (st : Sto) : D → Option Bool
  | .non => some false
  | .bl b => some b
  | .int i => some (i != 0)
  | .str s => if s.length ≤ lim then some ((s.length : Int) != 0) else none
  | .tup xs => some (!xs.isEmpty)
  | .lst xs => some (!xs.isEmpty)
  | .ref r => match st[r]? with
    | some (.lst xs) => some (!xs.isEmpty)
    | _ => none
  | .dct _ _ _ => none
def isTy (st : Sto) (d : D) : Ty → Bool := match d with
  | .non => fun _ => false
  | .bl _ => fun t => t = .bool || t = .int
  | .int _ => fun t => t = .int
  | .str _ => fun t => t = .str
  | .tup _ => fun t => t = .tuple
  | .lst _ => fun t => t = .list
  | .dct _ _ _ => fun t => t = .dict
  | .ref r => fun t => match st[r]? with
    | some (.lst _) => t = .list
    | some (.dct _ _ _) => t = .dict
    | _ => false
def isiOk (st : Sto) (d : D) : Bool := match d with
  | .ref r => match st[r]? with
    | some (.lst _) => true
    | some (.dct _ _ _) => true
    | _ => false
  | _ => true
def index (st : Sto) (a i : D) : Option D := match dctOf st a with
  | some (t, ks, vs) => if i.isKey t then look i ks vs else none
  | none => match seqOf st a, i with
    | some xs, .int k => (ixN xs.length k).bind fun j => xs[j]?
    | _, _ => match a, i with
      | .str z, .int k => if z.length ≤ lim then ((ixN z.cps.toList.length k).bind fun j => z.cps.toList[j]?).map fun c => .str ⟨#[c]⟩ else none
      | _, _ => none
def slice (m : Bool) (a lo hi : D) (st : Sto) : Rv := match a with
  | .tup xs => (cut xs lo hi).map fun ys => (.tup ys, st)
  | a => match lstOf st a with
    | some xs => (cut xs lo hi).map fun ys => newL m ys st
    | none => none
def intsD : List D → Option (List Int)
  | [] => some []
  | .int i :: r => (intsD r).map (i :: ·)
  | _ :: _ => none
def blsD : List D → Option (List Bool)
  | [] => some []
  | .bl i :: r => (blsD r).map (i :: ·)
  | _ :: _ => none
def strsD : List D → Option (List Str)
  | [] => some []
  | .str i :: r => (strsD r).map (i :: ·)
  | _ :: _ => none
def tupsD : List D → Option (List (List Int))
  | [] => some []
  | .tup xs :: r => match intsD xs, tupsD r with
    | some is, some t => some (is :: t)
    | _, _ => none
  | _ :: _ => none
/-- the first least one -/
def minT (x : D) (xs : List D) : D := xs.foldl (fun a y => if (ltD y a).getD false then y else a) x
def minD (st : Sto) (d : D) : Option D := (seqOf st d).bind fun xs => match intsD xs with
  | some (n :: ns) => some (.int (ns.foldl min n))
  | some [] => none
  | none => match xs, lstOf st d with
    | x :: ys, some _ => if (D.lst (x :: ys)).ok && cmpA (x :: ys) then some (minT x ys) else none
    | _, _ => none
/-- what is sorted: a list's items, a dict's keys -/
def seqK (st : Sto) (d : D) : Option (List D) := match dctOf st d with
  | some (_, ks, _) => some ks
  | none => lstOf st d
def sortL (xs : List D) : Option (List D) := match intsD xs with
  | some ns => some ((ns.mergeSort fun a b => decide (a ≤ b)).map .int)
  | none => match tupsD xs with
    | some ts => if ts.all fun t => !t.isEmpty then some ((ts.mergeSort fun a b => !lexI b a).map fun t => .tup (t.map .int)) else none
    | none => none
def sortD (st : Sto) (d : D) : Option (List D) := (seqK st d).bind sortL
def pairs : List D → Option (List (D × D))
  | [] => some []
  | .tup [k, v] :: r => (pairs r).map ((k, v) :: ·)
  | _ :: _ => none
def putAll : List (D × D) → List D × List D → List D × List D
  | [], r => r
  | p :: ps, r => putAll ps (put p.1 p.2 r.1 r.2)

def zipL : List D → List D → List D
  | x :: xs, y :: ys => .tup [x, y] :: zipL xs ys
  | _, _ => []
/-- the text of data that is a list or a tuple -/
def strD (st : Sto) (d : D) : Rv := match d with
  | .non => some (.str "None", st)
  | .bl b => some (.str (if b then "True" else "False"), st)
  | .str x => some (.str x, st)
  | d => if d.plain then none else (deref st d).bind fun e => if e.ok && e.py.showable && e.py.shown.length ≤ lim then some (.str e.py.shown, st) else none
def bicall (b : Bi) (m : Bool) (ds : List D) (st : Sto) : Rv := match b, ds with
  | .len, [d] => match d with
    | .str s => if s.length ≤ lim then some (.int s.length, st) else none
    | d => match dctOf st d with
      | some (_, ks, _) => some (.int ks.length, st)
      | none => (seqOf st d).map fun xs => (.int xs.length, st)
  | .abs, [.int i] => some (.int (if i < 0 then -i else i), st)
  | .int, [.int i] => some (.int i, st)
  | .int, [.bl b] => some (.int (if b then 1 else 0), st)
  | .str, [.int i] => if i.natAbs.log2 < 1920 then some (.str (toString i), st) else none
  | .all, [d] => (lstOf st d).bind fun xs => (blsD xs).map fun bs => (.bl (bs.all id), st)
  | .any, [d] => (lstOf st d).bind fun xs => (blsD xs).map fun bs => (.bl (bs.any id), st)
  | .sum, [d] => (seqOf st d).bind fun xs => (intsD xs).map fun is => (.int is.sum, st)
  | .min, [.int i, .int j] => some (.int (if j < i then j else i), st)
  | .max, [.int i, .int j] => some (.int (if j > i then j else i), st)
  | .min, [d] => (minD st d).map fun x => (x, st)
  | .max, [d] => (seqOf st d).bind fun xs => match intsD xs with
    | some (n :: ns) => some (.int (ns.foldl max n), st)
    | _ => none
  | .tuple, [d] => (seqOf st d).map fun xs => (.tup xs, st)
  | .list, [d] => (seqOf st d).map fun xs => newL m xs st
  | .sorted, [d] => (sortD st d).map fun xs => newL m xs st
  | .dictT, [d] => (lstOf st d).bind fun xs => match pairs xs with
    | some ps => if ps.all fun p => p.1.isKey true then some (newD m true (putAll ps ([], [])).1 (putAll ps ([], [])).2 st) else none
    | none => none
  | .dict, [d] => (lstOf st d).bind fun xs => match pairs xs with
    | some ps => if ps.all fun p => p.1.isKey false then some (newD m false (putAll ps ([], [])).1 (putAll ps ([], [])).2 st) else none
    | none => none
  | .str, [d] => strD st d
  | _, _ => none

/-- what sort of thing has a method -/
def rkind (st : Sto) (d : D) : Nat := match lstOf st d with
  | some _ => 1
  | none => match dctOf st d with
    | some _ => 2
    | none => match d with
      | .str _ => 3
      | _ => 0
def bmcall (b : Bm) (m : Bool) (o : D) (ds : List D) (st : Sto) : Rv := match o with
  | .ref r => match st[r]?, b, ds with
    | some (.lst xs), .append, [d] => if xs.length < lim then some (.non, st.set r (.lst (xs ++ [d]))) else none
    | some (.lst xs), .extend, [d] => (seqOf st d).bind fun ys => if xs.length + ys.length ≤ lim then some (.non, st.set r (.lst (xs ++ ys))) else none
    | some (.lst xs), .insert, [.int i, d] => if xs.length < lim && 0 ≤ i && i < 1000000 then some (.non, st.set r (.lst (xs.take i.toNat ++ [d] ++ xs.drop i.toNat))) else none
    | some (.lst xs), .pop, [] => (xs[xs.length - 1]?).map fun d => (d, st.set r (.lst xs.dropLast))
    | some (.lst xs), .pop, [.int i] => (ixN xs.length i).bind fun j => (xs[j]?).map fun d => (d, st.set r (.lst (xs.eraseIdx j)))
    | some (.lst xs), .remove, [.int k] => match intsD xs with
      | some ns => if ns.contains k then some (.non, st.set r (.lst ((ns.erase k).map .int))) else none
      | none => none
    | some (.lst xs), .reverse, [] => some (.non, st.set r (.lst xs.reverse))
    | _, _, _ => none
  | _ => none

def setItem (o i v : D) (st : Sto) : Option Sto := match o with
  | .ref r => match st[r]? with
    | some (.lst xs) => match i with
      | .int k => (ixN xs.length k).map fun j => st.set r (.lst (xs.set j v))
      | _ => none
    | some (.dct t ks vs) => if i.isKey t && ks.length < lim then let q := put i v ks vs; some (st.set r (.dct t q.1 q.2)) else none
    | _ => none
  | _ => none

def putF (f : Nat) (v : D) : List (Nat × D) → List (Nat × D)
  | [] => [(f, v)]
  | p :: r => if p.1 = f then (p.1, v) :: r else p :: putF f v r

/-! ### terms -/
def wipe (env : Env) : List Nat → Env
  | [] => env
  | v :: vs => (wipe env vs).set v none
def rangeL (lo : Int) (c : Int) : Nat → List D
  | 0 => []
  | n + 1 => .int lo :: rangeL (lo + c) c n
def inR (i : Int) : Bool := -1000000 ≤ i && i ≤ 1000000
def rng : List D → Option (List D)
  | [.int j] => if inR j then some (rangeL 0 1 j.toNat) else none
  | [.int i, .int j] => if inR i && inR j then some (rangeL i 1 (j - i).toNat) else none
  | [.int i, .int j, .int c] => if c = -1 && inR i && inR j then some (rangeL i (-1) (i - j).toNat) else none
  | _ => none
def enumL (i : Nat) : List D → List D
  | [] => []
  | x :: xs => .tup [.int i, x] :: enumL (i + 1) xs

/-- a call of a def that writes nothing of the caller's: its lists are handed in as they stand, by their parts, and what it tells is told likewise -/
def pcall (C : Call) (f : Nat) (ds : List D) (st : Sto) : Option D := do
  let es ← ds.mapM (deref st)
  let (v, st') ← C f es []
  let w ← deref st' v
  if ds.all D.noRef || w.noLst then some w else none

/-- a call of a def that writes its first argument alone, a list of plain data: it is run beside that list, as its only object -/
def dcall (C : Call) (f : Nat) (ds : List D) (st : Sto) : Rv := match ds with
  | .ref r :: es => match st[r]? with
    | some (.lst xs) => if xs.all D.plain && es.all (fun e => !decide (e = .ref r)) then match es.mapM (deref st) with
      | some fs => match C f (.ref 0 :: fs) [.lst xs] with
        | some (v, st') => match st'[0]?, deref st' v with
          | some (Ob.lst ys), some w => if ys.all D.plain && !decide (v = .ref 0) && (es.all D.noRef || w.noLst) then some (w, st.set r (.lst ys)) else none
          | _, _ => none
        | none => none
      | none => none
      else none
    | _ => none
  | _ => none

/-- a call of a def that writes nothing of the caller's and tells a new list, which the caller may write -/
def fcall (C : Call) (f : Nat) (ds : List D) (st : Sto) : Rv := match ds.mapM (deref st) with
  | some es => match C f es [] with
    | some (.ref n, st') => match st'[n]? with
      | some (.lst xs) => if noRefL xs && (ds.all D.noRef || noLstL xs) then some (.ref st.length, st ++ [.lst xs]) else none
      | _ => none
    | _ => none
  | none => none

/-- the objects that are walked over, as they stood -/
abbrev Src := List (Nat × List D)
def srcOf (st : Sto) : D → Src
  | .ref r => match st[r]? with
    | some (.lst xs) => [(r, xs)]
    | _ => []
  | _ => []
def chk (st : Sto) : Src → Bool
  | [] => true
  | p :: s => (match st[p.1]? with
    | some (.lst ys) => decide (ys = p.2)
    | _ => false) && chk st s

def compL (a : D → Env → Sto → Option (Env × Sto)) (c : Env → Sto → Option (Bool × Sto)) (e : Env → Sto → Rv) (src : Src) (env : Env) : List D → Sto → Option (List D × Sto)
  | [], st => if chk st src then some ([], st) else none
  | x :: xs, st => if !chk st src then none else
    match a x env st with
    | none => none
    | some (env1, st1) => match c env1 st1 with
      | none => none
      | some (false, st2) => compL a c e src env xs st2
      | some (true, st2) => match e env1 st2 with
        | none => none
        | some (d, st3) => match compL a c e src env xs st3 with
          | none => none
          | some (ds, st4) => some (d :: ds, st4)

/-- a dict of the store that is walked over, by its keys: nobody writes it from then on -/
def lockD (st : Sto) (d : D) : Option (List D × Src × Sto) := match d with
  | .ref r => match st[r]? with
    | some (.dct t ks vs) => some (ks, [], st.set r (.fdc t ks vs))
    | some (.fdc _ ks _) => some (ks, [], st)
    | _ => none
  | _ => none
/-- a slice's part: left out, or a number -/
def partOk : IE → D → Bool
  | .cst .non, _ => true
  | _, .int _ => true
  | _, _ => false

structure Pg where
  meth : Nat → Nat → Option Nat
  init : Nat → Option Nat

section
variable (P : Pg) (C : Call)
mutual
def evE : IE → Env → Sto → Rv
  | .bad, _, _ => none
  | .cst d, _, st => some (d, st)
  | .var i, env, st => match env[i]? with
    | some (some d) => some (d, st)
    | _ => none
  | .tup es, env, st => match evEs es env st with
    | some (ds, st1) => some (.tup ds, st1)
    | none => none
  | .lst m es, env, st => match evEs es env st with
    | some (ds, st1) => some (newL m ds st1)
    | none => none
  | .dct0 m t, _, st => some (newD m t [] [] st)
  | .bin o m a b, env, st => match evE a env st with
    | some (x, st1) => match evE b env st1 with
      | some (y, st2) => binop o m x y st2
      | none => none
    | none => none
  | .neg a, env, st => match evE a env st with
    | some (.int i, st1) => some (.int (-i), st1)
    | _ => none
  | .not a, env, st => match evE a env st with
    | some (.bl b, st1) => some (.bl (!b), st1)
    | _ => none
  | .and a b, env, st => match evE a env st with
    | some (.bl true, st1) => evE b env st1
    | some (.bl false, st1) => some (.bl false, st1)
    | _ => none
  | .or a b, env, st => match evE a env st with
    | some (.bl false, st1) => evE b env st1
    | some (.bl true, st1) => some (.bl true, st1)
    | _ => none
  | .cmp o a b, env, st => match evE a env st with
    | some (x, st1) => match evE b env st1 with
      | some (y, st2) => match cmpop o st2 x y with
        | some r => some (.bl r, st2)
        | none => none
      | none => none
    | none => none
  | .cmp2 o p a b c, env, st => match evE a env st with
    | some (x, st1) => match evE b env st1 with
      | some (y, st2) => match cmpop o st2 x y with
        | some true => match evE c env st2 with
          | some (z, st3) => match cmpop p st3 y z with
            | some r => some (.bl r, st3)
            | none => none
          | none => none
        | some false => some (.bl false, st2)
        | none => none
      | none => none
    | none => none
  | .ife c a b, env, st => match evT c env st with
    | some (true, st1) => evE a env st1
    | some (false, st1) => evE b env st1
    | none => none
  | .idx a i, env, st => match evE a env st with
    | some (x, st1) => match evE i env st1 with
      | some (y, st2) => match index st2 x y with
        | some d => some (d, st2)
        | none => none
      | none => none
    | none => none
  | .slc m a lo hi, env, st => match evE a env st with
    | some (x, st1) => match evE lo env st1 with
      | some (y, st2) => match evE hi env st2 with
        | some (z, st3) => if partOk lo y && partOk hi z then slice m x y z st3 else none
        | none => none
      | none => none
    | none => none
  | .rev m a, env, st => match evE a env st with
    | some (x, st1) => match x with
      | .tup xs => some (.tup xs.reverse, st1)
      | x => match lstOf st1 x with
        | some xs => some (newL m xs.reverse st1)
        | none => none
    | none => none
  | .rngL tup m es, env, st => match evEs es env st with
    | some (ds, st1) => match rng ds with
      | some xs => if ds.length ≤ 2 then (match tup with
        | true => some (.tup xs, st1)
        | false => some (newL m xs st1)) else none
      | none => none
    | none => none
  | .trev a, env, st => match evE a env st with
    | some (x, st1) => match lstOf st1 x with
      | some xs => some (.tup xs.reverse, st1)
      | none => none
    | none => none
  | .lzip m a b, env, st => match evE a env st with
    | some (x, st1) => match evE b env st1 with
      | some (y, st2) => match seqOf st2 x, seqOf st2 y with
        | some xs, some ys => if xs.length < lim then some (newL m (zipL xs ys) st2) else none
        | _, _ => none
      | none => none
    | none => none
  | .dget a k d, env, st => match evE a env st with
    | some (x, st1) => if (dctOf st1 x).isSome then match evE k env st1 with
      | some (y, st2) => match evE d env st2 with
        | some (z, st3) => match dctOf st3 x with
          | some (t, ks, vs) => if y.isKey t then some ((look y ks vs).getD z, st3) else none
          | none => none
        | none => none
      | none => none
      else none
    | none => none
  | .call f md es, env, st => match evEs es env st with
    | some (ds, st1) => match md with
      | 0 => match pcall C f ds st1 with
        | some v => some (v, st1)
        | none => none
      | 1 => C f ds st1
      | 2 => dcall C f ds st1
      | _ => fcall C f ds st1
    | none => none
  | .mk c es, env, st => match evEs es env st with
    | some (ds, st1) => match P.init c with
      | some f => match C f (.ref st1.length :: ds) (st1 ++ [.ins c []]) with
        | some (.non, st2) => some (.ref st1.length, st2)
        | _ => none
      | none => none
    | none => none
  | .mth o m es, env, st => match evE o env st with
    | some (.ref r, st1) => match evEs es env st1 with
      | some (ds, st2) => match st1[r]? with
        | some (.ins c fs) => match P.meth c m with
          | some f => C f (.ref r :: ds) st2
          | none => none
        | _ => none
      | none => none
    | _ => none
  | .bm b m o es, env, st => match evE o env st with
    | some (x, st1) => match evEs es env st1 with
      | some (ds, st2) => if rkind st1 x = rkind st2 x then bmcall b m x ds st2 else none
      | none => none
    | none => none
  | .bi b m es, env, st => match evEs es env st with
    | some (ds, st1) => bicall b m ds st1
    | none => none
  | .isi a ts, env, st => match evE a env st with
    | some (x, st1) => if isiOk st1 x then some (.bl (ts.any (isTy st1 x)), st1) else none
    | none => none
  | .fld o f, env, st => match evE o env st with
    | some (.ref r, st1) => match st1[r]? with
      | some (.ins _ fs) => match fs.lookup f with
        | some d => some (d, st1)
        | none => none
      | _ => none
    | _ => none
  | .comp m own t it cs e, env, st => match evIt it env st with
    | some (xs, src, st1) => if xs.length < lim then
        match compL (fun d env st => asgT t d env st) (fun env st => evTs cs env st) (fun env st => evE e env st) src (wipe env own) xs st1 with
        | some (ds, st2) => some (newL m ds st2)
        | none => none
      else none
    | none => none
termination_by structural e => e
def evEs : List IE → Env → Sto → Option (List D × Sto)
  | [], _, st => some ([], st)
  | e :: es, env, st => match evE e env st with
    | some (d, st1) => match evEs es env st1 with
      | some (ds, st2) => some (d :: ds, st2)
      | none => none
    | none => none
/-- as a test -/
def evT : Ts → Env → Sto → Option (Bool × Sto)
  | .not a, env, st => match evT a env st with
    | some (b, st1) => some (!b, st1)
    | none => none
  | .and a b, env, st => match evT a env st with
    | some (true, st1) => evT b env st1
    | some (false, st1) => some (false, st1)
    | none => none
  | .or a b, env, st => match evT a env st with
    | some (false, st1) => evT b env st1
    | some (true, st1) => some (true, st1)
    | none => none
  | .val e, env, st => match evE e env st with
    | some (d, st1) => match tru st1 d with
      | some b => some (b, st1)
      | none => none
    | none => none
def evTs : List Ts → Env → Sto → Option (Bool × Sto)
  | [], _, st => some (true, st)
  | e :: _, env, st => evT e env st
def evIt : It → Env → Sto → Option (List D × Src × Sto)
  | .val e, env, st => match evE e env st with
    | some (d, st1) => match seqOf st1 d with
      | some xs => some (xs, srcOf st1 d, st1)
      | none => lockD st1 d
    | none => none
  | .rng es, env, st => match evEs es env st with
    | some (ds, st1) => match rng ds with
      | some xs => some (xs, [], st1)
      | none => none
    | none => none
  | .enm e, env, st => match evE e env st with
    | some (d, st1) => match seqOf st1 d with
      | some xs => some (enumL 0 xs, srcOf st1 d, st1)
      | none => none
    | none => none
  | .zip a b, env, st => match evE a env st with
    | some (x, st1) => match evE b env st1 with
      | some (y, st2) => match seqOf st2 x, seqOf st2 y with
        | some xs, some ys => some (zipL xs ys, srcOf st2 x ++ srcOf st2 y, st2)
        | _, _ => none
      | none => none
    | none => none
  | .rev e, env, st => match evE e env st with
    | some (d, st1) => match seqOf st1 d with
      | some xs => some (xs.reverse, srcOf st1 d, st1)
      | none => none
    | none => none
  | .revr es, env, st => match evEs es env st with
    | some (ds, st1) => match rng ds with
      | some xs => if ds.length ≤ 2 then some (xs.reverse, [], st1) else none
      | none => none
    | none => none
  | .items _, _, _ => none
def asgT : Tg → D → Env → Sto → Option (Env × Sto)
  | .nm i, d, env, st => if i < env.length then some (env.set i (some d), st) else none
  | .tup ts, d, env, st => match seqOf st d with
    | some xs => asgTs ts xs env st
    | none => none
  | .sub o i, d, env, st => match evE o env st with
    | some (x, st1) => match evE i env st1 with
      | some (y, st2) => match setItem x y d st2 with
        | some st3 => some (env, st3)
        | none => none
      | none => none
    | none => none
  | .fld o f, d, env, st => match evE o env st with
    | some (.ref r, st1) => match st1[r]? with
      | some (.ins c fs) => if fs.length < 100 then some (env, st1.set r (.ins c (putF f d fs))) else none
      | _ => none
    | _ => none
def asgTs : List Tg → List D → Env → Sto → Option (Env × Sto)
  | [], [], env, st => some (env, st)
  | t :: ts, d :: ds, env, st => match asgT t d env st with
    | some (env1, st1) => asgTs ts ds env1 st1
    | none => none
  | _, _, _, _ => none
end
end

/-! ### statements -/
inductive Out where
  | nx (env : Env) (st : Sto) | rt (d : D) (st : Sto) | bk (env : Env) (st : Sto) | ct (env : Env) (st : Sto)

def forL (a : D → Env → Sto → Option (Env × Sto)) (b : Env → Sto → Option Out) (src : Src) : List D → Env → Sto → Option Out
  | [], env, st => if chk st src then some (.nx env st) else none
  | x :: xs, env, st => if !chk st src then none else match a x env st with
    | none => none
    | some (env1, st1) => match b env1 st1 with
      | some (.nx e s) => forL a b src xs e s
      | some (.ct e s) => forL a b src xs e s
      | some (.bk e s) => some (.nx e s)
      | some (.rt d s) => some (.rt d s)
      | none => none
def whlL (c : Env → Sto → Option (Bool × Sto)) (b : Env → Sto → Option Out) : Nat → Env → Sto → Option Out
  | 0, _, _ => none
  | n + 1, env, st => match c env st with
    | none => none
    | some (false, st1) => some (.nx env st1)
    | some (true, st1) => match b env st1 with
      | some (.nx e s) => whlL c b n e s
      | some (.ct e s) => whlL c b n e s
      | some (.bk e s) => some (.nx e s)
      | some (.rt d s) => some (.rt d s)
      | none => none
def wfuel : Nat := 1000000000
def setAll : List Nat → List D → Env → Option Env
  | [], [], env => some env
  | i :: is, d :: ds, env => if i < env.length then setAll is ds (env.set i (some d)) else none
  | _, _, _ => none
def augop (o : Bop) (a b : D) : Option D := match a, b with
  | .int i, .int j => if o = .pow then none else (arith o i j).map .int
  | _, _ => none

section
variable (P : Pg) (C : Call)
mutual
def exS : IS → Env → Sto → Option Out
  | .bad, _, _ => none
  | .asg t e, env, st => match evE P C e env st with
    | some (d, st1) => match asgT P C t d env st1 with
      | some (env1, st2) => some (.nx env1 st2)
      | none => none
    | none => none
  | .par is es, env, st => match evEs P C es env st with
    | some (ds, st1) => match setAll is ds env with
      | some env1 => some (.nx env1 st1)
      | none => none
    | none => none
  | .aug i o e, env, st => match env[i]? with
    | some (some x) => match evE P C e env st with
      | some (y, st1) => match augop o x y with
        | some z => some (.nx (env.set i (some z)) st1)
        | none => none
      | none => none
    | _ => none
  | .augS o i p e, env, st => match evE P C o env st with
    | some (x, st1) => match evE P C i env st1 with
      | some (k, st2) => match index st2 x k with
        | some y => match evE P C e env st2 with
          | some (z, st3) => match augop p y z with
            | some w => match setItem x k w st3 with
              | some st4 => some (.nx env st4)
              | none => none
            | none => none
          | none => none
        | none => none
      | none => none
    | none => none
  | .augF o f p e, env, st => match evE P C o env st with
    | some (.ref r, st1) => match st1[r]? with
      | some (.ins _ fs) => match fs.lookup f with
        | some y => match evE P C e env st1 with
          | some (z, st2) => match augop p y z, st2[r]? with
            | some w, some (.ins c gs) => if gs.length < 100 then some (.nx env (st2.set r (.ins c (putF f w gs)))) else none
            | _, _ => none
          | none => none
        | none => none
      | _ => none
    | _ => none
  | .expr e, env, st => match evE P C e env st with
    | some (_, st1) => some (.nx env st1)
    | none => none
  | .ret e, env, st => match evE P C e env st with
    | some (d, st1) => some (.rt d st1)
    | none => none
  | .ife c a b, env, st => match evT P C c env st with
    | some (true, st1) => exSs a env st1
    | some (false, st1) => exSs b env st1
    | none => none
  | .for_ t it b, env, st => match evIt P C it env st with
    | some (xs, src, st1) => forL (fun d env st => asgT P C t d env st) (fun env st => exSs b env st) src xs env st1
    | none => none
  | .whl c b, env, st => whlL (fun env st => evT P C c env st) (fun env st => exSs b env st) wfuel env st
  | .pass, env, st => some (.nx env st)
  | .brk, env, st => some (.bk env st)
  | .cnt, env, st => some (.ct env st)
termination_by structural s => s
def exSs : List IS → Env → Sto → Option Out
  | [], env, st => some (.nx env st)
  | s :: ss, env, st => match exS s env st with
    | some (.nx e s1) => exSs ss e s1
    | r => r
end
end

structure Fn where
  np : Nat
  ns : Nat
  body : List IS
def fin : Option Out → Rv
  | some (.nx _ st) => some (.non, st)
  | some (.rt d st) => some (d, st)
  | _ => none
def runFn (P : Pg) (C : Call) (F : Fn) (ds : List D) (st : Sto) : Rv :=
  if ds.length = F.np then fin (exSs P C F.body (ds.map some ++ List.replicate (F.ns - F.np) none) st) else none
def callN (P : Pg) (fns : Nat → Option Fn) : Nat → Call
  | 0 => fun _ _ _ => none
  | k + 1 => fun f ds st => match fns f with
    | some F => runFn P (callN P fns k) F ds st
    | none => none
end Pm

/-! Pm, part B1: how values of the small language stand in the abstract heap. -/
namespace Pm
open PySem PySem.Spec L2

def keyD : L2.Key → D
  | .inl i => .int i
  | .inr x => .str x
abbrev Ads := List Addr
section
variable (H : Hp) (F M : Ads)
mutual
/-- d stands as v: F the objects that somebody may write, M the store's -/
def Rep : D → V → Prop
  | .non, v => v = .non
  | .bl b, v => v = .bl b
  | .int i, v => v = .int i
  | .str x, v => v = .str x
  | .tup ds, v => ∃ a vs, v = .ref a ∧ H a = some (.tup vs) ∧ RepL ds vs
  | .lst ds, v => ∃ a vs, v = .ref a ∧ Rd H a (.lst vs) ∧ a ∉ F ∧ RepL ds vs
  | .dct false ks ds, v => ∃ a, v = .ref a ∧ a ∉ F ∧ ∃ kvs : List (L2.Key × V), H a = some (.dK kvs) ∧ ks = kvs.map (fun p => keyD p.1) ∧ RepL ds (kvs.map (·.2))
  | .dct true ks ds, v => ∃ a, v = .ref a ∧ a ∉ F ∧ ∃ kvs : List (List L2.Key × V), H a = some (.dT kvs) ∧ ks = kvs.map (fun p => .tup (p.1.map keyD)) ∧ RepL ds (kvs.map (·.2))
  | .ref n, v => ∃ a, v = .ref a ∧ M[n]? = some a
def RepL : List D → List V → Prop
  | [], vs => vs = []
  | d :: ds, vs => ∃ v r, vs = v :: r ∧ Rep d v ∧ RepL ds r
end
/-- how an object of the store stands; cl, fl: the classes' places, the fields' names -/
def ObR (cl : Nat → Addr) (fl : Nat → Str) : Ob → Addr → Prop
  | .lst ds, a => ∃ vs, H a = some (.lst vs) ∧ RepL H F M ds vs
  | .dct false ks ds, a => ∃ kvs : List (L2.Key × V), H a = some (.dK kvs) ∧ ks = kvs.map (fun p => keyD p.1) ∧ RepL H F M ds (kvs.map (·.2))
  | .dct true ks ds, a => ∃ kvs : List (List L2.Key × V), H a = some (.dT kvs) ∧ ks = kvs.map (fun p => .tup (p.1.map keyD)) ∧ RepL H F M ds (kvs.map (·.2))
  | .fdc false ks ds, a => ∃ kvs : List (L2.Key × V), (∃ o, H a = some (.frz o (.dK kvs))) ∧ ks = kvs.map (fun p => keyD p.1) ∧ RepL H F M ds (kvs.map (·.2))
  | .fdc true ks ds, a => ∃ kvs : List (List L2.Key × V), (∃ o, H a = some (.frz o (.dT kvs))) ∧ ks = kvs.map (fun p => .tup (p.1.map keyD)) ∧ RepL H F M ds (kvs.map (·.2))
  | .ins c fs, a => ∃ dx fvs, H a = some (.ins (cl c) dx fvs) ∧ fvs.map (·.1) = fs.map (fun p => fl p.1) ∧ RepL H F M (fs.map (·.2)) (fvs.map (·.2))
structure SR (cl : Nat → Addr) (fl : Nat → Str) (st : Sto) : Prop where
  len : M.length = st.length
  nd : M.Nodup
  mf : ∀ a ∈ M, a ∈ F
  fs : ∀ a ∈ F, H a ≠ none
  obs : ∀ (n : Nat) (ob : Ob) (a : Addr), st[n]? = some ob → M[n]? = some a → ObR H F M cl fl ob a
structure EnR (env : Env) (σ : St) : Prop where
  len : env.length = σ.length
  at_ : ∀ (i : Nat) (d : D), env[i]? = some (some d) → ∃ v, σ[i]? = some (some v) ∧ Rep H F M d v
end

structure Le (F M : Ads) (H : Hp) (F' M' : Ads) (H' : Hp) : Prop where
  ext : ∀ a o, H a = some o → a ∉ M → H' a = some o
  alive : ∀ a, H a ≠ none → H' a ≠ none
  tups : ∀ a xs, H a = some (.tup xs) → H' a = some (.tup xs)
  frzs : ∀ a o u, H a = some (.frz o u) → H' a = some (.frz o u)
  pre : ∀ (n : Nat) (a : Addr), M[n]? = some a → M'[n]? = some a
  fsub : ∀ a ∈ F, a ∈ F'
  fnew : ∀ a ∈ F', a ∈ F ∨ H a = none
  mnew : ∀ a ∈ M', a ∈ M ∨ H a = none

theorem Le.refl (F M : Ads) (H : Hp) : Le F M H F M H :=
  ⟨fun _ _ h _ => h, fun _ h => h, fun _ _ h => h, fun _ _ _ h => h, fun _ _ h => h, fun _ h => h, fun _ h => .inl h, fun _ h => .inl h⟩
theorem Le.trans {F M : Ads} {H : Hp} {F1 M1 : Ads} {H1 : Hp} {F2 M2 : Ads} {H2 : Hp} (p : Le F M H F1 M1 H1) (q : Le F1 M1 H1 F2 M2 H2) : Le F M H F2 M2 H2 where
  ext := fun a o h n => q.ext a o (p.ext a o h n) fun z => by
    rcases p.mnew a z with z | z
    · exact n z
    · rw [h] at z; cases z
  alive := fun a h => q.alive a (p.alive a h)
  tups := fun a xs h => q.tups a xs (p.tups a xs h)
  frzs := fun a o u h => q.frzs a o u (p.frzs a o u h)
  pre := fun n a h => q.pre n a (p.pre n a h)
  fsub := fun a h => q.fsub a (p.fsub a h)
  fnew := fun a h => by
    rcases q.fnew a h with z | z
    · exact p.fnew a z
    · right
      cases e : H a with
      | none => rfl
      | some o => exact absurd z (p.alive a (by rw [e]; simp))
  mnew := fun a h => by
    rcases q.mnew a h with z | z
    · exact p.mnew a z
    · right
      cases e : H a with
      | none => rfl
      | some o => exact absurd z (p.alive a (by rw [e]; simp))

section
variable {K : PySem.W.Frag} {F M F' M' : Ads} {H H' : Hp}
theorem Le.sqT {a : Addr} {xs : List V} (l : Le F M H F' M' H') (h : SqT K H a xs) : SqT K H' a xs := by
  rcases h with (h | ⟨o, h⟩) | h
  · exact .inl (.inl (l.tups _ _ h))
  · exact .inl (.inr ⟨o, l.frzs _ _ _ h⟩)
  · exact .inr h
theorem Le.rdL {a : Addr} {xs : List V} (l : Le F M H F' M' H') (n : a ∉ M) (h : Rd H a (.lst xs)) : Rd H' a (.lst xs) := by
  rcases h with h | ⟨o, h⟩
  · exact .inl (l.ext _ _ h n)
  · exact .inr ⟨o, l.frzs _ _ _ h⟩
theorem rd_some {a : Addr} {u : HO} (h : Rd H a u) : H a ≠ none := by
  rcases h with h | ⟨o, h⟩ <;> rw [h] <;> simp
theorem Le.nF {a : Addr} (l : Le F M H F' M' H') (n : a ∉ F) (h : H a ≠ none) : a ∉ F' := fun z => by
  rcases l.fnew a z with z | z
  · exact n z
  · exact h z
mutual
theorem Rep.le (l : Le F M H F' M' H') (mf : ∀ a ∈ M, a ∈ F) : ∀ (d : D) (v : V), Rep H F M d v → Rep H' F' M' d v
  | .non, _, h => by simp only [Rep] at h ⊢; exact h
  | .bl _, _, h => by simp only [Rep] at h ⊢; exact h
  | .int _, _, h => by simp only [Rep] at h ⊢; exact h
  | .str _, _, h => by simp only [Rep] at h ⊢; exact h
  | .tup ds, v, h => by
    simp only [Rep] at h ⊢
    obtain ⟨a, vs, e, s, r⟩ := h
    exact ⟨a, vs, e, l.tups _ _ s, RepL.le l mf ds vs r⟩
  | .lst ds, v, h => by
    simp only [Rep] at h ⊢
    obtain ⟨a, vs, e, s, n, r⟩ := h
    exact ⟨a, vs, e, l.rdL (fun z => n (mf a z)) s, l.nF n (rd_some s), RepL.le l mf ds vs r⟩
  | .dct false ks ds, v, h => by
    simp only [Rep] at h ⊢
    obtain ⟨a, e, n, kvs, s, ek, r⟩ := h
    exact ⟨a, e, l.nF n (by rw [s]; simp), kvs, l.ext _ _ s fun z => n (mf a z), ek, RepL.le l mf ds _ r⟩
  | .dct true ks ds, v, h => by
    simp only [Rep] at h ⊢
    obtain ⟨a, e, n, kvs, s, ek, r⟩ := h
    exact ⟨a, e, l.nF n (by rw [s]; simp), kvs, l.ext _ _ s fun z => n (mf a z), ek, RepL.le l mf ds _ r⟩
  | .ref n, v, h => by
    simp only [Rep] at h ⊢
    obtain ⟨a, e, m⟩ := h
    exact ⟨a, e, l.pre n a m⟩
theorem RepL.le (l : Le F M H F' M' H') (mf : ∀ a ∈ M, a ∈ F) : ∀ (ds : List D) (vs : List V), RepL H F M ds vs → RepL H' F' M' ds vs
  | [], _, h => by simp only [RepL] at h ⊢; exact h
  | d :: ds, vs, h => by
    simp only [RepL] at h ⊢
    obtain ⟨v, r, e, h1, h2⟩ := h
    exact ⟨v, r, e, Rep.le l mf d v h1, RepL.le l mf ds r h2⟩
end
theorem EnR.le {env : Env} {σ : St} (l : Le F M H F' M' H') (mf : ∀ a ∈ M, a ∈ F) (h : EnR H F M env σ) : EnR H' F' M' env σ :=
  ⟨h.len, fun i d e => let ⟨v, e1, r⟩ := h.at_ i d e; ⟨v, e1, r.le l mf⟩⟩
theorem RepL.length {ds : List D} {vs : List V} (h : RepL H F M ds vs) : ds.length = vs.length := by
  induction ds generalizing vs with
  | nil => simp only [RepL] at h; subst h; rfl
  | cons d ds ih =>
    simp only [RepL] at h
    obtain ⟨v, r, rfl, _, h2⟩ := h
    simp [ih h2]
theorem RepL.get {ds : List D} {vs : List V} (h : RepL H F M ds vs) {i : Nat} {d : D} (e : ds[i]? = some d) : ∃ v, vs[i]? = some v ∧ Rep H F M d v := by
  induction ds generalizing vs i with
  | nil => simp at e
  | cons x ds ih =>
    simp only [RepL] at h
    obtain ⟨v, r, rfl, h1, h2⟩ := h
    cases i with
    | zero => simp at e; subst e; exact ⟨v, rfl, h1⟩
    | succ i => simpa using ih h2 (by simpa using e)
theorem RepL.nil : RepL H F M [] [] := by simp only [RepL]
theorem RepL.cons {d : D} {ds : List D} {v : V} {vs : List V} (h : Rep H F M d v) (t : RepL H F M ds vs) : RepL H F M (d :: ds) (v :: vs) := by
  simp only [RepL]; exact ⟨v, vs, rfl, h, t⟩
theorem RepL.append {ds es : List D} {vs us : List V} (h : RepL H F M ds vs) (g : RepL H F M es us) : RepL H F M (ds ++ es) (vs ++ us) := by
  induction ds generalizing vs with
  | nil => simp only [RepL] at h; subst h; exact g
  | cons d ds ih =>
    simp only [RepL] at h
    obtain ⟨v, r, rfl, h1, h2⟩ := h
    exact .cons h1 (ih h2)
theorem RepL.take {ds : List D} {vs : List V} (h : RepL H F M ds vs) (n : Nat) : RepL H F M (ds.take n) (vs.take n) := by
  induction ds generalizing vs n with
  | nil => simp only [RepL] at h; subst h; simp [RepL]
  | cons d ds ih =>
    simp only [RepL] at h
    obtain ⟨v, r, rfl, h1, h2⟩ := h
    cases n with
    | zero => exact .nil
    | succ n => exact .cons h1 (ih h2 n)
theorem RepL.drop {ds : List D} {vs : List V} (h : RepL H F M ds vs) (n : Nat) : RepL H F M (ds.drop n) (vs.drop n) := by
  induction ds generalizing vs n with
  | nil => simp only [RepL] at h; subst h; simp [RepL]
  | cons d ds ih =>
    obtain ⟨v, r, rfl, h1, h2⟩ := (by simpa only [RepL] using h : ∃ v r, vs = v :: r ∧ Rep H F M d v ∧ RepL H F M ds r)
    cases n with
    | zero => exact h
    | succ n => exact ih h2 n
theorem RepL.set {ds : List D} {vs : List V} (h : RepL H F M ds vs) {d : D} {v : V} (r : Rep H F M d v) (n : Nat) : RepL H F M (ds.set n d) (vs.set n v) := by
  induction ds generalizing vs n with
  | nil => simp only [RepL] at h; subst h; simp [RepL]
  | cons x ds ih =>
    simp only [RepL] at h
    obtain ⟨w, t, rfl, h1, h2⟩ := h
    cases n with
    | zero => exact .cons r h2
    | succ n => exact .cons h1 (ih h2 n)
theorem RepL.reverse {ds : List D} {vs : List V} (h : RepL H F M ds vs) : RepL H F M ds.reverse vs.reverse := by
  induction ds generalizing vs with
  | nil => simp only [RepL] at h; subst h; simp [RepL]
  | cons d ds ih =>
    simp only [RepL] at h
    obtain ⟨v, r, rfl, h1, h2⟩ := h
    rw [List.reverse_cons, List.reverse_cons]
    exact (ih h2).append (.cons h1 .nil)
theorem RepL.of_get {ds : List D} {vs : List V} (hl : ds.length = vs.length) (h : ∀ (i : Nat) (d : D) (v : V), ds[i]? = some d → vs[i]? = some v → Rep H F M d v) : RepL H F M ds vs := by
  induction ds generalizing vs with
  | nil => cases vs with
    | nil => exact .nil
    | cons _ _ => simp at hl
  | cons d ds ih => cases vs with
    | nil => simp at hl
    | cons v vs => exact .cons (h 0 d v rfl rfl) (ih (by simpa using hl) fun i x y e1 e2 => h (i + 1) x y (by simpa using e1) (by simpa using e2))
theorem RepL.replicate {ds : List D} {vs : List V} (h : RepL H F M ds vs) (n : Nat) : RepL H F M (List.replicate n ds).flatten (List.replicate n vs).flatten := by
  induction n with
  | zero => exact .nil
  | succ n ih => rw [List.replicate_succ, List.replicate_succ, List.flatten_cons, List.flatten_cons]; exact h.append ih
theorem RepL.erase {ds : List D} {vs : List V} (h : RepL H F M ds vs) (n : Nat) : RepL H F M (ds.eraseIdx n) (vs.eraseIdx n) := by
  induction ds generalizing vs n with
  | nil => simp only [RepL] at h; subst h; simp [RepL]
  | cons x ds ih =>
    simp only [RepL] at h
    obtain ⟨w, t, rfl, h1, h2⟩ := h
    cases n with
    | zero => exact h2
    | succ n => exact .cons h1 (ih h2 n)
theorem EnR.set {env : Env} {σ : St} (h : EnR H F M env σ) {d : D} {v : V} (r : Rep H F M d v) (i : Nat) : EnR H F M (env.set i (some d)) (σ.set i (some v)) := by
  refine ⟨by simpa using h.len, fun j x e => ?_⟩
  by_cases hj : j = i
  · subst hj
    have hlt : j < env.length := by
      have := (List.getElem?_eq_some_iff.mp e).1
      simpa using this
    rw [List.getElem?_set_self hlt] at e
    cases e
    exact ⟨v, by rw [List.getElem?_set_self (by rw [← h.len]; exact hlt)], r⟩
  · rw [List.getElem?_set_ne (Ne.symm hj)] at e ⊢
    exact h.at_ j x e
theorem EnR.clear {env : Env} {σ : St} (h : EnR H F M env σ) (i : Nat) : EnR H F M (env.set i none) (σ.set i none) := by
  refine ⟨by simpa using h.len, fun j x e => ?_⟩
  by_cases hj : j = i
  · subst hj
    by_cases hlt : j < env.length
    · rw [List.getElem?_set_self hlt] at e; cases e
    · rw [List.getElem?_eq_none (by simpa using hlt)] at e; cases e
  · rw [List.getElem?_set_ne (Ne.symm hj)] at e ⊢
    exact h.at_ j x e
theorem EnR.wipe {env : Env} {σ : St} (h : EnR H F M env σ) : ∀ vs : List Nat, EnR H F M (wipe env vs) (L2.wipe σ vs)
  | [] => h
  | v :: vs => (EnR.wipe h vs).clear v

/-! ### a new object, a written one -/
variable {cl : Nat → Addr} {fl : Nat → Str} {st : Sto}
theorem ObR.le {ob : Ob} {a : Addr} (l : Le F M H F' M' H') (mf : ∀ a ∈ M, a ∈ F) (keep : ∀ o, H a = some o → H' a = some o) (h : ObR H F M cl fl ob a) : ObR H' F' M' cl fl ob a := by
  match ob, h with
  | .lst ds, ⟨vs, e, r⟩ => exact ⟨vs, keep _ e, r.le l mf⟩
  | .dct false ks ds, ⟨kvs, e, ek, r⟩ => exact ⟨kvs, keep _ e, ek, r.le l mf⟩
  | .dct true ks ds, ⟨kvs, e, ek, r⟩ => exact ⟨kvs, keep _ e, ek, r.le l mf⟩
  | .fdc false ks ds, ⟨kvs, e, ek, r⟩ => exact ⟨kvs, e.imp fun _ q => keep _ q, ek, r.le l mf⟩
  | .fdc true ks ds, ⟨kvs, e, ek, r⟩ => exact ⟨kvs, e.imp fun _ q => keep _ q, ek, r.le l mf⟩
  | .ins c fs, ⟨dx, fvs, e, ek, r⟩ => exact ⟨dx, fvs, keep _ e, ek, r.le l mf⟩
/-- a new object that nobody writes -/
theorem Le.fresh {p : Addr} {o : HO} (F M : Ads) (hp : H p = none) : Le F M H F M (upd H p o) where
  ext := fun a u h _ => by rw [upd_ne (ne_of_none h hp)]; exact h
  alive := fun a h => by
    by_cases e : a = p
    · subst e; exact absurd hp h
    · rw [upd_ne e]; exact h
  tups := fun a xs h => by rw [upd_ne (ne_of_none h hp)]; exact h
  frzs := fun a u w h => by rw [upd_ne (ne_of_none h hp)]; exact h
  pre := fun _ _ h => h
  fsub := fun _ h => h
  fnew := fun _ h => .inl h
  mnew := fun _ h => .inl h
theorem SR.fresh {p : Addr} {o : HO} (S : SR H F M cl fl st) (hp : H p = none) : SR (upd H p o) F M cl fl st :=
  ⟨S.len, S.nd, S.mf, fun a h => (Le.fresh (o := o) F M hp).alive a (S.fs a h), fun n ob a e1 e2 => (S.obs n ob a e1 e2).le (Le.fresh F M hp) S.mf fun u h => by
    rw [upd_ne (ne_of_none h hp)]; exact h⟩
/-- a new object of the store -/
theorem Le.alloc {p : Addr} {o : HO} (F M : Ads) (hp : H p = none) : Le F M H (F ++ [p]) (M ++ [p]) (upd H p o) where
  ext := fun a u h _ => by rw [upd_ne (ne_of_none h hp)]; exact h
  alive := (Le.fresh (o := o) F M hp).alive
  tups := fun a xs h => by rw [upd_ne (ne_of_none h hp)]; exact h
  frzs := fun a u w h => by rw [upd_ne (ne_of_none h hp)]; exact h
  pre := fun n a h => by
    rw [List.getElem?_append_left (List.getElem?_eq_some_iff.mp h).1]; exact h
  fsub := fun _ h => List.mem_append_left _ h
  fnew := fun a h => by
    rcases List.mem_append.mp h with h | h
    · exact .inl h
    · have e : a = p := by simpa using h
      subst e; exact .inr hp
  mnew := fun a h => by
    rcases List.mem_append.mp h with h | h
    · exact .inl h
    · have e : a = p := by simpa using h
      subst e; exact .inr hp
theorem SR.alloc {p : Addr} {o : HO} {ob : Ob} (S : SR H F M cl fl st) (hp : H p = none) (r : ObR (upd H p o) (F ++ [p]) (M ++ [p]) cl fl ob p) : SR (upd H p o) (F ++ [p]) (M ++ [p]) cl fl (st ++ [ob]) where
  len := by simp [S.len]
  nd := by
    have hn : p ∉ M := fun z => S.fs p (S.mf p z) hp
    rw [List.nodup_append]
    exact ⟨S.nd, by simp, fun a ha b hb e => by
      have e2 : b = p := by simpa using hb
      subst e2; subst e; exact hn ha⟩
  mf := fun a h => by
    rcases List.mem_append.mp h with h | h
    · exact List.mem_append_left _ (S.mf a h)
    · exact List.mem_append_right _ h
  fs := fun a h => by
    rcases List.mem_append.mp h with h | h
    · exact (Le.fresh (o := o) F M hp).alive a (S.fs a h)
    · have e : a = p := by simpa using h
      subst e; rw [upd_same]; simp
  obs := fun n ob' a e1 e2 => by
    by_cases hn : n < st.length
    · rw [List.getElem?_append_left hn] at e1
      rw [List.getElem?_append_left (by rw [S.len]; exact hn)] at e2
      exact (S.obs n ob' a e1 e2).le (Le.alloc F M hp) S.mf fun u h => by
        rw [upd_ne (ne_of_none h hp)]; exact h
    · have en : n = st.length := by
        have := (List.getElem?_eq_some_iff.mp e1).1
        simp at this; omega
      subst en
      rw [List.getElem?_append_right (Nat.le_refl _)] at e1
      rw [List.getElem?_append_right (by rw [S.len]; exact Nat.le_refl _), S.len] at e2
      simp at e1 e2
      subst e1; subst e2
      exact r
/-- an object of the store written -/
theorem Le.write {a : Addr} {o u : HO} (F M : Ads) (hm : a ∈ M) (h : H a = some u) (ht : ∀ xs, u ≠ .tup xs) (hf : ∀ x y, u ≠ .frz x y) : Le F M H F M (upd H a o) where
  ext := fun b w e n => by
    rw [upd_ne (fun z => n (by rw [z]; exact hm))]; exact e
  alive := fun b e => by
    by_cases z : b = a
    · subst z; rw [upd_same]; simp
    · rw [upd_ne z]; exact e
  tups := fun b xs e => by
    rw [upd_ne (fun z => by subst z; rw [h] at e; exact ht xs (Option.some.inj e))]; exact e
  frzs := fun b x y e => by
    rw [upd_ne (fun z => by subst z; rw [h] at e; exact hf x y (Option.some.inj e))]; exact e
  pre := fun _ _ h => h
  fsub := fun _ h => h
  fnew := fun _ h => .inl h
  mnew := fun _ h => .inl h
theorem nodup_get {M : Ads} (nd : M.Nodup) {i j : Nat} {a : Addr} (h1 : M[i]? = some a) (h2 : M[j]? = some a) : i = j := by
  obtain ⟨p, e1⟩ := List.getElem?_eq_some_iff.mp h1
  obtain ⟨q, e2⟩ := List.getElem?_eq_some_iff.mp h2
  exact (List.getElem_inj nd).mp (e1.trans e2.symm)
theorem SR.write {n : Nat} {a : Addr} {o u : HO} {ob : Ob} (S : SR H F M cl fl st) (hn : M[n]? = some a) (h : H a = some u) (ht : ∀ xs, u ≠ .tup xs) (hf : ∀ x y, u ≠ .frz x y)
    (r : ObR (upd H a o) F M cl fl ob a) : SR (upd H a o) F M cl fl (st.set n ob) where
  len := by simp [S.len]
  nd := S.nd
  mf := S.mf
  fs := fun b hb => (Le.write (o := o) F M (List.mem_of_getElem? hn) h ht hf).alive b (S.fs b hb)
  obs := fun j ob' b e1 e2 => by
    by_cases hj : j = n
    · subst hj
      rw [hn] at e2; cases e2
      rw [List.getElem?_set_self (by rw [← S.len]; exact (List.getElem?_eq_some_iff.mp hn).1)] at e1
      cases e1; exact r
    · rw [List.getElem?_set_ne (Ne.symm hj)] at e1
      refine (S.obs j ob' b e1 e2).le (Le.write F M (List.mem_of_getElem? hn) h ht hf) S.mf fun w e => ?_
      rw [upd_ne (fun z => hj (nodup_get S.nd (by rw [← z]; exact e2) hn))]; exact e
theorem SR.has {n : Nat} {ob : Ob} (S : SR H F M cl fl st) (e : st[n]? = some ob) : ∃ a, M[n]? = some a ∧ ObR H F M cl fl ob a := by
  have hlt : n < M.length := by rw [S.len]; exact (List.getElem?_eq_some_iff.mp e).1
  exact ⟨M[n], List.getElem?_eq_getElem hlt, S.obs n ob _ e (List.getElem?_eq_getElem hlt)⟩
end
end Pm

/-! Pm, part B2: from the text to the small language; readings. -/
namespace Pm
open PySem PySem.Spec L2

/-! ### the text's terms -/
/-- what the text's module has: own defs (their numbers; whether they write what is handed in), constants, classes, fields, methods; where a new list is an object of the store, where a new dict has tuples as keys -/
structure GT where
  fns : List (Str × Nat × Nat)
  cons : List (Str × D)
  cls : List (Str × Nat)
  flds : List Str
  mths : List Str
  muts : List (Nat × Nat)
  tups : List (Nat × Nat)
/-- where one stands: the names by slot, the scope, the names whose cells were made here -/
structure TC where
  N : List Str
  sc : Scope
  fnc : Str → Bool

def slot (N : List Str) (x : Str) : Option Nat := N.findIdx? (fun y => decide (y = x))
def nmOk (x : Str) : Bool := !(x == ("__debug__" : Str)) && !(x == ("__classdict__" : Str))
def visB (sc : Scope) (x : Str) : Bool := match sc.names.lookup x with
  | some .local => true | some .cell => true | some .free => true | _ => false
def locB (c : TC) (x : Str) : Bool := match c.sc.names.lookup x with
  | some .local => true | some .cell => c.fnc x | _ => false
def glB (sc : Scope) (x : Str) : Bool := match sc.names.lookup x with
  | some .globalImplicit => nmOk x && !(x == ("__name__" : Str)) | _ => false
def atP (l : List (Nat × Nat)) (p : Pos) : Bool := l.contains (p.line, p.col)
def plainE : Expr → Bool
  | .Starred .. => false | .Slice .. => false | .Set .. => false | _ => true
/-- no call of a bare name without arguments -/
def notSuper : Expr → Bool
  | .Call (.Name _ _) [] [] _ => false
  | _ => true
def isTupE : Expr → Bool
  | .Tuple .. => true | _ => false
def isNmE : Expr → Bool
  | .Name .. => true | _ => false
def bopOf : Operator → Option Bop
  | .Add => some .add | .Sub => some .sub | .Mult => some .mul | .FloorDiv => some .fdiv | .Mod => some .mod | .Pow => some .pow | _ => none
def copOf : CmpOp → Cop
  | .Eq => .eq | .NotEq => .ne | .Lt => .lt | .LtE => .le | .Gt => .gt | .GtE => .ge | .Is => .is | .IsNot => .isn | .In => .in_ | .NotIn => .nin
def biT : List (Str × Bi) := [("len", .len), ("abs", .abs), ("int", .int), ("str", .str), ("all", .all), ("any", .any), ("sum", .sum), ("min", .min), ("max", .max),
  ("tuple", .tuple), ("list", .list), ("dict", .dict), ("sorted", .sorted), ("set", .set)]
def bmT : List (Str × Bm) := [("append", .append), ("extend", .extend), ("insert", .insert), ("pop", .pop), ("remove", .remove), ("index", .index), ("get", .get), ("count", .count),
  ("reverse", .reverse), ("join", .join), ("split", .split), ("setdefault", .setdefault), ("items", .items), ("clear", .clear), ("replace", .replace)]
def tyT : List (Str × Ty) := [("int", .int), ("bool", .bool), ("str", .str), ("list", .list), ("tuple", .tuple), ("dict", .dict)]
/-- the classes that isinstance is asked of -/
def tyOf (sc : Scope) : Expr → Option Ty
  | .Name x _ => if glB sc x then tyT.lookup x else none
  | _ => none
def tysOf (sc : Scope) : Expr → Option (List Ty)
  | .Tuple es _ _ => es.mapM (tyOf sc)
  | e => (tyOf sc e).map fun t => [t]
/-- names of a comprehension's own -/
def ownOf (N : List Str) (scope : Scope) : List (Str × Nat) := scope.names.filterMap fun y => match y.2 with
  | .local => (slot N y.1).map fun i => (y.1, i)
  | .cell => (slot N y.1).map fun i => (y.1, i)
  | _ => none
def TC.blk (c : TC) (scope : Scope) : TC := { N := c.N, sc := relS scope c.sc, fnc := fun x => scope.names.lookup x == some .cell }

section
variable (G : GT)
def trName (c : TC) (x : Str) : IE :=
  if visB c.sc x then (if nmOk x then match slot c.N x with | some i => .var i | none => .bad else .bad)
  else if glB c.sc x then match G.cons.lookup x with | some d => .cst d | none => .bad else .bad
def trConst : Const → IE
  | .none => .cst .non | .bool b => .cst (.bl b) | .int i => .cst (.int i) | .str s => .cst (.str s) | _ => .bad
def trArgs (t : Expr → IE) (es : List Expr) : Option (List IE) := if es.length ≤ 1000 && es.all plainE then some (es.map t) else none
def trRng (t : Expr → IE) (c : TC) (e : Expr) : Option (List IE) := match e with
  | .Call (.Name x _) args [] _ => if glB c.sc x && x == ("range" : Str) && !args.isEmpty then trArgs t args else none
  | _ => none
/-- tuple(range(..)), list(range(..)), tuple(reversed(a)) -/
def trSeq (t : Expr → IE) (c : TC) (m : Bool) (x : Str) (args : List Expr) : Option IE := match args with
  | [a] => if x == ("tuple" : Str) || x == ("list" : Str) then match trRng t c a with
      | some es => if es.length ≤ 2 then some (.rngL (x == ("tuple" : Str)) m es) else none
      | none => if x == ("tuple" : Str) then match a with
          | .Call (.Name y _) [b] [] _ => if glB c.sc y && y == ("reversed" : Str) && plainE b then some (.trev (t b)) else none
          | _ => none
        else match a with
          | .Call (.Name y _) [b, d] [] _ => if glB c.sc y && y == ("zip" : Str) && (plainE b && plainE d) then some (.lzip m (t b) (t d)) else none
          | _ => none
    else none
  | _ => none
/-- a call of a name -/
def trCall (c : TC) (t : Expr → IE) (x : Str) (args : List Expr) (pos : Pos) : IE :=
  if !glB c.sc x then .bad else if args.isEmpty then (match G.fns.lookup x with
    | some (j, eff) => .call j eff []
    | none => .bad) else
  match trArgs t args with
  | none => .bad
  | some es => match G.fns.lookup x with
    | some (j, eff) => .call j eff es
    | none => match G.cls.lookup x with
      | some k => .mk k es
      | none => match trSeq t c (atP G.muts pos) x args with
        | some e => e
        | none => match biT.lookup x with
          | some b => .bi (if b = .dict && atP G.tups pos then .dictT else b) (atP G.muts pos) es
          | none => if x == ("isinstance" : Str) then match args with
              | [a, ty] => match tysOf c.sc ty with
                | some ts => if ts.length ≤ 1000 then .isi (t a) ts else .bad
                | none => .bad
              | _ => .bad
            else .bad
def fidx (l : List Str) (x : Str) : Option Nat := l.findIdx? (fun y => decide (y = x))
def trMeth (t : Expr → IE) (o : Expr) (m : Str) (args : List Expr) (apos pos : Pos) : IE :=
  if !(apos.endLine == pos.line) || !decide (args.length < 20) then .bad else match trArgs t args with
  | none => .bad
  | some es => if !plainE o || !notSuper o then .bad else match fidx G.mths m with
    | some j => .mth (t o) j es
    | none => if m == ("get" : Str) then (match args with
        | [e] => .dget (t o) (t e) (.cst .non)
        | [e, f] => .dget (t o) (t e) (t f)
        | _ => .bad) else match bmT.lookup m with
      | some b => .bm b (atP G.muts pos) (t o) es
      | none => .bad
def isNeg1 : Expr → Bool
  | .UnaryOp .USub (.Constant (.int 1) _ _) _ => true
  | _ => false
def trPart (t : Expr → IE) : Option Expr → IE
  | none => .cst .non
  | some e => if plainE e then (match t e with
    | .cst .non => .bad
    | i => i) else .bad
def trSub (t : Expr → IE) (a i : Expr) (pos : Pos) : IE := if !plainE a then .bad else match i with
  | .Slice lo hi none _ => .slc (atP G.muts pos) (t a) (trPart t lo) (trPart t hi)
  | .Slice none none (some s) _ => if isNeg1 s then .rev (atP G.muts pos) (t a) else .bad
  | i => if plainE i then .idx (t a) (t i) else .bad
def trAnd (t : Expr → IE) : List Expr → IE
  | [] => .bad
  | [a] => t a
  | a :: r => .and (t a) (trAnd t r)
def trOr (t : Expr → IE) : List Expr → IE
  | [] => .bad
  | [a] => t a
  | a :: r => .or (t a) (trOr t r)
def trAndT (t : Expr → Ts) : List Expr → Ts
  | [] => .val .bad
  | [a] => t a
  | a :: r => .and (t a) (trAndT t r)
def trOrT (t : Expr → Ts) : List Expr → Ts
  | [] => .val .bad
  | [a] => t a
  | a :: r => .or (t a) (trOrT t r)
def trCmp (t : Expr → IE) (a : Expr) (ops : List CmpOp) (bs : List Expr) : IE := match ops, bs with
  | [o], [b] => if plainE b then .cmp (copOf o) (t a) (t b) else .bad
  | [o, p], [b, d] => if plainE b && plainE d then .cmp2 (copOf o) (copOf p) (t a) (t b) (t d) else .bad
  | _, _ => .bad
def trIt (t : Expr → IE) (c : TC) (tup nm : Bool) (e : Expr) : It := match trRng t c e with
  | some es => .rng es
  | none => match e with
    | .Call (.Name x _) args [] _ => if glB c.sc x && x == ("enumerate" : Str) && tup then match args with
          | [a] => if plainE a then .enm (t a) else .val .bad
          | _ => .val .bad
        else if glB c.sc x && x == ("zip" : Str) && (tup || nm) then match args with
          | [a, b] => if plainE a && plainE b then .zip (t a) (t b) else .val .bad
          | _ => .val .bad
        else if glB c.sc x && x == ("reversed" : Str) then match args with
          | [a] => if plainE a then match trRng t c a with
              | some es => .revr es
              | none => .rev (t a)
            else .val .bad
          | _ => .val .bad
        else .val (t e)
    | e => if plainE e then .val (t e) else .val .bad
/-- a target -/
def trTg (t : Expr → IE) (c : TC) : Nat → Expr → Tg
  | 0, _ => .sub .bad .bad
  | n + 1, e => match e with
    | .Name x _ => if locB c x then match slot c.N x with | some i => .nm i | none => .sub .bad .bad else .sub .bad .bad
    | .Tuple es _ _ => if es.all plainE then .tup (es.map (trTg t c n)) else .sub .bad .bad
    | .Subscript o i _ => if plainE o && plainE i then .sub (t o) (t i) else .sub .bad .bad
    | .Attribute o f _ => match fidx G.flds f with
      | some j => if plainE o then .fld (t o) j else .sub .bad .bad
      | none => .sub .bad .bad
    | _ => .sub .bad .bad
mutual
def trE : Nat → TC → Expr → IE
  | 0, _, _ => .bad
  | n + 1, c, e => match e with
    | .Constant v _ _ => trConst v
    | .Name x _ => trName G c x
    | .Tuple es _ _ => match trArgs (trE n c) es with | some is => .tup is | none => .bad
    | .List es pos => match trArgs (trE n c) es with | some is => .lst (atP G.muts pos) is | none => .bad
    | .Dict ks vs pos => if ks.isEmpty && vs.isEmpty then .dct0 (atP G.muts pos) (atP G.tups pos) else .bad
    | .BinOp a op b pos => match bopOf op with | some o => .bin o (atP G.muts pos) (trE n c a) (trE n c b) | none => .bad
    | .UnaryOp op a _ => match op with | .USub => .neg (trE n c a) | .Not => .not (trE n c a) | _ => .bad
    | .BoolOp op es _ => match op with | .And => trAnd (trE n c) es | .Or => trOr (trE n c) es
    | .Compare a ops bs _ => trCmp (trE n c) a ops bs
    | .IfExp t a b _ => .ife (trT n c t) (trE n c a) (trE n c b)
    | .Subscript a i pos => trSub G (trE n c) a i pos
    | .Call f args kws pos => if !kws.isEmpty then .bad else match f with
      | .Name x _ => trCall G c (trE n c) x args pos
      | .Attribute o m apos => trMeth G (trE n c) o m args apos pos
      | _ => .bad
    | .Attribute o f _ => match fidx G.flds f with | some j => if plainE o then .fld (trE n c o) j else .bad | none => .bad
    | .ListComp elt gens scope pos => match gens with
      | [⟨tg, iter, ifs, 0⟩] => if ifs.length ≤ 1 && ifs.all plainE && plainE elt && blkC c.N c.sc scope (ownOf c.N scope) && (trTg G (trE n (c.blk scope)) (c.blk scope) n tg).slots.all (((ownOf c.N scope).map (·.2)).contains ·) then
          .comp (atP G.muts pos) ((ownOf c.N scope).map (·.2)) (trTg G (trE n (c.blk scope)) (c.blk scope) n tg) (trIt (trE n c) c (isTupE tg) (isNmE tg) iter) (ifs.map (trT n (c.blk scope))) (trE n (c.blk scope) elt)
        else .bad
      | _ => .bad
    | _ => .bad
def trT : Nat → TC → Expr → Ts
  | 0, _, _ => .val .bad
  | n + 1, c, e => match e with
    | .UnaryOp .Not a _ => .not (trT n c a)
    | .BoolOp op es _ => match op with | .And => trAndT (trT n c) es | .Or => trOrT (trT n c) es
    | .IfExp .. => .val .bad
    | e => if plainE e then .val (trE n c e) else .val .bad
end
/-- a, b = x, y: how the text's own machine stores it: as any pair, not said here, or name by name -/
inductive ParK where
  | no | bad | yes (is : List Nat) (es : List Expr)
def parNm (c : TC) (line : Nat) : Expr → Option Str
  | .Name id pos => if c.sc.names.lookup id == some .local && pos.line == line then some id else none
  | _ => none
def slotsOf (N : List Str) : List Str → Option (List Nat)
  | [] => some []
  | x :: xs => match slot N x, slotsOf N xs with
    | some i, some is => some (i :: is)
    | _, _ => none
def parT (c : TC) (ts vs : List Expr) : ParK :=
  if !(ts.length == 2 || ts.length == 3) || vs.length != ts.length then .no
  else if !(vs.all plainE) || !(c.sc.kind == .function) then .bad
  else if (ts.filterMap (parNm c ((ts.head?.map (·.pos.line)).getD 0))).length != ts.length || (ts.filterMap (parNm c ((ts.head?.map (·.pos.line)).getD 0))).eraseDups.length != (ts.filterMap (parNm c ((ts.head?.map (·.pos.line)).getD 0))).length then .no
  else if vs.all (foldedForSure 8) then .no
  else if vs.all (constantsAlone 8) then .bad
  else match slotsOf c.N (ts.filterMap (parNm c ((ts.head?.map (·.pos.line)).getD 0))) with
    | some is => if is.Nodup then .yes is vs else .bad
    | none => .bad
def parK (c : TC) (tg e : Expr) : ParK := match tg with
  | .Tuple ts _ _ => (match e with
    | .Tuple vs _ _ => parT c ts vs
    | _ => .no)
  | _ => .no
def trS : Nat → TC → Stmt → IS
  | 0, _, _ => .bad
  | n + 1, c, s => match s with
    | .Assign tgs e _ => match tgs with
      | [tg] => if !plainE e then .bad else match parK c tg e with
        | .no => .asg (trTg G (trE G n c) c n tg) (trE G n c e)
        | .bad => .bad
        | .yes is es => .par is (es.map (trE G n c))
      | _ => .bad
    | .AugAssign tg op e _ => match bopOf op with
      | none => .bad
      | some o => match tg with
        | .Name x _ => if locB c x then match slot c.N x with | some i => .aug i o (trE G n c e) | none => .bad else .bad
        | .Subscript a i _ => if plainE a && plainE i then .augS (trE G n c a) (trE G n c i) o (trE G n c e) else .bad
        | .Attribute a f _ => match fidx G.flds f with | some j => .augF (trE G n c a) j o (trE G n c e) | none => .bad
        | _ => .bad
    | .Expr e _ => match e with
      | .Call .. => .expr (trE G n c e)
      | _ => .bad
    | .Return v _ => match v with | some e => if plainE e then .ret (trE G n c e) else .bad | none => .ret (.cst .non)
    | .If t a b _ => .ife (trT G n c t) (a.map (trS n c)) (b.map (trS n c))
    | .For tg iter body orelse _ => if orelse.isEmpty then .for_ (trTg G (trE G n c) c n tg) (trIt (trE G n c) c (isTupE tg) (isNmE tg) iter) (body.map (trS n c)) else .bad
    | .While t body orelse _ => if orelse.isEmpty then .whl (trT G n c t) (body.map (trS n c)) else .bad
    | .Pass _ => .pass
    | .Break _ => .brk
    | .Continue _ => .cnt
    | _ => .bad
end

/-! ### readings -/
/-- the world of the text: the classes' places, the fields' names, the methods, what a call of a def comes to -/
structure Wd where
  cl : Nat → Addr
  fl : Nat → Str
  P : Pg
  C : Call
abbrev SRx (W : Wd) (H : Hp) (F M : Ads) (st : Sto) : Prop := SR H F M W.cl W.fl st
section
variable (W : Wd)
def RE (e : IE) : TE := fun σ H Q => ∃ F M env st d st', EnR H F M env σ ∧ SRx W H F M st ∧ evE W.P W.C e env st = some (d, st') ∧
  ∀ F' M' H' v, Le F M H F' M' H' → SRx W H' F' M' st' → Rep H' F' M' d v → Q v H'
def REs (es : List IE) : TA := fun σ H Q => ∃ F M env st ds st', EnR H F M env σ ∧ SRx W H F M st ∧ evEs W.P W.C es env st = some (ds, st') ∧
  ∀ F' M' H' vs, Le F M H F' M' H' → SRx W H' F' M' st' → RepL H' F' M' ds vs → Q vs H'
def RT (t : Ts) : TT := fun σ H Q => ∃ F M env st b st', EnR H F M env σ ∧ SRx W H F M st ∧ evT W.P W.C t env st = some (b, st') ∧
  ∀ F' M' H', Le F M H F' M' H' → SRx W H' F' M' st' → Q b H'
def RTs (t : List Ts) : TT := fun σ H Q => ∃ F M env st b st', EnR H F M env σ ∧ SRx W H F M st ∧ evTs W.P W.C t env st = some (b, st') ∧
  ∀ F' M' H', Le F M H F' M' H' → SRx W H' F' M' st' → Q b H'
/-- but for these slots all is as it was -/
def Keep (L : List Nat) (σ σ' : L2.St) : Prop := σ'.length = σ.length ∧ ∀ j, j ∉ L → σ'[j]? = σ[j]?
def RG (t : Tg) : TG := fun v σ H Q => ∃ F M env st d env' st', EnR H F M env σ ∧ SRx W H F M st ∧ Rep H F M d v ∧ asgT W.P W.C t d env st = some (env', st') ∧
  ∀ F' M' H' σ', Le F M H F' M' H' → SRx W H' F' M' st' → EnR H' F' M' env' σ' → Keep t.slots σ σ' → Q σ' H'
def RGs (ts : List Tg) : TGs := fun vs σ H Q => ∃ F M env st ds env' st', EnR H F M env σ ∧ SRx W H F M st ∧ RepL H F M ds vs ∧ asgTs W.P W.C ts ds env st = some (env', st') ∧
  ∀ F' M' H' σ', Le F M H F' M' H' → SRx W H' F' M' st' → EnR H' F' M' env' σ' → Keep (slotsL ts) σ σ' → Q σ' H'
/-- what a statement's outcome leaves -/
def OutR (F M : Ads) (H : Hp) (D : Ends) (o : Out) : Prop := match o with
  | .nx env st => ∀ F' M' H' σ', Le F M H F' M' H' → SRx W H' F' M' st → EnR H' F' M' env σ' → D.nx σ' H'
  | .bk env st => ∀ F' M' H' σ', Le F M H F' M' H' → SRx W H' F' M' st → EnR H' F' M' env σ' → D.bk σ' H'
  | .ct env st => ∀ F' M' H' σ', Le F M H F' M' H' → SRx W H' F' M' st → EnR H' F' M' env σ' → D.ct σ' H'
  | .rt d st => ∀ F' M' H' v, Le F M H F' M' H' → SRx W H' F' M' st → Rep H' F' M' d v → D.rt v H'
def RS (s : IS) : TS := fun D σ H => ∃ F M env st o, EnR H F M env σ ∧ SRx W H F M st ∧ exS W.P W.C s env st = some o ∧ OutR W F M H D o
def RSs (s : List IS) : TS := fun D σ H => ∃ F M env st o, EnR H F M env σ ∧ SRx W H F M st ∧ exSs W.P W.C s env st = some o ∧ OutR W F M H D o
end
end Pm

/-! Pm, part W0: enumerate and zip over lists and tuples alike. -/
namespace Pm
open PySem PySem.Spec L2
open PyProof.Rows hiding St
def IterAt (t : Bool) (h : Heap) (it l : Addr) (i : Nat) : Prop := match t with | true => h.IsTupleIter it l i | false => h.IsListIter it l i
def HasAt (t : Bool) (h : Heap) (l : Addr) (items : Array Value) : Prop := match t with | true => h.IsTuple l items | false => h.IsList l items
def SqA (t : Bool) (K : PySem.W.Frag) (H : Hp) (a : Addr) (xs : List V) : Prop := match t with | true => SqT K H a xs | false => SqL K H a xs
theorem Draws.seqA {prog : Program} {w : World} {A : Around} (t : Bool) (hh : A.handled = none) (it l : Addr) (hne : l ≠ it) (items : Array Value) :
    Draws prog w A it [it, l] items.size (fun i v => items[i]? = some v) (fun i h => IterAt t h it l i ∧ HasAt t h l items) := by
  cases t
  · exact Draws.list hh it l hne items
  · exact Draws.tuple hh it l hne items
theorem IterAt.obj {t : Bool} {h : Heap} {it l : Addr} {i : Nat} (x : IterAt t h it l i) : ∃ o, h.get? it = some o ∧ ∀ v, o.data ≠ .cell v := by
  cases t
  · obtain ⟨o, e, _, d⟩ := x; exact ⟨o, e, fun v q => by rw [d] at q; cases q⟩
  · obtain ⟨o, e, _, d⟩ := x; exact ⟨o, e, fun v q => by rw [d] at q; cases q⟩
theorem IterAt.at {t : Bool} {h h' : Heap} {it l : Addr} {i : Nat} (x : IterAt t h it l i) (k : ∀ o, h.get? it = some o → h'.get? it = some o) : IterAt t h' it l i := by
  cases t
  · exact PySem.Heap.IsListIter.at x k
  · exact PySem.Heap.IsTupleIter.at x k
section
variable {X : Cx} {pins : List (Addr × Obj)} {σ : L2.St} {H : Hp} {s : Shared} {a : Addr} {xs ys : List V} {t : Bool}
theorem Inv.seqA (I : Inv X pins σ H s) (h : SqA t X.K H a xs) : ∃ its : List Value, Vals xs its ∧ HasAt t s.heap a its.toArray ∧ a < s.heap.objs.size := by
  cases t
  · obtain ⟨its, h1, h2, h3⟩ := I.list h; exact ⟨its, h1, h2.isList, h2.lt⟩
  · obtain ⟨its, h1, h2, h3⟩ := I.tuple h; exact ⟨its, h1, h2, by obtain ⟨o, e, _⟩ := h2; exact Heap.lt_size e⟩
theorem Inv.seqA_inj (I : Inv X pins σ H s) (h : SqA t X.K H a xs) (h' : SqA t X.K H a ys) : xs = ys := by
  cases t
  · exact I.list_inj h h'
  · exact I.tuple_inj h h'
end
theorem beginsA (t : Bool) (l : Addr) (items : Array Value) : ∃ o : Obj, Begins (.ref l) o (fun h => HasAt t h l items) ∧ ∀ h : Heap, ∀ it, h.get? it = some o → IterAt t h it l 0 := by
  cases t
  · exact ⟨_, begins_list l items, fun h it e => ⟨_, e, rfl, rfl⟩⟩
  · exact ⟨_, begins_tuple l items, fun h it e => ⟨_, e, rfl, rfl⟩⟩
theorem zip_apart (n a b : Nat) (la : a < n) (lb : b < n) : ZipSep2 (n + 4) (n + 2) (n + 3) n (n + 1) [n, a] [n + 1, b] := by
  refine ⟨?_, ?_, ?_, ?_, ?_, ?_, ?_, ?_, ?_, ?_, ?_, ?_, ?_⟩ <;> (try simp only [List.mem_cons, List.not_mem_nil, or_false, not_or, ne_eq, true_or]) <;> (try trivial) <;> (try constructor) <;> (intro h; have h : (_ : Nat) = _ := h; omega)
theorem nat_ne {n a k : Nat} (la : a < n) : n + k ≠ a ∧ a ≠ n + k ∧ a ≠ n := by omega
/-! ### enumerate -/
def IteA (t : Bool) (K : PySem.W.Frag) (a : Addr) : L2.It :=
  ⟨fun i H => ∃ (xs : List V) (x : V), SqA t K H a xs ∧ xs[i]? = some x, fun i H v H' => ∃ T x, v = .ref T ∧ H T = none ∧ H' = upd H T (.tup [.int (i : Nat), x]) ∧ ∀ xs, SqA t K H a xs → xs[i]? = some x, fun i H => ∃ xs : List V, SqA t K H a xs ∧ xs.length = i⟩
theorem turn_enumA {P : Program} {w : World} {K : PySem.W.Frag} {elts : List Expr} {kk : Nat} {tpos : Pos} (t : Bool) (a e it : Addr) (hae : e ≠ a) (hai : a ≠ it) :
    Turn P w K (.Tuple elts kk tpos) (IteA t K a) [e, it] e (fun i h => (∃ old, IsEnum h e it ((i : Nat) : Int) old) ∧ IterAt t h it a i ∧ e ≠ it) where
  mem := by simp
  obj := fun i h st b hb => by
    obtain ⟨⟨old, he⟩, hi, _⟩ := st
    have e' : b = e ∨ b = it := by simpa using hb
    rcases e' with z | z
    · rw [z]; exact ⟨_, he, fun v q => nomatch q⟩
    · rw [z]; exact hi.obj
  keep := fun i h h' st k => let ⟨⟨old, he⟩, hi, hne⟩ := st; ⟨⟨old, k e (by simp) _ he⟩, hi.at fun o q => k it (by simp) o q, hne⟩
  item := by
    intro X hP hw hK hc i pins s σ H E I hf st hg
    subst hP hw hK
    obtain ⟨⟨old, he⟩, hit, hne⟩ := st
    obtain ⟨xs, x, hq, hx⟩ := hg
    obtain ⟨its, rv, p, hz⟩ := Pm.Inv.seqA I hq
    obtain ⟨u, hu, ru⟩ := rv.get hx
    have hel : e < s.heap.objs.size := Heap.lt_size he
    have hil : it < s.heap.objs.size := by obtain ⟨_, q, _⟩ := hit.obj; exact Heap.lt_size q
    have hlt : i < its.toArray.size := by
      have := (List.getElem?_eq_some_iff.mp hu).1
      simpa using this
    refine wpAny_pyNext_enum_itemD (Draws.seqA (prog := X.prog) (w := X.w) (A := X.A.in1) t (show X.A.in1.handled = none from I.ok.hd hc) it a hai its.toArray) he ⟨hit, p⟩ hlt hne (by simp [hne, hae]) fun u' h' tk hP ho hst' hT hsz hk => ?_
    have eu : u' = u := by
      have q : its[i]? = some u' := by simpa using hP
      rw [hu] at q; cases q; rfl
    subst eu
    refine ⟨_, rfl, wpAny_letOwnedTupleGo_enum (s := { s with heap := h', toks := tk + 1 }) ho fun h'' he' sb => ?_⟩
    have hT2 : h''.get? s.heap.objs.size = some { cls := .type "tuple", data := .seq #[.int i tk, u'] } := (sb.2 _ (Nat.ne_of_gt hel)).trans hT
    have new : ObjOk X.prog X.w (upd H s.heap.objs.size (.tup [.int (i : Nat), x])) h'' s.heap.objs.size (.tup [.int (i : Nat), x]) :=
      ⟨by show 2 ≤ sizeLine; decide, [.int i tk, u'], .cons ⟨_, rfl⟩ (.cons ru .nil), ⟨_, hT2, rfl, _, rfl⟩⟩
    have I1 : Inv X pins σ (upd H s.heap.objs.size (.tup [.int (i : Nat), x])) { s with heap := h'', toks := tk + 1 } :=
      I.turnedNew (ch := [e, it]) (fun b ob hb q => (sb.2 b (fun z => hb (by simp [z]))).trans (hk b ob (fun z => hb (by simp [z])) (fun z => hb (by simp [z])) q)) hf (Nat.le_refl _) new
    refine ⟨.ref s.heap.objs.size, _, I1, rfl, ⟨_, x, rfl, I.hok.fresh (Nat.le_refl _), rfl, fun ys hy => by rw [Pm.Inv.seqA_inj I hy hq]; exact hx⟩, ⟨⟨u', ?_⟩, hst'.1.at fun o q => (sb.2 it (Ne.symm hne)).trans q, hne⟩, fun b hb => ?_⟩
    · have e1 : ((i + 1 : Nat) : Int) = (i : Int) + 1 := by omega
      rw [e1]; exact he'
    · have hb' : b < s.heap.objs.size := by
        have e' : b = e ∨ b = it := by simpa using hb
        rcases e' with z | z
        · rw [z]; exact hel
        · rw [z]; exact hil
      rw [upd_ne (Nat.ne_of_lt hb')]
      exact (hf b hb).1
  done := by
    intro X hP hw hK hc i pins s σ H E I hf st hg
    subst hP hw hK
    obtain ⟨⟨old, he⟩, hit, hne⟩ := st
    obtain ⟨xs, hq, hx⟩ := hg
    obtain ⟨its, rv, p, hz⟩ := Pm.Inv.seqA I hq
    obtain ⟨f0, f1, f2, f3, f4, f5⟩ := hf it (by simp)
    have hl := rv.length
    have hn : its.toArray.size = i := by simp; omega
    exact wpAny_pyNext_enum_endD (Draws.seqA (prog := X.prog) (w := X.w) (A := X.A.in1) t (show X.A.in1.handled = none from I.ok.hd hc) it a hai its.toArray) he (by rw [hn]; exact ⟨hit, p⟩) fun h' eb => ⟨rfl, I.turned (t' := s.toks) (fun b o hb q => eb b o hb q) f0 f1 f3 f4 f5⟩
  self := fun A i s Q E st h => let ⟨⟨_, he⟩, _⟩ := st; wpAny_pyIter_enum he h
theorem meets_enumerate_newA {v : Value} {o : Obj} {H : Heap → Prop} (B : Begins v o H) :
    Meets (Builtin.«enumerate.__new__» ⟨[.type "enumerate", v], []⟩) (fun _ R s => H s.heap ∧
      R (.ok (.ret (.ref (s.heap.push o).objs.size))) { s with heap := (s.heap.push o).push { cls := .type "enumerate", data := .fields #[.none, .bool false, .ref s.heap.objs.size, rawInt 0, .none, .none] } }) :=
  .of_wp fun prog w A R s h => by
    obtain ⟨hp, g, d, tk, os⟩ := s; obtain ⟨h1, h⟩ := h
    have hsub := sub_enumerate
    have q1 : ∀ {A' : Around} {E : Value → Shared → Prop} {Q : Value → Shared → Prop}, Q (.ref hp.objs.size) ⟨hp.push o, g, d, tk, os⟩ → wpAny (model prog w) A' (pyIter v) Q E ⟨hp, g, d, tk, os⟩ :=
      fun q => B.iter prog w _ _ ⟨hp, g, d, tk, os⟩ _ h1 q
    wp_walk using q1
    refine wpAny_stack_any fun st => wpAny_pure ?_
    split
    · rename_i c _ _ _ _ _
      cases (c == Value.type "enumerate")
      · wp_walk using q1
        exact ⟨_, rfl, h⟩
      · wp_walk using q1
        exact ⟨_, rfl, h⟩
    · wp_walk using q1
      exact ⟨_, rfl, h⟩
section
variable {prog : Program} {w : World} {A : Around} {E : Value → Shared → Prop} {s : Shared}
/-- enumerate(v): its two new cells -/
theorem call_enumA {v : Value} {o : Obj} {H : Heap → Prop} {Q : Value → Shared → Prop} (B : Begins v o H) (h1 : H s.heap)
    (h : ∀ h', IsEnum h' (s.heap.objs.size + 1) s.heap.objs.size 0 .none → h'.get? s.heap.objs.size = some o → h'.objs.size = s.heap.objs.size + 2 →
      (∀ b o, s.heap.get? b = some o → h'.get? b = some o) → Q (.ref (s.heap.objs.size + 1)) { s with heap := h' }) :
    wpAny (model prog w) A (call (.type "enumerate") [v]) Q E s := by
  refine callType_new F.called_enumerate (by decide) (F.typeCall_enumerate_1 _) (F.newCall_enumerate_1 _) (fun obj => F.args_object_init_2 obj _) F.entry_enumerate_new
    (meets_enumerate_newA B) ⟨h1, ?_⟩
  have hz : (s.heap.push o).objs.size = s.heap.objs.size + 1 := Heap.size_push ..
  show _ ∧ _
  rw [hz]
  have he : IsEnum ((s.heap.push o).push { cls := .type "enumerate", data := .fields #[.none, .bool false, .ref s.heap.objs.size, rawInt 0, .none, .none] }) (s.heap.objs.size + 1) s.heap.objs.size 0 .none := by
    have := Heap.get?_push_size (s.heap.push o) (o := { cls := .type "enumerate", data := .fields #[.none, .bool false, .ref s.heap.objs.size, rawInt 0, .none, .none] }) rfl
    rw [hz] at this; exact this
  refine ⟨⟨_, he, rfl⟩, h _ he (Heap.get?_push_of_some _ (Heap.get?_push_size _ B.free)) (by rw [Heap.size_push, hz]) fun b o x => Heap.get?_push_of_some _ (Heap.get?_push_of_some _ x)⟩
end
def iEnumA (K : PySem.W.Frag) (ta : TA) : TI := fun σ H R => ta σ H fun vs H1 => ∃ t a xs, vs = [.ref a] ∧ SqA t K H1 a xs ∧ R (IteA t K a) H1
theorem pi_enumA {X : Cx} {e : Expr} {ta : TA} {p pos tpos : Pos} {elts : List Expr} {kk : Nat} (hg : Gl X "enumerate") (hm : X.mg "enumerate" = none) (ha : PA X [e] ta) (hs : starEach [e] X.env = [(false, eval e X.env)] := by rfl) :
    PI X (.Tuple elts kk tpos) (.Call (.Name "enumerate" p) [e] [] pos) (iEnumA X.K ta) := by
  refine ⟨fun pins s σ H R I h => ?_⟩
  refine Call_ (ld_blt I hg hm boot_enumerate (PyProof.Rows.callWith_type1 (thn (ha.run pos pins s σ H _ I h) fun us s1 ⟨vs, H1, I1, r1, q1⟩ => ?_) hs rfl))
  obtain ⟨t, a, xs, ex, hq, q⟩ := q1
  subst ex
  cases r1 with
  | cons r rr =>
    cases rr
    cases r
    obtain ⟨its, rv, p', hlt⟩ := Pm.Inv.seqA I1 hq
    obtain ⟨o, B, hb⟩ := beginsA t a its.toArray
    refine call_enumA B p' fun h' he hit hsz hk => wpAny_pyIter_enum he ?_
    have I2 : Inv X pins σ H1 { s1 with heap := h' } := I1.kept (t' := s1.toks) hk
    refine ⟨s1.heap.objs.size + 1, [s1.heap.objs.size + 1, s1.heap.objs.size], _, _, H1, rfl, I2, turn_enumA t a (s1.heap.objs.size + 1) s1.heap.objs.size (nat_ne hlt).1 (nat_ne (k := 0) hlt).2.2, ⟨⟨.none, he⟩, hb _ _ hit, Nat.succ_ne_self _⟩, fun b hb => ?_, q⟩
    have e' : b = s1.heap.objs.size + 1 ∨ b = s1.heap.objs.size := by simpa using hb
    have hle : s1.heap.objs.size ≤ b := by
      rcases e' with z | z
      · rw [z]; exact Nat.le_add_right _ _
      · rw [z]; exact Nat.le_refl _
    exact I1.fpOk hle (I1.hok.fresh hle)
/-! ### zip -/
def ItzA (t t2 : Bool) (K : PySem.W.Frag) (a b : Addr) : L2.It :=
  ⟨fun i H => ∃ (xs ys : List V) (x y : V), SqA t K H a xs ∧ SqA t2 K H b ys ∧ xs[i]? = some x ∧ ys[i]? = some y,
    fun i H v H' => ∃ T x y, v = .ref T ∧ H T = none ∧ H' = upd H T (.tup [x, y]) ∧ (∀ xs, SqA t K H a xs → xs[i]? = some x) ∧ ∀ ys, SqA t2 K H b ys → ys[i]? = some y,
    fun i H => ∃ xs ys : List V, SqA t K H a xs ∧ SqA t2 K H b ys ∧ i ≤ xs.length ∧ i ≤ ys.length ∧ (i = xs.length ∨ i = ys.length)⟩
theorem turn_zipA {P : Program} {w : World} {K : PySem.W.Frag} {elts : List Expr} {kk : Nat} {tpos : Pos} {a b z TI TO i1 i2 : Addr} (t t2 : Bool) (D : ZipSep2 z TI TO i1 i2 [i1, a] [i2, b]) (ha : a ≠ i1) (hb : b ≠ i2) (haz : a ≠ TI) (hbz : b ≠ TI) :
    Turn P w K (.Tuple elts kk tpos) (ItzA t t2 K a b) [z, TI, TO, i1, i2] z (fun i h => IsZip h z TI TO .none ∧ IsTupOf2 h TI (.ref i1) (.ref i2) ∧ (∃ x y, IsTupOf2 h TO x y) ∧ IterAt t h i1 a i ∧ IterAt t2 h i2 b i) where
  mem := by simp
  obj := fun i h st c hc => by
    obtain ⟨hz, hTI, ⟨x, y, hTO⟩, h1, h2⟩ := st
    have e' : c = z ∨ c = TI ∨ c = TO ∨ c = i1 ∨ c = i2 := by simpa using hc
    rcases e' with q | q | q | q | q
    · rw [q]; exact ⟨_, hz, fun v q => nomatch q⟩
    · rw [q]; exact ⟨_, hTI, fun v q => nomatch q⟩
    · rw [q]; exact ⟨_, hTO, fun v q => nomatch q⟩
    · rw [q]; exact h1.obj
    · rw [q]; exact h2.obj
  keep := fun i h h' st k => by
    obtain ⟨hz, hTI, ⟨x, y, hTO⟩, h1, h2⟩ := st
    exact ⟨k z (by simp) _ hz, k TI (by simp) _ hTI, ⟨x, y, k TO (by simp) _ hTO⟩, h1.at fun o q => k i1 (by simp) o q, h2.at fun o q => k i2 (by simp) o q⟩
  item := by
    intro X hP hw hK hc i pins s σ H E I hf st hg
    subst hP hw hK
    obtain ⟨hz, hTI, ⟨x0, y0, hTO⟩, h1, h2⟩ := st
    obtain ⟨xs, ys, x, y, hqx, hqy, hx, hy⟩ := hg
    obtain ⟨its, rv, p, _⟩ := Pm.Inv.seqA I hqx
    obtain ⟨its2, rv2, p2, _⟩ := Pm.Inv.seqA I hqy
    obtain ⟨u, hu, ru⟩ := rv.get hx
    obtain ⟨u2, hu2, ru2⟩ := rv2.get hy
    have hzl : z < s.heap.objs.size := Heap.lt_size hz
    have hlt : i < its.toArray.size := by
      have := (List.getElem?_eq_some_iff.mp hu).1
      simpa using this
    have hlt2 : i < its2.toArray.size := by
      have := (List.getElem?_eq_some_iff.mp hu2).1
      simpa using this
    refine wpAny_pyNext_zipD2_item D (Draws.seqA (prog := X.prog) (w := X.w) (A := X.A.in1) t (show X.A.in1.handled = none from I.ok.hd hc) i1 a ha its.toArray) (Draws.seqA (prog := X.prog) (w := X.w) (A := X.A.in1) t2 (show X.A.in1.handled = none from I.ok.hd hc) i2 b hb its2.toArray) hz hTI hTO ⟨h1, p⟩ ⟨h2, p2⟩ hlt hlt2 fun v1 v2 h' tk g1 g2 z' TO' h1' h2' hT hsz hk => ?_
    have eu : v1 = u := by
      have q : its[i]? = some v1 := by simpa using g1
      rw [hu] at q; cases q; rfl
    have eu2 : v2 = u2 := by
      have q : its2[i]? = some v2 := by simpa using g2
      rw [hu2] at q; cases q; rfl
    subst eu; subst eu2
    refine ⟨_, rfl, wpAny_letOwnedTupleGo_zip (s := { s with heap := h', toks := tk }) z' fun h'' z'' sb => ?_⟩
    have hT2 : h''.get? s.heap.objs.size = some { cls := .type "tuple", data := .seq #[v1, v2] } := (sb.2 _ (Nat.ne_of_gt hzl)).trans hT
    have new : ObjOk X.prog X.w (upd H s.heap.objs.size (.tup [x, y])) h'' s.heap.objs.size (.tup [x, y]) :=
      ⟨by show 2 ≤ sizeLine; decide, [v1, v2], .cons ru (.cons ru2 .nil), ⟨_, hT2, rfl, _, rfl⟩⟩
    have I1 : Inv X pins σ (upd H s.heap.objs.size (.tup [x, y])) { s with heap := h'', toks := tk } :=
      I.turnedNew (t' := tk) (ch := [z, TI, TO, i1, i2]) (fun c o hb q => (sb.2 c (fun q' => hb (by simp [q']))).trans (hk c o (fun q' => hb (by simp [q'])) (fun q' => hb (by simp [q'])) (fun q' => hb (by simp [q'])) (fun q' => hb (by simp [q'])) q)) hf (Nat.le_refl _) new
    refine ⟨.ref s.heap.objs.size, _, I1, rfl, ⟨_, x, y, rfl, I.hok.fresh (Nat.le_refl _), rfl, fun l hl => by rw [Pm.Inv.seqA_inj I hl hqx]; exact hx, fun l hl => by rw [Pm.Inv.seqA_inj I hl hqy]; exact hy⟩, ⟨z'', ?_, ⟨v1, v2, ?_⟩, ?_, ?_⟩, fun c hcm => ?_⟩
    · exact (sb.2 _ D.TIz).trans (hk _ _ D.TIz D.TITO D.TIi1 D.TIi2 hTI)
    · exact (sb.2 _ D.TOz).trans TO'
    · exact h1'.1.at fun o q => (sb.2 _ D.zi1.symm).trans q
    · exact h2'.1.at fun o q => (sb.2 _ D.zi2.symm).trans q
    · have hlt : c < s.heap.objs.size := by
        have e' : c = z ∨ c = TI ∨ c = TO ∨ c = i1 ∨ c = i2 := by simpa using hcm
        rcases e' with q | q | q | q | q
        · rw [q]; exact hzl
        · rw [q]; exact Heap.lt_size hTI
        · rw [q]; exact Heap.lt_size hTO
        · rw [q]; obtain ⟨_, e1, _⟩ := h1.obj; exact Heap.lt_size e1
        · rw [q]; obtain ⟨_, e2, _⟩ := h2.obj; exact Heap.lt_size e2
      rw [upd_ne (Nat.ne_of_lt hlt)]
      exact (hf c hcm).1
  done := by
    intro X hP hw hK hc i pins s σ H E I hf st hg
    subst hP hw hK
    obtain ⟨hz, hTI, ⟨x0, y0, hTO⟩, h1, h2⟩ := st
    obtain ⟨xs, ys, hqx, hqy, hl1, hl2, hend⟩ := hg
    obtain ⟨its, rv, p, _⟩ := Pm.Inv.seqA I hqx
    obtain ⟨its2, rv2, p2, _⟩ := Pm.Inv.seqA I hqy
    have l1 := rv.length
    have l2 := rv2.length
    exact wpAny_pyNext_zipD2_end D (Draws.seqA (prog := X.prog) (w := X.w) (A := X.A.in1) t (show X.A.in1.handled = none from I.ok.hd hc) i1 a ha its.toArray) (Draws.seqA (prog := X.prog) (w := X.w) (A := X.A.in1) t2 (show X.A.in1.handled = none from I.ok.hd hc) i2 b hb its2.toArray) hz hTI hTO ⟨h1, p⟩ ⟨h2, p2⟩ (by simp; omega) (by simp; omega) (by simp; omega) fun h' tk hk => ⟨rfl, I.turnedL (t' := tk) (ch := [z, TI, TO, i1, i2]) (fun c o hb q =>
      hk c o (fun q' => hb (by simp [q'])) (fun q' => hb (by simp [q'])) (fun q' => hb (by simp [q'])) (fun q' => hb (by simp [q'])) q) hf⟩
  self := fun A i s Q E st h => wpAny_pyIter_zip st.1 h
def iZipG (K : PySem.W.Frag) (ta : TA) : TI := fun σ H R => ta σ H fun vs H1 => ∃ t t2 a b xs ys, vs = [.ref a, .ref b] ∧ SqA t K H1 a xs ∧ SqA t2 K H1 b ys ∧ R (ItzA t t2 K a b) H1
theorem pi_zipG {X : Cx} {e e2 : Expr} {ta : TA} {p pos tpos : Pos} {elts : List Expr} {kk : Nat} (hg : Gl X "zip") (hm : X.mg "zip" = none) (ha : PA X [e, e2] ta)
    (hs : starEach [e, e2] X.env = (false, eval e X.env) :: starEach [e2] X.env := by rfl) (hpl : (backTo pos (starEach [e2] X.env)).any (·.1) = false := by rfl) :
    PI X (.Tuple elts kk tpos) (.Call (.Name "zip" p) [e, e2] [] pos) (iZipG X.K ta) := by
  refine ⟨fun pins s σ H R I h => ?_⟩
  refine Call_ (ld_blt I hg hm PyProof.Rows.boot_zip (PyProof.Rows.callWith_type1 (thn (ha.run pos pins s σ H _ I h) fun us s1 ⟨vs, H1, I1, r1, q1⟩ => ?_) hs hpl))
  obtain ⟨t, t2, a, b, xs, ys, ex, hqx, hqy, q⟩ := q1
  subst ex
  cases r1 with
  | cons r rr =>
    cases rr with
    | cons r' rr =>
      cases rr
      cases r
      cases r'
      obtain ⟨its, rv, p1, la⟩ := Pm.Inv.seqA I1 hqx
      obtain ⟨its2, rv2, p2, lb⟩ := Pm.Inv.seqA I1 hqy
      obtain ⟨o1, B1, hb1⟩ := beginsA t a its.toArray
      obtain ⟨o2, B2, hb2⟩ := beginsA t2 b its2.toArray
      refine zip_begins2 B1 B2 p1 p2 fun h' hz hTI hTO h1 h2 hsz hk => wpAny_pyIter_zip hz ?_
      have I2 : Inv X pins σ H1 { s1 with heap := h' } := I1.kept (t' := s1.toks) hk
      refine ⟨s1.heap.objs.size + 4, [s1.heap.objs.size + 4, s1.heap.objs.size + 2, s1.heap.objs.size + 3, s1.heap.objs.size, s1.heap.objs.size + 1], _, _, H1, rfl, I2, turn_zipA t t2 (zip_apart _ _ _ la lb) (nat_ne (k := 0) la).2.2 (nat_ne lb).2.1 (nat_ne la).2.1 (nat_ne lb).2.1, ⟨hz, hTI, ⟨_, _, hTO⟩, hb1 _ _ h1, hb2 _ _ h2⟩, fun c hcm => ?_, q⟩
      have e' : c = s1.heap.objs.size + 4 ∨ c = s1.heap.objs.size + 2 ∨ c = s1.heap.objs.size + 3 ∨ c = s1.heap.objs.size ∨ c = s1.heap.objs.size + 1 := by simpa using hcm
      have hle : s1.heap.objs.size ≤ c := by
        rcases e' with z | z | z | z | z <;> rw [z] <;> first | exact Nat.le_refl _ | exact Nat.le_add_right _ _
      exact I1.fpOk hle (I1.hok.fresh hle)
end Pm

/-! Pm, part W4: zip whose tuples are kept. -/
namespace Pm
open PySem PySem.Spec L2
open PyProof.Rows hiding St
abbrev ZX (h : Heap) (z TI TO : Addr) (v : Value) (f : Bool) : Prop :=
  h.get? z = some { cls := .type "zip", dict := none, data := .fields #[v, .bool f, .bool false, .ref TI, .ref TO], slots := #[] }
def ZGood (v : Value) : Prop := v = .none ∨ ∃ T : Addr, v = rawInt T
section
variable {prog : Program} {w : World} {A : Around} {E : Value → Shared → Prop} {s : Shared} {z TI TO i1 i2 : Addr} {fp1 fp2 : List Addr} {n1 n2 i : Nat} {P1 P2 : Nat → Value → Prop} {St1 St2 : Nat → Heap → Prop} {a1 a2 v : Value} {f : Bool}
theorem load_alive {T : Addr} {Q : Option Obj → Shared → Prop} (h : Q (s.heap.get? T) s) : wpAny (model prog w) A (loadIfAlive T) Q E s := by
  exact fun _ _ _ => h
/-- the zip's own tuple is free, or held -/
theorem zip_own (hz : ZX s.heap z TI TO v f) (hv : ZGood v) : (∀ E, wpAny (model prog w) A (Builtin.SmallTypes.ownedTupleIsFree (.ref z)) (fun b s' => b = true ∧ s' = s) E s) ∨
    (∀ E, wpAny (model prog w) A (Builtin.SmallTypes.ownedTupleIsFree (.ref z)) (fun b s' => b = false ∧ ∃ h', ZX h' z TI TO v true ∧ Heap.SameBut z s.heap h' ∧ s' = { s with heap := h' }) E s) := by
  rcases hv with rfl | ⟨T, rfl⟩
  · left
    intro E
    unfold Builtin.SmallTypes.ownedTupleIsFree
    exact wpAny_bind (wpAny_field hz rfl (x := .none) rfl (wpAny_pure ⟨rfl, rfl⟩))
  · cases hT : s.heap.get? T with
    | none =>
      left
      intro E
      unfold Builtin.SmallTypes.ownedTupleIsFree
      refine wpAny_bind (wpAny_field hz rfl (x := rawInt T) rfl ?_)
      show wpAny _ _ (loadIfAlive ((T : Int).toNat) >>= _) _ _ _
      rw [Int.toNat_natCast]
      refine wpAny_bind (load_alive ?_)
      rw [hT]
      simp only [Option.isNone_none, if_true]
      exact wpAny_pure ⟨rfl, rfl⟩
    | some oT =>
      right
      intro E
      unfold Builtin.SmallTypes.ownedTupleIsFree
      refine wpAny_bind (wpAny_field hz rfl (x := rawInt T) rfl ?_)
      show wpAny _ _ (loadIfAlive ((T : Int).toNat) >>= _) _ _ _
      rw [Int.toNat_natCast]
      refine wpAny_bind (load_alive ?_)
      rw [hT]
      simp only [Option.isNone_some, Bool.false_eq_true, if_false]
      refine wpAny_bind (wpAny_field hz rfl (x := .bool f) rfl ?_)
      cases f with
      | true =>
        rw [if_neg (show ¬ ((Value.bool true != Value.bool true) = true) from Bool.false_ne_true)]
        exact wpAny_pure ⟨rfl, s.heap, hz, Heap.SameBut.refl _ _, rfl⟩
      | false =>
        rw [if_pos (show (Value.bool false != Value.bool true) = true from rfl)]
        exact wpAny_bind (wpAny_setField_rec hz (by simp) fun h₁ hz₁ hs₁ => wpAny_pure ⟨rfl, h₁, hz₁, hs₁, rfl⟩)
theorem zipX_item {Q : Value → Shared → Prop} (S : ZipSep2 z TI TO i1 i2 fp1 fp2) (D1 : Draws prog w A i1 fp1 n1 P1 St1) (D2 : Draws prog w A i2 fp2 n2 P2 St2)
    (hz : ZX s.heap z TI TO v f) (hv : ZGood v) (hTI : IsTupOf2 s.heap TI (.ref i1) (.ref i2)) (hTO : IsTupOf2 s.heap TO a1 a2) (st1 : St1 i s.heap) (st2 : St2 i s.heap) (hlt1 : i < n1) (hlt2 : i < n2)
    (hQ : ∀ x1 x2 h' tk v' f' b1 b2, P1 i x1 → P2 i x2 → ZX h' z TI TO v' f' → ZGood v' → IsTupOf2 h' TO b1 b2 → St1 (i + 1) h' → St2 (i + 1) h' → IsTupOf2 h' s.heap.objs.size x1 x2 → h'.objs.size = s.heap.objs.size + 1 →
      (∀ c o, c ≠ z → c ≠ TO → c ≠ i1 → c ≠ i2 → s.heap.get? c = some o → h'.get? c = some o) → Q (.ref s.heap.objs.size) { s with heap := h', toks := tk }) :
    wpAny (model prog w) A (Builtin.«zip.__next__» ⟨[.ref z], []⟩) (fun fin s' => ∃ v, fin = .done (.ret v) ∧ Q v s') E s := by
  obtain ⟨hp, g, d, tk0, os⟩ := s
  show wpAny _ _ (field (.ref z) 2 >>= _) _ _ _
  refine wpAny_bind (wpAny_field hz rfl (x := .bool false) rfl ?_)
  show wpAny _ _ (field (.ref z) 3 >>= _) _ _ _
  refine wpAny_bind (wpAny_field hz rfl (x := .ref TI) rfl ?_)
  refine wpAny_bind (wpAny_seqItems hTI rfl ?_)
  show wpAny _ _ (Builtin.SmallTypes.ownedTupleIsFree (.ref z) >>= _) _ _ _
  rcases zip_own (prog := prog) (w := w) (A := A) hz hv with own | own
  · refine wpAny_bind (wpAny_mono (own E) ?_ fun _ _ x => x)
    rintro b s' ⟨rfl, rfl⟩
    simp only [if_true]
    refine wpAny_bind (wpAny_rule ?_)
    refine wpAny_bind (wpAny_field hz rfl (x := .ref TO) rfl ?_)
    refine wpAny_bind (wpAny_setField_rec hz (by simp) fun g0 hz0 hs0 => ?_)
    replace hz0 : ZX g0 z TI TO .ellipsis f := hz0
    replace hs0 : Heap.SameBut z hp g0 := hs0
    refine wpAny_bind ?_
    simp only [List.zipIdx_cons, List.zipIdx_nil, List.forIn_cons, List.forIn_nil]
    refine wpAny_bind (wpAny_bind (wpAny_onRaise ?_))
    show wpAny _ _ (Builtin.SmallTypes.nextOf (.ref i1) >>= _) _ _ ⟨g0, g, d, tk0, os⟩
    refine wpAny_bind (D1.item i _ _ _ hlt1 (D1.over st1 hs0 S.zf1) fun x1 p1 tk1 hx1 sn1 hp1 => wpAny_pure ?_)
    replace hp1 : Heap.SameBut i1 g0 p1 := hp1
    have hU1 : IsTupOf2 p1 TO a1 a2 := hp1.extBut _ _ S.Ti1 (hs0.extBut _ _ S.TOz hTO)
    refine wpAny_bind (wpAny_seqItems (s := ⟨p1, g, d, tk1, os⟩) hU1 rfl ?_)
    refine wpAny_bind (updateSeq_IsTupOf2 (s := ⟨p1, g, d, tk1, os⟩) hU1 fun g1 hT1 hs1 => ?_)
    replace hT1 : IsTupOf2 g1 TO x1 a2 := hT1
    replace hs1 : Heap.SameBut TO p1 g1 := hs1
    refine wpAny_bind (wpAny_letGo (wpAny_pure ?_))
    refine wpAny_bind (wpAny_bind (wpAny_onRaise ?_))
    show wpAny _ _ (Builtin.SmallTypes.nextOf (.ref i2) >>= _) _ _ ⟨g1, g, d, tk1, os⟩
    refine wpAny_bind (D2.item i _ _ _ hlt2 (D2.over (D2.over (D2.over st2 hs0 S.zf2) hp1 S.sep1_2) hs1 S.Tf2) fun x2 p2 tk2 hx2 sn2 hp2 => wpAny_pure ?_)
    replace hp2 : Heap.SameBut i2 g1 p2 := hp2
    have hU2 : IsTupOf2 p2 TO x1 a2 := hp2.extBut _ _ S.Ti2 hT1
    refine wpAny_bind (wpAny_seqItems (s := ⟨p2, g, d, tk2, os⟩) hU2 rfl ?_)
    refine wpAny_bind (updateSeq_IsTupOf2 (s := ⟨p2, g, d, tk2, os⟩) hU2 fun g2 hT2 hs2 => ?_)
    replace hT2 : IsTupOf2 g2 TO x1 x2 := hT2
    replace hs2 : Heap.SameBut TO p2 g2 := hs2
    refine wpAny_bind (wpAny_letGo (wpAny_pure (wpAny_pure ?_)))
    refine wpAny_bind (wpAny_seqItems (s := ⟨g2, g, d, tk2, os⟩) hT2 rfl ?_)
    refine wpAny_bind (wpAny_newTuple ?_)
    have hsz : g2.objs.size = hp.objs.size := by rw [hs2.1, hp2.1, hs1.1, hp1.1, hs0.1]
    have hzz : ZX g2 z TI TO .ellipsis f := (hs2.extBut _ _ S.TOz.symm (hp2.extBut _ _ S.zi2 (hs1.extBut _ _ S.TOz.symm (hp1.extBut _ _ S.zi1 hz0))))
    have hkk : ∀ c o, c ≠ z → c ≠ TO → c ≠ i1 → c ≠ i2 → hp.get? c = some o → g2.get? c = some o := fun c o cz cT c1 c2 e =>
      (hs2.extBut _ _ cT (hp2.extBut _ _ c2 (hs1.extBut _ _ cT (hp1.extBut _ _ c1 (hs0.extBut _ _ cz e)))))
    have hj1 : St1 (i + 1) g2 := (D1.over (D1.over (D1.over sn1 hs1 S.Tf1) hp2 S.sep2_1) hs2 S.Tf1)
    have hj2 : St2 (i + 1) g2 := (D2.over sn2 hs2 S.Tf2)
    have hzlt : z < g2.objs.size := Heap.lt_size hzz
    show wpAny _ _ (Builtin.SmallTypes.ownedTupleHandOut (.ref z) (.ref g2.objs.size) >>= _) _ _ ⟨g2.push { cls := .type "tuple", data := .seq #[x1, x2] }, g, d, tk2, os⟩
    refine wpAny_bind ?_
    unfold Builtin.SmallTypes.ownedTupleHandOut
    have hz₆ : ZX (g2.push { cls := .type "tuple", data := .seq #[x1, x2] }) z TI TO .ellipsis f := Heap.get?_push_of_some _ hzz
    refine wpAny_bind (wpAny_setField_rec hz₆ (by simp) fun h₇ hz₇ hs₇ => ?_)
    replace hz₇ : ZX h₇ z TI TO (rawInt g2.objs.size) f := hz₇
    refine wpAny_setField_rec hz₇ (by simp) fun h₈ hz₈ hs₈ => ?_
    replace hz₈ : ZX h₈ z TI TO (rawInt g2.objs.size) false := hz₈
    replace hs₇ : Heap.SameBut z (g2.push { cls := .type "tuple", data := .seq #[x1, x2] }) h₇ := hs₇
    replace hs₈ : Heap.SameBut z h₇ h₈ := hs₈
    have up : ∀ c o, c ≠ z → g2.get? c = some o → h₈.get? c = some o := fun c o c1 e => hs₈.extBut _ _ c1 (hs₇.extBut _ _ c1 (Heap.get?_push_of_some _ e))
    have hT₈ : IsTupOf2 h₈ g2.objs.size x1 x2 := hs₈.extBut _ _ (Nat.ne_of_gt hzlt) (hs₇.extBut _ _ (Nat.ne_of_gt hzlt) (Heap.get?_push_size _ rfl))
    have hz8 : h₈.objs.size = g2.objs.size + 1 := by rw [hs₈.1, hs₇.1, Heap.size_push]
    rw [hsz] at hz₈ hT₈ hz8
    refine wpAny_pure ⟨_, rfl, ?_⟩
    show Q (.ref g2.objs.size) ⟨h₈, g, d, tk2, os⟩
    rw [hsz]
    exact hQ x1 x2 h₈ tk2 _ _ _ _ hx1 hx2 hz₈ (.inr ⟨_, rfl⟩) (up _ _ S.TOz hT2) (D1.frame _ _ _ hj1 fun b hb o e => up b o (fun q => S.zf1 (q ▸ hb)) e) (D2.frame _ _ _ hj2 fun b hb o e => up b o (fun q => S.zf2 (q ▸ hb)) e) hT₈ hz8 fun c o cz cT c1 c2 e => up c o cz (hkk c o cz cT c1 c2 e)
  · refine wpAny_bind (wpAny_mono (own E) ?_ fun _ _ x => x)
    rintro b s' ⟨rfl, h₁, hz₁, hs₁, rfl⟩
    replace hs₁ : Heap.SameBut z hp h₁ := hs₁
    simp only [Bool.false_eq_true, if_false]
    refine wpAny_bind ?_
    rw [← Array.forIn_toList]
    simp only [List.forIn_cons, List.forIn_nil]
    refine wpAny_bind (wpAny_bind (wpAny_holding ?_))
    show wpAny _ _ (Builtin.SmallTypes.nextOf (.ref i1) >>= _) _ _ ⟨h₁, g, d, tk0, os⟩
    refine wpAny_bind (D1.item i _ _ _ hlt1 (D1.over st1 hs₁ S.zf1) fun x1 p1 tk1 hx1 sn1 hp1 => wpAny_pure ?_)
    replace hp1 : Heap.SameBut i1 h₁ p1 := hp1
    refine wpAny_pure ?_
    refine wpAny_bind (wpAny_bind (wpAny_holding ?_))
    show wpAny _ _ (Builtin.SmallTypes.nextOf (.ref i2) >>= _) _ _ ⟨p1, g, d, tk1, os⟩
    refine wpAny_bind (D2.item i _ _ _ hlt2 (D2.over (D2.over st2 hs₁ S.zf2) hp1 S.sep1_2) fun x2 p2 tk2 hx2 sn2 hp2 => wpAny_pure ?_)
    replace hp2 : Heap.SameBut i2 p1 p2 := hp2
    refine wpAny_pure (wpAny_pure ?_)
    show wpAny _ _ (newTuple [x1, x2] >>= _) _ _ ⟨p2, g, d, tk2, os⟩
    refine wpAny_bind (wpAny_newTuple ?_)
    have hsz : p2.objs.size = hp.objs.size := by rw [hp2.1, hp1.1, hs₁.1]
    have hz₃ : ZX p2 z TI TO v true := hp2.extBut _ _ S.zi2 (hp1.extBut _ _ S.zi1 hz₁)
    have hk : ∀ c o, c ≠ z → c ≠ i1 → c ≠ i2 → hp.get? c = some o → p2.get? c = some o := fun c o c1 c2 c3 e => hp2.extBut _ _ c3 (hp1.extBut _ _ c2 (hs₁.extBut _ _ c1 e))
    have hj1 : St1 (i + 1) p2 := D1.over sn1 hp2 S.sep2_1
    refine wpAny_pure ⟨_, rfl, ?_⟩
    show Q (.ref p2.objs.size) _
    have hpp : IsTupOf2 (p2.push { cls := .type "tuple", data := .seq #[x1, x2] }) p2.objs.size x1 x2 := Heap.get?_push_size _ rfl
    have hz4 : (p2.push { cls := .type "tuple", data := .seq #[x1, x2] }).objs.size = p2.objs.size + 1 := Heap.size_push ..
    rw [hsz] at hpp hz4 ⊢
    exact hQ x1 x2 _ tk2 _ _ _ _ hx1 hx2 (Heap.get?_push_of_some _ hz₃) hv (Heap.get?_push_of_some _ (hk _ _ S.TOz S.Ti1 S.Ti2 hTO)) (D1.frame _ _ _ hj1 fun b hb o e => Heap.get?_push_of_some _ e) (D2.frame _ _ _ sn2 fun b hb o e => Heap.get?_push_of_some _ e) hpp hz4 fun c o c1 cT c2 c3 e => Heap.get?_push_of_some _ (hk c o c1 c2 c3 e)
theorem zipX_end {Q : Fin → Shared → Prop} (S : ZipSep2 z TI TO i1 i2 fp1 fp2) (D1 : Draws prog w A i1 fp1 n1 P1 St1) (D2 : Draws prog w A i2 fp2 n2 P2 St2)
    (hz : ZX s.heap z TI TO v f) (hv : ZGood v) (hTI : IsTupOf2 s.heap TI (.ref i1) (.ref i2)) (hTO : IsTupOf2 s.heap TO a1 a2) (st1 : St1 i s.heap) (st2 : St2 i s.heap) (hle1 : i ≤ n1) (hle2 : i ≤ n2) (hend : i = n1 ∨ i = n2)
    (hE : ∀ h' tk e, (∀ c o, c ≠ z → c ≠ TO → c ≠ i1 → c ≠ i2 → s.heap.get? c = some o → h'.get? c = some o) → (∃ o, h'.get? e = some o ∧ o.cls = .type "StopIteration") → E (.ref e) { s with heap := h', toks := tk }) :
    wpAny (model prog w) A (Builtin.«zip.__next__» ⟨[.ref z], []⟩) Q E s := by
  obtain ⟨hp, g, d, tk0, os⟩ := s
  show wpAny _ _ (field (.ref z) 2 >>= _) _ _ _
  refine wpAny_bind (wpAny_field hz rfl (x := .bool false) rfl ?_)
  show wpAny _ _ (field (.ref z) 3 >>= _) _ _ _
  refine wpAny_bind (wpAny_field hz rfl (x := .ref TI) rfl ?_)
  refine wpAny_bind (wpAny_seqItems hTI rfl ?_)
  show wpAny _ _ (Builtin.SmallTypes.ownedTupleIsFree (.ref z) >>= _) _ _ _
  rcases zip_own (prog := prog) (w := w) (A := A) hz hv with own | own
  · refine wpAny_bind (wpAny_mono (own E) ?_ fun _ _ x => x)
    rintro b s' ⟨rfl, rfl⟩
    simp only [if_true]
    refine wpAny_bind (wpAny_rule ?_)
    refine wpAny_bind (wpAny_field hz rfl (x := .ref TO) rfl ?_)
    refine wpAny_bind (wpAny_setField_rec hz (by simp) fun g0 hz0 hs0 => ?_)
    replace hz0 : ZX g0 z TI TO .ellipsis f := hz0
    replace hs0 : Heap.SameBut z hp g0 := hs0
    refine wpAny_bind ?_
    simp only [List.zipIdx_cons, List.zipIdx_nil, List.forIn_cons, List.forIn_nil]
    refine wpAny_bind (wpAny_bind (wpAny_onRaise ?_))
    show wpAny _ _ (Builtin.SmallTypes.nextOf (.ref i1) >>= _) _ _ ⟨g0, g, d, tk0, os⟩
    by_cases hlt1 : i < n1
    · refine wpAny_bind (D1.item i _ _ _ hlt1 (D1.over st1 hs0 S.zf1) fun x1 p1 tk1 hx1 sn1 hp1 => wpAny_pure ?_)
      replace hp1 : Heap.SameBut i1 g0 p1 := hp1
      have hU1 : IsTupOf2 p1 TO a1 a2 := hp1.extBut _ _ S.Ti1 (hs0.extBut _ _ S.TOz hTO)
      refine wpAny_bind (wpAny_seqItems (s := ⟨p1, g, d, tk1, os⟩) hU1 rfl ?_)
      refine wpAny_bind (updateSeq_IsTupOf2 (s := ⟨p1, g, d, tk1, os⟩) hU1 fun g1 hT1 hs1 => ?_)
      replace hT1 : IsTupOf2 g1 TO x1 a2 := hT1
      replace hs1 : Heap.SameBut TO p1 g1 := hs1
      refine wpAny_bind (wpAny_letGo (wpAny_pure ?_))
      have hi2 : i = n2 := by omega
      refine wpAny_bind (wpAny_bind (wpAny_onRaise ?_))
      show wpAny _ _ (Builtin.SmallTypes.nextOf (.ref i2) >>= _) _ _ ⟨g1, g, d, tk1, os⟩
      refine wpAny_bind (D2.done ⟨g1, g, d, tk1, os⟩ _ _ (by rw [← hi2]; exact (D2.over (D2.over (D2.over st2 hs0 S.zf2) hp1 S.sep1_2) hs1 S.Tf2)) fun q e hq he => ?_)
      replace hq : Heap.ExtBut i2 g1 q := hq
      obtain ⟨oe, hoe, hce⟩ := he
      replace hoe : q.get? e = some oe := hoe
      have hzq : ZX q z TI TO .ellipsis f := hq _ _ S.zi2 (hs1.extBut _ _ S.TOz.symm (hp1.extBut _ _ S.zi1 hz0))
      have hez : e ≠ z := fun x => by subst x; rw [hzq] at hoe; cases hoe; simp at hce
      refine wpAny_setField_rec (s := ⟨q, g, d, tk1, os⟩) hzq (by simp) fun q' _ hq' => ?_
      replace hq' : Heap.SameBut z q q' := hq'
      exact hE q' tk1 e (fun c o cz cT c1 c2 x => hq'.extBut _ _ cz (hq _ _ c2 (hs1.extBut _ _ cT (hp1.extBut _ _ c1 (hs0.extBut _ _ cz x))))) ⟨oe, hq'.extBut _ _ hez hoe, hce⟩
    · have hi1 : i = n1 := by omega
      refine wpAny_bind (D1.done ⟨g0, g, d, tk0, os⟩ _ _ (by rw [← hi1]; exact (D1.over st1 hs0 S.zf1)) fun q e hq he => ?_)
      replace hq : Heap.ExtBut i1 g0 q := hq
      obtain ⟨oe, hoe, hce⟩ := he
      replace hoe : q.get? e = some oe := hoe
      have hzq : ZX q z TI TO .ellipsis f := hq _ _ S.zi1 hz0
      have hez : e ≠ z := fun x => by subst x; rw [hzq] at hoe; cases hoe; simp at hce
      refine wpAny_setField_rec (s := ⟨q, g, d, tk0, os⟩) hzq (by simp) fun q' _ hq' => ?_
      replace hq' : Heap.SameBut z q q' := hq'
      exact hE q' tk0 e (fun c o cz cT c1 c2 x => hq'.extBut _ _ cz (hq _ _ c1 (hs0.extBut _ _ cz x))) ⟨oe, hq'.extBut _ _ hez hoe, hce⟩
  · refine wpAny_bind (wpAny_mono (own E) ?_ fun _ _ x => x)
    rintro b s' ⟨rfl, h₁, hz₁, hs₁, rfl⟩
    replace hs₁ : Heap.SameBut z hp h₁ := hs₁
    simp only [Bool.false_eq_true, if_false]
    refine wpAny_bind ?_
    rw [← Array.forIn_toList]
    simp only [List.forIn_cons, List.forIn_nil]
    refine wpAny_bind (wpAny_bind (wpAny_holding ?_))
    show wpAny _ _ (Builtin.SmallTypes.nextOf (.ref i1) >>= _) _ _ ⟨h₁, g, d, tk0, os⟩
    by_cases hlt1 : i < n1
    · refine wpAny_bind (D1.item i _ _ _ hlt1 (D1.over st1 hs₁ S.zf1) fun x1 p1 tk1 hx1 sn1 hp1 => wpAny_pure ?_)
      replace hp1 : Heap.SameBut i1 h₁ p1 := hp1
      have hi2 : i = n2 := by omega
      refine wpAny_pure ?_
      refine wpAny_bind (wpAny_bind (wpAny_holding ?_))
      show wpAny _ _ (Builtin.SmallTypes.nextOf (.ref i2) >>= _) _ _ ⟨p1, g, d, tk1, os⟩
      refine wpAny_bind (D2.done ⟨p1, g, d, tk1, os⟩ _ _ (by rw [← hi2]; exact (D2.over (D2.over st2 hs₁ S.zf2) hp1 S.sep1_2)) fun q e hq he => ?_)
      exact hE q tk1 e (fun c o c1 _ c2 c3 x => hq _ _ c3 (hp1.extBut _ _ c2 (hs₁.extBut _ _ c1 x))) he
    · have hi1 : i = n1 := by omega
      refine wpAny_bind (D1.done ⟨h₁, g, d, tk0, os⟩ _ _ (by rw [← hi1]; exact (D1.over st1 hs₁ S.zf1)) fun q e hq he => ?_)
      exact hE q tk0 e (fun c o c1 _ c2 c3 x => hq _ _ c2 (hs₁.extBut _ _ c1 x)) he
end
section
variable {prog : Program} {w : World} {A : Around} {E : Value → Shared → Prop} {s : Shared} {z TI TO i1 i2 : Addr} {fp1 fp2 : List Addr} {n1 n2 i : Nat} {P1 P2 : Nat → Value → Prop} {St1 St2 : Nat → Heap → Prop} {a1 a2 v : Value} {f : Bool}
theorem nextX_item {Q : Option Value → Shared → Prop} (S : ZipSep2 z TI TO i1 i2 fp1 fp2) (D1 : Draws prog w A.in1 i1 fp1 n1 P1 St1) (D2 : Draws prog w A.in1 i2 fp2 n2 P2 St2)
    (hz : ZX s.heap z TI TO v f) (hv : ZGood v) (hTI : IsTupOf2 s.heap TI (.ref i1) (.ref i2)) (hTO : IsTupOf2 s.heap TO a1 a2) (st1 : St1 i s.heap) (st2 : St2 i s.heap) (hlt1 : i < n1) (hlt2 : i < n2)
    (hQ : ∀ x1 x2 h' tk v' f' b1 b2, P1 i x1 → P2 i x2 → ZX h' z TI TO v' f' → ZGood v' → IsTupOf2 h' TO b1 b2 → St1 (i + 1) h' → St2 (i + 1) h' → IsTupOf2 h' s.heap.objs.size x1 x2 → h'.objs.size = s.heap.objs.size + 1 →
      (∀ c o, c ≠ z → c ≠ TO → c ≠ i1 → c ≠ i2 → s.heap.get? c = some o → h'.get? c = some o) → Q (some (.ref s.heap.objs.size)) { s with heap := h', toks := tk }) :
    wpAny (model prog w) A (pyNext (.ref z)) Q E s := by
  have hT : s.TypeIs (.ref z) "zip" := ⟨_, hz, rfl⟩
  unfold pyNext
  exact wpAny_bind (wpAny_attempt (wpAny_callSpecial?_slot (name := Str.ofString "__next__") hT F.slot_zip_next
    (wpAny_call_entry F.slot_zip_next hT F.entry_zip_next
      (zipX_item S D1 D2 hz hv hTI hTO st1 st2 hlt1 hlt2 fun x1 x2 h' tk v' f' c1 c2 y1 y2 b1 b2 d0 d1 d2 b5 b6 b7 => wpAny_pure (hQ x1 x2 h' tk v' f' c1 c2 y1 y2 b1 b2 d0 d1 d2 b5 b6 b7)) (F.args_zip_next_1 _))))
theorem nextX_end {Q : Option Value → Shared → Prop} (S : ZipSep2 z TI TO i1 i2 fp1 fp2) (D1 : Draws prog w A.in1 i1 fp1 n1 P1 St1) (D2 : Draws prog w A.in1 i2 fp2 n2 P2 St2)
    (hz : ZX s.heap z TI TO v f) (hv : ZGood v) (hTI : IsTupOf2 s.heap TI (.ref i1) (.ref i2)) (hTO : IsTupOf2 s.heap TO a1 a2) (st1 : St1 i s.heap) (st2 : St2 i s.heap) (hle1 : i ≤ n1) (hle2 : i ≤ n2) (hend : i = n1 ∨ i = n2)
    (hQ : ∀ h' tk, (∀ c o, c ≠ z → c ≠ TO → c ≠ i1 → c ≠ i2 → s.heap.get? c = some o → h'.get? c = some o) → Q none { s with heap := h', toks := tk }) : wpAny (model prog w) A (pyNext (.ref z)) Q E s := by
  have hT : s.TypeIs (.ref z) "zip" := ⟨_, hz, rfl⟩
  unfold pyNext
  refine wpAny_bind (wpAny_attempt (wpAny_callSpecial?_slot (name := Str.ofString "__next__") hT F.slot_zip_next
    (wpAny_call_entry F.slot_zip_next hT F.entry_zip_next (zipX_end S D1 D2 hz hv hTI hTO st1 st2 hle1 hle2 hend fun h' tk e hk he => ?_) (F.args_zip_next_1 _))))
  obtain ⟨o, ho, hc⟩ := he
  refine wpAny_bind (wpAny_isInstance (T := "StopIteration") (b := true) ⟨o, ho, hc⟩ isSubtype_stop ?_)
  exact wpAny_pure (hQ _ _ hk)
end
theorem turn_zipN {P : Program} {w : World} {K : PySem.W.Frag} {x : Str} {tpos : Pos} {a b z TI TO i1 i2 : Addr} (t t2 : Bool) (D : ZipSep2 z TI TO i1 i2 [i1, a] [i2, b]) (ha : a ≠ i1) (hb : b ≠ i2) :
    Turn P w K (.Name x tpos) (ItzA t t2 K a b) [z, TI, TO, i1, i2] z (fun i h => (∃ v f, ZX h z TI TO v f ∧ ZGood v) ∧ IsTupOf2 h TI (.ref i1) (.ref i2) ∧ (∃ x y, IsTupOf2 h TO x y) ∧ IterAt t h i1 a i ∧ IterAt t2 h i2 b i) where
  mem := by simp
  obj := fun i h st c hc => by
    obtain ⟨⟨v, f, hz, _⟩, hTI, ⟨x, y, hTO⟩, h1, h2⟩ := st
    have e' : c = z ∨ c = TI ∨ c = TO ∨ c = i1 ∨ c = i2 := by simpa using hc
    rcases e' with q | q | q | q | q
    · rw [q]; exact ⟨_, hz, fun v q => nomatch q⟩
    · rw [q]; exact ⟨_, hTI, fun v q => nomatch q⟩
    · rw [q]; exact ⟨_, hTO, fun v q => nomatch q⟩
    · rw [q]; exact h1.obj
    · rw [q]; exact h2.obj
  keep := fun i h h' st k => by
    obtain ⟨⟨v, f, hz, hv⟩, hTI, ⟨x, y, hTO⟩, h1, h2⟩ := st
    exact ⟨⟨v, f, k z (by simp) _ hz, hv⟩, k TI (by simp) _ hTI, ⟨x, y, k TO (by simp) _ hTO⟩, h1.at fun o q => k i1 (by simp) o q, h2.at fun o q => k i2 (by simp) o q⟩
  item := by
    intro X hP hw hK hc i pins s σ H E I hf st hg
    subst hP hw hK
    obtain ⟨⟨v, f, hz, hv⟩, hTI, ⟨x0, y0, hTO⟩, h1, h2⟩ := st
    obtain ⟨xs, ys, x, y, hqx, hqy, hx, hy⟩ := hg
    obtain ⟨its, rv, p, _⟩ := Pm.Inv.seqA I hqx
    obtain ⟨its2, rv2, p2, _⟩ := Pm.Inv.seqA I hqy
    obtain ⟨u, hu, ru⟩ := rv.get hx
    obtain ⟨u2, hu2, ru2⟩ := rv2.get hy
    have hzl : z < s.heap.objs.size := Heap.lt_size hz
    have hlt : i < its.toArray.size := by
      have := (List.getElem?_eq_some_iff.mp hu).1
      simpa using this
    have hlt2 : i < its2.toArray.size := by
      have := (List.getElem?_eq_some_iff.mp hu2).1
      simpa using this
    refine nextX_item D (Draws.seqA (prog := X.prog) (w := X.w) (A := X.A.in1) t (show X.A.in1.handled = none from I.ok.hd hc) i1 a ha its.toArray) (Draws.seqA (prog := X.prog) (w := X.w) (A := X.A.in1) t2 (show X.A.in1.handled = none from I.ok.hd hc) i2 b hb its2.toArray) hz hv hTI hTO ⟨h1, p⟩ ⟨h2, p2⟩ hlt hlt2 fun v1 v2 h' tk v' f' b1 b2 g1 g2 z' hv' TO' h1' h2' hT hsz hk => ?_
    have eu : v1 = u := by
      have q : its[i]? = some v1 := by simpa using g1
      rw [hu] at q; cases q; rfl
    have eu2 : v2 = u2 := by
      have q : its2[i]? = some v2 := by simpa using g2
      rw [hu2] at q; cases q; rfl
    subst eu; subst eu2
    refine ⟨_, rfl, wpAny_pure ?_⟩
    have new : ObjOk X.prog X.w (upd H s.heap.objs.size (.tup [x, y])) h' s.heap.objs.size (.tup [x, y]) :=
      ⟨by show 2 ≤ sizeLine; decide, [v1, v2], .cons ru (.cons ru2 .nil), ⟨_, hT, rfl, _, rfl⟩⟩
    have I1 : Inv X pins σ (upd H s.heap.objs.size (.tup [x, y])) { s with heap := h', toks := tk } :=
      I.turnedNew (t' := tk) (ch := [z, TI, TO, i1, i2]) (fun c o hb q => hk c o (fun q' => hb (by simp [q'])) (fun q' => hb (by simp [q'])) (fun q' => hb (by simp [q'])) (fun q' => hb (by simp [q'])) q) hf (Nat.le_refl _) new
    refine ⟨.ref s.heap.objs.size, _, I1, rfl, ⟨_, x, y, rfl, I.hok.fresh (Nat.le_refl _), rfl, fun l hl => by rw [Pm.Inv.seqA_inj I hl hqx]; exact hx, fun l hl => by rw [Pm.Inv.seqA_inj I hl hqy]; exact hy⟩, ⟨⟨v', f', z', hv'⟩, ?_, ⟨b1, b2, TO'⟩, ?_, ?_⟩, fun c hcm => ?_⟩
    · exact hk _ _ D.TIz D.TITO D.TIi1 D.TIi2 hTI
    · exact h1'.1
    · exact h2'.1
    · have hlt : c < s.heap.objs.size := by
        have e' : c = z ∨ c = TI ∨ c = TO ∨ c = i1 ∨ c = i2 := by simpa using hcm
        rcases e' with q | q | q | q | q
        · rw [q]; exact hzl
        · rw [q]; exact Heap.lt_size hTI
        · rw [q]; exact Heap.lt_size hTO
        · rw [q]; obtain ⟨_, e1, _⟩ := h1.obj; exact Heap.lt_size e1
        · rw [q]; obtain ⟨_, e2, _⟩ := h2.obj; exact Heap.lt_size e2
      rw [upd_ne (Nat.ne_of_lt hlt)]
      exact (hf c hcm).1
  done := by
    intro X hP hw hK hc i pins s σ H E I hf st hg
    subst hP hw hK
    obtain ⟨⟨v, f, hz, hv⟩, hTI, ⟨x0, y0, hTO⟩, h1, h2⟩ := st
    obtain ⟨xs, ys, hqx, hqy, hl1, hl2, hend⟩ := hg
    obtain ⟨its, rv, p, _⟩ := Pm.Inv.seqA I hqx
    obtain ⟨its2, rv2, p2, _⟩ := Pm.Inv.seqA I hqy
    have l1 := rv.length
    have l2 := rv2.length
    exact nextX_end D (Draws.seqA (prog := X.prog) (w := X.w) (A := X.A.in1) t (show X.A.in1.handled = none from I.ok.hd hc) i1 a ha its.toArray) (Draws.seqA (prog := X.prog) (w := X.w) (A := X.A.in1) t2 (show X.A.in1.handled = none from I.ok.hd hc) i2 b hb its2.toArray) hz hv hTI hTO ⟨h1, p⟩ ⟨h2, p2⟩ (by simp; omega) (by simp; omega) (by simp; omega) fun h' tk hk => ⟨rfl, I.turnedL (t' := tk) (ch := [z, TI, TO, i1, i2]) (fun c o hb q =>
      hk c o (fun q' => hb (by simp [q'])) (fun q' => hb (by simp [q'])) (fun q' => hb (by simp [q'])) (fun q' => hb (by simp [q'])) q) hf⟩
  self := fun A i s Q E st h => by
    obtain ⟨⟨v, f, hz, hv⟩, _⟩ := st
    have hT : s.TypeIs (.ref z) "zip" := ⟨_, hz, rfl⟩
    refine wpAny_pyIter_slot hT F.slot_zip_iter (wpAny_call_entry F.slot_zip_iter hT F.entry_zip_iter ?_ (F.args_zip_iter_1 _))
    show wpAny _ _ (ret (.ref z)) _ _ s
    exact wpAny_pure ⟨_, rfl, "zip", _, hT, F.slot_zip_next.lookup, h⟩
theorem pi_zipN {X : Cx} {e e2 : Expr} {ta : TA} {p pos tpos : Pos} {x : Str} (hg : Gl X "zip") (hm : X.mg "zip" = none) (ha : PA X [e, e2] ta)
    (hs : starEach [e, e2] X.env = (false, eval e X.env) :: starEach [e2] X.env := by rfl) (hpl : (backTo pos (starEach [e2] X.env)).any (·.1) = false := by rfl) :
    PI X (.Name x tpos) (.Call (.Name "zip" p) [e, e2] [] pos) (iZipG X.K ta) := by
  refine ⟨fun pins s σ H R I h => ?_⟩
  refine Call_ (ld_blt I hg hm PyProof.Rows.boot_zip (PyProof.Rows.callWith_type1 (thn (ha.run pos pins s σ H _ I h) fun us s1 ⟨vs, H1, I1, r1, q1⟩ => ?_) hs hpl))
  obtain ⟨t, t2, a, b, xs, ys, ex, hqx, hqy, q⟩ := q1
  subst ex
  cases r1 with
  | cons r rr =>
    cases rr with
    | cons r' rr =>
      cases rr
      cases r
      cases r'
      obtain ⟨its, rv, p1, la⟩ := Pm.Inv.seqA I1 hqx
      obtain ⟨its2, rv2, p2, lb⟩ := Pm.Inv.seqA I1 hqy
      obtain ⟨o1, B1, hb1⟩ := beginsA t a its.toArray
      obtain ⟨o2, B2, hb2⟩ := beginsA t2 b its2.toArray
      refine zip_begins2 B1 B2 p1 p2 fun h' hz hTI hTO h1 h2 hsz hk => wpAny_pyIter_zip hz ?_
      have I2 : Inv X pins σ H1 { s1 with heap := h' } := I1.kept (t' := s1.toks) hk
      refine ⟨s1.heap.objs.size + 4, [s1.heap.objs.size + 4, s1.heap.objs.size + 2, s1.heap.objs.size + 3, s1.heap.objs.size, s1.heap.objs.size + 1], _, _, H1, rfl, I2, turn_zipN t t2 (zip_apart _ _ _ la lb) (nat_ne (k := 0) la).2.2 (nat_ne lb).2.1, ⟨⟨_, _, hz, .inl rfl⟩, hTI, ⟨_, _, hTO⟩, hb1 _ _ h1, hb2 _ _ h2⟩, fun c hcm => ?_, q⟩
      have e' : c = s1.heap.objs.size + 4 ∨ c = s1.heap.objs.size + 2 ∨ c = s1.heap.objs.size + 3 ∨ c = s1.heap.objs.size ∨ c = s1.heap.objs.size + 1 := by simpa using hcm
      have hle : s1.heap.objs.size ≤ c := by
        rcases e' with z | z | z | z | z <;> rw [z] <;> first | exact Nat.le_refl _ | exact Nat.le_add_right _ _
      exact I1.fpOk hle (I1.hok.fresh hle)
end Pm

/-! Pm, part W5: tuple * 1, tuple * 0. -/
namespace L2
open PySem PySem.Spec PyProof.Rows
theorem tuple_mulS (l : Addr) (items : Array Value) (n : Nat) (dd : Option Addr) (sl : Array (Option Value)) (x : Int) (u : Tok) (c0 : (decide (x < -(2 ^ 63)) || decide (x ≥ 2 ^ 63)) = false) (c1 : (items.isEmpty || x == 1) = true) :
    Meets (Builtin.«tuple.__mul__» ⟨[.ref l, .int x u], []⟩) (fun _ R s => s.heap.get? l = some { cls := .type "tuple", dict := dd, data := .seq items n, slots := sl } ∧ R (.ok (.ret (Value.ref l))) s) :=
  .of_wp fun prog w A R s h => by
    obtain ⟨hp, g, d, tk, os⟩ := s
    obtain ⟨hl, h⟩ := h
    have f1 := AutoSeq1.idx_int
    wp_walk using wpAny_loadPart' hl
    repeat (first
      | (refine wpAny_ite_false (decide_eq_false (by rw [c0]; exact Bool.false_ne_true)) ?_; wp_walk using wpAny_loadPart' hl)
      | (refine wpAny_ite_true (decide_eq_true (by rw [c1])) ?_; wp_walk using wpAny_loadPart' hl)
      | (refine wpAny_ite_true (by decide +kernel) ?_; wp_walk using wpAny_loadPart' hl))
    exact ⟨_, rfl, h⟩
theorem tuple_mulZ (l : Addr) (items : Array Value) (n : Nat) (dd : Option Addr) (sl : Array (Option Value)) (x : Int) (u : Tok) (c0 : (decide (x < -(2 ^ 63)) || decide (x ≥ 2 ^ 63)) = false) (c1 : (items.isEmpty || x == 1) = false) (c2 : (decide (x ≤ 0) || items.isEmpty) = true) :
    Meets (Builtin.«tuple.__mul__» ⟨[.ref l, .int x u], []⟩) (fun _ R s => s.heap.get? l = some { cls := .type "tuple", dict := dd, data := .seq items n, slots := sl } ∧
      R (.ok (.ret (Value.ref s.heap.objs.size))) { s with heap := s.heap.push { cls := Value.type "tuple", data := Data.seq #[] }, toks := s.toks }) :=
  .of_wp fun prog w A R s h => by
    obtain ⟨hp, g, d, tk, os⟩ := s
    obtain ⟨hl, h⟩ := h
    have f1 := AutoSeq1.idx_int
    wp_walk using wpAny_loadPart' hl
    repeat (first
      | (refine wpAny_ite_false (decide_eq_false (by rw [c0]; exact Bool.false_ne_true)) ?_; wp_walk using wpAny_loadPart' hl)
      | (refine wpAny_ite_false (decide_eq_false (by rw [c1]; exact Bool.false_ne_true)) ?_; wp_walk using wpAny_loadPart' hl)
      | (refine wpAny_ite_true (decide_eq_true (by rw [c2])) ?_; wp_walk using wpAny_loadPart' hl))
    exact ⟨_, rfl, h⟩
def rRepT01 (K : PySem.W.Frag) : R2 := fun x y H Q => ∃ l k xs, x = .ref l ∧ y = .int k ∧ SqT K H l xs ∧ xs ≠ [] ∧ (k = 1 ∧ Q (.ref l) H ∨ k = 0 ∧ ∀ p, H p = none → Q (.ref p) (upd H p (.tup [])))
section
variable {X : Cx}
theorem op_repT01 : OpR X (binaryOp .Mult) (rRepT01 X.K) := by
  intro pins s σ H x y v u Q I rx ry h
  obtain ⟨l, k, xs, rfl, rfl, hT, hne, hk⟩ := h
  cases rx
  obtain ⟨t, rfl⟩ := ry
  obtain ⟨its, r, ⟨⟨cls, dd, data, sl⟩, ho, hc, n, hd⟩, hs⟩ := I.tuple hT
  simp only at hc hd
  subst hc hd
  have hle : its.length = xs.length := r.length.symm
  have hn : its ≠ [] := fun e => hne (by
    rw [e] at hle
    exact List.eq_nil_of_length_eq_zero hle.symm)
  have hi : its.toArray.isEmpty = false := by
    cases its with
    | nil => exact absurd rfl hn
    | cons a b => rfl
  have c0 : (decide (k < -(2 ^ 63)) || decide (k ≥ 2 ^ 63)) = false := by
    rcases hk with ⟨rfl, _⟩ | ⟨rfl, _⟩ <;> decide
  rcases hk with ⟨rfl, q⟩ | ⟨rfl, q⟩
  · refine wpAny_binaryOp_repeat_ref (T := "tuple") (U := "int") (by decide) ⟨_, ho, rfl⟩ (fun s' => typeIs_int s' 1 t) noFill_tuple_mul F.fills_int_mul F.slot_int_rmul repeat_tuple F.slot_int_index.lookup
      (call_meets F.slot_int_rmul (typeIs_int s 1 t) F.entry_int_rmul (F.args_int_rmul_2 _ _) (int_rmul_tuple 1 t l its.toArray n dd sl)
        ⟨ho, rfl, ⟨_, ho, rfl⟩, call_meets F.slot_tuple_mul ⟨_, ho, rfl⟩ F.entry_tuple_mul (F.args_tuple_mul_2 _ _) (tuple_mulS l its.toArray n dd sl 1 t c0 (by rw [hi]; rfl)) ⟨ho, ?_⟩⟩)
    exact ⟨.ref l, _, I, rfl, q⟩
  · refine wpAny_binaryOp_repeat_ref (T := "tuple") (U := "int") (by decide) ⟨_, ho, rfl⟩ (fun s' => typeIs_int s' 0 t) noFill_tuple_mul F.fills_int_mul F.slot_int_rmul repeat_tuple F.slot_int_index.lookup
      (call_meets F.slot_int_rmul (typeIs_int s 0 t) F.entry_int_rmul (F.args_int_rmul_2 _ _) (int_rmul_tuple 0 t l its.toArray n dd sl)
        ⟨ho, rfl, ⟨_, ho, rfl⟩, call_meets F.slot_tuple_mul ⟨_, ho, rfl⟩ F.entry_tuple_mul (F.args_tuple_mul_2 _ _) (tuple_mulZ l its.toArray n dd sl 0 t c0 (by rw [hi]; rfl) (by rw [hi]; rfl)) ⟨ho, ?_⟩⟩)
    refine ⟨.ref s.heap.objs.size, _, I.laid (t' := s.toks) (o := .tup []) (fun b ob q => Heap.get?_push_of_some _ q) (Nat.le_refl _) ?_, rfl, q _ (I.hok.fresh (Nat.le_refl _))⟩
    exact ⟨by decide, [], .nil, IsTup.new _ #[]⟩
end
end L2

/-! Pm, part B3: the operators, by values. -/
namespace Pm
open PySem PySem.Spec L2
open PyProof.Rows hiding St
def freeNames : List Str := ["len", "abs", "int", "str", "all", "any", "sum", "min", "max", "tuple", "list", "dict", "sorted", "set", "isinstance", "range", "enumerate", "zip", "reversed", "bool"]
/-- where a piece of text stands -/
structure XOk (X : Cx) (c : TC) : Prop where
  n : X.N = c.N
  sc : X.env.scope = c.sc
  nd : c.N.Nodup
  calm : X.calm = true
  fn : ∀ x, c.fnc x = true → X.fn x = true
  xe : X.xe = fun _ _ => False
  un : X.A.units + 200 < cLine
  gd : X.A.guards = some []
  free : ∀ x ∈ freeNames, X.mg x = none

section
variable {X : Cx} {W : Wd} {c : TC} {F M : Ads} {H : Hp} {st st' : Sto} {d : D} {Q : VK} {m : Bool}
abbrev PostV (W : Wd) (F M : Ads) (H : Hp) (d : D) (st : Sto) (Q : VK) : Prop := ∀ F' M' H' v, Le F M H F' M' H' → SRx W H' F' M' st → Rep H' F' M' d v → Q v H'
theorem lim_line {n : Nat} (h : n ≤ lim) : n ≤ sizeLine := Nat.le_trans h (by decide)
theorem PostV.here {v : V} (p : PostV W F M H d st Q) (S : SRx W H F M st) (r : Rep H F M d v) : Q v H := p F M H v (Le.refl F M H) S r
/-- a new list -/
theorem newL_post {ds : List D} {vs : List V} {p : Addr} (S : SRx W H F M st) (r : RepL H F M ds vs) (hp : H p = none) (e : newL m ds st = (d, st')) (q : PostV W F M H d st' Q) : Q (.ref p) (upd H p (.lst vs)) := by
  cases m with
  | true =>
    simp only [newL, if_true, Prod.mk.injEq] at e
    obtain ⟨rfl, rfl⟩ := e
    have l := Le.alloc (o := .lst vs) F M hp
    refine q _ _ _ _ l (S.alloc hp ⟨vs, upd_same, r.le l S.mf⟩) ?_
    simp only [Rep]
    exact ⟨p, rfl, by rw [← S.len]; simp⟩
  | false =>
    simp only [newL, Bool.false_eq_true, if_false, Prod.mk.injEq] at e
    obtain ⟨rfl, rfl⟩ := e
    have l := Le.fresh (o := .lst vs) F M hp
    refine q _ _ _ _ l (S.fresh hp) ?_
    simp only [Rep]
    exact ⟨p, vs, rfl, .inl upd_same, fun z => S.fs p z hp, r.le l S.mf⟩
/-- a new tuple -/
theorem newT_post {ds : List D} {vs : List V} {p : Addr} (S : SRx W H F M st) (r : RepL H F M ds vs) (hp : H p = none) (q : PostV W F M H (.tup ds) st Q) : Q (.ref p) (upd H p (.tup vs)) := by
  have l := Le.fresh (o := .tup vs) F M hp
  refine q _ _ _ _ l (S.fresh hp) ?_
  simp only [Rep]
  exact ⟨p, vs, rfl, upd_same, r.le l S.mf⟩
theorem lstOf_rep {xs : List D} {v : V} (S : SRx W H F M st) (r : Rep H F M d v) (e : lstOf st d = some xs) : ∃ a vs, v = .ref a ∧ Rd H a (.lst vs) ∧ RepL H F M xs vs := by
  cases d with
  | lst ys =>
    simp only [lstOf, Option.some.injEq] at e; subst e
    simp only [Rep] at r
    obtain ⟨a, vs, e1, e2, _, e3⟩ := r
    exact ⟨a, vs, e1, e2, e3⟩
  | ref n =>
    simp only [Rep] at r
    obtain ⟨a, rfl, hm⟩ := r
    simp only [lstOf] at e
    split at e
    · rename_i ys hy
      simp only [Option.some.injEq] at e; subst e
      obtain ⟨vs, h1, h2⟩ := S.obs n _ a hy hm
      exact ⟨a, vs, rfl, .inl h1, h2⟩
    · cases e
  | _ => simp [lstOf] at e
theorem seqOf_rep {xs : List D} {v : V} (S : SRx W H F M st) (r : Rep H F M d v) (e : seqOf st d = some xs) : ∃ a vs, v = .ref a ∧ (SqL X.K H a vs ∨ H a = some (.tup vs)) ∧ RepL H F M xs vs := by
  cases d with
  | tup ys =>
    simp only [seqOf, Option.some.injEq] at e; subst e
    simp only [Rep] at r
    obtain ⟨a, vs, e1, e2, e3⟩ := r
    exact ⟨a, vs, e1, .inr e2, e3⟩
  | lst ys =>
    obtain ⟨a, vs, e1, e2, e3⟩ := lstOf_rep S r (by simpa [lstOf, seqOf] using e)
    exact ⟨a, vs, e1, .inl (.inl e2), e3⟩
  | ref n =>
    obtain ⟨a, vs, e1, e2, e3⟩ := lstOf_rep S r (by simpa [lstOf, seqOf] using e)
    exact ⟨a, vs, e1, .inl (.inl e2), e3⟩
  | _ => simp [seqOf] at e

/-! ### a binary operator -/
theorem Inv.lstR {pins : List (Addr × Obj)} {σ : L2.St} {H : Hp} {s : Shared} {l : Addr} {xs : List V} (I : L2.Inv X pins σ H s) (h : Rd H l (.lst xs)) :
    xs.length ≤ sizeLine ∧ ∃ (its : List Value) (n : Nat), Vals xs its ∧ s.heap.get? l = some { cls := .type "list", data := .seq its.toArray n } := h.ok I.hok
theorem op_catR : OpR X (binaryOp .Add) (fun x y H Q => ∃ l b xs zs, x = .ref l ∧ y = .ref b ∧ Rd H l (.lst xs) ∧ Rd H b (.lst zs) ∧ xs.length + zs.length ≤ sizeLine ∧ ∀ p, H p = none → Q (.ref p) (upd H p (.lst (xs ++ zs)))) := by
  intro pins s σ H x y v u Q I rx ry h
  obtain ⟨l, b, xs, zs, rfl, rfl, hH, hB, hz, q⟩ := h
  cases rx
  cases ry
  obtain ⟨_, i1, n1, r1, e1⟩ := Inv.lstR I hH
  obtain ⟨_, i2, n2, r2, e2⟩ := Inv.lstR I hB
  have l1 := r1.length
  have l2 := r2.length
  refine PySem.P.add_list e1 e2 ?_ (by rw [List.size_toArray, List.size_toArray]; omega)
  rw [show i1.toArray ++ i2.toArray = (i1 ++ i2).toArray by simp]
  exact ⟨V.ref _, _, I.lnew (t' := s.toks) (r1.append r2) (by rw [List.length_append]; omega), rfl, q _ I.fresh⟩
theorem op_repR : OpR X (binaryOp .Mult) (fun x y H Q => ∃ l k xs, x = .ref l ∧ y = .int k ∧ Rd H l (.lst xs) ∧ (-(2 ^ 63) ≤ k ∧ k < 2 ^ 63) ∧ xs.length * k.toNat ≤ sizeLine ∧ ∀ p, H p = none → Q (.ref p) (upd H p (.lst (List.replicate k.toNat xs).flatten))) := by
  intro pins s σ H x y v u Q I rx ry h
  obtain ⟨l, k, xs, rfl, rfl, hH, ⟨h1, h2⟩, hz, q⟩ := h
  cases rx
  obtain ⟨t, rfl⟩ := ry
  obtain ⟨_, its, n, r, e⟩ := Inv.lstR I hH
  have lr := r.length
  have b1 : its.toArray.size * k.toNat ≤ sizeLine := by
    rw [List.size_toArray, ← lr]
    exact hz
  have b2 : ¬ its.toArray.size * k.toNat > (2 ^ 63 - 1) / 8 := by
    have z : (sizeLine : Nat) ≤ (2 ^ 63 - 1) / 8 := by decide
    omega
  have b3 : ¬ (!Builtin.List.listFitsIndex k) = true := by rw [fitsIndex_both h1 h2]; simp
  have b4 : ¬ Builtin.List.listTooLong (its.toArray.size * k.toNat) = true := by rw [notLongL b1]; simp
  have b5 : List.foldl (fun x1 x2 => x1 ++ x2) #[] (List.replicate (if its.toArray.isEmpty = true then 0 else k.toNat) its.toArray) = (List.replicate k.toNat its).flatten.toArray := by
    have z : ∀ m : Nat, List.foldl (fun x1 x2 => x1 ++ x2) #[] (List.replicate m its.toArray) = (List.replicate m its).flatten.toArray := fun m => (foldl_rep its m []).trans (by rw [List.nil_append])
    rw [z]
    cases its with
    | nil => simp
    | cons a r' => simp
  have ty := typeIs_int s k t
  refine wpAny_binaryOp_repeat_ref (T := "list") (U := "int") (by decide) ⟨_, e, rfl⟩ (fun s' => typeIs_int s' k t) noFill_list_mul F.fills_int_mul F.slot_int_rmul repeat_list F.slot_int_index.lookup ?_
  refine call_meets F.slot_int_rmul ty F.entry_int_rmul (F.args_int_rmul_2 _ _) (int___rmul___int_list k t l its.toArray n) ⟨e, rfl, ⟨_, e, rfl⟩, ?_⟩
  refine call_meets F.slot_list_mul ⟨_, e, rfl⟩ F.entry_list_mul (F.args_list_mul_2 _ _) (AutoListH.list___mul___list_int_3 l its.toArray n k t b3 b2 b4) ⟨e, ?_⟩
  rw [b5]
  exact ⟨V.ref _, _, I.lnew (t' := s.toks) (r.rep k.toNat) (by rw [lm_len_rep_flat, Nat.mul_comm]; exact hz), rfl, q _ I.fresh⟩

def opP : Bop → Operator
  | .add => .Add | .sub => .Sub | .mul => .Mult | .fdiv => .FloorDiv | .mod => .Mod | .pow => .Pow
theorem bopOf_op {op : Operator} {o : Bop} (h : bopOf op = some o) : op = opP o := by
  cases op <;> simp [bopOf] at h <;> subst h <;> rfl
/-- what is wanted of two values -/
def RV2 (W : Wd) (f : D → D → Sto → Rv) : R2 := fun x y H Q => ∃ F M st a b d st', SRx W H F M st ∧ Rep H F M a x ∧ Rep H F M b y ∧ f a b st = some (d, st') ∧ PostV W F M H d st' Q
theorem op_arith {o : Bop} : OpR X (binaryOp (opP o)) (fun x y H Q => ∃ i j k, x = .int i ∧ y = .int j ∧ arith o i j = some k ∧ Q (.int k) H) := by
  intro pins s σ H x y v u Q I rx ry h
  obtain ⟨i, j, k, rfl, rfl, e, q⟩ := h
  cases o with
  | add => simp only [arith, Option.some.injEq] at e; subst e; exact op_add pins s σ H _ _ v u Q I rx ry ⟨i, j, rfl, rfl, q⟩
  | sub => simp only [arith, Option.some.injEq] at e; subst e; exact op_sub pins s σ H _ _ v u Q I rx ry ⟨i, j, rfl, rfl, q⟩
  | mul =>
    simp only [arith] at e
    split at e
    · rename_i hb
      simp only [Option.some.injEq] at e; subst e
      refine op_mul pins s σ H _ _ v u Q I rx ry ⟨i, j, rfl, rfl, ?_, q⟩
      simp only [Bool.or_eq_true, decide_eq_true_eq] at hb
      unfold CMul
      have e64 : (2 : Int) ^ 64 = 18446744073709551616 := by decide
      rw [e64]
      omega
    · cases e
  | fdiv =>
    simp only [arith] at e
    split at e
    · rename_i hb
      simp only [Option.some.injEq] at e; subst e
      simp only [Bool.and_eq_true, decide_eq_true_eq] at hb
      exact op_fdiv pins s σ H _ _ v u Q I rx ry ⟨i, j, rfl, rfl, hb, q⟩
    · cases e
  | mod =>
    simp only [arith] at e
    split at e
    · rename_i hb
      simp only [Option.some.injEq] at e; subst e
      exact op_mod pins s σ H _ _ v u Q I rx ry ⟨i, j, rfl, rfl, hb, q⟩
    · cases e
  | pow =>
    simp only [arith] at e
    split at e
    · rename_i hb
      simp only [Option.some.injEq] at e; subst e
      simp only [Bool.and_eq_true, decide_eq_true_eq] at hb
      refine op_pow pins s σ H _ _ v u Q I rx ry ⟨i, j, rfl, rfl, ⟨hb.1.1, hb.1.2, ?_⟩, q⟩
      have e64 : (2 : Nat) ^ 64 = 18446744073709551616 := by decide
      rw [e64]; exact hb.2
    · cases e
theorem rep_int {i : Int} {v : V} : Rep H F M (.int i) v ↔ v = .int i := by simp only [Rep]
theorem op_bin {o : Bop} : OpR X (binaryOp (opP o)) (RV2 W (binop o m)) := by
  intro pins s σ H x y v u Q I rx ry h
  obtain ⟨F, M, st, a, b, d, st', S, ra, rb, e, q⟩ := h
  unfold binop at e
  split at e
  · rename_i i j
    simp only [Option.map_eq_some_iff, Prod.mk.injEq] at e
    obtain ⟨k, e, rfl, rfl⟩ := e
    simp only [Rep] at ra rb
    exact op_arith pins s σ H _ _ v u Q I rx ry ⟨i, j, k, ra, rb, e, q.here S (by simp only [Rep])⟩
  · rename_i z w
    split at e
    · rename_i hc
      simp only [Bool.and_eq_true, decide_eq_true_eq] at hc
      obtain ⟨rfl, hz⟩ := hc
      simp only [Option.some.injEq, Prod.mk.injEq] at e
      obtain ⟨rfl, rfl⟩ := e
      simp only [Rep] at ra rb
      exact op_add_str pins s σ H _ _ v u Q I rx ry ⟨z, w, ra, rb, lim_line hz, q.here S (by simp only [Rep])⟩
    · cases e
  · rename_i xs ys
    split at e
    · rename_i hc
      simp only [Bool.and_eq_true, decide_eq_true_eq] at hc
      obtain ⟨rfl, hz⟩ := hc
      simp only [Option.some.injEq, Prod.mk.injEq] at e
      obtain ⟨rfl, rfl⟩ := e
      have hl1 := ra
      have hl2 := rb
      simp only [Rep] at ra rb
      obtain ⟨p, vs, rfl, hp, r1⟩ := ra
      obtain ⟨t, us, rfl, ht, r2⟩ := rb
      have n1 := r1.length
      have n2 := r2.length
      refine op_catA pins s σ H _ _ v u Q I rx ry ⟨p, t, vs, us, rfl, rfl, SqT.of hp, SqT.of ht, by rw [← n1, ← n2]; exact lim_line hz, fun z => ?_, fun _ z => ?_, fun _ _ w hw => ?_⟩
      · subst z
        have e0 : xs = [] := List.eq_nil_of_length_eq_zero (by simpa using n1)
        subst e0
        exact q.here S hl2
      · subst z
        have e0 : ys = [] := List.eq_nil_of_length_eq_zero (by simpa using n2)
        subst e0
        rw [List.append_nil] at q
        exact q.here S hl1
      · exact newT_post S (r1.append r2) hw q
    · cases e
  · rename_i xs k
    split at e
    · rename_i hc
      simp only [Bool.and_eq_true, decide_eq_true_eq, Bool.not_eq_true'] at hc
      obtain ⟨rfl, hne⟩ := hc
      have ra0 := ra
      simp only [Rep] at ra rb
      obtain ⟨p, vs, rfl, hp, r1⟩ := ra
      have n1 := r1.length
      have hvs : vs ≠ [] := fun z => by
        subst z
        have : xs = [] := List.eq_nil_of_length_eq_zero (by simpa using n1)
        subst this
        simp at hne
      split at e
      · rename_i h2
        split at e
        · rename_i h34
          simp only [Bool.and_eq_true, decide_eq_true_eq] at h34
          simp only [Option.some.injEq, Prod.mk.injEq] at e
          obtain ⟨rfl, rfl⟩ := e
          exact op_repT pins s σ H _ _ v u Q I rx ry ⟨p, k, vs, rfl, rb, SqT.of hp, hvs, h2, h34.1, by omega, fun w hw => newT_post S (r1.replicate _) hw q⟩
        · cases e
      · split at e
        · rename_i hk1
          subst hk1
          simp only [Option.some.injEq, Prod.mk.injEq] at e
          obtain ⟨rfl, rfl⟩ := e
          exact op_repT01 pins s σ H _ _ v u Q I rx ry ⟨p, 1, vs, rfl, rb, SqT.of hp, hvs, .inl ⟨rfl, q.here S ra0⟩⟩
        · split at e
          · rename_i hk0
            subst hk0
            simp only [Option.some.injEq, Prod.mk.injEq] at e
            obtain ⟨rfl, rfl⟩ := e
            exact op_repT01 pins s σ H _ _ v u Q I rx ry ⟨p, 0, vs, rfl, rb, SqT.of hp, hvs, .inr ⟨rfl, fun w hw => newT_post S .nil hw q⟩⟩
          · cases e
    · cases e
  · rename_i k _ _
    split at e
    · rename_i xs hx
      split at e
      · rename_i hc
        simp only [Bool.and_eq_true, decide_eq_true_eq] at hc
        simp only [Option.some.injEq] at e
        obtain ⟨p, vs, rfl, hp, r1⟩ := lstOf_rep S ra hx
        simp only [Rep] at rb
        have n1 := r1.length
        refine op_repR pins s σ H _ _ v u Q I rx ry ⟨p, k, vs, rfl, rb, hp, ⟨by omega, by omega⟩, by rw [← n1]; exact lim_line hc.1.1, fun w hw => ?_⟩
        exact newL_post S (r1.replicate _) hw e q
      · cases e
    · cases e
  · split at e
    · rename_i xs ys hx hy
      split at e
      · rename_i hz
        simp only [Option.some.injEq] at e
        obtain ⟨p, vs, rfl, hp, r1⟩ := lstOf_rep S ra hx
        obtain ⟨t, us, rfl, ht, r2⟩ := lstOf_rep S rb hy
        have n1 := r1.length
        have n2 := r2.length
        exact op_catR pins s σ H _ _ v u Q I rx ry ⟨p, t, vs, us, rfl, rfl, hp, ht, by rw [← n1, ← n2]; exact lim_line hz, fun w hw => newL_post S (r1.append r2) hw e q⟩
      · cases e
    · cases e

/-! ### data, comparisons -/
mutual
theorem dp_of : ∀ (d : D) (v : V), d.flat = true → Rep H F M d v → Dp X.K H v d.py
  | .non, v, _, r => by simp only [Rep] at r; subst r; exact .non
  | .bl b, v, _, r => by simp only [Rep] at r; subst r; exact .bl b
  | .int i, v, _, r => by simp only [Rep] at r; subst r; exact .int i
  | .str x, v, _, r => by simp only [Rep] at r; subst r; exact .str x
  | .tup ds, v, f, r => by
    simp only [Rep] at r
    obtain ⟨a, vs, rfl, h, r⟩ := r
    simp only [D.py]
    exact .tup (SqT.of h) (dp_all ds vs (by simpa [D.flat] using f) r)
  | .lst ds, v, f, r => by
    simp only [Rep] at r
    obtain ⟨a, vs, rfl, h, _, r⟩ := r
    simp only [D.py]
    exact .lst (.inl h) (dp_all ds vs (by simpa [D.flat] using f) r)
  | .dct _ _ _, _, f, _ => by simp [D.flat] at f
  | .ref _, _, f, _ => by simp [D.flat] at f
theorem dp_all : ∀ (ds : List D) (vs : List V), flatL ds = true → RepL H F M ds vs → DpAll X.K H vs (pyL ds)
  | [], vs, _, r => by simp only [RepL] at r; subst r; simp only [pyL]; exact .nil
  | d :: ds, vs, f, r => by
    simp only [RepL] at r
    obtain ⟨v, t, rfl, h1, h2⟩ := r
    simp only [flatL, Bool.and_eq_true] at f
    simp only [pyL]
    exact .cons (dp_of d v f.1 h1) (dp_all ds t f.2 h2)
end
mutual
/-- without objects of the store within, whatever the store -/
theorem Rep.noM {M' : Ads} : ∀ (d : D) (v : V), d.noRef = true → Rep H F M d v → Rep H F M' d v
  | .non, v, _, r => by simp only [Rep] at r ⊢; exact r
  | .bl b, v, _, r => by simp only [Rep] at r ⊢; exact r
  | .int i, v, _, r => by simp only [Rep] at r ⊢; exact r
  | .str x, v, _, r => by simp only [Rep] at r ⊢; exact r
  | .tup ds, v, f, r => by
    simp only [Rep] at r ⊢
    obtain ⟨a, vs, e, h, r⟩ := r
    exact ⟨a, vs, e, h, RepL.noM ds vs (by simpa [D.noRef] using f) r⟩
  | .lst ds, v, f, r => by
    simp only [Rep] at r ⊢
    obtain ⟨a, vs, e, h, n, r⟩ := r
    exact ⟨a, vs, e, h, n, RepL.noM ds vs (by simpa [D.noRef] using f) r⟩
  | .dct false ks ds, v, f, r => by
    simp only [Rep] at r ⊢
    simp only [D.noRef, Bool.and_eq_true] at f
    obtain ⟨a, e, n, kvs, h, ek, r⟩ := r
    exact ⟨a, e, n, kvs, h, ek, RepL.noM ds _ f.2 r⟩
  | .dct true ks ds, v, f, r => by
    simp only [Rep] at r ⊢
    simp only [D.noRef, Bool.and_eq_true] at f
    obtain ⟨a, e, n, kvs, h, ek, r⟩ := r
    exact ⟨a, e, n, kvs, h, ek, RepL.noM ds _ f.2 r⟩
  | .ref _, _, f, _ => by simp [D.noRef] at f
theorem RepL.noM {M' : Ads} : ∀ (ds : List D) (vs : List V), noRefL ds = true → RepL H F M ds vs → RepL H F M' ds vs
  | [], vs, _, r => by simp only [RepL] at r ⊢; exact r
  | d :: ds, vs, f, r => by
    simp only [RepL] at r ⊢
    simp only [noRefL, Bool.and_eq_true] at f
    obtain ⟨v, t, e, h1, h2⟩ := r
    exact ⟨v, t, e, Rep.noM d v f.1 h1, RepL.noM ds t f.2 h2⟩
end
/-- what may be read as plain data: a list of the store as it stands -/
theorem deref_dp {e : D} {v : V} (S : SRx W H F M st) (r : Rep H F M d v) (h : deref st d = some e) (f : e.flat = true) : Dp X.K H v e.py := by
  unfold deref at h
  by_cases f0 : d.noRef = true
  · rw [if_pos f0] at h
    simp only [Option.some.injEq] at h; subst h
    exact dp_of d v f r
  · rw [if_neg f0] at h
    cases d with
    | ref n =>
      simp only [Rep] at r
      obtain ⟨a, rfl, hm⟩ := r
      simp only at h
      split at h
      · rename_i xs hx
        split at h
        · simp only [Option.some.injEq] at h; subst h
          obtain ⟨vs, h1, h2⟩ := S.obs n _ a hx hm
          simp only [D.py]
          exact .lst (.inl (.inl h1)) (dp_all xs vs (by simpa [D.flat] using f) h2)
        · cases h
      · split at h
        · simp only [Option.some.injEq] at h; subst h; simp [D.flat] at f
        · cases h
      · cases h
    | _ => cases h
end
end Pm

/-! Pm, part W1: < of tuples, min of anything that has <. -/
namespace Pm
open PySem PySem.SeqAt
open PySem.AutoSeq1 (wpAny_loadPart')
open PySem.MeetsSeq PySem.MeetsSeq2 PySem.MeetsSeq3
mutual
def ltP : PyData → PyData → Option Bool
  | .int a, .int b => some (decide (a < b))
  | .str a, .str b => some (decide (a.cps.toList < b.cps.toList))
  | .tuple xs, .tuple ys => ltPL xs ys
  | _, _ => none
def ltPL : List PyData → List PyData → Option Bool
  | [], [] => some false
  | [], _ :: _ => some true
  | _ :: _, [] => some false
  | x :: xs, y :: ys => if PyData.eqv x y then ltPL xs ys else ltP x y
end
/-- x op y by the first unequal items -/
def LexV (A : Around) (s : Shared) : List Value → List Value → Bool → Prop
  | x :: xs, y :: ys, r => ∃ e, EqAt A.in1 s x y e ∧ (e = true → LexV A s xs ys r) ∧ (e = false → Ob.RcOp .Lt A.in1 s x y r)
  | [], [], r => r = false
  | [], _ :: _, r => r = true
  | _ :: _, [], r => r = false
theorem tuple_ltL (l b : Addr) (items items2 : Array Value) (n n2 : Nat) (dd dd2 : Option Addr) (sl sl2 : Array (Option Value)) (r : Bool) :
    Meets (Builtin.«tuple.__lt__» ⟨[.ref l, .ref b], []⟩)
      (fun A R s => s.heap.get? l = some { cls := .type "tuple", dict := dd, data := .seq items n, slots := sl } ∧ s.heap.get? b = some { cls := .type "tuple", dict := dd2, data := .seq items2 n2, slots := sl2 } ∧
        LexV A s items.toList items2.toList r ∧ R (.ok (.ret (.bool r))) s) :=
  .of_wp fun prog w A R s h => by
    obtain ⟨hp, g, d, tk, os⟩ := s; obtain ⟨hl, hb, hlex, h⟩ := h
    have f2 := AutoSeq1.sub_tuple_tuple
    wp_walk using wpAny_loadPart' hl, wpAny_loadPart' hb, wpAny_forIn_list _ (fun rest b s' => b.1 = none ∧ s' = ⟨hp, g, d, tk, os⟩ ∧ ∃ xs ys, rest = xs.zip ys ∧ items.size + ys.length = items2.size + xs.length ∧
      LexV A ⟨hp, g, d, tk, os⟩ xs ys r) _
    case turn =>
      rintro ⟨y, x⟩ rest b s' ⟨hb', rfl, xs, ys, hz, hn, hR⟩
      match xs, ys, hz, hn, hR with
      | [], _, hz, _, _ => simp at hz
      | _ :: _, [], hz, _, _ => simp at hz
      | x1 :: xs, y1 :: ys, hz, hn, hR =>
        simp only [List.zip_cons_cons, List.cons.injEq, Prod.mk.injEq] at hz
        obtain ⟨⟨rfl, rfl⟩, rfl⟩ := hz
        obtain ⟨e, he, h1, h2⟩ := hR
        refine wpAny_bind (he prog w _ _ ?_)
        cases e with
        | true =>
          wp_walk
          exact ⟨rfl, rfl, xs, ys, rfl, by simp only [List.length_cons] at hn; omega, h1 rfl⟩
        | false =>
          have hri := h2 rfl prog w
          wp_walk using hri
          exact ⟨_, rfl, h⟩
    case fin =>
      rintro ⟨b1, b2⟩ s' ⟨hb', rfl, xs, ys, hz, hn, hR⟩
      simp only at hb'
      subst hb'
      have hr : r = decide (items.size < items2.size) := by
        match xs, ys, hz, hn, hR with
        | [], [], _, hn, hR => have hR : r = false := hR; rw [hR]; simp at hn ⊢; omega
        | [], _ :: _, _, hn, hR => have hR : r = true := hR; rw [hR]; simp at hn ⊢; omega
        | _ :: _, [], _, hn, hR => have hR : r = false := hR; rw [hR]; simp at hn ⊢; omega
        | _ :: _, _ :: _, hz, _, _ => simp at hz
      wp_walk
      exact ⟨_, rfl, by rw [hr] at h; simpa [Builtin.Tuple.tupleCompareSizes] using h⟩
    case h =>
      exact ⟨rfl, rfl, items.toList, items2.toList, rfl, by simp; omega, hlex⟩
theorem RcOp.tuples_ltL {A : Around} {s : Shared} {l b : Addr} {items items2 : Array Value} {r : Bool} (hl : s.heap.IsTuple l items) (hb : s.heap.IsTuple b items2) (hu : A.units < cLine)
    (hx : ∀ A' : Around, A'.units = A.units → LexV A s items.toList items2.toList r) : Ob.RcOp .Lt A s (.ref l) (.ref b) r := fun prog w E Q h => by
  obtain ⟨⟨cls, dd, data, sl⟩, ho, hc, n, hd⟩ := id hl
  obtain ⟨⟨cls2, dd2, data2, sl2⟩, ho2, hc2, n2, hd2⟩ := id hb
  simp only at hc hd hc2 hd2
  subst hc hd hc2 hd2
  exact richCompare_meets_room (op := .Lt) ⟨_, ho, rfl⟩ ⟨_, ho2, rfl⟩ F.slot_tuple_lt F.entry_tuple_lt (F.args_tuple_lt_2 _ _) (tuple_ltL l b items items2 n n2 dd dd2 sl sl2 r)
    ⟨ho, ho2, hx A rfl, ⟨(fun x => nomatch x), h⟩⟩ hu
mutual
/-- a < b of values that read as data -/
theorem rcLt_reads : ∀ (da db : PyData) (A : Around) (s : Shared) (a b : Value) (as bs : List Addr) (r : Bool), Reads s.heap a da as → Reads s.heap b db bs → da.canLay0 = true → db.canLay0 = true → ltP da db = some r → A.units + min da.depth db.depth < cLine → Ob.RcOp .Lt A s a b r
  | .none, db, _, _, _, _, _, _, _, _, _, _, _, h, _ => by cases db <;> simp [ltP] at h
  | .bool x, db, _, _, _, _, _, _, _, _, _, _, _, h, _ => by cases db <;> simp [ltP] at h
  | .list xs, db, _, _, _, _, _, _, _, _, _, _, _, h, _ => by cases db <;> simp [ltP] at h
  | .dict xs, db, _, _, _, _, _, _, _, _, _, _, _, h, _ => by cases db <;> simp [ltP] at h
  | .int x, db, A, s, a, b, as, bs, r, ra, rb, _, _, h, _ => by
    cases db with
    | int y =>
      cases ra
      cases rb
      simp only [ltP, Option.some.injEq] at h
      subst h
      intro prog w E Q hq
      exact P.lt_int hq
    | _ => simp [ltP] at h
  | .str x, db, A, s, a, b, as, bs, r, ra, rb, _, _, h, _ => by
    cases db with
    | str y =>
      cases ra
      cases rb
      simp only [ltP, Option.some.injEq] at h
      subst h
      intro prog w E Q hq
      exact P.lt_str hq
    | _ => simp [ltP] at h
  | .tuple xs, db, A, s, a, b, as, bs, r, ra, rb, ha, hb, h, hu => by
    cases db with
    | tuple ys =>
      simp only [ltP] at h
      cases ra with
      | @tuple l o vs n _ as₁ h1 h2 h3 h4 =>
        cases rb with
        | @tuple l' o' vs' n' _ bs₁ k1 k2 k3 k4 =>
          exact RcOp.tuples_ltL ⟨_, h1, h2, _, h3⟩ ⟨_, k1, k2, _, k3⟩ (room_here hu) fun _ _ => lexV_reads xs ys A s vs.toList vs'.toList _ _ r h4 k4 ha hb h (room_in hu)
    | _ => simp [ltP] at h
theorem lexV_reads : ∀ (xs ys : List PyData) (A : Around) (s : Shared) (vs ws : List Value) (as bs : List Addr) (r : Bool), ReadsAll s.heap vs xs as → ReadsAll s.heap ws ys bs → PyData.canLayAll0 xs = true → PyData.canLayAll0 ys = true → ltPL xs ys = some r →
    A.units + 1 + min (PyData.depthAll xs) (PyData.depthAll ys) < cLine → LexV A s vs ws r
  | [], [], _, _, _, _, _, _, r, ra, rb, _, _, h, _ => by
    cases ra; cases rb
    simp only [ltPL, Option.some.injEq] at h
    exact h.symm
  | [], _ :: _, _, _, _, _, _, _, r, ra, rb, _, _, h, _ => by
    cases ra; cases rb
    simp only [ltPL, Option.some.injEq] at h
    exact h.symm
  | _ :: _, [], _, _, _, _, _, _, r, ra, rb, _, _, h, _ => by
    cases ra; cases rb
    simp only [ltPL, Option.some.injEq] at h
    exact h.symm
  | x :: xs, y :: ys, A, s, _, _, _, _, r, ra, rb, ha, hb, h, hu => by
    have ha' : x.canLay0 = true ∧ PyData.canLayAll0 xs = true := by simpa [PyData.canLayAll0] using ha
    have hb' : y.canLay0 = true ∧ PyData.canLayAll0 ys = true := by simpa [PyData.canLayAll0] using hb
    cases ra with
    | cons r1 rs =>
      cases rb with
      | cons r2 rs' =>
        have hu0 : A.in1.units + min x.depth y.depth < cLine := room_head hu
        refine ⟨PyData.eqv x y, eqAt_reads x y A.in1 s _ _ _ _ r1 r2 ha'.1 hb'.1 hu0, fun e => ?_, fun e => ?_⟩
        · simp only [ltPL, e, if_true] at h
          exact lexV_reads xs ys A s _ _ _ _ r rs rs' ha'.2 hb'.2 h (room_tail hu)
        · simp only [ltPL, e, Bool.false_eq_true, if_false] at h
          exact rcLt_reads x y A.in1 s _ _ _ _ r r1 r2 ha'.1 hb'.1 h hu0
end
section
open PySem PySem.Spec L2
open PyProof.Rows hiding St
def itObj (t : Bool) (l : Addr) : Obj := match t with
  | true => { cls := .type "tuple_iterator", data := .fields #[.ref l, .int 0 0] }
  | false => { cls := .type "list_iterator", data := .fields #[.ref l, .int 0 0] }
section
variable {prog : Program} {w : World} {A : Around} {E : Value → Shared → Prop} {s : Shared} {l : Addr} {vs : Array Value}
/-- iter(x), x a list or a tuple -/
theorem iterA (t : Bool) {Q : Value → Shared → Prop} (hh : A.handled = none) (hl : HasAt t s.heap l vs)
    (h : ∀ (s₂ : Shared) (St : Nat → Heap → Prop), s₂ = { s with heap := s.heap.push (itObj t l) } → Walks prog w A s.heap.objs.size [s.heap.objs.size, l] [s.heap.objs.size] vs.size (fun i v => vs[i]? = some v) St →
      St 0 s₂.heap → (∀ b ∈ [s.heap.objs.size, l], b < s₂.heap.objs.size) → Q (.ref s.heap.objs.size) s₂) :
    wpAny (model prog w) A (pyIter (.ref l)) Q E s := by
  have hlt : l < s.heap.objs.size := by
    cases t
    · obtain ⟨_, e, _⟩ := (show s.heap.IsList l vs from hl); exact Heap.lt_size e
    · obtain ⟨_, e, _⟩ := (show s.heap.IsTuple l vs from hl); exact Heap.lt_size e
  have hb : ∀ o : Obj, ∀ b ∈ [s.heap.objs.size, l], b < (s.heap.push o).objs.size := fun o b hb => by
    rw [Heap.size_push]
    rcases List.mem_cons.mp hb with rfl | hb
    · exact Nat.lt_succ_self _
    · rcases List.mem_cons.mp hb with rfl | hb
      · exact Nat.lt_succ_of_lt hlt
      · cases hb
  cases t with
  | false =>
    have hl' : s.heap.IsList l vs := hl
    exact wpAny_pyIter_list hl' (h _ _ rfl (Walks.list hh _ l (Nat.ne_of_lt hlt) vs) ⟨⟨_, Heap.get?_push_size _ rfl, rfl, rfl⟩, hl'.push _⟩ (hb _))
  | true =>
    have hl' : s.heap.IsTuple l vs := hl
    exact wpAny_pyIter_tuple hl' (h _ _ rfl (Walks.tuple hh _ l (Nat.ne_of_lt hlt) vs) ⟨⟨_, Heap.get?_push_size _ rfl, rfl, rfl⟩, hl'.push _⟩ (hb _))
theorem old_keptA {t : Bool} {h' : Heap} (hk : ∀ b o, b ∉ [s.heap.objs.size] → (s.heap.push (itObj t l)).get? b = some o → h'.get? b = some o) : ∀ b o, s.heap.get? b = some o → h'.get? b = some o := fun b o e => by
  refine hk b o (fun hm => ?_) (Heap.get?_push_of_some _ e)
  have e1 := List.mem_singleton.mp hm
  exact absurd (e1 ▸ Heap.lt_size e) (Nat.lt_irrefl _)
theorem sum_A (t : Bool) {its : List Value} {ns : List Int} {Q : Value → Shared → Prop} (hh : A.handled = none) (hl : HasAt t s.heap l its.toArray) (hi : IntsAre its ns)
    (h : ∀ h' tk t', (∀ b o, s.heap.get? b = some o → h'.get? b = some o) → Q (.int ns.sum t') { s with heap := h', toks := tk }) : wpAny (model prog w) A (call (.builtin "sum") [.ref l]) Q E s := by
  obtain ⟨xs, e⟩ := hi.allInts.items
  have hn : numsOf (intItems xs).toList = ns := by rw [← e]; exact hi.numsOf
  rw [nums_intItems] at hn
  rw [e] at hl
  refine call_sum_walkG (iterA (A := A.in1) t hh hl fun s₂ St es W st hfp => ?_)
  subst es
  refine ⟨_, _, _, _, _, _, numAt xs, rfl, W, st, hfp, (fun _ _ => intItems_at), fun h' tk t' hk => ?_⟩
  have q := h h' tk t' (old_keptA hk)
  have e2 : (intItems xs).size = xs.size := by simp [intItems]
  rw [e2, preSum_eq, List.take_of_length_le (by simp), hn]; exact q
theorem max_A (t : Bool) {its : List Value} {ns : List Int} {Q : Value → Shared → Prop} (hh : A.handled = none) (hl : HasAt t s.heap l its.toArray) (hi : IntsAre its ns) (hne : 0 < ns.length)
    (h : ∀ h' tk M t', (∀ b o, s.heap.get? b = some o → h'.get? b = some o) → M ∈ ns → (∀ a, a ∈ ns → a ≤ M) → Q (.int M t') { s with heap := h', toks := tk }) : wpAny (model prog w) A (call (.builtin "max") [.ref l]) Q E s := by
  obtain ⟨xs, e⟩ := hi.allInts.items
  have hn : numsOf (intItems xs).toList = ns := by rw [← e]; exact hi.numsOf
  rw [nums_intItems] at hn
  subst hn
  rw [e] at hl
  have hsz : 0 < xs.size := by simpa using hne
  refine call_max_walk (iterA (A := A.in1) t hh hl fun s₂ St es W st hfp => ?_)
  subst es
  refine ⟨_, _, _, _, _, _, _, rfl, W, st, hfp, by simpa [intItems] using hsz, CmpOf.ints_gt (numAt xs) (fun _ _ => intItems_at), fun v h' tk hP hk => ?_⟩
  have hP' : (intItems xs)[argBest (fun i j => decide (numAt xs i > numAt xs j)) (xs.size - 1)]? = some v := by simpa [intItems] using hP
  obtain ⟨t, rfl⟩ := intItems_at hP'
  obtain ⟨h1, h2⟩ := argBest_gt (numAt xs) (xs.size - 1)
  refine h h' tk _ t (old_keptA hk) ?_ fun a ha => ?_
  · rw [numAt_eq]; exact PySem.getD_mem (by rw [List.length_map, Array.length_toList]; omega)
  · obtain ⟨j, hj, rfl⟩ := mem_getD ha
    rw [List.length_map, Array.length_toList] at hj
    rw [← numAt_eq]; exact h2 j (by omega)
theorem min_A (t : Bool) {its : List Value} {ns : List Int} {Q : Value → Shared → Prop} (hh : A.handled = none) (hl : HasAt t s.heap l its.toArray) (hi : IntsAre its ns) (hne : 0 < ns.length)
    (h : ∀ h' tk M t', (∀ b o, s.heap.get? b = some o → h'.get? b = some o) → M ∈ ns → (∀ a, a ∈ ns → M ≤ a) → Q (.int M t') { s with heap := h', toks := tk }) : wpAny (model prog w) A (call (.builtin "min") [.ref l]) Q E s := by
  obtain ⟨xs, e⟩ := hi.allInts.items
  have hn : numsOf (intItems xs).toList = ns := by rw [← e]; exact hi.numsOf
  rw [nums_intItems] at hn
  subst hn
  rw [e] at hl
  have hsz : 0 < xs.size := by simpa using hne
  refine call_min_walk (iterA (A := A.in1) t hh hl fun s₂ St es W st hfp => ?_)
  subst es
  refine ⟨_, _, _, _, _, _, _, rfl, W, st, hfp, by simpa [intItems] using hsz, CmpOf.ints_lt (numAt xs) (fun _ _ => intItems_at), fun v h' tk hP hk => ?_⟩
  have hP' : (intItems xs)[argBest (fun i j => decide (numAt xs i < numAt xs j)) (xs.size - 1)]? = some v := by simpa [intItems] using hP
  obtain ⟨t, rfl⟩ := intItems_at hP'
  obtain ⟨h1, h2⟩ := argBest_lt (numAt xs) (xs.size - 1)
  refine h h' tk _ t (old_keptA hk) ?_ fun a ha => ?_
  · rw [numAt_eq]; exact PySem.getD_mem (by rw [List.length_map, Array.length_toList]; omega)
  · obtain ⟨j, hj, rfl⟩ := mem_getD ha
    rw [List.length_map, Array.length_toList] at hj
    rw [← numAt_eq]; exact h2 j (by omega)
/-- min of data any two of which may be compared -/
theorem min_D {xs : List PyData} {as : List Addr} {Q : Value → Shared → Prop} (hh : A.handled = none) (hl : s.heap.IsList l vs) (hr : ReadsAll s.heap vs.toList xs as) (hc : PyData.canLayAll0 xs = true)
    (hp : ∀ x ∈ xs, ∀ y ∈ xs, (ltP x y).isSome = true) (hu : A.units + 1 + PyData.depthAll xs < cLine) (hne : 0 < xs.length)
    (h : ∀ v h' tk, vs[argBest (fun i j => (ltP (xs.getD i .none) (xs.getD j .none)).getD false) (xs.length - 1)]? = some v → (∀ b o, s.heap.get? b = some o → h'.get? b = some o) → Q v { s with heap := h', toks := tk }) :
    wpAny (model prog w) A (call (.builtin "min") [.ref l]) Q E s := by
  have hn : vs.size = xs.length := by simpa using ReadsAll.length _ _ _ hr
  refine call_min_walkH (PySem.W.iter_listW (A := A.in1) hh hl fun s₂ e W st hfp hw hk => ?_)
  refine ⟨_, _, _, _, _, _, _, s.heap, fun i j => (ltP (xs.getD i .none) (xs.getD j .none)).getD false, rfl, W, st, hfp, by omega, hw, hk, fun i j vi vj s' Q E hk hi hj hq => ?_, fun v s' hP m => ?_⟩
  · obtain ⟨as1, r1, _, m1, d1⟩ := PySem.W.readsAll_atA hr i vi hi
    obtain ⟨as2, r2, _, m2, d2⟩ := PySem.W.readsAll_atA hr j vj hj
    have hs := hp _ m1 _ m2
    obtain ⟨r, hr⟩ := Option.isSome_iff_exists.mp hs
    have hq : Q (.bool r) s' := by simpa only [hr, Option.getD_some] using hq
    have cl : ∀ ys : List PyData, PyData.canLayAll0 ys = true → ∀ y ∈ ys, y.canLay0 = true := fun ys => by
      induction ys with
      | nil => intro _ y hy; cases hy
      | cons z zs ih =>
        intro h y hy
        have h' : z.canLay0 = true ∧ PyData.canLayAll0 zs = true := by simpa [PyData.canLayAll0] using h
        rcases List.mem_cons.mp hy with rfl | hy
        · exact h'.1
        · exact ih h'.2 y hy
    refine rcLt_reads _ _ A.in1 s' vi vj _ _ r (PySem.W.reads_keeps hk r1) (PySem.W.reads_keeps hk r2) (cl _ hc _ m1) (cl _ hc _ m2) hr ?_ prog w E Q hq
    have := Nat.min_le_left (xs.getD i .none).depth (xs.getD j .none).depth
    show A.units + 1 + _ < _
    omega
  · obtain ⟨h', tk, rfl, hk'⟩ := PySem.W.moved_old e rfl m
    refine h v h' tk ?_ hk'
    rw [← hn]
    exact hP
end
section
variable {X : Cx}
def rSumA (K : PySem.W.Frag) : List V → Hp → VK → Prop := fun vs H Q => ∃ (t : Bool) (a : Addr) (ns : List Int), vs = [V.ref a] ∧ SqA t K H a (ns.map V.int) ∧ Q (.int ns.sum) H
theorem cr_sumA (hc : X.calm = true) : CallR X (.builtin "sum") (rSumA X.K) := by
  intro pins s σ H vs us Q I r h
  obtain ⟨t, a, ns, rfl, hs, q⟩ := h
  obtain ⟨its, rv, hl, _⟩ := Pm.Inv.seqA I hs
  rw [Vals.ref1 r]
  exact sum_A t (I.ok.hd hc) hl rv.ints fun h' tk t' hk => ⟨.int _, H, I.kept hk, ⟨_, rfl⟩, q⟩
def rMaxA (K : PySem.W.Frag) : List V → Hp → VK → Prop := fun vs H Q => ∃ (t : Bool) (a : Addr) (ns : List Int), vs = [V.ref a] ∧ SqA t K H a (ns.map V.int) ∧ 0 < ns.length ∧ ∀ m, m ∈ ns → (∀ y, y ∈ ns → y ≤ m) → Q (.int m) H
theorem cr_maxA (hc : X.calm = true) : CallR X (.builtin "max") (rMaxA X.K) := by
  intro pins s σ H vs us Q I r h
  obtain ⟨t, a, ns, rfl, hs, hne, q⟩ := h
  obtain ⟨its, rv, hl, _⟩ := Pm.Inv.seqA I hs
  rw [Vals.ref1 r]
  exact max_A t (I.ok.hd hc) hl rv.ints hne fun h' tk m t' hk h1 h2 => ⟨.int _, H, I.kept hk, ⟨_, rfl⟩, q m h1 h2⟩
def rMinA (K : PySem.W.Frag) : List V → Hp → VK → Prop := fun vs H Q => ∃ (t : Bool) (a : Addr) (ns : List Int), vs = [V.ref a] ∧ SqA t K H a (ns.map V.int) ∧ 0 < ns.length ∧ ∀ m, m ∈ ns → (∀ y, y ∈ ns → m ≤ y) → Q (.int m) H
theorem cr_minA (hc : X.calm = true) : CallR X (.builtin "min") (rMinA X.K) := by
  intro pins s σ H vs us Q I r h
  obtain ⟨t, a, ns, rfl, hs, hne, q⟩ := h
  obtain ⟨its, rv, hl, _⟩ := Pm.Inv.seqA I hs
  rw [Vals.ref1 r]
  exact min_A t (I.ok.hd hc) hl rv.ints hne fun h' tk m t' hk h1 h2 => ⟨.int _, H, I.kept hk, ⟨_, rfl⟩, q m h1 h2⟩
def rMinD (K : PySem.W.Frag) : List V → Hp → VK → Prop := fun vs H Q => ∃ (a : Addr) (xs : List V) (ds : List PyData), vs = [V.ref a] ∧ SqL K H a xs ∧ DpAll K H xs ds ∧ PyData.canLayAll0 ds = true ∧ PyData.depthAll ds ≤ 65 ∧ 0 < ds.length ∧
  (∀ x ∈ ds, ∀ y ∈ ds, (ltP x y).isSome = true) ∧ ∀ x, xs[argBest (fun i j => (ltP (ds.getD i .none) (ds.getD j .none)).getD false) (ds.length - 1)]? = some x → Q x H
theorem cr_minD (hc : X.calm = true) (hu : X.A.units + 80 < cLine) : CallR X (.builtin "min") (rMinD X.K) := by
  intro pins s σ H vs us Q I r h
  obtain ⟨a, xs, ds, rfl, hs, hd, hcl, hdp, hne, hp, q⟩ := h
  obtain ⟨its, rv, hl, _⟩ := I.list hs
  rw [Vals.ref1 r]
  obtain ⟨as, hr⟩ := Dp.readsAll I ds _ its hd rv
  have n1 := ReadsAll.length _ _ _ hr
  refine min_D (I.ok.hd hc) hl.isList (by simpa using hr) hcl hp (by omega) hne fun v h' tk hv hk => ?_
  rw [List.getElem?_toArray] at hv
  have hlen := rv.length
  have hi := (List.getElem?_eq_some_iff.mp hv).1
  obtain ⟨u, hu', ru⟩ := rv.get (List.getElem?_eq_getElem (l := xs) (i := argBest (fun i j => (ltP (ds.getD i .none) (ds.getD j .none)).getD false) (ds.length - 1)) (by omega))
  rw [hv] at hu'
  cases hu'
  exact ⟨_, H, I.kept hk, ru, q _ (List.getElem?_eq_getElem (by omega))⟩
/-- a < b of data -/
theorem op_ltP (hu : X.A.units + 80 < cLine) : OpR X (compareOp .Lt) (fun x y H Q => ∃ d e r, Dp X.K H x d ∧ Dp X.K H y e ∧ d.canLay0 = true ∧ e.canLay0 = true ∧ d.depth ≤ 65 ∧ ltP d e = some r ∧ Q (.bl r) H) := by
  intro pins s σ H x y v u Q I rx ry h
  obtain ⟨d, e, r, hd, he, c1, c2, dp, hr, q⟩ := h
  obtain ⟨as, r1⟩ := Dp.reads I d x v hd rx
  obtain ⟨bs, r2⟩ := Dp.reads I e y u he ry
  exact rcLt_reads d e X.A s v u as bs r r1 r2 c1 c2 hr (by omega) X.prog X.w _ _ ⟨.bl r, H, I, rfl, q⟩
end
end
end Pm

/-! Pm, part W2: sorted of tuples of ints. -/
namespace Pm
open PySem PySem.Spec L2
open PyProof.Rows hiding St
theorem lexI_asym : ∀ x y : List Int, lexI x y = true → lexI y x = false
  | [], [], h => by simp [lexI] at h
  | [], _ :: _, _ => rfl
  | _ :: _, [], h => by simp [lexI] at h
  | a :: as, b :: bs, h => by
    simp only [lexI] at h ⊢
    by_cases e : a = b
    · rw [if_pos e] at h; rw [if_pos e.symm]; exact lexI_asym as bs h
    · rw [if_neg e] at h; rw [if_neg (Ne.symm e)]; simp at h ⊢; omega
theorem lexI_tr : ∀ x y z : List Int, lexI y x = false → lexI z y = false → lexI z x = false
  | [], y, [], _, _ => rfl
  | [], [], _ :: _, h, g => g
  | [], _ :: _, _ :: _, h, g => rfl
  | _ :: _, [], [], h, g => by simp [lexI] at h
  | _ :: _, _ :: _, [], h, g => by simp [lexI] at g
  | _ :: _, [], _ :: _, h, g => by simp [lexI] at h
  | a :: as, b :: bs, c :: cs, h, g => by
    simp only [lexI] at h g ⊢
    by_cases e1 : b = a
    · by_cases e2 : c = b
      · rw [if_pos e1] at h; rw [if_pos e2] at g; rw [if_pos (e2.trans e1)]; exact lexI_tr as bs cs h g
      · rw [if_neg e2] at g; rw [if_neg (fun z => e2 (z.trans e1.symm))]; simp at g ⊢; omega
    · rw [if_neg e1] at h
      by_cases e2 : c = b
      · rw [if_neg (fun z => e1 (e2.symm.trans z))]; simp at h ⊢; omega
      · rw [if_neg e2] at g; simp at h g
        rw [if_neg (fun z => by omega)]; simp; omega
theorem lexI_swo {α : Type} (k : α → List Int) : SrtO.Swo (fun v u => lexI (k v) (k u)) := ⟨fun x y => lexI_asym _ _, fun x y z => lexI_tr _ _ _⟩
theorem lexI_antisym : ∀ {x y : List Int}, lexI x y = false → lexI y x = false → x = y
  | [], [], _, _ => rfl
  | [], _ :: _, h, _ => by simp [lexI] at h
  | _ :: _, [], _, h => by simp [lexI] at h
  | a :: as, b :: bs, h, g => by
    simp only [lexI] at h g
    by_cases e : a = b
    · rw [if_pos e] at h; rw [if_pos e.symm] at g; rw [e, lexI_antisym h g]
    · rw [if_neg e] at h; rw [if_neg (Ne.symm e)] at g; simp at h g; omega
def IsTupI (h : Heap) (v : Value) (ns : List Int) : Prop := ∃ a o us n, v = .ref a ∧ h.get? a = some o ∧ o.cls = .type "tuple" ∧ o.data = .seq us n ∧ IntsAre us.toList ns
theorem IsTupI.keeps {h h' : Heap} {v : Value} {ns : List Int} (p : IsTupI h v ns) (k : ∀ b o, h.get? b = some o → o.cls = .type "tuple" → h'.get? b = some o) : IsTupI h' v ns := by
  obtain ⟨a, o, us, n, e, ho, hc, hd, hi⟩ := p
  exact ⟨a, o, us, n, e, k _ _ ho hc, hc, hd, hi⟩
section
variable {prog : Program} {w : World} {A : Around} {E : Value → Shared → Prop} {s : Shared}
theorem kat_ints {b fin : Bool} {Q : Bool → Shared → Prop} : ∀ {us ws : List Value} {ns ms : List Int} (i : Nat), IntsAre us ns → IntsAre ws ms → fin = decide (ns.length < ms.length) → Q (lexI ns ms) s → PySem.W.KatLex prog w A b fin Q (us.zip ws) i s
  | _, _, _, _, i, .nil, .nil, e, h => by subst e; exact PySem.W.kat_nil (by simpa [lexI] using h)
  | _, _, _, _, i, .nil, .cons _ _ _, e, h => by subst e; exact PySem.W.kat_nil (by simpa [lexI] using h)
  | _, _, _, _, i, .cons _ _ _, .nil, e, h => by subst e; exact PySem.W.kat_nil (by simpa [lexI] using h)
  | _, _, _, _, i, .cons x t hx, .cons y u hy, e, h => by
    simp only [List.zip_cons_cons]
    refine PySem.W.kat_cons (SeqAt.EqAt.int_int x t y u prog w _ _ ?_)
    simp only [lexI] at h
    refine PySem.W.kat_go (fun e1 => ?_) (fun e1 => ?_)
    · have ex : x = y := by simpa using e1
      rw [if_pos ex] at h
      exact PySem.W.kat_yes (kat_ints (i + 1) hx hy (by rw [e]; simp) h)
    · have ex : ¬ x = y := by simpa using e1
      rw [if_neg ex] at h
      refine PySem.W.kat_no ?_
      cases hb : (b && i == 0) with
      | true => exact oneLt_int h
      | false => exact PySem.W.kat_one _ _ (PyProof.Rows.lt_int (Q := PySem.W.BoolBack Q) h)
theorem tups_cmp {vs : List Value} {k : Value → List Int} (hp : ∀ v ∈ vs, IsTupI s.heap v (k v)) : SrtO.Cmp prog w A s (tuples' true) (fun p => p.1 ∈ vs) (SrtO.lt2 fun v u => lexI (k v) (k u)) := by
  intro p q hm hm'
  obtain ⟨a, o, us, n, e, ho, hc, hd, hi⟩ := hp _ hm
  obtain ⟨a', o', us', n', e', ho', hc', hd', hi'⟩ := hp _ hm'
  show wpAny (model prog w) A (keyLt' (tuples' true) p.1 q.1) (fun r s' => s' = s ∧ r = lexI (k p.1) (k q.1)) (fun _ _ => False) s
  rw [e, e'] at *
  refine PySem.W.kat_lt ho hd ho' hd' (kat_ints 0 hi hi' ?_ ⟨rfl, rfl⟩)
  rw [← hi.length, ← hi'.length]; simp
theorem firstsI_of {h : Heap} : ∀ {vs : List Value}, (∀ v ∈ vs, ∃ ns, IsTupI h v ns ∧ 0 < ns.length) → ∃ fs : List Value, PySem.W.KatTups h vs fs ∧ fs.length = vs.length ∧ ∀ f ∈ fs, ∃ x t, f = Value.int x t
  | [], _ => ⟨[], PySem.W.KatTups.nil, rfl, fun _ hm => by simp at hm⟩
  | v :: vs, hp => by
    obtain ⟨fs, h1, h2, h3⟩ := firstsI_of (vs := vs) fun v' hm => hp v' (List.mem_cons_of_mem _ hm)
    obtain ⟨ns, ⟨a, o, us, n, e, ho, hc, hd, hi⟩, hn⟩ := hp v (List.mem_cons_self ..)
    subst e
    obtain ⟨x, t, ul, eu⟩ : ∃ x t ul, us.toList = Value.int x t :: ul := by
      generalize hq : us.toList = ul at hi
      cases hi with
      | nil => simp at hn
      | cons x t _ => exact ⟨x, t, _, rfl⟩
    refine ⟨.int x t :: fs, PySem.W.KatTups.cons ho hc hd (by rw [← Array.getElem?_toList, eu]; rfl) h1, by rw [List.length_cons, List.length_cons, h2], fun f hm => ?_⟩
    rcases List.mem_cons.mp hm with rfl | hm
    · exact ⟨x, t, rfl⟩
    · exact h3 f hm
theorem tups_sortable {a : Addr} {vs : List Value} {k : Value → List Int} (h0 : 0 < vs.length) (hp : ∀ v ∈ vs, IsTupI s.heap v (k v) ∧ 0 < (k v).length) (ha : ∀ o, s.heap.get? a = some o → o.cls ≠ .type "tuple") : SrtO.SortableO prog w A s a vs fun v u => lexI (k v) (k u) := by
  intro h' keep
  have hp' : ∀ v ∈ vs, IsTupI h' v (k v) := fun v hm => (hp v hm).1.keeps fun b o e c => keep b o (fun z => by subst z; exact ha o e c) e
  obtain ⟨fs, h1, h2, h3⟩ := firstsI_of fun v hm => ⟨_, hp' v hm, (hp v hm).2⟩
  refine ⟨tuples' true, fun Q E hq => ?_, tups_cmp hp'⟩
  refine PySem.W.kat_kind (T := .type "int") h1 (by omega) (fun f hm => ?_) (by rfl) ?_
  · obtain ⟨x, t, rfl⟩ := h3 f hm
    exact PySem.W.Looks.now
  · have e : (Value.type "int" != Value.type "tuple") = true := by first | decide +kernel | rfl | decide
    rw [e]
    exact hq
theorem sorted_tups {l : Addr} {vs : List Value} {k : Value → List Int} {Q : Value → Shared → Prop} (hl : s.heap.IsList l vs.toArray) (hz : vs.length ≤ sizeLine) (hp : ∀ v ∈ vs, IsTupI s.heap v (k v) ∧ 0 < (k v).length)
    (h : ∀ (h' : Heap) (d : Addr) (out : List Value), SrtO.Srtd (fun v u => lexI (k v) (k u)) out → SrtO.Stb (fun v u => lexI (k v) (k u)) out vs → (∀ b o, s.heap.get? b = some o → h'.get? b = some o) → s.heap.objs.size ≤ d → (∃ n, h'.get? d = some (seqObj "list" out.toArray n)) → Q (.ref d) { s with heap := h' }) :
    wpAny (model prog w) A (call (.builtin "sorted") [.ref l]) Q E s := by
  refine SrtO.sorted_ord (lexI_swo k) hl hz (fun h2 h₁ a ha kk => ?_) fun out hs hb => ?_
  · refine tups_sortable (s := { s with heap := h₁ }) (by omega) (fun v hm => ⟨(hp v hm).1.keeps fun b o e _ => (kk b o e).2, (hp v hm).2⟩) fun o e => ?_
    have e' : some o = some (seqObj "list" vs.toArray 0) := e.symm.trans ha
    cases e'
    intro c
    exact absurd (Value.type.inj c) (by decide)
  · exact h _ _ out hs hb (fun b o e => sortedAll_old e) (Nat.le_succ _) (sortedAll_at s.heap vs out.toArray)
end
section
variable {X : Cx}
/-- sorted(xs), xs a list of tuples of ints (k says which): a new list, sorted, equal ones in their order -/
def rSortedTI (K : PySem.W.Frag) : List V → Hp → VK → Prop := fun vs H Q => ∃ (a : Addr) (xs : List V) (k : V → List Int), vs = [V.ref a] ∧ SqL K H a xs ∧ (∀ x ∈ xs, (∃ t, x = V.ref t ∧ H t = some (.tup ((k x).map V.int))) ∧ 0 < (k x).length) ∧
  ∀ ys p, SrtO.Srtd (fun x y => lexI (k x) (k y)) ys → ys.Perm xs → H p = none → Q (.ref p) (upd H p (.lst ys))
theorem cr_sortedTI : CallR X (.builtin "sorted") (rSortedTI X.K) := by
  intro pins s σ H vs us Q I r h
  obtain ⟨a, xs, k, rfl, hs, hx, q⟩ := h
  obtain ⟨its, rv, hl, hz⟩ := I.list hs
  obtain ⟨u, rfl, ru⟩ := vals1 r
  obtain rfl : u = Value.ref a := ru
  obtain ⟨e1, e2⟩ := refs_back rv fun x m => by
    obtain ⟨⟨t, e, _⟩, _⟩ := hx x m
    exact ⟨t, e⟩
  refine sorted_tups (k := fun u => k (backV u)) hl.isList (by rw [← rv.length]; exact hz) (fun v hv => ?_) fun h' d out h1 h2 kp hd hn => ?_
  · obtain ⟨t, rfl⟩ := e2 v hv
    have hm : V.ref t ∈ xs := by rw [e1]; exact List.mem_map.mpr ⟨_, hv, rfl⟩
    obtain ⟨⟨t', e, ht⟩, hn⟩ := hx _ hm
    cases e
    obtain ⟨_, its2, r2, o, ho, hc, n, hd⟩ := I.hok _ _ ht
    exact ⟨⟨t, o, _, n, rfl, ho, hc, hd, by simpa [backV] using Vals.ints r2⟩, hn⟩
  · have h3 : ∀ u ∈ out, ∃ a, u = Value.ref a := fun u hu => e2 u (h2.perm.mem_iff.mp hu)
    obtain ⟨n, hn⟩ := hn
    have hb : SrtO.Stb (fun x y => lexI (k x) (k y)) (out.map backV) xs := by
      rw [e1]
      exact SrtO.Stb.map (lexI_swo k) backV h2
    refine ⟨.ref d, upd H d (.lst (out.map backV)), I.laid (t' := s.toks) kp hd ⟨?_, out, n, vals_back h3, hn⟩, rfl, q _ d (SrtO.srtd_map h1) hb.perm (I.hok.fresh hd)⟩
    rw [hb.len]
    exact hz
end
end Pm

/-! Pm, part W3: dict(pairs) whose keys are tuples. -/
namespace Pm
open PySem PySem.Spec L2
open PyProof.Rows hiding St
def mergeT (acc kvs : List (List L2.Key × V)) : List (List L2.Key × V) := kvs.foldl (fun a p => putK a p.1 p.2) acc
theorem putK_len {κ : Type} [DecidableEq κ] (kvs : List (κ × V)) (k : κ) (v : V) : (putK kvs k v).length ≤ kvs.length + 1 := by
  unfold putK
  split <;> simp
theorem mergeT_len : ∀ (kvs acc : List (List L2.Key × V)), (mergeT acc kvs).length ≤ acc.length + kvs.length
  | [], acc => Nat.le_refl _
  | p :: kvs, acc => by
    have h := mergeT_len kvs (putK acc p.1 p.2)
    have h2 := putK_len acc p.1 p.2
    show (mergeT (putK acc p.1 p.2) kvs).length ≤ _
    simp only [List.length_cons]
    omega
theorem KT.merge {H : Hp} : ∀ {kvs : List (List L2.Key × V)} {prs : List (List L2.Key × Addr × Value)} {acc : List (List L2.Key × V)} {xs : List (List L2.Key × Addr × Value)}, KT H kvs prs → KT H acc xs → KT H (mergeT acc kvs) (PySem.storedAllH xs prs)
  | _, _, _, _, .nil, h => h
  | _, _, _, _, .cons ⟨h1, h2, h3⟩ t, h => by
    unfold mergeT PySem.storedAllH
    simp only [List.foldl_cons]
    rw [← h1]
    exact KT.merge t (h.put _ h2 h3)
section
variable {X : Cx}
theorem pairsT_of {pins : List (Addr × Obj)} {σ : L2.St} {H : Hp} {s : Shared} (I : Inv X pins σ H s) : ∀ {ps : List Addr} {kvs : List (List L2.Key × V)}, Paired (fun p kv => ∃ b, SqT X.K H p [.ref b, kv.2] ∧ H b = some (.tup (kv.1.map kV))) ps kvs →
    ∃ prs : List (List L2.Key × Addr × Value), KT H kvs prs ∧ prs.length = ps.length ∧ ∀ (j : Nat) (q : List L2.Key × Addr × Value), prs[j]? = some q → ∃ p : Addr, ps[j]? = some p ∧ IsTup s.heap p #[.ref q.2.1, q.2.2]
  | _, _, .nil => ⟨[], .nil, rfl, fun j q e => by simp at e⟩
  | _, _, .cons (a := p) (b := kv) h t => by
    obtain ⟨prs, r, hl, hp⟩ := pairsT_of I t
    obtain ⟨b, h, hb⟩ := h
    obtain ⟨its, rv, ht, _⟩ := I.tuple h
    obtain ⟨u, y, ei, ru, ry⟩ := vals2 rv
    subst ei
    cases ru
    refine ⟨(kv.1, b, y) :: prs, .cons ⟨rfl, hb, ry⟩ r, by rw [List.length_cons, List.length_cons, hl], fun j q e => ?_⟩
    cases j with
    | zero =>
      have e' : (kv.1, b, y) = q := Option.some.inj e
      subst e'
      exact ⟨p, rfl, ht⟩
    | succ j =>
      obtain ⟨b, e1, e2⟩ := hp j q (by simpa using e)
      exact ⟨b, by simpa using e1, e2⟩
theorem KT.keys {H : Hp} : ∀ {kvs : List (List L2.Key × V)} {prs : List (List L2.Key × Addr × Value)}, KT H kvs prs → ∀ x ∈ prs, H x.2.1 = some (.tup (x.1.map kV))
  | _, _, .nil, x, hx => nomatch hx
  | _, _, .cons ⟨h1, h2, _⟩ t, x, hx => by
    rcases List.mem_cons.mp hx with rfl | hx
    · rw [← h1]; exact h2
    · exact KT.keys t x hx
theorem cr_dictT (hc : X.calm = true) (hu : X.A.units + 80 < cLine) : CallR X (.type "dict") (fun xs H Q => ∃ (a : Addr) (ps : List Addr) (kvs : List (List L2.Key × V)), xs = [.ref a] ∧ SqL X.K H a (ps.map V.ref) ∧
    Paired (fun p kv => ∃ b, SqT X.K H p [.ref b, kv.2] ∧ H b = some (.tup (kv.1.map kV))) ps kvs ∧ ∀ p, H p = none → Q (.ref p) (upd H p (.dT (mergeT [] kvs)))) := by
  intro pins s σ H xs us Q I r q
  obtain ⟨a, ps, kvs, ex, hq, hp, q⟩ := q
  subst ex
  obtain ⟨u, eu, rx⟩ := vals1 r
  subst eu
  cases rx
  obtain ⟨its, rv, pl, hz⟩ := I.list hq
  have ei := refs_at rv
  subst ei
  rw [List.length_map] at hz
  obtain ⟨prs, rel, hl, hpr⟩ := pairsT_of I hp
  obtain ⟨o, n, ho, hcl, hd, hdat⟩ := pl
  have P := PySem.PairArg.list (prog := X.prog) (w := X.w) a (ps.map Value.ref).toArray (fun j => (ps[j]?).getD 0) (prs.map fun q => ((.ref q.2.1 : Value), q.2.2))
  have hn : (prs.map fun q => ((.ref q.2.1 : Value), q.2.2)).length = ps.length := by rw [List.length_map, hl]
  refine PySem.call_dict_pairsH (knd := tupleKind (mixKind X.prog X.w)) (ps := prs) P (I.ok.hd hc) (by show X.A.units + 1 + 1 < cLine; omega) ⟨⟨o, n, ho, hcl, hd, hdat⟩, by simp [hl], fun j k v e => ?_⟩ ⟨by rw [List.length_map], fun i key v e => ?_⟩ ?_ (by rw [hn]; exact hz) fun h' tk hd' kp => ?_
  · rw [List.getElem?_map] at e
    obtain ⟨x, hx, e⟩ := Option.map_eq_some_iff.mp e
    cases e
    obtain ⟨p, e1, e2⟩ := hpr j x hx
    exact ⟨by simp [e1], by simp only [e1, Option.getD_some]; exact .inl e2⟩
  · have e : (prs.map fun q => ((.ref q.2.1 : Value), q.2.2))[i]? = some (key, v) := e
    rw [List.getElem?_map] at e
    obtain ⟨x, hx, e⟩ := Option.map_eq_some_iff.mp e
    cases e
    exact ⟨x.1, x.2.1, hx, rfl⟩
  · intro h' keep x hx
    obtain ⟨o', its', n', h1, h2, h3, h4⟩ := key_of (P := X.prog) (w := X.w) I.hok (KT.keys rel x hx)
    exact ⟨o', its', n', keep _ _ (Nat.ne_of_lt (Heap.lt_size h1)) (by simp) h1, h2, h3, h4⟩
  · have k : ∀ b o, s.heap.get? b = some o → h'.get? b = some o := fun b o e => kp b o (by simp) e
    have hm : (s.heap.objs.size == sysModules) = false := beq_eq_false_iff_ne.mpr (Nat.ne_of_gt I.big)
    have hlen : (mergeT [] kvs).length ≤ sizeLine := by
      have := mergeT_len kvs []
      have e : kvs.length = prs.length := Paired.length rel
      simp only [List.length_nil, Nat.zero_add] at this
      omega
    have hH : H s.heap.objs.size = none := I.hok.fresh (Nat.le_refl _)
    have rel2 : KT (upd H s.heap.objs.size (.dT (mergeT [] kvs))) (mergeT [] kvs) (PySem.storedAllH [] prs) := (KT.merge rel .nil).keeps fun b ys e => by
      rw [upd_ne (fun z => by rw [z, hH] at e; cases e)]; exact e
    obtain ⟨o', es, ep, g1, g2, g3, g4, _, g6⟩ := hd'
    exact ⟨.ref s.heap.objs.size, upd H s.heap.objs.size (.dT (mergeT [] kvs)), I.laid (t' := tk) k (Nat.le_refl _) (show ObjOk X.prog X.w _ _ _ (.dT (mergeT [] kvs)) from ⟨hlen, hm, _, rel2, o', es, ep, g1, g2, g3, g4, g6⟩), rfl, q _ hH⟩
end
end Pm

/-! Pm, part W6: list(zip(..)); dicts sorted, dicts walked over. -/
namespace Pm
open PySem PySem.Spec L2
open PyProof.Rows hiding St

/-! ### list(zip(a, b)) -/
section
variable {X : Cx} {pins : List (Addr × Obj)} {σ : L2.St} {a b z TI TO i1 i2 : Addr}
abbrev ZAt (t t2 : Bool) (z TI TO i1 i2 a b : Addr) (i : Nat) (h : Heap) : Prop :=
  (∃ v f, ZX h z TI TO v f ∧ ZGood v) ∧ IsTupOf2 h TI (.ref i1) (.ref i2) ∧ (∃ x y, IsTupOf2 h TO x y) ∧ IterAt t h i1 a i ∧ IterAt t2 h i2 b i
theorem ZAt.keep {t t2 : Bool} {i : Nat} {h h' : Heap} (st : ZAt t t2 z TI TO i1 i2 a b i h) (k : ∀ c ∈ [z, TI, TO, i1, i2], ∀ o, h.get? c = some o → h'.get? c = some o) : ZAt t t2 z TI TO i1 i2 a b i h' := by
  obtain ⟨⟨v, f, hz, hv⟩, hTI, ⟨x, y, hTO⟩, h1, h2⟩ := st
  exact ⟨⟨v, f, k z (by simp) _ hz, hv⟩, k TI (by simp) _ hTI, ⟨x, y, k TO (by simp) _ hTO⟩, h1.at fun o q => k i1 (by simp) o q, h2.at fun o q => k i2 (by simp) o q⟩
/-- the loop that draws a zip into a list -/
theorem zip_loop {A : Around} {R : Result → Shared → Prop} {t t2 : Bool} (D : ZipSep2 z TI TO i1 i2 [i1, a] [i2, b]) (ha : a ≠ i1) (hb : b ≠ i2) (hh : A.handled = none)
    (S : Addr) (res : Value) (Pv : Nat → Hp → Prop) {xs ys : List V} {n : Nat} (hn : n = min xs.length ys.length) (hz : n < sizeLine)
    (turn : ∀ i H, i < n → Pv i H → SqA t X.K H a xs ∧ SqA t2 X.K H b ys ∧ ∃ acc, H S = some (.lst acc) ∧ acc.length = i ∧ ∀ x y T, xs[i]? = some x → ys[i]? = some y → H T = none → Pv (i + 1) (upd (upd H T (.tup [x, y])) S (.lst (acc ++ [.ref T]))))
    (last : ∀ H, Pv n H → SqA t X.K H a xs ∧ SqA t2 X.K H b ys)
    (hR : ∀ s' H', Inv X pins σ H' s' → Pv n H' → R (.ok (.ret res)) s') :
    ∀ (k i : Nat) (s : Shared) (H : Hp), n - i = k → i ≤ n → Inv X pins σ H s → (∀ c ∈ [z, TI, TO, i1, i2], FpOk X pins H c) → ZAt t t2 z TI TO i1 i2 a b i s.heap → Pv i H →
    codeAny (model X.prog X.w) A (.builtin "list.extend.loop" ⟨[.ref S, .ref z, res], []⟩) R s := by
  intro k
  induction k with
  | zero =>
    intro i s H hk hi I hf st hP
    have e : i = n := by omega
    subst e
    obtain ⟨hqx, hqy⟩ := last H hP
    obtain ⟨⟨v, f, hz, hv⟩, hTI, ⟨x0, y0, hTO⟩, h1, h2⟩ := st
    obtain ⟨its, rv, p, _⟩ := Pm.Inv.seqA I hqx
    obtain ⟨its2, rv2, p2, _⟩ := Pm.Inv.seqA I hqy
    have l1 := rv.length
    have l2 := rv2.length
    refine codeAny_builtin PySem.F.entry_extend_loop ?_
    rw [Around.under_plainId PySem.F.plain_extend_loop _]
    show wpAny _ A.in1 (pyNext (.ref z) >>= _) _ _ s
    refine wpAny_bind (nextX_end D (Draws.seqA (prog := X.prog) (w := X.w) (A := A.in1.in1) t (show A.in1.in1.handled = none from hh) i1 a ha its.toArray) (Draws.seqA (prog := X.prog) (w := X.w) (A := A.in1.in1) t2 (show A.in1.in1.handled = none from hh) i2 b hb its2.toArray) hz hv hTI hTO ⟨h1, p⟩ ⟨h2, p2⟩ (by simp; omega) (by simp; omega) (by simp; omega) fun h' tk hk => ?_)
    exact wpAny_pure (hR _ H (I.turnedL (t' := tk) (ch := [z, TI, TO, i1, i2]) (fun c o hb q =>
      hk c o (fun q' => hb (by simp [q'])) (fun q' => hb (by simp [q'])) (fun q' => hb (by simp [q'])) (fun q' => hb (by simp [q'])) q) hf) hP)
  | succ k ih =>
    intro i s H hk hi I hf st hP
    have hlt : i < n := by omega
    obtain ⟨hqx, hqy, acc, hS, hacc, step⟩ := turn i H hlt hP
    obtain ⟨⟨v, f, hz0, hv⟩, hTI, ⟨x0, y0, hTO⟩, h1, h2⟩ := st
    obtain ⟨its, rv, p, _⟩ := Pm.Inv.seqA I hqx
    obtain ⟨its2, rv2, p2, _⟩ := Pm.Inv.seqA I hqy
    have hx : xs[i]? = some xs[i] := List.getElem?_eq_getElem (by omega)
    have hy : ys[i]? = some ys[i] := List.getElem?_eq_getElem (by omega)
    obtain ⟨u, hu, ru⟩ := rv.get hx
    obtain ⟨u2, hu2, ru2⟩ := rv2.get hy
    have hlt1 : i < its.toArray.size := by
      have := (List.getElem?_eq_some_iff.mp hu).1
      simpa using this
    have hlt2 : i < its2.toArray.size := by
      have := (List.getElem?_eq_some_iff.mp hu2).1
      simpa using this
    have hzl : z < s.heap.objs.size := Heap.lt_size hz0
    refine codeAny_builtin PySem.F.entry_extend_loop ?_
    rw [Around.under_plainId PySem.F.plain_extend_loop _]
    show wpAny _ A.in1 (pyNext (.ref z) >>= _) _ _ s
    refine wpAny_bind (nextX_item D (Draws.seqA (prog := X.prog) (w := X.w) (A := A.in1.in1) t (show A.in1.in1.handled = none from hh) i1 a ha its.toArray) (Draws.seqA (prog := X.prog) (w := X.w) (A := A.in1.in1) t2 (show A.in1.in1.handled = none from hh) i2 b hb its2.toArray) hz0 hv hTI hTO ⟨h1, p⟩ ⟨h2, p2⟩ hlt1 hlt2 fun v1 v2 h' tk v' f' b1 b2 g1 g2 z' hv' TO' h1' h2' hT hsz hk => ?_)
    have eu : v1 = u := by
      have q : its[i]? = some v1 := by simpa using g1
      rw [hu] at q; cases q; rfl
    have eu2 : v2 = u2 := by
      have q : its2[i]? = some v2 := by simpa using g2
      rw [hu2] at q; cases q; rfl
    subst eu; subst eu2
    have new : ObjOk X.prog X.w (upd H s.heap.objs.size (.tup [xs[i], ys[i]])) h' s.heap.objs.size (.tup [xs[i], ys[i]]) :=
      ⟨by show 2 ≤ sizeLine; decide, [v1, v2], .cons ru (.cons ru2 .nil), ⟨_, hT, rfl, _, rfl⟩⟩
    have I1 : Inv X pins σ (upd H s.heap.objs.size (.tup [xs[i], ys[i]])) { s with heap := h', toks := tk } :=
      I.turnedNew (t' := tk) (ch := [z, TI, TO, i1, i2]) (fun c o hb q => hk c o (fun q' => hb (by simp [q'])) (fun q' => hb (by simp [q'])) (fun q' => hb (by simp [q'])) (fun q' => hb (by simp [q'])) q) hf (Nat.le_refl _) new
    have hTn : H s.heap.objs.size = none := I.hok.fresh (Nat.le_refl _)
    have hS1 : upd H s.heap.objs.size (.tup [xs[i], ys[i]]) S = some (.lst acc) := by rw [upd_ne (ne_of_none hS hTn)]; exact hS
    obtain ⟨_, itS, nS, rS, hS2⟩ := I1.hok S _ hS1
    have lS := rS.length
    show wpAny _ A.in1 (updateSeq S (·.push (.ref s.heap.objs.size)) >>= _) _ _ _
    refine wpAny_bind ?_
    refine wpAny_updateSeq hS2 rfl (wpAny_pure ⟨plainId_quiet PySem.F.plain_extend_loop _, ?_⟩) (by simp; omega) (by simp; omega)
    have I2 := I1.lset (t' := tk) (ys := acc ++ [.ref s.heap.objs.size]) (its' := itS ++ [.ref s.heap.objs.size]) (f := (·.push (.ref s.heap.objs.size))) hS1 hS2 (by simp) (rS.append (.cons (show RelV (V.ref s.heap.objs.size) (Value.ref s.heap.objs.size) from rfl) .nil)) (by simp; omega)
    have fpS : ∀ c ∈ [z, TI, TO, i1, i2], c ≠ S := fun c hc q => by
      have := (hf c hc).1
      rw [q, hS] at this; cases this
    have keepS : ∀ c ∈ [z, TI, TO, i1, i2], ∀ o, h'.get? c = some o → (h'.update S (Obj.mapSeq (·.push (.ref s.heap.objs.size)))).get? c = some o := fun c hc o q =>
      (Heap.get?_update_other _ _ (Ne.symm (fpS c hc))).trans q
    refine ih (i + 1) _ _ (by omega) hlt I2 (fun c hc => ⟨?_, (hf c hc).2⟩) (ZAt.keep (h := h') ⟨⟨v', f', z', hv'⟩, ?_, ⟨b1, b2, TO'⟩, h1'.1, h2'.1⟩ keepS) (step _ _ _ hx hy hTn)
    · have hlt' : c < s.heap.objs.size := by
        have e' : c = z ∨ c = TI ∨ c = TO ∨ c = i1 ∨ c = i2 := by simpa using hc
        rcases e' with q | q | q | q | q
        · rw [q]; exact hzl
        · rw [q]; exact Heap.lt_size hTI
        · rw [q]; exact Heap.lt_size hTO
        · rw [q]; obtain ⟨_, e1, _⟩ := h1.obj; exact Heap.lt_size e1
        · rw [q]; obtain ⟨_, e2, _⟩ := h2.obj; exact Heap.lt_size e2
      rw [upd_ne (fpS c hc), upd_ne (Nat.ne_of_lt hlt')]
      exact (hf c hc).1
    · exact hk _ _ D.TIz D.TITO D.TIi1 D.TIi2 hTI
def tLz (K : PySem.W.Frag) (ta : TA) : TE := fun σ H Q => ta σ H fun vs H1 => ∃ t t2 a b xs ys, vs = [.ref a, .ref b] ∧ SqA t K H1 a xs ∧ SqA t2 K H1 b ys ∧ min xs.length ys.length < sizeLine ∧ ∀ p, H1 p = none → ∃ Pv : Nat → Hp → Prop,
  Pv 0 (upd H1 p (.lst [])) ∧
  (∀ i H, i < min xs.length ys.length → Pv i H → SqA t K H a xs ∧ SqA t2 K H b ys ∧ ∃ acc, H p = some (.lst acc) ∧ acc.length = i ∧ ∀ x y T, xs[i]? = some x → ys[i]? = some y → H T = none → Pv (i + 1) (upd (upd H T (.tup [x, y])) p (.lst (acc ++ [.ref T])))) ∧
  (∀ H, Pv (min xs.length ys.length) H → SqA t K H a xs ∧ SqA t2 K H b ys) ∧
  ∀ H, Pv (min xs.length ys.length) H → Q (.ref p) H
theorem nolen_zip : typeLookup (.type "zip") "__len__" = pure none := by rw [typeLookup_type, builtinLookup_eq_fast]; kernel_rfl
theorem nohint_zip : typeLookup (.type "zip") "__length_hint__" = pure none := by rw [typeLookup_type, builtinLookup_eq_fast]; kernel_rfl
theorem hint_zip {prog : Program} {w : World} {A : Around} {E : Value → Shared → Prop} {s : Shared} {Q : Bool → Shared → Prop} (hT : s.TypeIs (.ref z) "zip") (h : Q true s) : wpAny (model prog w) A (Builtin.List.listLengthHint (.ref z)) Q E s := by
  unfold Builtin.List.listLengthHint
  refine wpAny_bind (wpAny_specialOf hT nolen_zip ?_)
  show wpAny _ A (specialOf (Value.ref z) (Str.ofString "__length_hint__") >>= _) _ _ _
  refine wpAny_bind (wpAny_specialOf hT nohint_zip ?_)
  exact wpAny_pure h
theorem iter_zip {prog : Program} {w : World} {A : Around} {E : Value → Shared → Prop} {s : Shared} {Q : Value → Shared → Prop} (hT : s.TypeIs (.ref z) "zip") (h : Q (.ref z) s) : wpAny (model prog w) A (pyIter (.ref z)) Q E s := by
  refine wpAny_pyIter_slot hT PySem.F.slot_zip_iter (wpAny_call_entry PySem.F.slot_zip_iter hT PySem.F.entry_zip_iter ?_ (PySem.F.args_zip_iter_1 _))
  show wpAny _ _ (ret (.ref z)) _ _ s
  exact wpAny_pure ⟨_, rfl, "zip", _, hT, PySem.F.slot_zip_next.lookup, h⟩
theorem pe_listZip {e e2 : Expr} {ta : TA} {p p2 pos pos2 : Pos} (hc : X.calm = true) (hg : Gl X "list") (hm : X.mg "list" = none) (hg2 : Gl X "zip") (hm2 : X.mg "zip" = none) (ha : PA X [e, e2] ta)
    (hs : starEach [e, e2] X.env = (false, eval e X.env) :: starEach [e2] X.env := by rfl) (hpl : (backTo pos2 (starEach [e2] X.env)).any (·.1) = false := by rfl)
    (na : starEach [.Call (.Name "zip" p2) [e, e2] [] pos2] X.env = (false, eval (.Call (.Name "zip" p2) [e, e2] [] pos2) X.env) :: starEach [] X.env := by rfl) :
    PE X (.Call (.Name "list" p) [.Call (.Name "zip" p2) [e, e2] [] pos2] [] pos) (tLz X.K ta) := by
  refine ⟨fun pins s σ H Q I h => ?_⟩
  refine Call_ (ld_blt I hg hm PyProof.Rows.boot_list (PyProof.Rows.callWith_type1 (args_cons ?_ na) na))
  refine Call_ (ld_blt I hg2 hm2 PyProof.Rows.boot_zip (PyProof.Rows.callWith_type1 (thn (ha.run pos2 pins s σ H _ I h) fun us s1 ⟨vs, H1, I1, r1, q1⟩ => ?_) hs hpl))
  obtain ⟨t, t2, a, b, xs, ys, ex, hqx, hqy, hn, q⟩ := q1
  subst ex
  cases r1 with
  | cons r rr =>
    cases rr with
    | cons r' rr =>
      cases rr
      cases r
      cases r'
      obtain ⟨its, rv, p1, la⟩ := Pm.Inv.seqA I1 hqx
      obtain ⟨its2, rv2, p2, lb⟩ := Pm.Inv.seqA I1 hqy
      obtain ⟨o1, B1, hb1⟩ := beginsA t a its.toArray
      obtain ⟨o2, B2, hb2⟩ := beginsA t2 b its2.toArray
      refine zip_begins2 B1 B2 p1 p2 fun h' hz hTI hTO h1 h2 hsz hk => args_nil ?_
      have I2 : Inv X pins σ H1 { s1 with heap := h' } := I1.kept (t' := s1.toks) hk
      have hf : ∀ c ∈ [s1.heap.objs.size + 4, s1.heap.objs.size + 2, s1.heap.objs.size + 3, s1.heap.objs.size, s1.heap.objs.size + 1], FpOk X pins H1 c := fun c hcm => by
        have e' : c = s1.heap.objs.size + 4 ∨ c = s1.heap.objs.size + 2 ∨ c = s1.heap.objs.size + 3 ∨ c = s1.heap.objs.size ∨ c = s1.heap.objs.size + 1 := by simpa using hcm
        have hle : s1.heap.objs.size ≤ c := by
          rcases e' with z | z | z | z | z <;> rw [z] <;> first | exact Nat.le_refl _ | exact Nat.le_add_right _ _
        exact I1.fpOk hle (I1.hok.fresh hle)
      have st : ZAt t t2 (s1.heap.objs.size + 4) (s1.heap.objs.size + 2) (s1.heap.objs.size + 3) s1.heap.objs.size (s1.heap.objs.size + 1) a b 0 h' := ⟨⟨_, _, hz, .inl rfl⟩, hTI, ⟨_, _, hTO⟩, hb1 _ _ h1, hb2 _ _ h2⟩
      have D := zip_apart s1.heap.objs.size a b la lb
      have ha1 : a ≠ s1.heap.objs.size := (nat_ne (k := 0) la).2.2
      have hb1 : b ≠ s1.heap.objs.size + 1 := (nat_ne lb).2.1
      generalize s1.heap.objs.size + 4 = z at *
      generalize s1.heap.objs.size + 2 = TI at *
      generalize s1.heap.objs.size + 3 = TO at *
      generalize s1.heap.objs.size + 1 = i2 at *
      generalize s1.heap.objs.size = i1 at *
      generalize hs2 : ({ s1 with heap := h' } : Shared) = s2 at *
      have eh : s2.heap = h' := by rw [← hs2]
      rw [← eh] at st hsz hz
      clear hs2 eh hk p1 p2 hTI hTO h1 h2
      refine callType_codes (Q₁ := fun obj s₁ => obj = .ref s2.heap.objs.size ∧ s₁ = { s2 with heap := s2.heap.push { cls := .type "list", data := .seq #[] } }) PySem.F.called_list (PySem.F.typeCall_list_1 _) PySem.F.entry_list_init
        (code_list_new _ ⟨rfl, rfl⟩) fun obj s₁ h₁ => ?_
      obtain ⟨rfl, rfl⟩ := h₁
      have hS : (s2.heap.push { cls := .type "list", data := .seq #[] }).get? s2.heap.objs.size = some { cls := .type "list", data := .seq #[] } := Heap.get?_push_size _ rfl
      have hzn : s2.heap.objs.size ≠ z := Nat.ne_of_gt (Heap.lt_size hz)
      have hHS : H1 s2.heap.objs.size = none := I2.hok.fresh (Nat.le_refl _)
      obtain ⟨Pv, P0, turn, last, fin⟩ := q _ hHS
      generalize hS0 : s2.heap.objs.size = S at *
      refine ⟨⟨_, hS, rfl⟩, PySem.F.args_list_init_2 _ _, ?_⟩
      show wpAny _ _ (do let old ← Builtin.List.listItems (.ref S); Builtin.List.listUpdate (.ref S) (fun _ => #[]); letGo old.toList.reverse; Builtin.List.listExtendWith (.ref S) (.ref z) .none) _ _ _
      refine wpAny_bind ?_
      unfold Builtin.List.listItems
      refine wpAny_bind (wpAny_seqItems hS rfl (wpAny_pure ?_))
      show wpAny _ _ (updateSeq S (fun _ => #[]) >>= fun _ => letGo (#[] : Array Value).toList.reverse >>= fun _ => Builtin.List.listExtendWith (.ref S) (.ref z) .none) _ _ _
      refine wpAny_bind (wpAny_updateSeq hS rfl ?_)
      have hS₂ := Heap.get?_update_self (Obj.mapSeq (fun _ => (#[] : Array Value))) hS rfl
      have oth : ∀ b o, s2.heap.get? b = some o → ((s2.heap.push { cls := .type "list", data := .seq #[] }).update S (Obj.mapSeq (fun _ => (#[] : Array Value)))).get? b = some o :=
        fun b o e => (Heap.get?_update_other _ _ (fun q => Nat.ne_of_lt (Heap.lt_size e) (by rw [hS0]; exact q.symm))).trans (Heap.get?_push_of_some _ e)
      refine wpAny_bind (wpAny_letGo ?_)
      have hz3 := oth _ _ hz
      have hT3 : Shared.TypeIs { s2 with heap := (s2.heap.push { cls := .type "list", data := .seq #[] }).update S (Obj.mapSeq (fun _ => (#[] : Array Value))) } (.ref z) "zip" := ⟨_, hz3, rfl⟩
      unfold Builtin.List.listExtendWith
      refine wpAny_bind (wpAny_typeOf (T := "zip") hT3 ?_)
      have h1 : Builtin.List.listSameRef (.ref S) (.ref z) = false := by simp [Builtin.List.listSameRef, hzn]
      have n1 : (Value.type "zip" == Value.type "list") = false := by decide
      have n2 : (Value.type "zip" == Value.type "tuple") = false := by decide
      simp only [h1, n1, n2, Bool.or_false, Bool.false_eq_true, if_false]
      refine wpAny_bind (iter_zip hT3 ?_)
      refine wpAny_bind (wpAny_holding (hint_zip hT3 ?_))
      refine wpAny_ite_split (fun _ => ?_) (fun hab => absurd (by simp) hab)
      refine wpAny_bind (wpAny_rule ?_)
      refine wpAny_bind ?_
      show wpAny _ _ (updateSeq S (·.push .none) >>= fun _ => updateSeq S (·.pop)) _ _ _
      refine wpAny_bind (wpAny_updateSeq hS₂ rfl ?_)
      have hS₃ := Heap.get?_update_self (Obj.mapSeq (·.push Value.none)) hS₂ rfl
      refine wpAny_updateSeq (hz := by seq_fits) hS₃ rfl ?_
      have hS₄ := Heap.get?_update_self (Obj.mapSeq (·.pop)) hS₃ rfl
      have oth4 : ∀ b o, s2.heap.get? b = some o → ((((s2.heap.push { cls := .type "list", data := .seq #[] }).update S (Obj.mapSeq (fun _ => (#[] : Array Value)))).update S (Obj.mapSeq (·.push Value.none))).update S (Obj.mapSeq (·.pop))).get? b = some o :=
        fun b o e => by
          have hb : S ≠ b := fun q => Nat.ne_of_lt (Heap.lt_size e) (by rw [hS0]; exact q.symm)
          exact (Heap.get?_update_other _ _ hb).trans ((Heap.get?_update_other _ _ hb).trans (oth b o e))
      have I3 : Inv X pins σ (upd H1 S (.lst [])) { s2 with heap := (((s2.heap.push { cls := .type "list", data := .seq #[] }).update S (Obj.mapSeq (fun _ => (#[] : Array Value)))).update S (Obj.mapSeq (·.push Value.none))).update S (Obj.mapSeq (·.pop)) } :=
        I2.laid (t' := s2.toks) oth4 (by rw [hS0]; exact Nat.le_refl _) ⟨Nat.zero_le _, [], _, .nil, hS₄⟩
      refine wpAny_pure ⟨plainId_quiet PySem.F.plain_extend_loop _, ?_⟩
      refine zip_loop (X := X) (pins := pins) (σ := σ) (A := X.A.in1) D ha1 hb1 (I.ok.hd hc) S .none Pv rfl hn turn last (fun s' H' I' hP => ?_) _ 0 _ _ rfl (Nat.zero_le _) I3 (fun c hcm => ⟨?_, (hf c hcm).2⟩) (st.keep fun c _ o e => oth4 c o e) P0
      · exact ⟨rfl, .ref S, H', I', rfl, fin H' hP⟩
      · rw [upd_ne (fun q => ?_)]
        · exact (hf c hcm).1
        · obtain ⟨o, e, _⟩ := (turn_zipN (P := X.prog) (w := X.w) (K := X.K) (x := "x") (tpos := pos) t t2 D ha1 hb1).obj 0 _ st c hcm
          exact absurd (Heap.lt_size e) (by rw [q, hS0]; exact Nat.lt_irrefl _)
end

/-! ### sorted of a dict -/
section
variable {X : Cx}
/-- what stands behind the collected items: sorted into a new list -/
theorem sort_col {pins : List (Addr × Obj)} {σ : L2.St} {H : Hp} {s : Shared} {r : Addr} {n : Nat} {P : Nat → Value → Prop} {OK : Heap → Prop} {T : String} {d : Addr} {Q : VK} (I : Inv X pins σ H s) (hc : X.calm = true)
    (K : PySem.W.KdlSrc X.prog X.w T r d n P OK) (hok : OK s.heap) (hn : n ≤ sizeLine) {xs : List V} (hv : ∀ acc : List Value, acc.length = n → (∀ (j : Nat) (v : Value), acc[j]? = some v → P j v) → Vals xs acc)
    (h : (∃ ns : List Int, xs = ns.map V.int ∧ ∀ (ns' : List Int) (p : Addr), ns'.Perm ns → ns'.Pairwise (· ≤ ·) → H p = none → Q (.ref p) (upd H p (.lst (ns'.map V.int)))) ∨
      (∃ k : V → List Int, (∀ x ∈ xs, (∃ t, x = V.ref t ∧ H t = some (.tup ((k x).map V.int))) ∧ 0 < (k x).length) ∧ ∀ ys p, SrtO.Srtd (fun x y => lexI (k x) (k y)) ys → ys.Perm xs → H p = none → Q (.ref p) (upd H p (.lst ys)))) :
    wpAny (model X.prog X.w) X.A (call (.builtin "sorted") [.ref r]) (EP X pins σ Q) X.xe s := by
  refine Calls.call_function_entry PyProof.Rows.kind_sorted PyProof.Rows.plain_sorted PyProof.Rows.entry_sorted (PyProof.Rows.args_sorted1 _) ?_
  unfold Builtin.«sorted»
  refine wpAny_bind (m := checkCount "sorted" 1 1 _) (wpAny_pure ?_)
  refine wpAny_bind (PySem.W.kdu_collect (A := X.A.in1) K (I.ok.hd hc) hok hn fun h' tk acc hk hacc => ?_)
  have hal : acc.toList.length = n := by rw [Array.length_toList, hacc.1]
  have rv : Vals xs acc.toList := hv acc.toList hal fun j v e => hacc.2 j v (by rw [← Array.getElem?_toList]; exact e)
  have lx : xs.length = n := rv.length.trans hal
  have I1 : Inv X pins σ H { s with heap := h', toks := tk } := I.kept hk
  refine wpAny_bind (wpAny_newList ?_ (by rw [hal]; exact hn))
  have hoL : (h'.push (seqObj "list" acc.toList.toArray 0)).get? h'.objs.size = some (seqObj "list" acc.toList.toArray 0) := Heap.get?_push_size _ rfl
  show wpAny _ _ _ _ _ { s with heap := h'.push (seqObj "list" acc.toList.toArray 0), toks := tk }
  have old : ∀ {out : Array Value} (b : Addr) (u : Obj), h'.get? b = some u → (PyProof.Rows.sortedHeap (h'.push (seqObj "list" acc.toList.toArray 0)) h'.objs.size acc.toList out).get? b = some u := fun b u e => by
    have hb : b < h'.objs.size := Heap.lt_size e
    rw [PyProof.Rows.sortedHeap_old (Nat.ne_of_lt hb) (by rw [size_push']; exact Nat.lt_succ_of_lt hb)]
    exact Heap.get?_push_of_some _ e
  rcases h with ⟨ns, rfl, q⟩ | ⟨k, hx, q⟩
  · have hi := rv.ints
    refine wpAny_bind (wpAny_holding (wpAny_call_entry PyProof.Rows.slot_list_sort ⟨_, hoL, rfl⟩ PyProof.Rows.entry_list_sort
      (SrtO.list_sort_ord (s := { s with heap := h'.push (seqObj "list" acc.toList.toArray 0), toks := tk }) SrtO.swo_int hoL (by rw [hal]; exact hn) (fun h2 => SrtO.ints_sortable hi h2) fun out g1 g2 => ⟨_, rfl, ?_⟩) (PyProof.Rows.args_list_sort _)))
    obtain ⟨k1, k2, k3⟩ := SrtO.ints_out hi g1 g2
    obtain ⟨ep, he'⟩ := PyProof.Rows.sortedHeap_at (vs := acc.toList) (out := out.toArray) hoL
    have hlen : ((out.map SrtO.iv).map V.int).length ≤ sizeLine := by
      rw [List.length_map, k2.length_eq]
      rw [List.length_map] at lx
      omega
    exact wpAny_pure ⟨_, rfl, .ref h'.objs.size, upd H h'.objs.size (.lst ((out.map SrtO.iv).map V.int)), I1.laid (t' := tk) (fun b u e => old b u e) (Nat.le_refl _) ⟨hlen, out, ep, vals_of_ints k1, he'⟩, rfl, q _ _ k2 k3 (I1.hok.fresh (Nat.le_refl _))⟩
  · obtain ⟨e1, e2⟩ := refs_back rv fun x m => by
      obtain ⟨⟨t, e, _⟩, _⟩ := hx x m
      exact ⟨t, e⟩
    have hI : ∀ v ∈ acc.toList, IsTupI (h'.push (seqObj "list" acc.toList.toArray 0)) v (k (backV v)) ∧ 0 < (k (backV v)).length := fun v hv => by
      obtain ⟨t, rfl⟩ := e2 v hv
      have hm : V.ref t ∈ xs := by rw [e1]; exact List.mem_map.mpr ⟨_, hv, rfl⟩
      obtain ⟨⟨t', e, ht⟩, hn⟩ := hx _ hm
      cases e
      obtain ⟨_, its2, r2, o, ho, hc, n, hd⟩ := I1.hok _ _ ht
      exact ⟨⟨t, o, _, n, rfl, Heap.get?_push_of_some _ ho, hc, hd, by simpa [backV] using Vals.ints r2⟩, hn⟩
    refine wpAny_bind (wpAny_holding (wpAny_call_entry PyProof.Rows.slot_list_sort ⟨_, hoL, rfl⟩ PyProof.Rows.entry_list_sort
      (SrtO.list_sort_ord (s := { s with heap := h'.push (seqObj "list" acc.toList.toArray 0), toks := tk }) (lexI_swo fun v => k (backV v)) hoL (by rw [hal]; exact hn) (fun h2 => tups_sortable (by omega) hI fun o e => ?_) fun out g1 g2 => ⟨_, rfl, ?_⟩) (PyProof.Rows.args_list_sort _)))
    · have e' : some o = some (seqObj "list" acc.toList.toArray 0) := e.symm.trans hoL
      cases e'
      intro c
      exact absurd (Value.type.inj c) (by decide)
    · have h3 : ∀ u ∈ out, ∃ a, u = Value.ref a := fun u hu => e2 u (g2.perm.mem_iff.mp hu)
      have hb : SrtO.Stb (fun x y => lexI (k x) (k y)) (out.map backV) xs := by
        rw [e1]
        exact SrtO.Stb.map (lexI_swo k) backV g2
      obtain ⟨ep, he'⟩ := PyProof.Rows.sortedHeap_at (vs := acc.toList) (out := out.toArray) hoL
      exact wpAny_pure ⟨_, rfl, .ref h'.objs.size, upd H h'.objs.size (.lst (out.map backV)), I1.laid (t' := tk) (fun b u e => old b u e) (Nat.le_refl _) ⟨by rw [hb.len, lx]; exact hn, out, ep, vals_back h3, he'⟩, rfl, q _ _ (SrtO.srtd_map g1) hb.perm (I1.hok.fresh (Nat.le_refl _))⟩
/-- what is sorted -/
def SortTo (H : Hp) (Q : VK) (xs : List V) : Prop :=
  (∃ ns : List Int, xs = ns.map V.int ∧ ∀ (ns' : List Int) (p : Addr), ns'.Perm ns → ns'.Pairwise (· ≤ ·) → H p = none → Q (.ref p) (upd H p (.lst (ns'.map V.int)))) ∨
  (∃ k : V → List Int, (∀ x ∈ xs, (∃ t, x = V.ref t ∧ H t = some (.tup ((k x).map V.int))) ∧ 0 < (k x).length) ∧ ∀ ys p, SrtO.Srtd (fun x y => lexI (k x) (k y)) ys → ys.Perm xs → H p = none → Q (.ref p) (upd H p (.lst ys)))
def rSortAny (K : PySem.W.Frag) : List V → Hp → VK → Prop := fun vs H Q => ∃ a, vs = [V.ref a] ∧
  ((∃ xs, SqL K H a xs ∧ SortTo H Q xs) ∨ (∃ kvs : List (L2.Key × V), Rd H a (.dK kvs) ∧ SortTo H Q (kvs.map fun p => kV p.1)) ∨
   (∃ kvs : List (List L2.Key × V), Rd H a (.dT kvs) ∧ ∀ bs, IsKeys H kvs bs → SortTo H Q (bs.map V.ref)))
theorem cr_sortedAny (hc : X.calm = true) : CallR X (.builtin "sorted") (rSortAny X.K) := by
  intro pins s σ H vs us Q I r h
  obtain ⟨a, rfl, h⟩ := h
  obtain ⟨u, rfl, ru⟩ := vals1 r
  obtain rfl : u = Value.ref a := ru
  rcases h with ⟨xs, hs, h⟩ | ⟨kvs, hd, h⟩ | ⟨kvs, hd, h⟩
  · rcases h with ⟨ns, rfl, q⟩ | ⟨k, hx, q⟩
    · exact cr_sortedI pins s σ H _ _ Q I r ⟨a, ns, rfl, hs, q⟩
    · exact cr_sortedTI pins s σ H _ _ Q I r ⟨a, xs, k, rfl, hs, hx, q⟩
  · obtain ⟨z, lo, vs, rel, dd⟩ := dk_rd I.hok hd
    obtain ⟨ep, hat⟩ := dd.dictAt
    have hl : kvs.length = vs.length := Paired.length rel
    refine sort_col I hc (PySem.W.kdl_dict (knd := mixKind X.prog X.w) (kvs := vs) (ep := ep) lo) hat (by rw [← hl]; exact z) (fun acc la hacc => ?_) h
    refine vals_of_at (by rw [List.length_map, la, hl]) fun j x w h1 h2 => ?_
    obtain ⟨k, y, hky, hi⟩ := hacc j w h2
    have e1 : (kvs.map (·.1))[j]? = some k := by rw [KV.keys rel, List.getElem?_map, hky] <;> rfl
    have e2 : (kvs.map fun kv => kV kv.1)[j]? = some (kV k) := by
      have e3 : (kvs.map fun kv => kV kv.1) = (kvs.map (·.1)).map kV := by rw [List.map_map] <;> rfl
      rw [e3, List.getElem?_map, e1] <;> rfl
    rw [e2] at h1
    cases h1
    exact keyIs_rel hi
  · obtain ⟨z, hs, ks, pr, o, es, ep, ho, hx, hdt, he, hn⟩ := (show ObjOk X.prog X.w H s.heap a (.dT kvs) from hd.ok I.hok)
    have l1 : es.size = ks.length := size_of_entries he
    have l2 : kvs.length = ks.length := Paired.length pr
    refine sort_col I hc (kdl_raw hs hx hdt) ho (by omega) (fun acc la hacc => ?_) (h _ (isKeys_of pr))
    have ea : acc = (ks.map fun x => x.2.1).map Value.ref := by
      rw [List.map_map]
      apply List.ext_getElem?
      intro j
      rw [List.getElem?_map]
      cases hj : acc[j]? with
      | none =>
        have h1 := List.getElem?_eq_none_iff.mp hj
        rw [List.getElem?_eq_none (by omega)]
        all_goals rfl
      | some v =>
        obtain ⟨en, hen, hv⟩ := hacc j v hj
        have qe := entry_at he j
        rw [hen] at qe
        cases hb : ks[j]? with
        | none =>
          rw [hb] at qe
          exact nomatch (show some en = none from qe)
        | some b =>
          rw [hb] at qe
          have e2 : en = entryOfKey (tupleKind (mixKind X.prog X.w)) b := Option.some.inj qe
          rw [hv, e2]
          all_goals rfl
    rw [ea]
    exact vals_refs _

/-- len of a dict, locked or not -/
theorem call_lenR : CallR X (.builtin "len") (fun xs H Q => ∃ a, xs = [V.ref a] ∧ ((∃ kvs : List (L2.Key × V), Rd H a (.dK kvs) ∧ Q (.int kvs.length) H) ∨ ∃ kvs : List (List L2.Key × V), Rd H a (.dT kvs) ∧ Q (.int kvs.length) H)) := by
  intro pins s σ H xs us Q I r h
  obtain ⟨a, rfl, h⟩ := h
  obtain ⟨u, rfl, ru⟩ := vals1 r
  cases ru
  rcases h with ⟨kvs, ha, q⟩ | ⟨kvs, ha, q⟩
  · exact d_len I ha fun t s' I' => ⟨.int kvs.length, H, I', ⟨t, rfl⟩, q⟩
  · obtain ⟨z, hd, ys, rel, dd⟩ := dt_rd I.hok ha
    have hl : kvs.length = ys.length := Paired.length rel
    refine call_len_dictH hd dd (by rw [← hl]; rw [sizeLine_eq] at z; omega) ?_
    rw [← hl]
    exact ⟨.int ((kvs.length : Nat) : Int), H, I.tok _, ⟨_, rfl⟩, q⟩
theorem keyD_rep {H : Hp} {F M : Ads} (k : L2.Key) : Rep H F M (keyD k) (kV k) := by
  cases k <;> simp only [keyD, kV, Rep]
theorem keys_repK {H : Hp} {F M : Ads} : ∀ kvs : List (L2.Key × V), RepL H F M (kvs.map fun p => keyD p.1) (kvs.map fun p => kV p.1)
  | [] => .nil
  | p :: r => .cons (keyD_rep p.1) (keys_repK r)
theorem keyL_rep {H : Hp} {F M : Ads} : ∀ k : List L2.Key, RepL H F M (k.map keyD) (k.map kV)
  | [] => .nil
  | x :: r => .cons (keyD_rep x) (keyL_rep r)
theorem keys_repT {H : Hp} {F M : Ads} {kvs : List (List L2.Key × V)} {bs : List Addr} (h : IsKeys H kvs bs) : RepL H F M (kvs.map fun p => .tup (p.1.map keyD)) (bs.map V.ref) := by
  unfold IsKeys at h
  induction h with
  | nil => exact .nil
  | cons h t ih => exact .cons (by simp only [Rep]; exact ⟨_, _, rfl, h, keyL_rep _⟩) ih

/-! ### a dict walked over by its keys: it is locked from then on -/
def iLock (td : TE) : TI := fun σ H R => td σ H fun x H1 => ∃ d, x = .ref d ∧
  ((∃ kvs : List (L2.Key × V), H1 d = some (.dK kvs) ∧ ∀ o, R (Itk d o kvs) (upd H1 d (.frz o (.dK kvs)))) ∨ (∃ kvs : List (List L2.Key × V), H1 d = some (.dT kvs) ∧ ∀ o, R (Itkt d o kvs) (upd H1 d (.frz o (.dT kvs)))) ∨
   (∃ o, ∃ kvs : List (L2.Key × V), H1 d = some (.frz o (.dK kvs)) ∧ R (Itk d o kvs) H1) ∨ (∃ o, ∃ kvs : List (List L2.Key × V), H1 d = some (.frz o (.dT kvs)) ∧ R (Itkt d o kvs) H1))
theorem pi_lock {tg e : Expr} {td : TE} (he : PE X e td) : PI X tg e (iLock td) := by
  have fK : ∀ {pins : List (Addr × Obj)} {s1 : Shared} {σ : L2.St} {H1 : Hp} {R : L2.It → Hp → Prop} {d : Addr} {o : Obj} {kvs : List (L2.Key × V)}, Inv X pins σ H1 s1 → H1 d = some (.frz o (.dK kvs)) → R (Itk d o kvs) H1 →
      wpAny (model X.prog X.w) X.A (pyIter (.ref d)) (PIE X pins σ tg R) X.xe s1 := fun {pins s1 σ H1 R d o kvs} I1 hd q => by
    obtain ⟨hs, hgd, hx, es, ep, vs, hdt, hsz, kv, hm⟩ := I1.frzK hd
    refine iter_keys hs hgd hx hdt (pi_one (tk := s1.toks) I1 _ (turn_keys _ hdt) ⟨_, Heap.get?_push_size _ rfl, rfl, ?_⟩ q)
    rw [hsz] <;> rfl
  have fT : ∀ {pins : List (Addr × Obj)} {s1 : Shared} {σ : L2.St} {H1 : Hp} {R : L2.It → Hp → Prop} {d : Addr} {o : Obj} {kvs : List (List L2.Key × V)}, Inv X pins σ H1 s1 → H1 d = some (.frz o (.dT kvs)) → R (Itkt d o kvs) H1 →
      wpAny (model X.prog X.w) X.A (pyIter (.ref d)) (PIE X pins σ tg R) X.xe s1 := fun {pins s1 σ H1 R d o kvs} I1 hd q => by
    obtain ⟨hs, hgd, hx, es, ep, hdt, hsz, ent⟩ := I1.frzT hd
    refine iter_keys hs hgd hx hdt (pi_one (tk := s1.toks) I1 _ (turn_keysT _ hdt) ⟨_, Heap.get?_push_size _ rfl, rfl, ?_⟩ q)
    rw [hsz] <;> rfl
  refine ⟨fun pins s σ H R I h => ?_⟩
  refine thn (he.run pins s σ H _ I h) fun u s1 ⟨x, H1, I1, rx, d, ex, q⟩ => ?_
  subst ex
  obtain rfl : u = Value.ref d := rx
  rcases q with ⟨kvs, hd, q⟩ | ⟨kvs, hd, q⟩ | ⟨o, kvs, hd, q⟩ | ⟨o, kvs, hd, q⟩
  · obtain ⟨od, I2⟩ := I1.lock hd trivial
    exact fK I2 upd_same (q od)
  · obtain ⟨od, I2⟩ := I1.lock hd trivial
    exact fT I2 upd_same (q od)
  · exact fK I1 hd q
  · exact fT I1 hd q
end
end Pm

/-! Pm, part B4: comparisons, places, built-ins, by values. -/
namespace Pm
open PySem PySem.Spec L2
open PyProof.Rows hiding St
section
variable {X : Cx} {W : Wd} {c : TC} {F M : Ads} {H : Hp} {st st' : Sto} {d : D} {Q : VK} {m : Bool}

/-! ### keys -/
theorem keq_keyD (a b : L2.Key) : keq (keyD a) (keyD b) = decide (a = b) := by
  cases a with
  | inl i => cases b with
    | inl j =>
      simp only [keyD, keq]
      by_cases h : i = j
      · subst h; simp
      · rw [beq_eq_false_iff_ne.mpr h]; exact (decide_eq_false fun z => h (Sum.inl.inj z)).symm
    | inr y => simp [keyD, keq]
  | inr x => cases b with
    | inl j => simp [keyD, keq]
    | inr y =>
      simp only [keyD, keq]
      by_cases h : x = y
      · subst h; simp
      · rw [decide_eq_false h]; exact (decide_eq_false fun z => h (Sum.inr.inj z)).symm
theorem keqL_keyD : ∀ a b : List L2.Key, keqL (a.map keyD) (b.map keyD) = decide (a = b)
  | [], [] => by simp [keqL]
  | [], _ :: _ => by simp [keqL]
  | _ :: _, [] => by simp [keqL]
  | x :: a, y :: b => by
    simp only [List.map_cons, keqL, keq_keyD, keqL_keyD a b]
    by_cases h1 : x = y <;> by_cases h2 : a = b <;> simp [h1, h2]
theorem keq_tup (a b : List L2.Key) : keq (.tup (a.map keyD)) (.tup (b.map keyD)) = decide (a = b) := by simp only [keq, keqL_keyD]
def LookR (H : Hp) (F M : Ads) : Option D → Option V → Prop
  | some d, some v => Rep H F M d v
  | none, none => True
  | _, _ => False
theorem look_k {κ : Type} [DecidableEq κ] {g : κ → D} (hg : ∀ a b, keq (g a) (g b) = decide (a = b)) (k : κ) : ∀ (kvs : List (κ × V)) (ds : List D), RepL H F M ds (kvs.map (·.2)) → LookR H F M (look (g k) (kvs.map fun p => g p.1) ds) (valV kvs k)
  | [], ds, _ => by simp [look, valV, LookR]
  | p :: kvs, ds, r => by
    simp only [List.map_cons] at r
    cases ds with
    | nil => simp [RepL] at r
    | cons d ds =>
      simp only [RepL] at r
      obtain ⟨v, t, e, h1, h2⟩ := r
      injection e with e1 e2
      subst e1; subst e2
      simp only [List.map_cons, look, hg]
      by_cases h : p.1 = k
      · rw [valV_pos h]; simp only [h, decide_true, if_true, LookR]; exact h1
      · rw [valV_neg h]; simp only [h, decide_false, Bool.false_eq_true, if_false]; exact look_k hg k kvs ds h2
theorem repl_k {κ : Type} [DecidableEq κ] {g : κ → D} (hg : ∀ a b, keq (g a) (g b) = decide (a = b)) (k : κ) {d : D} {v : V} (hd : Rep H F M d v) : ∀ (kvs : List (κ × V)) (ds : List D), RepL H F M ds (kvs.map (·.2)) →
    RepL H F M (repl (g k) d (kvs.map fun p => g p.1) ds) ((kvs.map fun kv => if kv.1 = k then (kv.1, v) else kv).map (·.2))
  | [], ds, _ => by simp [repl, RepL]
  | p :: kvs, ds, r => by
    simp only [List.map_cons] at r
    cases ds with
    | nil => simp [RepL] at r
    | cons x ds =>
      simp only [RepL] at r
      obtain ⟨w, t, e, h1, h2⟩ := r
      injection e with e1 e2
      subst e1; subst e2
      simp only [List.map_cons, repl, hg]
      refine RepL.cons ?_ (repl_k hg k hd kvs ds h2)
      by_cases h : p.1 = k
      · simp only [h, decide_true, if_true]; exact hd
      · simp only [h, decide_false, Bool.false_eq_true, if_false]; exact h1
theorem put_k {κ : Type} [DecidableEq κ] {g : κ → D} (hg : ∀ a b, keq (g a) (g b) = decide (a = b)) (k : κ) {d : D} {v : V} (hd : Rep H F M d v) (kvs : List (κ × V)) (ds : List D) (r : RepL H F M ds (kvs.map (·.2))) :
    (put (g k) d (kvs.map fun p => g p.1) ds).1 = (putK kvs k v).map (fun p => g p.1) ∧ RepL H F M (put (g k) d (kvs.map fun p => g p.1) ds).2 ((putK kvs k v).map (·.2)) := by
  have hl := look_k hg k kvs ds r
  have ha := valV_any k kvs
  unfold put putK
  rw [ha]
  cases e1 : look (g k) (kvs.map fun p => g p.1) ds with
  | none =>
    cases e2 : valV kvs k with
    | none =>
      simp only [Option.isSome_none, Bool.false_eq_true, if_false, List.map_append, List.map_cons, List.map_nil]
      exact ⟨trivial, r.append (.cons hd .nil)⟩
    | some _ => rw [e1, e2] at hl; exact hl.elim
  | some _ =>
    cases e2 : valV kvs k with
    | none => rw [e1, e2] at hl; exact hl.elim
    | some _ =>
      simp only [Option.isSome_some, if_true]
      refine ⟨?_, repl_k hg k hd kvs ds r⟩
      rw [List.map_map]
      apply List.map_congr_left
      intro p _
      simp only [Function.comp]
      split <;> rfl
theorem isKey_k {k : D} {y : V} (h : k.isKey false = true) (r : Rep H F M k y) : ∃ key : L2.Key, k = keyD key ∧ y = kV key := by
  cases k with
  | int i => simp only [Rep] at r; exact ⟨.inl i, rfl, r⟩
  | str x => simp only [Rep] at r; exact ⟨.inr x, rfl, r⟩
  | _ => simp [D.isKey] at h
theorem scal_all : ∀ (ds : List D) (vs : List V), ds.all D.scal = true → RepL H F M ds vs → ∃ ks : List L2.Key, ds = ks.map keyD ∧ vs = ks.map kV
  | [], vs, _, r => by simp only [RepL] at r; subst r; exact ⟨[], rfl, rfl⟩
  | d :: ds, vs, h, r => by
    simp only [RepL] at r
    obtain ⟨v, t, rfl, h1, h2⟩ := r
    simp only [List.all_cons, Bool.and_eq_true] at h
    obtain ⟨ks, e1, e2⟩ := scal_all ds t h.2 h2
    have h0 : d.isKey false = true := by cases d <;> simp [D.scal] at h <;> rfl
    obtain ⟨k, e3, e4⟩ := isKey_k h0 h1
    exact ⟨k :: ks, by rw [e1, e3]; rfl, by rw [e2, e4]; rfl⟩
theorem isKey_t {k : D} {y : V} (h : k.isKey true = true) (r : Rep H F M k y) : ∃ (b : Addr) (ks : List L2.Key), k = .tup (ks.map keyD) ∧ y = .ref b ∧ H b = some (.tup (ks.map kV)) := by
  cases k with
  | tup xs =>
    simp only [Rep] at r
    obtain ⟨a, vs, rfl, ha, r⟩ := r
    simp only [D.isKey, Bool.true_and] at h
    obtain ⟨ks, e1, e2⟩ := scal_all xs vs h r
    exact ⟨a, ks, by rw [e1], rfl, by rw [ha, e2]⟩
  | _ => simp [D.isKey] at h
/-- what a dict has -/
theorem dctOf_rep {t : Bool} {ks vs : List D} {v : V} (S : SRx W H F M st) (r : Rep H F M d v) (e : dctOf st d = some (t, ks, vs)) : ∃ a, v = .ref a ∧
    ((t = false ∧ ∃ kvs : List (L2.Key × V), Rd H a (.dK kvs) ∧ ks = kvs.map (fun p => keyD p.1) ∧ RepL H F M vs (kvs.map (·.2))) ∨
     (t = true ∧ ∃ kvs : List (List L2.Key × V), Rd H a (.dT kvs) ∧ ks = kvs.map (fun p => .tup (p.1.map keyD)) ∧ RepL H F M vs (kvs.map (·.2)))) := by
  cases d with
  | dct u ls ws =>
    simp only [dctOf, Option.some.injEq, Prod.mk.injEq] at e
    obtain ⟨rfl, rfl, rfl⟩ := e
    cases u with
    | false => simp only [Rep] at r; obtain ⟨a, e, _, kvs, q, q2⟩ := r; exact ⟨a, e, .inl ⟨rfl, kvs, .inl q, q2⟩⟩
    | true => simp only [Rep] at r; obtain ⟨a, e, _, kvs, q, q2⟩ := r; exact ⟨a, e, .inr ⟨rfl, kvs, .inl q, q2⟩⟩
  | ref n =>
    simp only [Rep] at r
    obtain ⟨a, rfl, hm⟩ := r
    simp only [dctOf] at e
    split at e
    · rename_i u ls ws hx
      simp only [Option.some.injEq, Prod.mk.injEq] at e
      obtain ⟨rfl, rfl, rfl⟩ := e
      have o := S.obs n _ a hx hm
      cases u with
      | false => obtain ⟨kvs, q, q2⟩ := o; exact ⟨a, rfl, .inl ⟨rfl, kvs, .inl q, q2⟩⟩
      | true => obtain ⟨kvs, q, q2⟩ := o; exact ⟨a, rfl, .inr ⟨rfl, kvs, .inl q, q2⟩⟩
    · rename_i u ls ws hx
      simp only [Option.some.injEq, Prod.mk.injEq] at e
      obtain ⟨rfl, rfl, rfl⟩ := e
      have o := S.obs n _ a hx hm
      cases u with
      | false => obtain ⟨kvs, q, q2⟩ := o; exact ⟨a, rfl, .inl ⟨rfl, kvs, .inr q, q2⟩⟩
      | true => obtain ⟨kvs, q, q2⟩ := o; exact ⟨a, rfl, .inr ⟨rfl, kvs, .inr q, q2⟩⟩
    · cases e
  | _ => simp [dctOf] at e
/-- a key looked up -/
theorem dget_rep {t : Bool} {ks vs : List D} {k : D} {v y : V} (S : SRx W H F M st) (r : Rep H F M d v) (e : dctOf st d = some (t, ks, vs)) (hk : k.isKey t = true) (ry : Rep H F M k y) :
    ∃ a o, v = .ref a ∧ DGet H a y o ∧ LookR H F M (look k ks vs) o := by
  obtain ⟨a, rfl, q⟩ := dctOf_rep S r e
  rcases q with ⟨rfl, kvs, h1, rfl, h2⟩ | ⟨rfl, kvs, h1, rfl, h2⟩
  · obtain ⟨key, rfl, rfl⟩ := isKey_k hk ry
    exact ⟨a, _, rfl, .inl ⟨kvs, key, h1, rfl, rfl⟩, look_k keq_keyD key kvs vs h2⟩
  · obtain ⟨b, kk, rfl, rfl, hb⟩ := isKey_t hk ry
    exact ⟨a, _, rfl, .inr ⟨kvs, kk, b, h1, rfl, hb, rfl⟩, look_k (g := fun l => .tup (l.map keyD)) keq_tup kk kvs vs h2⟩
theorem LookR.isSome {o : Option D} {q : Option V} (h : LookR H F M o q) : o.isSome = q.isSome := by
  cases o <;> cases q <;> first | rfl | exact h.elim

/-! ### comparisons -/
theorem flat_V {d : D} {v : V} (h : d.plain = true) (r : Rep H F M d v) : flatV v = true := by
  cases d <;> simp [D.plain] at h <;> simp only [Rep] at r <;> subst r <;> rfl
theorem eqV_py {d e : D} {v u : V} (h : d.plain = true) (g : e.plain = true) (r : Rep H F M d v) (q : Rep H F M e u) : eqV v u = PyData.eqv d.py e.py := by
  cases d <;> simp [D.plain] at h <;> cases e <;> simp [D.plain] at g <;> simp only [Rep] at r q <;> subst r <;> subst q <;> rfl
theorem flat_all : ∀ (ds : List D) (vs : List V), ds.all D.plain = true → RepL H F M ds vs → vs.all flatV = true
  | [], vs, _, r => by simp only [RepL] at r; subst r; rfl
  | d :: ds, vs, h, r => by
    simp only [RepL] at r
    obtain ⟨v, t, rfl, h1, h2⟩ := r
    simp only [List.all_cons, Bool.and_eq_true] at h ⊢
    exact ⟨flat_V h.1 h1, flat_all ds t h.2 h2⟩
theorem inV_py {e : D} {u : V} (g : e.plain = true) (q : Rep H F M e u) : ∀ (ds : List D) (vs : List V), ds.all D.plain = true → RepL H F M ds vs → inV u vs = ds.any fun z => PyData.eqv z.py e.py
  | [], vs, _, r => by simp only [RepL] at r; subst r; rfl
  | d :: ds, vs, h, r => by
    simp only [RepL] at r
    obtain ⟨v, t, rfl, h1, h2⟩ := r
    simp only [List.all_cons, Bool.and_eq_true] at h
    have ih := inV_py g q ds t h.2 h2
    unfold inV at ih ⊢
    rw [List.any_cons, List.any_cons, ih, eqV_py h.1 g h1 q]
theorem ok_flat {d : D} (h : d.ok = true) : d.flat = true ∧ SeqAt.shaped d.py = true := by
  simpa [D.ok] using h
theorem shaped_lay {d : PyData} (h : SeqAt.shaped d = true) : d.canLay0 = true ∧ d.depth ≤ 64 := by
  unfold SeqAt.shaped at h
  simpa using h
mutual
theorem ltP_py : ∀ a b : D, ltP a.py b.py = ltD a b
  | .int _, b => by cases b <;> simp only [D.py, ltP, ltD]
  | .str _, b => by cases b <;> simp only [D.py, ltP, ltD]
  | .tup xs, b => by
    cases b <;> simp only [D.py, ltP, ltD]
    exact ltPL_py xs _
  | .non, b => by cases b <;> simp only [D.py, ltP, ltD]
  | .bl _, b => by cases b <;> simp only [D.py, ltP, ltD]
  | .lst _, b => by cases b <;> simp only [D.py, ltP, ltD]
  | .dct _ _ _, b => by cases b <;> simp only [D.py, ltP, ltD]
  | .ref _, b => by cases b <;> simp only [D.py, ltP, ltD]
theorem ltPL_py : ∀ a b : List D, ltPL (pyL a) (pyL b) = ltL a b
  | [], [] => rfl
  | [], _ :: _ => rfl
  | _ :: _, [] => rfl
  | x :: xs, y :: ys => by simp only [pyL, ltPL, ltL, ltP_py x y, ltPL_py xs ys]
end
theorem pyL_map : ∀ ds : List D, pyL ds = ds.map D.py
  | [] => rfl
  | d :: ds => by simp [pyL, pyL_map ds]
/-- x in y, its answer; neg: not in -/
theorem op_inD (ok : XOk X c) (neg : Bool) : OpR X (compareOp (if neg then .NotIn else .In)) (fun x y H Q => ∃ F M st a b r, SRx W H F M st ∧ Rep H F M a x ∧ Rep H F M b y ∧ inD st a b = some r ∧ Q (.bl (if neg then !r else r)) H) := by
  intro pins s σ H x y v u Q I rx ry h
  obtain ⟨F, M, st, a, b, r, S, ra, rb, e, q⟩ := h
  have hu : X.A.units + 1 < cLine := by have := ok.un; omega
  have hu2 : X.A.units + 64 < cLine := by have := ok.un; omega
  unfold inD at e
  split at e
  · rename_i z
    split at e
    · rename_i w
      simp only [Option.some.injEq] at e; subst e
      simp only [Rep] at ra rb
      cases neg with
      | false => exact op_in_str pins s σ H _ _ v u Q I rx ry ⟨w, z, ra, rb, q⟩
      | true => exact op_notIn_str pins s σ H _ _ v u Q I rx ry ⟨w, z, ra, rb, q⟩
    · cases e
  · split at e
    · rename_i t ks vs hd
      split at e
      · rename_i hk
        simp only [Option.some.injEq] at e; subst e
        obtain ⟨p, o, rfl, g, lr⟩ := dget_rep S rb hd hk ra
        cases ry
        rw [lr.isSome] at q
        cases neg with
        | false => exact d_in hu I g rx fun s' I' => ⟨.bl _, H, I', rfl, q⟩
        | true => exact d_notIn hu I g rx fun s' I' => ⟨.bl _, H, I', rfl, q⟩
      · cases e
    · split at e
      · rename_i xs hx
        obtain ⟨p, vs, rfl, hp, r1⟩ := seqOf_rep S rb hx
        have hp' : SqL X.K H p vs ∨ SqT X.K H p vs := by
          rcases hp with h | h
          · exact .inl (by rcases h with h | ⟨o, its, n, h⟩
                           · exact .inl h
                           · exact .inr ⟨o, its, n, h⟩)
          · exact .inr (SqT.of h)
        split at e
        · rename_i hf
          simp only [Bool.and_eq_true] at hf
          simp only [Option.some.injEq] at e; subst e
          rw [← inV_py hf.1 ra xs vs hf.2 r1] at q
          cases neg with
          | false => exact op_in_seq pins s σ H _ _ v u Q I rx ry ⟨p, vs, rfl, hp', flat_V hf.1 ra, flat_all xs vs hf.2 r1, q⟩
          | true => exact op_notIn_seq pins s σ H _ _ v u Q I rx ry ⟨p, vs, rfl, hp', flat_V hf.1 ra, flat_all xs vs hf.2 r1, q⟩
        · split at e
          · cases e
          · rename_i hnt
            split at e
            · rename_i hf
              simp only [Bool.and_eq_true] at hf
              simp only [Option.some.injEq] at e; subst e
              have f1 := ok_flat hf.1
              have f2 := ok_flat hf.2
              have hL : lstOf st b = some xs := by
                cases b with
                | tup ys => exact (hnt ys rfl).elim
                | lst ys => simpa [lstOf, seqOf] using hx
                | ref n => simpa [lstOf, seqOf] using hx
                | _ => simp [seqOf] at hx
              obtain ⟨p2, vs2, e2, hp2, r2⟩ := lstOf_rep S rb hL
              have D1 : Dp X.K H x a.py := dp_of a x f1.1 ra
              have D2 : Dp X.K H (.ref p) (.list (pyL xs)) := by
                rw [e2]
                exact .lst (.inl hp2) (dp_all xs vs2 (by simpa [D.flat] using f2.1) r2)
              have es : SeqAt.shaped (.list (pyL xs)) = true := by simpa [D.py] using f2.2
              have eq : ((pyL xs).any fun z => PyData.eqv z a.py) = xs.any fun z => PyData.eqv z.py a.py := by rw [pyL_map, List.any_map]; rfl
              rw [← eq] at q
              cases neg with
              | false => exact L2.op_inD (by have := ok.un; omega) pins s σ H _ _ v u Q I rx ry ⟨a.py, pyL xs, D1, D2, f1.2, es, q⟩
              | true => exact L2.op_notInD (by have := ok.un; omega) pins s σ H _ _ v u Q I rx ry ⟨a.py, pyL xs, D1, D2, f1.2, es, q⟩
            · cases e
      · cases e

def opC : Cop → CmpOp
  | .eq => .Eq | .ne => .NotEq | .lt => .Lt | .le => .LtE | .gt => .Gt | .ge => .GtE | .is => .Is | .isn => .IsNot | .in_ => .In | .nin => .NotIn
theorem copOf_op (op : CmpOp) : op = opC (copOf op) := by cases op <;> rfl
theorem rep_non {d : D} {v : V} (r : Rep H F M d v) : decide (v = .non) = decide (d = .non) := by
  cases d with
  | non => simp only [Rep] at r; subst r; rfl
  | bl b => simp only [Rep] at r; subst r; rfl
  | int b => simp only [Rep] at r; subst r; rfl
  | str b => simp only [Rep] at r; subst r; rfl
  | tup b => simp only [Rep] at r; obtain ⟨a, _, rfl, _⟩ := r; simp
  | lst b => simp only [Rep] at r; obtain ⟨a, _, rfl, _⟩ := r; simp
  | dct t b cc =>
    cases t <;> simp only [Rep] at r <;> obtain ⟨a, rfl, _⟩ := r <;> simp
  | ref b => simp only [Rep] at r; obtain ⟨a, rfl, _⟩ := r; simp
theorem op_cmp (ok : XOk X c) {o : Cop} : OpR X (compareOp (opC o)) (fun x y H Q => ∃ F M st a b r, SRx W H F M st ∧ Rep H F M a x ∧ Rep H F M b y ∧ cmpop o st a b = some r ∧ Q (.bl r) H) := by
  intro pins s σ H x y v u Q I rx ry h
  obtain ⟨F, M, st, a, b, r, S, ra, rb, e, q⟩ := h
  have hu : X.A.units + 64 < cLine := by have := ok.un; omega
  cases o with
  | eq =>
    simp only [cmpop] at e
    split at e
    · rename_i x' y'
      simp only [Option.some.injEq] at e; subst e
      simp only [Rep] at ra rb
      subst ra; subst rb
      exact op_eq pins s σ H _ _ v u Q I rx ry ⟨rfl, by rw [dec_str]; exact q⟩
    · simp only [Option.bind_eq_some_iff] at e
      obtain ⟨a', ea, b', eb, e⟩ := e
      unfold eqD at e
      split at e
      · rename_i hk
        simp only [Bool.and_eq_true] at hk
        simp only [Option.some.injEq] at e; subst e
        have f1 := ok_flat hk.1
        have f2 := ok_flat hk.2
        exact op_eqD hu pins s σ H _ _ v u Q I rx ry ⟨a'.py, b'.py, deref_dp S ra ea f1.1, deref_dp S rb eb f2.1, f1.2, f2.2, q⟩
      · cases e
  | ne =>
    simp only [cmpop] at e
    split at e
    · rename_i x' y'
      simp only [Option.some.injEq] at e; subst e
      simp only [Rep] at ra rb
      subst ra; subst rb
      exact op_ne pins s σ H _ _ v u Q I rx ry ⟨rfl, by rw [dec_str]; exact q⟩
    · simp only [Option.bind_eq_some_iff, Option.map_eq_some_iff] at e
      obtain ⟨a', ea, b', eb, k, e, rfl⟩ := e
      unfold eqD at e
      split at e
      · rename_i hk
        simp only [Bool.and_eq_true] at hk
        simp only [Option.some.injEq] at e; subst e
        have f1 := ok_flat hk.1
        have f2 := ok_flat hk.2
        exact op_neD hu pins s σ H _ _ v u Q I rx ry ⟨a'.py, b'.py, deref_dp S ra ea f1.1, deref_dp S rb eb f2.1, f1.2, f2.2, q⟩
      · cases e
  | lt =>
    simp only [cmpop] at e
    split at e
    · rename_i i j
      simp only [Option.some.injEq] at e; subst e
      simp only [Rep] at ra rb
      exact op_lt pins s σ H _ _ v u Q I rx ry ⟨i, j, ra, rb, q⟩
    · rename_i i j
      simp only [Option.some.injEq] at e; subst e
      simp only [Rep] at ra rb
      exact op_lt_str pins s σ H _ _ v u Q I rx ry ⟨i, j, ra, rb, q⟩
    · rename_i xs ys
      split at e
      · rename_i hk
        simp only [Bool.and_eq_true] at hk
        have f1 := ok_flat hk.1
        have f2 := ok_flat hk.2
        have c1 := shaped_lay f1.2
        have c2 := shaped_lay f2.2
        exact op_ltP (by have := ok.un; omega) pins s σ H _ _ v u Q I rx ry ⟨_, _, r, dp_of _ _ f1.1 ra, dp_of _ _ f2.1 rb, c1.1, c2.1, by omega, by rw [ltP_py]; exact e, q⟩
      · cases e
    · cases e
  | gt =>
    simp only [cmpop] at e
    split at e
    · rename_i i j
      simp only [Option.some.injEq] at e; subst e
      simp only [Rep] at ra rb
      exact op_gt pins s σ H _ _ v u Q I rx ry ⟨i, j, ra, rb, q⟩
    · rename_i i j
      simp only [Option.some.injEq] at e; subst e
      simp only [Rep] at ra rb
      exact op_gt_str pins s σ H _ _ v u Q I rx ry ⟨i, j, ra, rb, q⟩
    · cases e
  | le =>
    simp only [cmpop] at e
    split at e
    · rename_i i j
      simp only [Option.some.injEq] at e; subst e
      simp only [Rep] at ra rb
      exact op_le pins s σ H _ _ v u Q I rx ry ⟨i, j, ra, rb, q⟩
    · rename_i i j
      simp only [Option.some.injEq] at e; subst e
      simp only [Rep] at ra rb
      exact op_le_str pins s σ H _ _ v u Q I rx ry ⟨i, j, ra, rb, q⟩
    · cases e
  | ge =>
    simp only [cmpop] at e
    split at e
    · rename_i i j
      simp only [Option.some.injEq] at e; subst e
      simp only [Rep] at ra rb
      exact op_ge pins s σ H _ _ v u Q I rx ry ⟨i, j, ra, rb, q⟩
    · rename_i i j
      simp only [Option.some.injEq] at e; subst e
      simp only [Rep] at ra rb
      exact op_ge_str pins s σ H _ _ v u Q I rx ry ⟨i, j, ra, rb, q⟩
    · cases e
  | is =>
    simp only [cmpop] at e
    split at e
    · simp only [Option.some.injEq] at e; subst e
      rw [← rep_non ra] at q
      simp only [Rep] at rb
      exact op_isN pins s σ H _ _ v u Q I rx ry ⟨rb, q⟩
    · rename_i i j
      simp only [Option.some.injEq] at e; subst e
      simp only [Rep] at ra rb
      exact op_is_bl pins s σ H _ _ v u Q I rx ry ⟨i, j, ra, rb, q⟩
    · cases e
  | isn =>
    simp only [cmpop] at e
    split at e
    · simp only [Option.some.injEq] at e; subst e
      rw [← rep_non ra] at q
      simp only [Rep] at rb
      exact op_notN pins s σ H _ _ v u Q I rx ry ⟨rb, q⟩
    · rename_i i j
      simp only [Option.some.injEq] at e; subst e
      simp only [Rep] at ra rb
      exact op_isnot_bl pins s σ H _ _ v u Q I rx ry ⟨i, j, ra, rb, q⟩
    · cases e
  | in_ =>
    simp only [cmpop] at e
    exact op_inD (W := W) ok false pins s σ H _ _ v u Q I rx ry ⟨F, M, st, a, b, r, S, ra, rb, e, q⟩
  | nin =>
    simp only [cmpop, Option.map_eq_some_iff] at e
    obtain ⟨k, e, rfl⟩ := e
    exact op_inD (W := W) ok true pins s σ H _ _ v u Q I rx ry ⟨F, M, st, a, b, k, S, ra, rb, e, q⟩

/-! ### truth -/
theorem truV {K : PySem.W.Frag} {x : V} {b : Bool} (S : SRx W H F M st) (r : Rep H F M d x) (e : tru st d = some b) : TruV K x H b := by
  cases d with
  | non => simp only [tru, Option.some.injEq] at e; simp only [Rep] at r; subst r; exact e.symm
  | bl k => simp only [tru, Option.some.injEq] at e; simp only [Rep] at r; subst r; exact e.symm
  | int k => simp only [tru, Option.some.injEq] at e; simp only [Rep] at r; subst r; exact e.symm
  | str k =>
    simp only [tru] at e
    split at e
    · rename_i hz
      simp only [Option.some.injEq] at e; simp only [Rep] at r; subst r; exact ⟨lim_line hz, e.symm⟩
    · cases e
  | tup xs =>
    simp only [tru, Option.some.injEq] at e; simp only [Rep] at r
    obtain ⟨a, vs, rfl, ha, r⟩ := r
    refine .inr (.inl ⟨vs, SqT.of ha, ?_⟩)
    rw [← e]; have := r.length; cases xs <;> cases vs <;> simp_all
  | lst xs =>
    simp only [tru, Option.some.injEq] at e
    obtain ⟨a, vs, rfl, ha, r⟩ := lstOf_rep (xs := xs) S r rfl
    refine .inl ⟨vs, .inl ha, ?_⟩
    rw [← e]; have := r.length; cases xs <;> cases vs <;> simp_all
  | ref n =>
    simp only [tru] at e
    split at e
    · rename_i xs hx
      simp only [Option.some.injEq] at e
      obtain ⟨a, vs, rfl, ha, r⟩ := lstOf_rep (xs := xs) S r (by simp [lstOf, hx])
      refine .inl ⟨vs, .inl ha, ?_⟩
      rw [← e]; have := r.length; cases xs <;> cases vs <;> simp_all
    · cases e
  | dct t ks vs => simp [tru] at e
end
end Pm

/-! Pm, part B5: terms: names, displays, operators, places. -/
namespace Pm
open PySem PySem.Spec L2
open PyProof.Rows hiding St
section
variable {X : Cx} {W : Wd} {c : TC} {G : GT} {a b e : Expr} {ia ib ie : IE} {pos : Pos} {m : Bool}

/-! ### chaining -/
theorem RE.mk {F M : Ads} {H : Hp} {env : Env} {σ : L2.St} {st st' : Sto} {d : D} {Q : VK} (En : EnR H F M env σ) (S : SRx W H F M st) (e : evE W.P W.C ie env st = some (d, st'))
    (k : PostV W F M H d st' Q) : RE W ie σ H Q := ⟨F, M, env, st, d, st', En, S, e, k⟩
theorem sE_two {F M : Ads} {H : Hp} {env : Env} {σ : L2.St} {st st1 st2 : Sto} {x y : D} {R : V → V → Hp → Prop} (En : EnR H F M env σ) (S : SRx W H F M st) (e1 : evE W.P W.C ia env st = some (x, st1)) (e2 : evE W.P W.C ib env st1 = some (y, st2))
    (k : ∀ F' M' H' u v, Le F M H F' M' H' → SRx W H' F' M' st2 → Rep H' F' M' x u → Rep H' F' M' y v → R u v H') : RE W ia σ H fun u H1 => RE W ib σ H1 fun v H2 => R u v H2 :=
  .mk En S e1 fun F1 M1 H1 u l1 S1 r1 => .mk (En.le l1 S.mf) S1 e2 fun F2 M2 H2 v l2 S2 r2 => k F2 M2 H2 u v (l1.trans l2) S2 (r1.le l2 S1.mf) r2
theorem Le.post {F M F' M' : Ads} {H H' : Hp} {d : D} {st : Sto} {Q : VK} (l : Le F M H F' M' H') (k : PostV W F M H d st Q) : PostV W F' M' H' d st Q :=
  fun F2 M2 H2 v l2 S2 r2 => k F2 M2 H2 v (l.trans l2) S2 r2

/-! ### names, constants -/
theorem slot_at {N : List Str} {x : Str} {i : Nat} (h : slot N x = some i) : N[i]? = some x := by
  unfold slot at h
  obtain ⟨hi, h1, _⟩ := List.findIdx?_eq_some_iff_getElem.mp h
  rw [List.getElem?_eq_getElem hi]
  exact congrArg some (of_decide_eq_true h1)
theorem visB_vis {sc : Scope} {x : Str} (h : visB sc x = true) : Vis sc x := by
  unfold visB at h
  split at h <;> first | (rename_i e; first | exact .inl e | exact .inr (.inl e) | exact .inr (.inr e)) | cases h
theorem nmOk_d {x : Str} (h : nmOk x = true) : (x == ("__debug__" : Str)) = false ∧ (x == ("__classdict__" : Str)) = false := by
  simpa [nmOk] using h
theorem glB_gl {sc : Scope} {x : Str} (h : glB sc x = true) : sc.names.lookup x = some .globalImplicit ∧ nmOk x = true ∧ x ≠ ("__name__" : Str) := by
  unfold glB at h
  split at h
  · rename_i e
    simp only [Bool.and_eq_true, Bool.not_eq_true', beq_eq_false_iff_ne] at h
    exact ⟨e, h.1, h.2⟩
  · cases h
theorem XOk.vis (ok : XOk X c) {x : Str} (h : visB c.sc x = true) : Vis X.env.scope x := by rw [ok.sc]; exact visB_vis h
theorem XOk.gl (ok : XOk X c) {x : Str} (h : glB c.sc x = true) : Gl X x := by
  unfold Gl Env.kindOf
  rw [ok.sc]; exact (glB_gl h).1
theorem sE_var (ok : XOk X c) {x : Str} {i : Nat} (hv : visB c.sc x = true) (hn : nmOk x = true) (hs : slot c.N x = some i) : PE X (.Name x pos) (RE W (.var i)) := by
  refine ⟨fun pins s σ H Q I ⟨F, M, env, st, d, st', En, S, e, k⟩ => ?_⟩
  simp only [evE] at e
  split at e
  · rename_i d' hd
    simp only [Option.some.injEq, Prod.mk.injEq] at e
    obtain ⟨rfl, rfl⟩ := e
    obtain ⟨v, e1, r⟩ := En.at_ i _ hd
    exact (pe_var (by rw [ok.n]; exact slot_at hs) (ok.vis hv) (nmOk_d hn).1 (nmOk_d hn).2).run pins s σ H Q I ⟨v, e1, PostV.here k S r⟩
  · cases e
theorem sE_const (v : Const) {j : Nat} : PE X (.Constant v j pos) (RE W (trConst v)) := by
  refine ⟨fun pins s σ H Q I ⟨F, M, env, st, d, st', En, S, e, k⟩ => ?_⟩
  cases v with
  | none =>
    simp only [trConst, evE, Option.some.injEq, Prod.mk.injEq] at e
    obtain ⟨rfl, rfl⟩ := e
    exact pe_non.run pins s σ H Q I (PostV.here k S (by simp only [Rep]))
  | bool b =>
    simp only [trConst, evE, Option.some.injEq, Prod.mk.injEq] at e
    obtain ⟨rfl, rfl⟩ := e
    exact pe_bl.run pins s σ H Q I (PostV.here k S (by simp only [Rep]))
  | int b =>
    simp only [trConst, evE, Option.some.injEq, Prod.mk.injEq] at e
    obtain ⟨rfl, rfl⟩ := e
    exact pe_int.run pins s σ H Q I (PostV.here k S (by simp only [Rep]))
  | str b =>
    simp only [trConst, evE, Option.some.injEq, Prod.mk.injEq] at e
    obtain ⟨rfl, rfl⟩ := e
    exact pe_str.run pins s σ H Q I (PostV.here k S (by simp only [Rep]))
  | _ => simp [trConst, evE] at e
theorem sE_bad (h : ie = .bad) : PE X e (RE W ie) := by
  subst h
  exact ⟨fun pins s σ H Q I ⟨F, M, env, st, d, st', En, S, e, k⟩ => by simp [evE] at e⟩

/-! ### argument lists -/
theorem star_plain (es : List Expr) (h : plainE e = true) {env : PySem.Env} : starEach (e :: es) env = (false, eval e env) :: starEach es env := by
  cases e <;> first | rfl | simp [plainE] at h
theorem star_none : ∀ (es : List Expr) {env : PySem.Env} {pos : Pos}, es.all plainE = true → (backTo pos (starEach es env)).any (·.1) = false
  | [], _, _, _ => rfl
  | e :: es, env, pos, h => by
    simp only [List.all_cons, Bool.and_eq_true] at h
    rw [star_plain es h.1]
    have ih := star_none es (env := env) (pos := pos) h.2
    simp only [backTo, List.map_cons, List.any_cons, Bool.or_eq_false_iff] at ih ⊢
    exact ⟨trivial, ih⟩
theorem sEs {t : Expr → IE} : ∀ (es : List Expr), es.all plainE = true → (∀ e ∈ es, PE X e (RE W (t e))) → PA X es (REs W (es.map t))
  | [], _, _ => by
    refine ⟨fun pos pins s σ H Q I ⟨F, M, env, st, ds, st', En, S, e, k⟩ => ?_⟩
    simp only [List.map_nil, evEs, Option.some.injEq, Prod.mk.injEq] at e
    obtain ⟨rfl, rfl⟩ := e
    exact pa_nil.run pos pins s σ H Q I (k F M H [] (Le.refl F M H) S .nil)
  | e :: es, hp, h => by
    simp only [List.all_cons, Bool.and_eq_true] at hp
    have ih := sEs es hp.2 fun x hx => h x (List.mem_cons_of_mem _ hx)
    refine ⟨fun pos pins s σ H Q I ⟨F, M, env, st, ds, st', En, S, ev, k⟩ => ?_⟩
    simp only [List.map_cons, evEs] at ev
    split at ev
    · rename_i d st1 e1
      split at ev
      · rename_i ds2 st2 e2
        simp only [Option.some.injEq, Prod.mk.injEq] at ev
        obtain ⟨rfl, rfl⟩ := ev
        refine (pa_cons (h e (List.mem_cons_self ..)) ih (star_plain es hp.1)).run pos pins s σ H Q I ?_
        refine .mk En S e1 fun F1 M1 H1 u l1 S1 r1 => ⟨F1, M1, env, st1, ds2, st2, En.le l1 S.mf, S1, e2, fun F2 M2 H2 vs l2 S2 r2 => ?_⟩
        exact k F2 M2 H2 (u :: vs) (l1.trans l2) S2 (.cons (r1.le l2 S1.mf) r2)
      · cases ev
    · cases ev
theorem trArgs_some {t : Expr → IE} {es : List Expr} {is : List IE} (h : trArgs t es = some is) : es.length ≤ 1000 ∧ es.all plainE = true ∧ is = es.map t := by
  unfold trArgs at h
  split at h
  · rename_i hc
    simp only [Bool.and_eq_true, decide_eq_true_eq] at hc
    exact ⟨hc.1, hc.2, (Option.some.inj h).symm⟩
  · cases h
theorem evEs_len {P : Pg} {C : Call} : ∀ {es : List IE} {env : Env} {st st' : Sto} {ds : List D}, evEs P C es env st = some (ds, st') → ds.length = es.length
  | [], _, _, _, _, e => by simp only [evEs, Option.some.injEq, Prod.mk.injEq] at e; rw [← e.1]; rfl
  | _ :: _, _, _, _, _, e => by
    simp only [evEs] at e
    split at e
    · split at e
      · rename_i e2
        simp only [Option.some.injEq, Prod.mk.injEq] at e
        rw [← e.1, List.length_cons, List.length_cons, evEs_len e2]
      · cases e
    · cases e
theorem sE_tup {es : List Expr} {is : List IE} {j : Nat} (h : PA X es (REs W is)) (hl : is.length ≤ 1000) : PE X (.Tuple es j pos) (RE W (.tup is)) := by
  refine ⟨fun pins s σ H Q I ⟨F, M, env, st, d, st', En, S, e, k⟩ => ?_⟩
  simp only [evE] at e
  split at e
  · rename_i ds st1 e1
    simp only [Option.some.injEq, Prod.mk.injEq] at e
    obtain ⟨rfl, rfl⟩ := e
    have hn := evEs_len e1
    refine (pe_tup h).run pins s σ H Q I ⟨F, M, env, st, ds, st1, En, S, e1, fun F1 M1 H1 vs l S1 r => ⟨by rw [← r.length, hn]; exact Nat.le_trans hl (by decide), fun p hp => newT_post S1 r hp (l.post k)⟩⟩
  · cases e
theorem sE_lst {es : List Expr} {is : List IE} (h : PA X es (REs W is)) (hl : is.length ≤ 1000) : PE X (.List es pos) (RE W (.lst m is)) := by
  refine ⟨fun pins s σ H Q I ⟨F, M, env, st, d, st', En, S, e, k⟩ => ?_⟩
  simp only [evE] at e
  split at e
  · rename_i ds st1 e1
    simp only [Option.some.injEq] at e
    have hn := evEs_len e1
    refine (pe_lst h).run pins s σ H Q I ⟨F, M, env, st, ds, st1, En, S, e1, fun F1 M1 H1 vs l S1 r => ⟨by rw [← r.length, hn]; exact Nat.le_trans hl (by decide), fun p hp => newL_post S1 r hp e (l.post k)⟩⟩
  · cases e
/-- a new dict -/
theorem newD_post {F M : Ads} {H : Hp} {st st' : Sto} {d : D} {Q : VK} {t : Bool} {ks vs : List D} {p : Addr} {o : HO} (S : SRx W H F M st) (hp : H p = none)
    (ho : (t = false ∧ ∃ kvs : List (L2.Key × V), o = .dK kvs ∧ ks = kvs.map (fun p => keyD p.1) ∧ RepL H F M vs (kvs.map (·.2))) ∨
      (t = true ∧ ∃ kvs : List (List L2.Key × V), o = .dT kvs ∧ ks = kvs.map (fun p => .tup (p.1.map keyD)) ∧ RepL H F M vs (kvs.map (·.2))))
    (e : newD m t ks vs st = (d, st')) (q : PostV W F M H d st' Q) : Q (.ref p) (upd H p o) := by
  cases m with
  | true =>
    simp only [newD, if_true, Prod.mk.injEq] at e
    obtain ⟨rfl, rfl⟩ := e
    have l := Le.alloc (o := o) F M hp
    refine q _ _ _ _ l (S.alloc hp ?_) ?_
    · rcases ho with ⟨rfl, kvs, rfl, ek, r⟩ | ⟨rfl, kvs, rfl, ek, r⟩
      · exact ⟨kvs, upd_same, ek, r.le l S.mf⟩
      · exact ⟨kvs, upd_same, ek, r.le l S.mf⟩
    · simp only [Rep]
      exact ⟨p, rfl, by rw [← S.len]; simp⟩
  | false =>
    simp only [newD, Bool.false_eq_true, if_false, Prod.mk.injEq] at e
    obtain ⟨rfl, rfl⟩ := e
    have l := Le.fresh (o := o) F M hp
    refine q _ _ _ _ l (S.fresh hp) ?_
    rcases ho with ⟨rfl, kvs, rfl, ek, r⟩ | ⟨rfl, kvs, rfl, ek, r⟩
    · simp only [Rep]
      exact ⟨p, rfl, fun z => S.fs p z hp, kvs, upd_same, ek, r.le l S.mf⟩
    · simp only [Rep]
      exact ⟨p, rfl, fun z => S.fs p z hp, kvs, upd_same, ek, r.le l S.mf⟩
theorem sE_dct0 {t : Bool} : PE X (.Dict [] [] pos) (RE W (.dct0 m t)) := by
  refine ⟨fun pins s σ H Q I ⟨F, M, env, st, d, st', En, S, e, k⟩ => ?_⟩
  simp only [evE, Option.some.injEq] at e
  cases t with
  | false => exact pe_dnewK.run pins s σ H Q I fun p hp => newD_post S hp (.inl ⟨rfl, [], rfl, rfl, .nil⟩) e k
  | true => exact pe_dnewT.run pins s σ H Q I fun p hp => newD_post S hp (.inr ⟨rfl, [], rfl, rfl, .nil⟩) e k

/-! ### operators -/
theorem sE_bin {op : Operator} {o : Bop} (ho : bopOf op = some o) (ha : PE X a (RE W ia)) (hb : PE X b (RE W ib)) : PE X (.BinOp a op b pos) (RE W (.bin o m ia ib)) := by
  refine ⟨fun pins s σ H Q I ⟨F, M, env, st, d, st', En, S, e, k⟩ => ?_⟩
  obtain rfl := bopOf_op ho
  simp only [evE] at e
  split at e
  · rename_i x st1 e1
    split at e
    · rename_i y st2 e2
      refine (pe_op (op_bin (W := W) (m := m)) ha hb).run pins s σ H Q I (sE_two En S e1 e2 fun F' M' H' u v l S' r1 r2 => ?_)
      exact ⟨F', M', st2, x, y, d, st', S', r1, r2, e, l.post k⟩
    · cases e
  · cases e
theorem sE_neg (ha : PE X a (RE W ia)) : PE X (.UnaryOp .USub a pos) (RE W (.neg ia)) := by
  refine ⟨fun pins s σ H Q I ⟨F, M, env, st, d, st', En, S, e, k⟩ => ?_⟩
  simp only [evE] at e
  split at e
  · rename_i i st1 e1
    simp only [Option.some.injEq, Prod.mk.injEq] at e
    obtain ⟨rfl, rfl⟩ := e
    refine (pe_un un_neg ha).run pins s σ H Q I (.mk En S e1 fun F' M' H' v l S' r => ?_)
    simp only [Rep] at r
    exact ⟨i, r, (l.post k).here S' (by simp only [Rep])⟩
  · cases e
theorem sE_not (ha : PE X a (RE W ia)) : PE X (.UnaryOp .Not a pos) (RE W (.not ia)) := by
  refine ⟨fun pins s σ H Q I ⟨F, M, env, st, d, st', En, S, e, k⟩ => ?_⟩
  simp only [evE] at e
  split at e
  · rename_i i st1 e1
    simp only [Option.some.injEq, Prod.mk.injEq] at e
    obtain ⟨rfl, rfl⟩ := e
    refine (pe_not ha).run pins s σ H Q I (.mk En S e1 fun F' M' H' v l S' r => ?_)
    simp only [Rep] at r
    exact ⟨i, r, (l.post k).here S' (by simp only [Rep])⟩
  · cases e
theorem sE_and {r : List Expr} (ha : PE X a (RE W ia)) (hb : PE X (.BoolOp .And (b :: r) pos) (RE W ib)) : PE X (.BoolOp .And (a :: b :: r) pos) (RE W (.and ia ib)) := by
  refine ⟨fun pins s σ H Q I ⟨F, M, env, st, d, st', En, S, e, k⟩ => ?_⟩
  simp only [evE] at e
  split at e
  · rename_i st1 e1
    refine (pe_and ha hb).run pins s σ H Q I (.mk En S e1 fun F' M' H' v l S' r => ?_)
    simp only [Rep] at r
    exact ⟨true, r, by rw [if_pos rfl]; exact .mk (En.le l S.mf) S' e (l.post k)⟩
  · rename_i st1 e1
    simp only [Option.some.injEq, Prod.mk.injEq] at e
    obtain ⟨rfl, rfl⟩ := e
    refine (pe_and ha hb).run pins s σ H Q I (.mk En S e1 fun F' M' H' v l S' r => ?_)
    have r0 := r
    simp only [Rep] at r
    exact ⟨false, r, by rw [if_neg (by simp)]; exact r ▸ (l.post k).here S' r0⟩
  · cases e
theorem sE_or {r : List Expr} (ha : PE X a (RE W ia)) (hb : PE X (.BoolOp .Or (b :: r) pos) (RE W ib)) : PE X (.BoolOp .Or (a :: b :: r) pos) (RE W (.or ia ib)) := by
  refine ⟨fun pins s σ H Q I ⟨F, M, env, st, d, st', En, S, e, k⟩ => ?_⟩
  simp only [evE] at e
  split at e
  · rename_i st1 e1
    refine (pe_or ha hb).run pins s σ H Q I (.mk En S e1 fun F' M' H' v l S' r => ?_)
    simp only [Rep] at r
    exact ⟨false, r, by rw [if_neg (by simp)]; exact .mk (En.le l S.mf) S' e (l.post k)⟩
  · rename_i st1 e1
    simp only [Option.some.injEq, Prod.mk.injEq] at e
    obtain ⟨rfl, rfl⟩ := e
    refine (pe_or ha hb).run pins s σ H Q I (.mk En S e1 fun F' M' H' v l S' r => ?_)
    have r0 := r
    simp only [Rep] at r
    exact ⟨true, r, by rw [if_pos rfl]; exact r ▸ (l.post k).here S' r0⟩
  · cases e
theorem behind_plain (op : CmpOp) (h : plainE b = true) : behindInMarks op b = false := by
  cases b <;> first | rfl | simp [plainE] at h
theorem sE_cmp (ok : XOk X c) {op : CmpOp} (hp : plainE b = true) (ha : PE X a (RE W ia)) (hb : PE X b (RE W ib)) : PE X (.Compare a [op] [b] pos) (RE W (.cmp (copOf op) ia ib)) := by
  refine ⟨fun pins s σ H Q I ⟨F, M, env, st, d, st', En, S, e, k⟩ => ?_⟩
  have ho := op_cmp (W := W) ok (o := copOf op)
  rw [← copOf_op] at ho
  simp only [evE] at e
  split at e
  · rename_i x st1 e1
    split at e
    · rename_i y st2 e2
      split at e
      · rename_i r e3
        simp only [Option.some.injEq, Prod.mk.injEq] at e
        obtain ⟨rfl, rfl⟩ := e
        refine (pe_cmpR ho ha hb (behind_plain op hp)).run pins s σ H Q I (sE_two En S e1 e2 fun F' M' H' u v l S' r1 r2 => ?_)
        exact ⟨F', M', st2, x, y, r, S', r1, r2, e3, (l.post k).here S' (by simp only [Rep])⟩
      · cases e
    · cases e
  · cases e
end
end Pm

/-! Pm, part B6: tests, chains, places, slices, isinstance. -/
namespace Pm
open PySem PySem.Spec L2
open PyProof.Rows hiding St
section
variable {X : Cx} {W : Wd} {c : TC} {G : GT} {a b e d' : Expr} {ia ib ic ie : IE} {pos p2 : Pos} {m : Bool} {ta tb : Ts}

/-! ### tests -/
theorem RT.mk {F M : Ads} {H : Hp} {env : Env} {σ : L2.St} {st st' : Sto} {b : Bool} {Q : Bool → Hp → Prop} (En : EnR H F M env σ) (S : SRx W H F M st) (e : evT W.P W.C ta env st = some (b, st'))
    (k : ∀ F' M' H', Le F M H F' M' H' → SRx W H' F' M' st' → Q b H') : RT W ta σ H Q := ⟨F, M, env, st, b, st', En, S, e, k⟩
theorem sT_bad {x : Expr} : PT X x (RT W (.val .bad)) := ⟨fun pins s σ H Q I ⟨F, M, env, st, b, st', En, S, e, k⟩ => by simp [evT, evE] at e⟩
theorem sT_not (ha : PT X a (RT W ta)) : PT X (.UnaryOp .Not a pos) (RT W (.not ta)) := by
  refine ⟨fun pins s σ H Q I ⟨F, M, env, st, b, st', En, S, e, k⟩ => ?_⟩
  simp only [evT] at e
  split at e
  · rename_i b1 st1 e1
    simp only [Option.some.injEq, Prod.mk.injEq] at e
    obtain ⟨rfl, rfl⟩ := e
    exact (pt_not ha).run pins s σ H Q I (RT.mk En S e1 k)
  · cases e
theorem sW_one {op : PySem.BoolOp} (ha : PT X a (RT W ta)) : PW X (.BoolOp op [a] pos) (RT W ta) := by
  cases op with
  | And => exact pw_and1 ha
  | Or => exact pw_or1 ha
theorem sW_and {r : List Expr} (ha : PT X a (RT W ta)) (hb : PW X (.BoolOp .And (b :: r) pos) (RT W tb)) : PW X (.BoolOp .And (a :: b :: r) pos) (RT W (.and ta tb)) := by
  refine ⟨fun wh pins s σ H Q I ⟨F, M, env, st, b, st', En, S, e, k⟩ => ?_⟩
  simp only [evT] at e
  split at e
  · rename_i st1 e1
    exact (pw_and ha hb).run wh pins s σ H Q I (RT.mk En S e1 fun F' M' H' l S' => by rw [if_pos rfl]; exact RT.mk (En.le l S.mf) S' e fun F2 M2 H2 l2 S2 => k F2 M2 H2 (l.trans l2) S2)
  · rename_i st1 e1
    simp only [Option.some.injEq, Prod.mk.injEq] at e
    obtain ⟨rfl, rfl⟩ := e
    exact (pw_and ha hb).run wh pins s σ H Q I (RT.mk En S e1 fun F' M' H' l S' => by rw [if_neg (by simp)]; exact k F' M' H' l S')
  · cases e
theorem sW_or {r : List Expr} (ha : PT X a (RT W ta)) (hb : PW X (.BoolOp .Or (b :: r) pos) (RT W tb)) : PW X (.BoolOp .Or (a :: b :: r) pos) (RT W (.or ta tb)) := by
  refine ⟨fun wh pins s σ H Q I ⟨F, M, env, st, b, st', En, S, e, k⟩ => ?_⟩
  simp only [evT] at e
  split at e
  · rename_i st1 e1
    exact (pw_or ha hb).run wh pins s σ H Q I (RT.mk En S e1 fun F' M' H' l S' => by rw [if_neg (by simp)]; exact RT.mk (En.le l S.mf) S' e fun F2 M2 H2 l2 S2 => k F2 M2 H2 (l.trans l2) S2)
  · rename_i st1 e1
    simp only [Option.some.injEq, Prod.mk.injEq] at e
    obtain ⟨rfl, rfl⟩ := e
    exact (pw_or ha hb).run wh pins s σ H Q I (RT.mk En S e1 fun F' M' H' l S' => by rw [if_pos rfl]; exact k F' M' H' l S')
  · cases e
/-- a value's truth -/
theorem sT_val (ha : PE X a (RE W ia)) (he : ∀ whole, isTrue a X.env whole = (do let v ← whole; standAt a.pos; holding [v] (truthy v))) : PT X a (RT W (.val ia)) := by
  refine ⟨fun pins s σ H Q I ⟨F, M, env, st, b, st', En, S, e, k⟩ => ?_⟩
  simp only [evT] at e
  split at e
  · rename_i d st1 e1
    split at e
    · rename_i r e2
      simp only [Option.some.injEq, Prod.mk.injEq] at e
      obtain ⟨rfl, rfl⟩ := e
      exact (pt_truth ha he).run pins s σ H Q I (.mk En S e1 fun F' M' H' v l S' r => ⟨_, truV S' r e2, k F' M' H' l S'⟩)
    · cases e
  · cases e
theorem val_bl {P : Pg} {C : Call} {env : Env} {st st' : Sto} {b : Bool} {d : D} {st1 : Sto} (h : evT P C (.val ie) env st = some (b, st')) (e : evE P C ie env st = some (d, st1)) : st' = st1 ∧ tru st1 d = some b := by
  simp only [evT, e] at h
  split at h
  · rename_i r e2
    simp only [Option.some.injEq, Prod.mk.injEq] at h
    exact ⟨h.2.symm, h.1 ▸ e2⟩
  · cases h
theorem sT_cmp (ok : XOk X c) {op : CmpOp} (hp : plainE b = true) (ha : PE X a (RE W ia)) (hb : PE X b (RE W ib)) : PT X (.Compare a [op] [b] pos) (RT W (.val (.cmp (copOf op) ia ib))) := by
  refine ⟨fun pins s σ H Q I ⟨F, M, env, st, r0, st', En, S, e, k⟩ => ?_⟩
  have ho := op_cmp (W := W) ok (o := copOf op)
  rw [← copOf_op] at ho
  simp only [evT, evE] at e
  split at e
  · rename_i d0 st0 e0
    split at e0
    · rename_i x st1 e1
      split at e0
      · rename_i y st2 e2
        split at e0
        · rename_i r e3
          simp only [Option.some.injEq, Prod.mk.injEq] at e0
          obtain ⟨rfl, rfl⟩ := e0
          simp only [tru, Option.some.injEq, Prod.mk.injEq] at e
          obtain ⟨rfl, rfl⟩ := e
          refine (pt_cmpR ho ha hb (behind_plain op hp)).run pins s σ H Q I (sE_two En S e1 e2 fun F' M' H' u v l S' r1 r2 => ?_)
          exact ⟨F', M', st2, x, y, r, S', r1, r2, e3, r, rfl, k F' M' H' l S'⟩
        · cases e0
      · cases e0
    · cases e0
  · cases e
theorem last_plain {o p : CmpOp} {x y : Expr} (h : plainE y = true) : lastMarks [o, p] [x, y] = false := behind_plain p h
/-- a op b op c: the reading -/
theorem chain_rd {o p : Cop} {Q : VK} {F M : Ads} {H : Hp} {env : Env} {σ : L2.St} {st st' : Sto} {d : D} (ok : XOk X c) (En : EnR H F M env σ) (S : SRx W H F M st) (e : evE W.P W.C (.cmp2 o p ia ib ic) env st = some (d, st')) (k : PostV W F M H d st' Q) :
    ∃ r, d = .bl r ∧ tChain (fun x y H Q => ∃ F M st a b r, SRx W H F M st ∧ Rep H F M a x ∧ Rep H F M b y ∧ cmpop o st a b = some r ∧ Q (.bl r) H) (fun x y H Q => ∃ F M st a b r, SRx W H F M st ∧ Rep H F M a x ∧ Rep H F M b y ∧ cmpop p st a b = some r ∧ Q (.bl r) H) (RE W ia) (RE W ib) (RE W ic) σ H Q := by
  simp only [evE] at e
  split at e
  · rename_i x st1 e1
    split at e
    · rename_i y st2 e2
      split at e
      · rename_i e3
        split at e
        · rename_i z st3 e4
          split at e
          · rename_i r e5
            simp only [Option.some.injEq, Prod.mk.injEq] at e
            obtain ⟨rfl, rfl⟩ := e
            refine ⟨r, rfl, sE_two En S e1 e2 fun F' M' H' u v l S' r1 r2 => ⟨F', M', st2, x, y, true, S', r1, r2, e3, true, rfl, ?_⟩⟩
            rw [if_pos rfl]
            exact .mk (En.le l S.mf) S' e4 fun F2 M2 H2 w l2 S2 r3 => ⟨F2, M2, st3, y, z, r, S2, r2.le l2 S'.mf, r3, e5, (l.trans l2).post k |>.here S2 (by simp only [Rep])⟩
          · cases e
        · cases e
      · rename_i e3
        simp only [Option.some.injEq, Prod.mk.injEq] at e
        obtain ⟨rfl, rfl⟩ := e
        refine ⟨false, rfl, sE_two En S e1 e2 fun F' M' H' u v l S' r1 r2 => ⟨F', M', st2, x, y, false, S', r1, r2, e3, false, rfl, ?_⟩⟩
        rw [if_neg (by simp)]
        exact (l.post k).here S' (by simp only [Rep])
      · cases e
    · cases e
  · cases e
theorem sE_cmp2 (ok : XOk X c) {o p : CmpOp} (hp : plainE d' = true) (ha : PE X a (RE W ia)) (hb : PE X b (RE W ib)) (hd : PE X d' (RE W ic)) : PE X (.Compare a [o, p] [b, d'] pos) (RE W (.cmp2 (copOf o) (copOf p) ia ib ic)) := by
  refine ⟨fun pins s σ H Q I ⟨F, M, env, st, d, st', En, S, e, k⟩ => ?_⟩
  have h1 := op_cmp (W := W) ok (o := copOf o)
  rw [← copOf_op] at h1
  have h2 := op_cmp (W := W) ok (o := copOf p)
  rw [← copOf_op] at h2
  obtain ⟨r, rfl, q⟩ := chain_rd ok En S e k
  exact (pe_chain h1 h2 ha hb hd (last_plain hp)).run pins s σ H Q I q
theorem sT_cmp2 (ok : XOk X c) {o p : CmpOp} (hp : plainE d' = true) (ha : PE X a (RE W ia)) (hb : PE X b (RE W ib)) (hd : PE X d' (RE W ic)) : PT X (.Compare a [o, p] [b, d'] pos) (RT W (.val (.cmp2 (copOf o) (copOf p) ia ib ic))) := by
  refine ⟨fun pins s σ H Q I ⟨F, M, env, st, b0, st', En, S, e, k⟩ => ?_⟩
  have h1 := op_cmp (W := W) ok (o := copOf o)
  rw [← copOf_op] at h1
  have h2 := op_cmp (W := W) ok (o := copOf p)
  rw [← copOf_op] at h2
  have e0 := e
  simp only [evT] at e0
  split at e0
  · rename_i d st1 e1
    obtain ⟨r1, r2⟩ := val_bl e e1
    subst r1
    refine (pt_chain h1 h2 ha hb hd (last_plain hp)).run pins s σ H Q I ?_
    have hb0 : ∃ r, d = .bl r := (chain_rd (Q := fun _ _ => True) ok En S e1 (fun _ _ _ _ _ _ _ => trivial)).imp fun _ h => h.1
    obtain ⟨r, rfl⟩ := hb0
    simp only [tru, Option.some.injEq] at r2
    subst r2
    obtain ⟨_, _, q⟩ := chain_rd (Q := fun x H' => ∃ k, x = .bl k ∧ Q k H') ok En S e1 (fun F' M' H' v l S' rv => by
      simp only [Rep] at rv
      exact ⟨r, rv, k F' M' H' l S'⟩)
    exact q
  · cases e0
theorem sE_ife {t : Expr} (ht : PT X t (RT W ta)) (ha : PE X a (RE W ia)) (hb : PE X b (RE W ib)) : PE X (.IfExp t a b pos) (RE W (.ife ta ia ib)) := by
  refine ⟨fun pins s σ H Q I ⟨F, M, env, st, d, st', En, S, e, k⟩ => ?_⟩
  simp only [evE] at e
  split at e
  · rename_i st1 e1
    exact (pe_ifExp ht ha hb).run pins s σ H Q I (RT.mk En S e1 fun F' M' H' l S' => by rw [if_pos rfl]; exact .mk (En.le l S.mf) S' e (l.post k))
  · rename_i st1 e1
    exact (pe_ifExp ht ha hb).run pins s σ H Q I (RT.mk En S e1 fun F' M' H' l S' => by rw [if_neg (by simp)]; exact .mk (En.le l S.mf) S' e (l.post k))
  · cases e

/-! ### places -/
theorem ixN_eq (n : Nat) (i : Int) : ixN n i = L2.ixN n i := rfl
theorem sx_plain (h : plainE b = true) : PlainIx b := by
  intro o i
  cases b <;> first | rfl | simp [plainE] at h
theorem nosl_plain (h : plainE b = true) : NoSl b := by
  intro o i
  cases b <;> first | rfl | simp [plainE] at h
theorem ix_all : IxR X (fun x y H Q => ∃ F M st a i d, SRx W H F M st ∧ Rep H F M a x ∧ Rep H F M i y ∧ dctOf st a = none ∧ index st a i = some d ∧ ∀ v, Rep H F M d v → Q v H) := by
  intro value slice pins s σ H x y v u Q I rx ry h hs
  obtain ⟨F, M, st, a, i, d, S, ra, ri, hd, e, q⟩ := h
  simp only [index, hd] at e
  split at e
  · rename_i xs k hx
    obtain ⟨p, vs, rfl, hp, r⟩ := seqOf_rep S ra hx
    simp only [Rep] at ri
    simp only [Option.bind_eq_some_iff] at e
    obtain ⟨j, ej, e⟩ := e
    obtain ⟨w, ew, rw'⟩ := r.get e
    have hat : atI vs k = some w := by
      unfold atI
      rw [← r.length, ← ixN_eq, ej]
      exact ew
    rcases hp with hp | hp
    · exact ix_seq value slice pins s σ H _ _ v u Q I rx ry (.inl ⟨p, vs, k, w, rfl, ri, hp, hat, q w rw'⟩) hs
    · exact ix_seq value slice pins s σ H _ _ v u Q I rx ry (.inr (.inl ⟨p, vs, k, w, rfl, ri, SqT.of hp, hat, q w rw'⟩)) hs
  · split at e
    · rename_i z k _
      split at e
      · rename_i hz
        simp only [Option.map_eq_some_iff] at e
        obtain ⟨cc, e, rfl⟩ := e
        simp only [Rep] at ra ri
        refine ix_seq value slice pins s σ H _ _ v u Q I rx ry (.inr (.inr ⟨z, k, cc, ra, ri, lim_line hz, e, q _ (by simp only [Rep])⟩)) hs
      · cases e
    · cases e
theorem sE_idx (ok : XOk X c) (hp : plainE b = true) (ha : PE X a (RE W ia)) (hb : PE X b (RE W ib)) : PE X (.Subscript a b pos) (RE W (.idx ia ib)) := by
  refine ⟨fun pins s σ H Q I ⟨F, M, env, st, d, st', En, S, e, k⟩ => ?_⟩
  simp only [evE] at e
  split at e
  · rename_i x st1 e1
    split at e
    · rename_i y st2 e2
      split at e
      · rename_i r e3
        simp only [Option.some.injEq, Prod.mk.injEq] at e
        obtain ⟨rfl, rfl⟩ := e
        cases hd : dctOf st2 x with
        | none =>
          refine (pe_ix (ix_all (W := W)) ha hb (sx_plain hp)).run pins s σ H Q I (sE_two En S e1 e2 fun F' M' H' u v l S' r1 r2 => ?_)
          exact ⟨F', M', st2, x, y, r, S', r1, r2, hd, e3, fun w rw' => (l.post k).here S' rw'⟩
        | some q =>
          obtain ⟨t, ks, vs⟩ := q
          have hu : X.A.units + 1 < cLine := by have := ok.un; omega
          simp only [index, hd] at e3
          split at e3
          · rename_i hk
            refine (pe_dget hu ha hb (nosl_plain hp)).run pins s σ H Q I (sE_two En S e1 e2 fun F' M' H' u v l S' r1 r2 => ?_)
            obtain ⟨p, o, rfl, g, lr⟩ := dget_rep S' r1 hd hk r2
            rw [e3] at lr
            cases o with
            | none => exact lr.elim
            | some w => exact ⟨p, w, rfl, g, (l.post k).here S' lr⟩
          · cases e3
      · cases e
    · cases e
  · cases e

/-! ### slices -/
def partI : D → Option Int
  | .int i => some i
  | _ => none
theorem sP_part {eo : Option Expr} {t : Expr → IE} (h : ∀ e, eo = some e → plainE e = true → PE X e (RE W (t e))) : PO X eo (fun σ H Q => ∃ F M env st d st', EnR H F M env σ ∧ SRx W H F M st ∧ evE W.P W.C (trPart t eo) env st = some (d, st') ∧
    partOk (trPart t eo) d = true ∧ ∀ F' M' H' , Le F M H F' M' H' → SRx W H' F' M' st' → Q (partI d) H') := by
  cases eo with
  | none =>
    refine ⟨fun pins s σ H Q I ⟨F, M, env, st, d, st', En, S, e, hd, k⟩ => ?_⟩
    simp only [trPart, evE, Option.some.injEq, Prod.mk.injEq] at e
    obtain ⟨rfl, rfl⟩ := e
    exact po_none.run pins s σ H Q I (k F M H (Le.refl F M H) S)
  | some x =>
    refine ⟨fun pins s σ H Q I ⟨F, M, env, st, d, st', En, S, e, hd, k⟩ => ?_⟩
    simp only [trPart] at e hd
    split at e
    · rename_i hp
      rw [if_pos hp] at hd
      split at e
      · simp [evE] at e
      · rename_i hne
        have hi : ∃ i, d = .int i := by
          generalize ht : t x = ix at hd hne
          cases ix with
          | cst dd => cases dd <;> first | exact absurd rfl hne | (cases d <;> simp [partOk] at hd; exact ⟨_, rfl⟩)
          | _ => cases d <;> simp [partOk] at hd <;> exact ⟨_, rfl⟩
        refine (po_some (h x rfl hp)).run pins s σ H Q I (.mk En S e fun F' M' H' v l S' r => ?_)
        obtain ⟨i, rfl⟩ := hi
        simp only [Rep] at r
        exact ⟨i, r, k F' M' H' l S'⟩
    · simp [evE] at e
theorem sIx_eq {n d : Nat} {p : D} {r : Nat} (h : sIx n d p = some r) (hp : p = .non ∨ ∃ i, p = .int i) : HT.sIx n d (partI p) = r := by
  rcases hp with rfl | ⟨i, rfl⟩
  · simpa [sIx, partI, HT.sIx] using h
  · simpa [sIx, partI, HT.sIx] using h
theorem sIx_part {n d : Nat} {p : D} {r : Nat} (h : sIx n d p = some r) : p = .non ∨ ∃ i, p = .int i := by
  cases p <;> simp [sIx] at h
  · exact .inl rfl
  · exact .inr ⟨_, rfl⟩
theorem cut_rep {F M : Ads} {H : Hp} {xs ys : List D} {lo hi : D} {vs : List V} (e : cut xs lo hi = some ys) (r : RepL H F M xs vs) : RepL H F M ys (cutV vs (partI lo) (partI hi)) := by
  unfold cut at e
  split at e
  · rename_i p q h1 h2
    simp only [Option.some.injEq] at e; subst e
    have e1 := sIx_eq h1 (sIx_part h1)
    have e2 := sIx_eq h2 (sIx_part h2)
    unfold cutV
    rw [← r.length, e1, e2]
    exact (r.drop p).take (q - p)
  · cases e
theorem drop_take_all {α : Type} (xs : List α) {p q : Nat} (h1 : p = 0) (h2 : q = xs.length) : (xs.drop p).take (q - p) = xs := by
  subst h1; subst h2; simp
theorem sl_all : SlR X (fun x lo hi H Q => ∃ F M st a dl dh d st', SRx W H F M st ∧ Rep H F M a x ∧ lo = partI dl ∧ hi = partI dh ∧ slice m a dl dh st = some (d, st') ∧ PostV W F M H d st' Q) := by
  intro pins s σ H x v vl vu lo hi sl Q I rx hs pl pu h
  obtain ⟨F, M, st, a, dl, dh, d, st', S, ra, rfl, rfl, e, q⟩ := h
  unfold slice at e
  split at e
  · rename_i xs
    simp only [Option.map_eq_some_iff, Prod.mk.injEq] at e
    obtain ⟨ys, e, rfl, rfl⟩ := e
    have r0 := ra
    simp only [Rep] at ra
    obtain ⟨p, vs, rfl, hp, r⟩ := ra
    refine sl_tupA pins s σ H _ v vl vu _ _ sl Q I rx hs pl pu ⟨p, vs, rfl, SqT.of hp, fun hw => ?_, fun _ w hw => newT_post S (cut_rep e r) hw q⟩
    have e2 : ys = xs := by
      unfold cut at e
      split at e
      · rename_i p1 q1 h1 h2
        simp only [Option.some.injEq] at e; subst e
        have e1 := sIx_eq h1 (sIx_part h1)
        have e2 := sIx_eq h2 (sIx_part h2)
        rw [← r.length, e1, e2] at hw
        exact drop_take_all xs hw.1 hw.2
      · cases e
    subst e2
    exact q.here S r0
  · split at e
    · rename_i xs hx
      simp only [Option.map_eq_some_iff] at e
      obtain ⟨ys, e, e3⟩ := e
      obtain ⟨p, vs, rfl, hp, r⟩ := lstOf_rep S ra hx
      exact sl_list pins s σ H _ v vl vu _ _ sl Q I rx hs pl pu ⟨p, vs, rfl, .inl hp, fun w hw => newL_post S (cut_rep e r) hw e3 q⟩
    · cases e
theorem sE_slc {lo hi : Option Expr} {t : Expr → IE} (ha : PE X a (RE W (t a))) (hl : ∀ e, lo = some e → plainE e = true → PE X e (RE W (t e))) (hh : ∀ e, hi = some e → plainE e = true → PE X e (RE W (t e))) :
    PE X (.Subscript a (.Slice lo hi none p2) pos) (RE W (.slc m (t a) (trPart t lo) (trPart t hi))) := by
  refine ⟨fun pins s σ H Q I ⟨F, M, env, st, d, st', En, S, e, k⟩ => ?_⟩
  simp only [evE] at e
  split at e
  · rename_i x st1 e1
    split at e
    · rename_i y st2 e2
      split at e
      · rename_i z st3 e3
        split at e
        · rename_i hp
          simp only [Bool.and_eq_true] at hp
          refine (pe_slice (sl_all (W := W) (m := m)) ha (sP_part hl) (sP_part hh)).run pins s σ H Q I (.mk En S e1 fun F1 M1 H1 u l1 S1 r1 => ?_)
          refine ⟨F1, M1, env, st1, y, st2, En.le l1 S.mf, S1, e2, hp.1, fun F2 M2 H2 l2 S2 => ⟨F2, M2, env, st2, z, st3, (En.le l1 S.mf).le l2 S1.mf, S2, e3, hp.2, fun F3 M3 H3 l3 S3 => ?_⟩⟩
          exact ⟨F3, M3, st3, x, y, z, d, st', S3, (r1.le l2 S1.mf).le l3 S2.mf, rfl, rfl, e, ((l1.trans l2).trans l3).post k⟩
        · cases e
      · cases e
    · cases e
  · cases e
end
section
variable {prog : Program} {w : World} {A : Around} {E : Value → Shared → Prop} {s : Shared}
theorem places_m1 (n : Nat) : Builtin.Slice.slicePlaces ((n : Int) - 1) (-1) (-1) = n := by
  unfold Builtin.Slice.slicePlaces
  rw [if_neg (show ¬ ((-1 : Int) > 0) by decide)]
  by_cases h : ((n : Int) - 1) > -1
  · rw [if_pos h, show (-(-1) : Int) = 1 by decide, Int.ediv_one]
    omega
  · rw [if_neg h]
    omega
theorem applied_m1 {sl : Addr} {vs : Value} {n : Nat} {Q : Int × Int × Nat → Shared → Prop} (hs : s.heap.IsSliceOf sl .none .none vs) (ps : IsPart vs (some (-1))) (h : Q (((n : Int) - 1), -1, n) s) :
    wpAny (model prog w) A (Builtin.Slice.sliceApplied (.ref sl) (pure (n : Int))) Q E s := by
  obtain ⟨os, ho, _, hd⟩ := id hs
  unfold Builtin.Slice.sliceApplied Builtin.Slice.sliceFields
  refine wpAny_bind (wpAny_bind (wpAny_field ho hd (x := Value.none) rfl ?_))
  refine wpAny_bind (wpAny_field ho hd (x := Value.none) rfl ?_)
  refine wpAny_bind (wpAny_field ho hd (x := vs) rfl (wpAny_pure ?_))
  refine wpAny_bind (HT.slicePart_ ps ?_)
  show wpAny _ _ (if ((-1 : Int) == 0) = true then _ else _) _ _ s
  rw [if_neg (by decide)]
  refine wpAny_bind (slicePart_none ?_)
  refine wpAny_bind (slicePart_none (wpAny_bind (wpAny_pure ?_)))
  show wpAny _ _ (pure (((n : Int) - 1), (-1 : Int), Builtin.Slice.slicePlaces ((n : Int) - 1) (-1) (-1))) _ _ s
  rw [places_m1]
  exact wpAny_pure h
theorem pick_m1 (xs : Array Value) : ((List.range xs.size).filterMap fun (m : Nat) => xs[(((xs.size : Int) - 1) + (m : Int) * (-1)).toNat]?).toArray = xs.toList.reverse.toArray := by
  congr 1
  apply List.ext_getElem?
  intro i
  have e : ∀ l : List Nat, (∀ m ∈ l, m < xs.size) → l.filterMap (fun (m : Nat) => xs[(((xs.size : Int) - 1) + (m : Int) * (-1)).toNat]?) = l.map (fun m => (xs[xs.size - 1 - m]?).getD .none) := by
    intro l
    induction l with
    | nil => intro _; rfl
    | cons m l ih =>
      intro hl
      have hm := hl m (List.mem_cons_self ..)
      rw [List.filterMap_cons, show (((xs.size : Int) - 1) + (m : Int) * (-1)).toNat = xs.size - 1 - m by omega, Array.getElem?_eq_getElem (by omega), List.map_cons, Array.getElem?_eq_getElem (by omega)]
      simp only [Option.getD_some]
      rw [ih fun k hk => hl k (List.mem_cons_of_mem _ hk)]
  rw [e _ fun m hm => List.mem_range.mp hm, List.getElem?_map]
  by_cases hi : i < xs.size
  · rw [List.getElem?_range hi, List.getElem?_reverse (by simpa using hi)]
    simp only [Option.map_some, Array.length_toList, Array.getElem?_toList]
    rw [Array.getElem?_eq_getElem (by omega)]
    rfl
  · rw [List.getElem?_eq_none (by simpa using hi), List.getElem?_eq_none (by simpa using hi)]
    rfl
theorem item_tuple_m1 {t sl : Addr} {items : Array Value} {vs : Value} {Q : Value → Shared → Prop} (ht : IsTup s.heap t items) (hs : s.heap.IsSliceOf sl .none .none vs) (ps : IsPart vs (some (-1)))
    (h : Q (.ref s.heap.objs.size) { s with heap := s.heap.push { cls := .type "tuple", data := .seq items.toList.reverse.toArray } }) (hsz : items.size ≤ sizeLine) : wpAny (model prog w) A (getItem (.ref t) (.ref sl)) Q E s := by
  have fits : sizeOk (.seq items.toList.reverse.toArray) := by
    show items.toList.reverse.toArray.size ≤ sizeLine
    simpa using hsz
  obtain ⟨os, hos, hcs, hds⟩ := id hs
  have isSl : s.TypeIs (.ref sl) "slice" := ⟨os, hos, hcs⟩
  unfold getItem
  try with_reducible refine wpAny_holding ?_
  first | refine wpAny_bind (wpAny_pure ?_) | skip
  refine wpAny_bind (wpAny_sequenceKey ht.typeIs (by decide) ?_)
  refine wpAny_bind (wpAny_callSpecial?_slot (name := Str.ofString "__getitem__") ht.typeIs PyProof.Rows.slot_tuple_getitem (wpAny_call_entry PyProof.Rows.slot_tuple_getitem ht.typeIs entry_tuple_getitem ?_ (args_tuple_getitem _ _)))
  show wpAny _ _ (Builtin.Tuple.tupleItemsOf (.ref t) >>= _) _ _ s
  refine wpAny_bind (tupleItemsOf_ ht (wpAny_bind (wpAny_typeOf isSl ?_)))
  rw [if_pos (by decide)]
  refine wpAny_bind (applied_m1 hs ps ?_)
  have hno : ¬ ((((items.size : Int) - 1) == 0 && (-1 : Int) == 1 && items.size == items.size) = true) := by
    simp
  show wpAny _ _ (if (((items.size : Int) - 1) == 0 && (-1 : Int) == 1 && items.size == items.size) = true then _ else _) _ _ s
  rw [if_neg hno, pick_m1 items]
  first
    | exact wpAny_bind (m := Builtin.Tuple.tupleExact _) (wpAny_newObj_type (wpAny_pure ⟨_, rfl, wpAny_pure h⟩) fits)
    | exact wpAny_bind (m := Builtin.Tuple.tupleExact _) (wpAny_newObj_type (wpAny_bind (wpAny_pure (wpAny_pure ⟨_, rfl, wpAny_pure h⟩))) fits)
    | exact wpAny_bind (wpAny_bind (m := Builtin.Tuple.tupleExact _) (wpAny_newObj_type (wpAny_pure (wpAny_pure ⟨_, rfl, wpAny_pure h⟩)) fits))
    | exact wpAny_bind (wpAny_bind (m := Builtin.Tuple.tupleExact _) (wpAny_newObj_type (wpAny_pure ⟨_, rfl, wpAny_pure h⟩) fits))
end
section
variable {X : Cx} {W : Wd} {c : TC} {G : GT} {a b e d' : Expr} {ia ib ic ie : IE} {pos p2 : Pos} {m : Bool} {ta tb : Ts}
/-- [::-1] of a list or of a tuple -/
theorem pe_revS {te : TE} {kk : Nat} {q1 q2 q3 : Pos} (he : PE X a te) : PE X (.Subscript a (.Slice none none (some (.UnaryOp .USub (.Constant (.int 1) kk q1) q2)) q3) pos)
    (fun σ H Q => te σ H fun x H1 => ∃ l vs, x = .ref l ∧ ((SqL X.K H1 l vs ∧ ∀ p, H1 p = none → Q (.ref p) (upd H1 p (.lst vs.reverse))) ∨ (H1 l = some (.tup vs) ∧ ∀ p, H1 p = none → Q (.ref p) (upd H1 p (.tup vs.reverse))))) := by
  refine ⟨fun pins s σ H Q I hq => Subscript_ (thn (he.run pins s σ H _ I hq) fun v sa ⟨x, Ha, Ia, ra, l, vs, ex, hor⟩ => ?_)⟩
  subst ex
  cases ra
  have stp : PO X (some (.UnaryOp .USub (.Constant (.int 1) kk q1) q2)) (tPart (tUn (rU fun i => .int (-i)) (tC (.int 1)))) := po_some (pe_un un_neg pe_int)
  refine wpAny_Slice (thn (po_none.run pins sa σ Ha (fun o Hb => o = none ∧ Hb = Ha) Ia ⟨rfl, rfl⟩) fun v1 sb ⟨o1, Hb, Ib, p1, g1, g2⟩ => ?_)
  subst g1 g2
  refine thn (po_none.run pins sb σ Hb (fun o Hc => o = none ∧ Hc = Hb) Ib ⟨rfl, rfl⟩) fun v2 sc ⟨o2, Hc, Ic, p2, g3, g4⟩ => ?_
  subst g3 g4
  refine thn (stp.run pins sc σ Hc (fun o Hd => o = some (-1) ∧ Hd = Hc) Ic ⟨1, rfl, -1, rfl, rfl, rfl⟩) fun v3 sd ⟨o3, Hd, Id, p3, g5, g6⟩ => ?_
  subst g5 g6
  have It : Inv X pins σ Hd { sd with heap := sd.heap.push { cls := .type "slice", data := .fields #[v1, v2, v3] } } := Id.kept (t' := sd.toks) fun b ob q => Heap.get?_push_of_some _ q
  show wpAny (model X.prog X.w) X.A (subscriptTail a (.Slice none none (some (.UnaryOp .USub (.Constant (.int 1) kk q1) q2)) q3) (.ref l) (.ref sd.heap.objs.size)) (EP X pins σ Q) X.xe { sd with heap := sd.heap.push { cls := .type "slice", data := .fields #[v1, v2, v3] } }
  rcases hor with ⟨hx, q⟩ | ⟨hx, q⟩
  · obtain ⟨its, r, ht, hz⟩ := It.list hx
    have el := r.length
    refine tail_any (ops := [.ref l, .ref sd.heap.objs.size]) ht.isList.typeIs PySem.slot_list_getitem.lookup ?_ (by with_unfolding_all rfl)
    refine wpAny_getItem_list_slice ht.isList (Heap.IsSliceOf.new _ v1 v2 v3) p1 p2 p3 (by decide) ?_ (by rw [List.size_toArray]; omega)
    rw [PySem.W.krv_pick]
    refine ⟨.ref _, _, It.laid (t' := sd.toks) (o := .lst vs.reverse) (fun b ob q => Heap.get?_push_of_some _ q) (Nat.le_refl _) ?_, rfl, q _ (It.hok.fresh (Nat.le_refl _))⟩
    exact ⟨by rw [List.length_reverse]; exact hz, _, 0, r.reverse, Heap.get?_push_size _ rfl⟩
  · obtain ⟨its, r, ht, hz⟩ := It.tuple (SqT.of hx)
    have el := r.length
    cases p1
    cases p2
    refine tail_any (ops := [.ref l, .ref sd.heap.objs.size]) ht.typeIs PyProof.Rows.slot_tuple_getitem.lookup ?_ (by with_unfolding_all rfl)
    refine item_tuple_m1 ht (Heap.IsSliceOf.new _ .none .none v3) p3 ?_ (by rw [List.size_toArray]; omega)
    refine ⟨.ref _, _, It.laid (t' := sd.toks) (o := .tup vs.reverse) (fun b ob q => Heap.get?_push_of_some _ q) (Nat.le_refl _) ?_, rfl, q _ (It.hok.fresh (Nat.le_refl _))⟩
    exact ⟨by rw [List.length_reverse]; exact hz, _, r.reverse, ⟨_, Heap.get?_push_size _ rfl, rfl, _, rfl⟩⟩
theorem sE_rev {x : Expr} (hn : isNeg1 x = true) (ha : PE X a (RE W ia)) : PE X (.Subscript a (.Slice none none (some x) p2) pos) (RE W (.rev m ia)) := by
  unfold isNeg1 at hn
  split at hn
  · refine ⟨fun pins s σ H Q I ⟨F, M, env, st, d, st', En, S, e, k⟩ => ?_⟩
    simp only [evE] at e
    split at e
    · rename_i x st1 e1
      refine (pe_revS ha).run pins s σ H Q I (.mk En S e1 fun F' M' H' v l S' r => ?_)
      split at e
      · rename_i xs
        simp only [Option.some.injEq, Prod.mk.injEq] at e
        obtain ⟨rfl, rfl⟩ := e
        simp only [Rep] at r
        obtain ⟨p, vs, rfl, hp, r1⟩ := r
        exact ⟨p, vs, rfl, .inr ⟨hp, fun w hw => newT_post S' r1.reverse hw (l.post k)⟩⟩
      · split at e
        · rename_i xs hx
          simp only [Option.some.injEq] at e
          obtain ⟨p, vs, rfl, hp, r1⟩ := lstOf_rep S' r hx
          exact ⟨p, vs, rfl, .inl ⟨.inl hp, fun w hw => newL_post S' r1.reverse hw e (l.post k)⟩⟩
        · cases e
    · cases e
  · cases hn

/-! ### isinstance -/
def tyS : Ty → String
  | .int => "int" | .bool => "bool" | .str => "str" | .list => "list" | .tuple => "tuple" | .dict => "dict"
/-- a value's type -/
def kindS (st : Sto) : D → Option Ty
  | .non => none | .bl _ => some .bool | .int _ => some .int | .str _ => some .str | .tup _ => some .tuple | .lst _ => some .list | .dct _ _ _ => some .dict
  | .ref r => match st[r]? with
    | some (.lst _) => some .list
    | some (.dct _ _ _) => some .dict
    | _ => none
end
end Pm

/-! Pm, part B7: isinstance, built-in functions, methods of lists. -/
namespace Pm
open PySem PySem.Spec L2
open PyProof.Rows hiding St
section
variable {X : Cx} {W : Wd} {c : TC} {G : GT} {a b e d' : Expr} {ia ib ic ie : IE} {pos p2 : Pos} {m : Bool} {ta tb : Ts} {F M : Ads} {H : Hp} {st st' : Sto} {d : D}

/-! ### isinstance -/
def kindN : Option Ty → String
  | none => "NoneType"
  | some t => tyS t
def isK : Option Ty → Ty → Bool
  | none, _ => false
  | some .bool, t => t = .bool || t = .int
  | some k, t => k = t
theorem isTy_K {t : Ty} (h : isiOk st d = true) : isTy st d t = isK (kindS st d) t := by
  cases d with
  | ref r =>
    simp only [isiOk] at h
    simp only [isTy, kindS]
    split at h
    · rename_i e; first | (rw [e]; cases t <;> rfl) | (cases t <;> rfl)
    · rename_i e; first | (rw [e]; cases t <;> rfl) | (cases t <;> rfl)
    · cases h
  | _ => cases t <;> simp [isTy, kindS, isK]
theorem kitK {K : PySem.W.Frag} (k : Option Ty) (t : Ty) : PySem.W.kitOne K (.type (kindN k)) (.type (tyS t)) = some (isK k t) := by
  apply kit_ty
  cases k with
  | none => cases t <;> decide +kernel
  | some k => cases k <;> cases t <;> decide +kernel
theorem tyX_rep {K : PySem.W.Frag} {v : V} (S : SRx W H F M st) (r : Rep H F M d v) (h : isiOk st d = true) : TyX K H v (.type (kindN (kindS st d))) := by
  cases d with
  | non => simp only [Rep] at r; subst r; exact .base .non
  | bl k => simp only [Rep] at r; subst r; exact .base (.bl k)
  | int k => simp only [Rep] at r; subst r; exact .base (.int k)
  | str k => simp only [Rep] at r; subst r; exact .base (.str k)
  | tup xs => simp only [Rep] at r; obtain ⟨p, vs, rfl, hp, _⟩ := r; exact .base (.tup hp)
  | lst xs =>
    simp only [Rep] at r; obtain ⟨p, vs, rfl, hp, _⟩ := r
    rcases hp with hp | ⟨o, hp⟩
    · exact .base (.lst hp)
    · exact .base (.frz hp)
  | dct t ks vs =>
    cases t with
    | false => simp only [Rep] at r; obtain ⟨p, rfl, _, kvs, hp, _⟩ := r; exact .base (.dK hp)
    | true => simp only [Rep] at r; obtain ⟨p, rfl, _, kvs, hp, _⟩ := r; exact .base (.dT hp)
  | ref n =>
    simp only [Rep] at r
    obtain ⟨p, rfl, hm⟩ := r
    simp only [isiOk] at h
    split at h
    · rename_i xs e
      obtain ⟨vs, hp, _⟩ := S.obs n _ p e hm
      simp only [kindS, e]
      exact .base (.lst hp)
    · rename_i t ks vs e
      have o := S.obs n _ p e hm
      simp only [kindS, e]
      cases t with
      | false => obtain ⟨kvs, hp, _⟩ := o; exact .base (.dK hp)
      | true => obtain ⟨kvs, hp, _⟩ := o; exact .base (.dT hp)
    · cases h
theorem kitAll {K : PySem.W.Frag} (k : Option Ty) : ∀ ts : List Ty, PySem.W.kitAny K (.type (kindN k)) (ts.map fun t => .type (tyS t)) = some (ts.any (isK k))
  | [] => kitAny_nil
  | t :: ts => kitAny_cons (kitK k t) (fun h => by rw [List.any_cons, h, Bool.false_or]; exact kitAll k ts) fun h => by rw [List.any_cons, h, Bool.true_or]
theorem tyT_boot {x : Str} {t : Ty} (h : tyT.lookup x = some t) : bootBuiltins x = some (.type (tyS t)) ∧ x ∈ freeNames := by
  simp only [tyT] at h
  unfold List.lookup at h
  split at h
  · rename_i e; have e := eq_of_beq e; subst e; cases h; exact ⟨by decide +kernel, by decide +kernel⟩
  unfold List.lookup at h
  split at h
  · rename_i e; have e := eq_of_beq e; subst e; cases h; exact ⟨by decide +kernel, by decide +kernel⟩
  unfold List.lookup at h
  split at h
  · rename_i e; have e := eq_of_beq e; subst e; cases h; exact ⟨by decide +kernel, by decide +kernel⟩
  unfold List.lookup at h
  split at h
  · rename_i e; have e := eq_of_beq e; subst e; cases h; exact ⟨by decide +kernel, by decide +kernel⟩
  unfold List.lookup at h
  split at h
  · rename_i e; have e := eq_of_beq e; subst e; cases h; exact ⟨by decide +kernel, by decide +kernel⟩
  unfold List.lookup at h
  split at h
  · rename_i e; have e := eq_of_beq e; subst e; cases h; exact ⟨by decide +kernel, by decide +kernel⟩
  cases h
theorem pe_ty (ok : XOk X c) {t : Ty} (h : tyOf c.sc e = some t) : PE X e (tC (.ty (tyS t))) := by
  unfold tyOf at h
  split at h
  · rename_i x p
    split at h
    · rename_i hg
      obtain ⟨h1, h2⟩ := tyT_boot h
      exact pe_bltn (ok.gl hg) (ok.free x h2) h1 rfl (glB_gl hg).2.2 (nmOk_d (glB_gl hg).2.1).1
    · cases h
  · cases h
theorem pa_tys (ok : XOk X c) : ∀ {es : List Expr} {ts : List Ty}, es.mapM (tyOf c.sc) = some ts → PA X es (fun σ H Q => Q (ts.map fun t => .ty (tyS t)) H)
  | [], ts, h => by
    simp only [List.mapM_nil, Option.pure_def, Option.some.injEq] at h
    subst h; exact pa_nil
  | e :: es, ts, h => by
    simp only [List.mapM_cons, Option.bind_eq_bind, Option.bind_eq_some_iff, Option.pure_def, Option.some.injEq] at h
    obtain ⟨t, h1, r, h2, rfl⟩ := h
    have hp : plainE e = true := by
      unfold tyOf at h1
      split at h1
      · rfl
      · cases h1
    exact pa_cons (pe_ty ok h1) (pa_tys ok h2) (star_plain es hp)
theorem clsAll : ∀ ts : List Ty, Paired ClsV (ts.map fun t => V.ty (tyS t)) (ts.map fun t => .type (tyS t))
  | [] => .nil
  | t :: ts => .cons (.ty _) (clsAll ts)
theorem mapM_len {α β : Type} {f : α → Option β} : ∀ {l : List α} {r : List β}, l.mapM f = some r → r.length = l.length
  | [], r, h => by simp at h; subst h; rfl
  | x :: l, r, h => by
    simp only [List.mapM_cons, Option.bind_eq_bind, Option.bind_eq_some_iff, Option.pure_def, Option.some.injEq] at h
    obtain ⟨t, h1, r2, h2, rfl⟩ := h
    simp [mapM_len h2]
theorem sE_isi (ok : XOk X c) {ty : Expr} {ts : List Ty} {np : Pos} (hg : glB c.sc "isinstance" = true) (hp : plainE a = true) (hq : plainE ty = true) (ha : PE X a (RE W ia)) (h : tysOf c.sc ty = some ts) (hl : ts.length ≤ 1000) :
    PE X (.Call (.Name "isinstance" np) [a, ty] [] pos) (RE W (.isi ia ts)) := by
  refine ⟨fun pins s σ H Q I ⟨F, M, env, st, d, st', En, S, e, k⟩ => ?_⟩
  simp only [evE] at e
  split at e
  · rename_i x st1 e1
    split at e
    · rename_i hi
      simp only [Option.some.injEq, Prod.mk.injEq] at e
      obtain ⟨rfl, rfl⟩ := e
      have hfree : X.mg "isinstance" = none := ok.free _ (by decide +kernel)
      have hb : bootBuiltins ("isinstance" : Str) = some (.builtin "isinstance") := by decide +kernel
      have heq : ts.any (isTy st1 x) = ts.any (isK (kindS st1 x)) := by
        congr 1; funext t; exact isTy_K hi
      unfold tysOf at h
      split at h
      · rename_i es j tp
        have hl2 := mapM_len h
        refine (pe_callB call_isiT (ok.gl hg) hfree hb (pa_cons ha (pa_cons (pe_tup (pa_tys ok h)) pa_nil (star_plain _ hq)) (star_plain _ hp)) (glB_gl hg).2.2 (nmOk_d (glB_gl hg).2.1).1 (star_plain _ hp) (star_none [_] (by simp [plainE]))).run pins s σ H Q I ?_
        refine .mk En S e1 fun F' M' H' v l S' r => ⟨by rw [List.length_map]; exact Nat.le_trans hl (by decide), fun p np => ?_⟩
        have l2 := Le.fresh (o := .tup (ts.map fun t => .ty (tyS t))) F' M' np
        refine ⟨v, p, ts.map fun t => .ty (tyS t), _, ts.map fun t => .type (tyS t), _, rfl, upd_same, clsAll ts, tyX_rep (S'.fresh np) (r.le l2 S'.mf) hi, kitAll _ ts, ?_⟩
        rw [← heq]
        exact k F' M' _ _ (l.trans l2) (S'.fresh np) (by simp only [Rep])
      · simp only [Option.map_eq_some_iff] at h
        obtain ⟨t, h, rfl⟩ := h
        refine (pe_callB call_isi (ok.gl hg) hfree hb (pa_cons ha (pa_cons (pe_ty ok h) pa_nil (star_plain _ hq)) (star_plain _ hp)) (glB_gl hg).2.2 (nmOk_d (glB_gl hg).2.1).1 (star_plain _ hp) (star_none [_] (by simp [hq]))).run pins s σ H Q I ?_
        refine .mk En S e1 fun F' M' H' v l S' r => ?_
        refine ⟨v, .ty (tyS t), _, _, _, rfl, .ty _, tyX_rep S' r hi, kitK _ t, ?_⟩
        have : [t].any (isTy st1 x) = isK (kindS st1 x) t := by rw [heq]; simp
        rw [← this]
        exact k F' M' _ _ l S' (by simp only [Rep])
    · cases e
  · cases e
end
end Pm

/-! Pm, part B8: built-in functions by values. -/
namespace Pm
open PySem PySem.Spec L2
open PyProof.Rows hiding St
section
variable {X : Cx} {W : Wd} {c : TC} {G : GT} {a b e d' : Expr} {ia ib ic ie : IE} {pos p2 : Pos} {m : Bool} {ta tb : Ts} {F M : Ads} {H : Hp} {st st' : Sto} {d : D}
theorem ints_rep : ∀ {xs : List D} {ns : List Int} {vs : List V}, intsD xs = some ns → RepL H F M xs vs → vs = ns.map V.int
  | [], ns, vs, e, r => by
    simp only [intsD, Option.some.injEq] at e; subst e
    simp only [RepL] at r; subst r; rfl
  | x :: xs, ns, vs, e, r => by
    cases x with
    | int i =>
      simp only [intsD, Option.map_eq_some_iff] at e
      obtain ⟨ms, e, rfl⟩ := e
      simp only [RepL] at r
      obtain ⟨v, t, rfl, h1, h2⟩ := r
      simp only [Rep] at h1
      rw [h1, ints_rep e h2]; rfl
    | _ => simp [intsD] at e
theorem bls_rep : ∀ {xs : List D} {ns : List Bool} {vs : List V}, blsD xs = some ns → RepL H F M xs vs → vs = ns.map V.bl
  | [], ns, vs, e, r => by
    simp only [blsD, Option.some.injEq] at e; subst e
    simp only [RepL] at r; subst r; rfl
  | x :: xs, ns, vs, e, r => by
    cases x with
    | bl i =>
      simp only [blsD, Option.map_eq_some_iff] at e
      obtain ⟨ms, e, rfl⟩ := e
      simp only [RepL] at r
      obtain ⟨v, t, rfl, h1, h2⟩ := r
      simp only [Rep] at h1
      rw [h1, bls_rep e h2]; rfl
    | _ => simp [blsD] at e
theorem foldl_min (n : Int) : ∀ ns : List Int, ns.foldl min n ∈ n :: ns ∧ ∀ y ∈ n :: ns, ns.foldl min n ≤ y
  | [] => by simp
  | k :: ns => by
    have ih := foldl_min (min n k) ns
    simp only [List.foldl_cons]
    constructor
    · rcases List.mem_cons.mp ih.1 with h | h
      · rw [h]
        rcases Int.le_total n k with q | q
        · rw [Int.min_eq_left q]; simp
        · rw [Int.min_eq_right q]; simp
      · simp [h]
    · intro y hy
      have h0 := ih.2 (min n k) (by simp)
      rcases List.mem_cons.mp hy with h | h
      · subst h; omega
      · rcases List.mem_cons.mp h with h | h
        · subst h; omega
        · exact ih.2 y (by simp [h])
theorem foldl_max (n : Int) : ∀ ns : List Int, ns.foldl max n ∈ n :: ns ∧ ∀ y ∈ n :: ns, y ≤ ns.foldl max n
  | [] => by simp
  | k :: ns => by
    have ih := foldl_max (max n k) ns
    simp only [List.foldl_cons]
    constructor
    · rcases List.mem_cons.mp ih.1 with h | h
      · rw [h]
        rcases Int.le_total n k with q | q
        · rw [Int.max_eq_right q]; simp
        · rw [Int.max_eq_left q]; simp
      · simp [h]
    · intro y hy
      have h0 := ih.2 (max n k) (by simp)
      rcases List.mem_cons.mp hy with h | h
      · subst h; omega
      · rcases List.mem_cons.mp h with h | h
        · subst h; omega
        · exact ih.2 y (by simp [h])
mutual
theorem flat_noDict : ∀ d : D, d.flat = true → d.py.hasDict = false
  | .non, _ => rfl
  | .bl _, _ => rfl
  | .int _, _ => rfl
  | .str _, _ => rfl
  | .tup xs, h => by simp only [D.flat] at h; simp only [D.py, PyData.hasDict]; exact flatL_noDict xs h
  | .lst xs, h => by simp only [D.flat] at h; simp only [D.py, PyData.hasDict]; exact flatL_noDict xs h
  | .dct _ _ _, h => by simp [D.flat] at h
  | .ref _, h => by simp [D.flat] at h
theorem flatL_noDict : ∀ ds : List D, flatL ds = true → PyData.hasDictAll (pyL ds) = false
  | [], _ => rfl
  | d :: ds, h => by
    simp only [flatL, Bool.and_eq_true] at h
    simp only [pyL, PyData.hasDictAll, flat_noDict d h.1, flatL_noDict ds h.2, Bool.or_self]
end
/-- what a built-in is, as a value -/
def biV : Bi → Value
  | .len => .builtin "len" | .abs => .builtin "abs" | .all => .builtin "all" | .any => .builtin "any" | .sum => .builtin "sum" | .min => .builtin "min" | .max => .builtin "max" | .sorted => .builtin "sorted"
  | .int => .type "int" | .str => .type "str" | .tuple => .type "tuple" | .list => .type "list" | .dict => .type "dict" | .dictT => .type "dict" | .set => .type "set"
def RB (W : Wd) (b : Bi) (m : Bool) : List V → Hp → VK → Prop := fun xs H Q => ∃ F M st ds d st', SRx W H F M st ∧ RepL H F M ds xs ∧ bicall b m ds st = some (d, st') ∧ PostV W F M H d st' Q
theorem repL1 {v : List V} (r : RepL H F M [d] v) : ∃ u, v = [u] ∧ Rep H F M d u := by
  simp only [RepL] at r
  obtain ⟨u, t, rfl, h, rfl⟩ := r
  exact ⟨u, rfl, h⟩
theorem repL2 {d2 : D} {v : List V} (r : RepL H F M [d, d2] v) : ∃ u w, v = [u, w] ∧ Rep H F M d u ∧ Rep H F M d2 w := by
  simp only [RepL] at r
  obtain ⟨u, t, rfl, h, w, t2, rfl, h2, rfl⟩ := r
  exact ⟨u, w, rfl, h, h2⟩
theorem seq_SqT {K : PySem.W.Frag} {p : Addr} {vs : List V} (h : SqL K H p vs ∨ H p = some (.tup vs)) : SqL K H p vs ∨ SqT K H p vs := h.imp id SqT.of
theorem lstOf_seq {xs : List D} (e : lstOf st d = some xs) : seqOf st d = some xs := by
  cases d <;> simp [lstOf] at e <;> simpa [seqOf, lstOf] using e
theorem seqOf_repA {xs : List D} {v : V} (S : SRx W H F M st) (r : Rep H F M d v) (e : seqOf st d = some xs) : ∃ t a vs, v = .ref a ∧ SqA t X.K H a vs ∧ RepL H F M xs vs := by
  obtain ⟨a, vs, rfl, h, r1⟩ := seqOf_rep (X := X) S r e
  rcases h with h | h
  · exact ⟨false, a, vs, rfl, h, r1⟩
  · exact ⟨true, a, vs, rfl, SqT.of h, r1⟩
theorem pyL_getD : ∀ (xs : List D) (i : Nat), (pyL xs).getD i .none = (xs.getD i .non).py
  | [], i => by simp [pyL, D.py]
  | x :: xs, 0 => by simp [pyL]
  | x :: xs, i + 1 => by simpa [pyL] using pyL_getD xs i
theorem pyL_mem {xs : List D} {p : PyData} (h : p ∈ pyL xs) : ∃ x ∈ xs, p = x.py := by
  rw [pyL_map] at h
  obtain ⟨x, hx, e⟩ := List.mem_map.mp h
  exact ⟨x, hx, e.symm⟩
theorem tups_rep {H : Hp} {F M : Ads} : ∀ {xs : List D} {ts : List (List Int)} {vs : List V}, tupsD xs = some ts → RepL H F M xs vs → xs = ts.map (fun t => .tup (t.map .int)) ∧ Paired (fun v t => ∃ a, v = V.ref a ∧ H a = some (.tup (t.map V.int))) vs ts
  | [], ts, vs, e, r => by
    simp only [tupsD, Option.some.injEq] at e; subst e
    simp only [RepL] at r; subst r
    exact ⟨rfl, .nil⟩
  | x :: xs, ts, vs, e, r => by
    cases x with
    | tup ys =>
      simp only [tupsD] at e
      split at e
      · rename_i is t h1 h2
        simp only [Option.some.injEq] at e; subst e
        simp only [RepL] at r
        obtain ⟨v, w, rfl, r1, r2⟩ := r
        obtain ⟨e3, p3⟩ := tups_rep h2 r2
        simp only [Rep] at r1
        obtain ⟨a, us, rfl, ha, r1⟩ := r1
        have eu := ints_rep h1 r1
        subst eu
        have ey : ys = is.map D.int := by
          clear r1 ha e3 p3 h2
          induction ys generalizing is with
          | nil => simp only [intsD, Option.some.injEq] at h1; subst h1; rfl
          | cons y ys ih =>
            cases y <;> simp only [intsD, Option.map_eq_some_iff] at h1 <;> first | (obtain ⟨js, h1, rfl⟩ := h1; simp [ih js h1]) | cases h1
        exact ⟨by rw [e3, ey]; rfl, .cons ⟨a, rfl, ha⟩ p3⟩
      · cases e
    | _ => simp [tupsD] at e
theorem pairs_rep {H : Hp} {F M : Ads} {t : Bool} : ∀ {xs : List D} {ps : List (D × D)} {vs : List V}, pairs xs = some ps → RepL H F M xs vs → ∃ as : List Addr, vs = as.map V.ref ∧ Paired (fun a p => ∃ k v, H a = some (.tup [k, v]) ∧ Rep H F M p.1 k ∧ Rep H F M p.2 v) as ps
  | [], ps, vs, e, r => by
    simp only [pairs, Option.some.injEq] at e; subst e
    simp only [RepL] at r; subst r
    exact ⟨[], rfl, .nil⟩
  | x :: xs, ps, vs, e, r => by
    unfold pairs at e
    split at e
    · rename_i h; cases h
    · rename_i k v rr h
      cases h
      simp only [Option.map_eq_some_iff] at e
      obtain ⟨qs, e, rfl⟩ := e
      simp only [RepL] at r
      obtain ⟨u, w, rfl, r1, r2⟩ := r
      obtain ⟨as, rfl, P⟩ := pairs_rep (t := t) e r2
      simp only [Rep] at r1
      obtain ⟨a, us, rfl, ha, r1⟩ := r1
      obtain ⟨k', v', rfl, q1, q2⟩ := repL2 r1
      exact ⟨a :: as, rfl, .cons ⟨k', v', ha, q1, q2⟩ P⟩
    · cases e
theorem putAll_rep {H : Hp} {F M : Ads} {κ : Type} [DecidableEq κ] {g : κ → D} (hg : ∀ a b, keq (g a) (g b) = decide (a = b)) : ∀ (ps : List (D × D)) (kvs : List (κ × V)) (acc : List (κ × V)) (ds : List D),
    Paired (fun p kv => p.1 = g kv.1 ∧ Rep H F M p.2 kv.2) ps kvs → RepL H F M ds (acc.map (·.2)) →
    (putAll ps (acc.map (fun p => g p.1), ds)).1 = (kvs.foldl (fun a p => putK a p.1 p.2) acc).map (fun p => g p.1) ∧ RepL H F M (putAll ps (acc.map (fun p => g p.1), ds)).2 ((kvs.foldl (fun a p => putK a p.1 p.2) acc).map (·.2))
  | _, _, acc, ds, .nil, r => ⟨rfl, r⟩
  | p :: ps, kv :: kvs, acc, ds, .cons ⟨h1, h2⟩ t, r => by
    have q := put_k hg kv.1 h2 acc ds r
    simp only [putAll, List.foldl_cons]
    rw [h1]
    have e : put (g kv.1) p.2 (acc.map fun p => g p.1) ds = ((putK acc kv.1 kv.2).map (fun p => g p.1), (put (g kv.1) p.2 (acc.map fun p => g p.1) ds).2) := by rw [← q.1]
    rw [e]
    exact putAll_rep hg ps kvs _ _ t q.2
theorem sort_to {F M : Ads} {H : Hp} {st st' : Sto} {d : D} {Q : VK} {zs ys : List D} {vs : List V} (S : SRx W H F M st) (r1 : RepL H F M zs vs) (h1 : sortL zs = some ys) (e : newL m ys st = (d, st')) (k : PostV W F M H d st' Q) : SortTo H Q vs := by
  unfold sortL at h1
  split at h1
  · rename_i ns h2
    simp only [Option.some.injEq] at h1
    subst h1
    have hv := ints_rep h2 r1
    subst hv
    refine Or.inl ⟨ns, rfl, fun ns' q hq hs hn => ?_⟩
    have es : ns' = ns.mergeSort fun a b => decide (a ≤ b) := by
      have m1 := List.mergeSort_perm ns (fun a b => decide (a ≤ b))
      have m2 := List.pairwise_mergeSort (le := fun a b : Int => decide (a ≤ b)) (fun a b c h g => by simp at *; omega) (fun a b => by simp; omega) ns
      refine List.Perm.eq_of_pairwise (le := fun a b : Int => a ≤ b) (fun a b _ _ h g => Int.le_antisymm h g) hs (m2.imp fun h => by simpa using h) (hq.trans m1.symm)
    subst es
    refine newL_post S (RepL.of_get (by simp) fun i d v g1 g2 => ?_) hn e k
    rw [List.getElem?_map] at g1 g2
    obtain ⟨z, hz, rfl⟩ := Option.map_eq_some_iff.mp g1
    rw [hz] at g2
    simp only [Option.map_some, Option.some.injEq] at g2
    subst g2
    simp only [Rep]
  · split at h1
    · rename_i ts h2
      split at h1
      · rename_i hne
        simp only [Option.some.injEq] at h1
        subst h1
        obtain ⟨rfl, P⟩ := tups_rep h2 r1
        have hk : ∃ kf : V → List Int, ∀ v t, (∃ a, v = V.ref a ∧ H a = some (.tup (t.map V.int))) → kf v = t := by
          refine ⟨fun v => match v with | .ref a => (match H a with | some (.tup us) => us.map (fun | .int i => i | _ => 0) | _ => []) | _ => [], ?_⟩
          rintro v t ⟨a, rfl, ha⟩
          simp only [ha, List.map_map]
          have : ((fun x => match x with | V.int i => i | _ => 0) ∘ V.int) = (id : Int → Int) := rfl
          rw [this, List.map_id]
        obtain ⟨kf, hk⟩ := hk
        have km : vs.map kf = ts := by
          have gen : ∀ {vs : List V} {ts : List (List Int)}, Paired (fun v t => ∃ a, v = V.ref a ∧ H a = some (.tup (t.map V.int))) vs ts → vs.map kf = ts := by
            intro vs ts P
            induction P with
            | nil => rfl
            | cons h t ih => rw [List.map_cons, ih, hk _ _ h]
          exact gen P
        have hx : ∀ x ∈ vs, (∃ t, x = V.ref t ∧ H t = some (.tup ((kf x).map V.int))) ∧ 0 < (kf x).length := by
          intro x hx
          have gen : ∀ {vs : List V} {ts : List (List Int)}, Paired (fun v t => ∃ a, v = V.ref a ∧ H a = some (.tup (t.map V.int))) vs ts → (ts.all fun t => !t.isEmpty) = true → ∀ x ∈ vs, (∃ t, x = V.ref t ∧ H t = some (.tup ((kf x).map V.int))) ∧ 0 < (kf x).length := by
            intro vs ts P
            induction P with
            | nil => intro _ x hx; cases hx
            | cons h t ih =>
              intro hne x hx
              simp only [List.all_cons, Bool.and_eq_true] at hne
              rcases List.mem_cons.mp hx with rfl | hx
              · obtain ⟨a, e1, ha⟩ := h
                have hh := hk _ _ ⟨a, e1, ha⟩
                rw [hh]
                exact ⟨⟨a, e1, ha⟩, by have := hne.1; simp at this; exact List.length_pos_iff.mpr this⟩
              · exact ih hne.2 x hx
          exact gen P hne x hx
        refine Or.inr ⟨kf, hx, fun ws q hs hq hn => ?_⟩
        have es : ws.map kf = ts.mergeSort fun a b => !lexI b a := by
          have m1 := List.mergeSort_perm ts (fun a b => !lexI b a)
          have m2 := List.pairwise_mergeSort (le := fun a b : List Int => !lexI b a) (fun a b c h g => by
            simp only [Bool.not_eq_true'] at *
            exact lexI_tr a b c h g) (fun a b => by
            cases h : lexI b a with
            | false => rfl
            | true => rw [lexI_asym _ _ h]; rfl) ts
          refine List.Perm.eq_of_pairwise (le := fun a b : List Int => lexI b a = false) (fun a b _ _ h g => lexI_antisym g h) ?_ (m2.imp fun h => by simpa using h) ?_
          · exact List.pairwise_map.mpr (hs.imp fun h => h)
          · rw [← km]
            exact (hq.map kf).trans (by rw [km]; exact m1.symm)
        rw [← es] at e
        refine newL_post S (RepL.of_get (by simp) fun i d v g1 g2 => ?_) hn e k
        rw [List.map_map, List.getElem?_map] at g1
        obtain ⟨z, hz, rfl⟩ := Option.map_eq_some_iff.mp g1
        rw [hz] at g2
        simp only [Option.some.injEq] at g2
        subst g2
        obtain ⟨⟨t, e1, ht⟩, _⟩ := hx z (hq.mem_iff.mp (List.mem_of_getElem? hz))
        simp only [Function.comp, Rep]
        refine ⟨t, (kf z).map V.int, e1, ht, RepL.of_get (by simp) fun i d v g1 g2 => ?_⟩
        rw [List.getElem?_map] at g1 g2
        obtain ⟨y, hy, rfl⟩ := Option.map_eq_some_iff.mp g1
        rw [hy] at g2
        simp only [Option.map_some, Option.some.injEq] at g2
        subst g2
        simp only [Rep]
      · cases h1
    · cases h1
theorem cb_all (ok : XOk X c) (b : Bi) : CallR X (biV b) (RB W b m) := by
  intro pins s σ H xs us Q I r ⟨F, M, st, ds, d, st', S, rl, e, k⟩
  unfold bicall at e
  split at e
  case h_1 x =>
    obtain ⟨v, rfl, rx⟩ := repL1 rl
    split at e
    · rename_i z
      split at e
      · rename_i hz
        simp only [Option.some.injEq, Prod.mk.injEq] at e
        obtain ⟨rfl, rfl⟩ := e
        simp only [Rep] at rx
        exact call_len pins s σ H _ us Q I r ⟨v, z.length, rfl, by rw [rx]; exact ⟨lim_line hz, rfl⟩, PostV.here k S (by simp only [Rep])⟩
      · cases e
    · split at e
      · rename_i t ks vs hd
        simp only [Option.some.injEq, Prod.mk.injEq] at e
        obtain ⟨rfl, rfl⟩ := e
        obtain ⟨p, rfl, q⟩ := dctOf_rep S rx hd
        rcases q with ⟨rfl, kvs, h1, rfl, _⟩ | ⟨rfl, kvs, h1, rfl, _⟩
        · exact call_lenR pins s σ H _ us Q I r ⟨p, rfl, .inl ⟨kvs, h1, PostV.here k S (by simp only [Rep, List.length_map])⟩⟩
        · exact call_lenR pins s σ H _ us Q I r ⟨p, rfl, .inr ⟨kvs, h1, PostV.here k S (by simp only [Rep, List.length_map])⟩⟩
      · simp only [Option.map_eq_some_iff, Prod.mk.injEq] at e
        obtain ⟨ys, e, rfl, rfl⟩ := e
        obtain ⟨p, vs, rfl, hp, r1⟩ := seqOf_rep (X := X) S rx e
        exact call_len_seq pins s σ H _ us Q I r ⟨p, vs, rfl, seq_SqT hp, PostV.here k S (by simp only [Rep]; rw [r1.length])⟩
  case h_2 i =>
    obtain ⟨v, rfl, rx⟩ := repL1 rl
    simp only [Option.some.injEq, Prod.mk.injEq] at e
    obtain ⟨rfl, rfl⟩ := e
    simp only [Rep] at rx; subst rx
    exact call_abs pins s σ H _ us Q I r ⟨i, rfl, PostV.here k S (by simp only [Rep])⟩
  case h_3 i =>
    obtain ⟨v, rfl, rx⟩ := repL1 rl
    simp only [Option.some.injEq, Prod.mk.injEq] at e
    obtain ⟨rfl, rfl⟩ := e
    simp only [Rep] at rx; subst rx
    exact call_int1 pins s σ H _ us Q I r (.inl ⟨i, rfl, PostV.here k S (by simp only [Rep])⟩)
  case h_4 i =>
    obtain ⟨v, rfl, rx⟩ := repL1 rl
    simp only [Option.some.injEq, Prod.mk.injEq] at e
    obtain ⟨rfl, rfl⟩ := e
    simp only [Rep] at rx; subst rx
    exact call_int1 pins s σ H _ us Q I r (.inr ⟨i, rfl, PostV.here k S (by simp only [Rep])⟩)
  case h_5 i =>
    obtain ⟨v, rfl, rx⟩ := repL1 rl
    split at e
    · rename_i hz
      simp only [Option.some.injEq, Prod.mk.injEq] at e
      obtain ⟨rfl, rfl⟩ := e
      simp only [Rep] at rx; subst rx
      exact call_str_int pins s σ H _ us Q I r ⟨i, rfl, hz, PostV.here k S (by simp only [Rep])⟩
    · cases e
  case h_6 x =>
    obtain ⟨v, rfl, rx⟩ := repL1 rl
    simp only [Option.bind_eq_some_iff, Option.map_eq_some_iff, Prod.mk.injEq] at e
    obtain ⟨ys, h1, bs, h2, rfl, rfl⟩ := e
    obtain ⟨p, vs, rfl, hp, r1⟩ := lstOf_rep S rx h1
    have hv := bls_rep h2 r1
    subst hv
    exact cr_all ok.calm pins s σ H _ us Q I r ⟨p, bs, rfl, .inl hp, PostV.here k S (by simp only [Rep])⟩
  case h_7 x =>
    obtain ⟨v, rfl, rx⟩ := repL1 rl
    simp only [Option.bind_eq_some_iff, Option.map_eq_some_iff, Prod.mk.injEq] at e
    obtain ⟨ys, h1, bs, h2, rfl, rfl⟩ := e
    obtain ⟨p, vs, rfl, hp, r1⟩ := lstOf_rep S rx h1
    have hv := bls_rep h2 r1
    subst hv
    exact cr_any ok.calm pins s σ H _ us Q I r ⟨p, bs, rfl, .inl hp, PostV.here k S (by simp only [Rep])⟩
  case h_8 x =>
    obtain ⟨v, rfl, rx⟩ := repL1 rl
    simp only [Option.bind_eq_some_iff, Option.map_eq_some_iff, Prod.mk.injEq] at e
    obtain ⟨ys, h1, bs, h2, rfl, rfl⟩ := e
    obtain ⟨t, p, vs, rfl, hp, r1⟩ := seqOf_repA (X := X) S rx h1
    have hv := ints_rep h2 r1
    subst hv
    exact cr_sumA ok.calm pins s σ H _ us Q I r ⟨t, p, bs, rfl, hp, PostV.here k S (by simp only [Rep])⟩
  case h_9 i j =>
    obtain ⟨v, w, rfl, rx, ry⟩ := repL2 rl
    simp only [Option.some.injEq, Prod.mk.injEq] at e
    obtain ⟨rfl, rfl⟩ := e
    simp only [Rep] at rx ry; subst rx; subst ry
    exact call_min2 ok.calm pins s σ H _ us Q I r ⟨i, j, rfl, PostV.here k S (by simp only [Rep])⟩
  case h_10 i j =>
    obtain ⟨v, w, rfl, rx, ry⟩ := repL2 rl
    simp only [Option.some.injEq, Prod.mk.injEq] at e
    obtain ⟨rfl, rfl⟩ := e
    simp only [Rep] at rx ry; subst rx; subst ry
    exact call_max2 ok.calm pins s σ H _ us Q I r ⟨i, j, rfl, PostV.here k S (by simp only [Rep])⟩
  case h_11 x =>
    obtain ⟨v, rfl, rx⟩ := repL1 rl
    simp only [Option.map_eq_some_iff, Prod.mk.injEq] at e
    obtain ⟨y, e, rfl, rfl⟩ := e
    unfold minD at e
    simp only [Option.bind_eq_some_iff] at e
    obtain ⟨ys, h1, e⟩ := e
    split at e
    · rename_i n ns h2
      simp only [Option.some.injEq] at e
      subst e
      obtain ⟨t, p, vs, rfl, hp, r1⟩ := seqOf_repA (X := X) S rx h1
      have hv := ints_rep h2 r1
      subst hv
      refine cr_minA ok.calm pins s σ H _ us Q I r ⟨t, p, n :: ns, rfl, hp, by simp, fun q hq hle => ?_⟩
      have f := foldl_min n ns
      have e1 : q = ns.foldl min n := Int.le_antisymm (hle _ f.1) (f.2 q hq)
      exact PostV.here k S (by simp only [Rep]; rw [e1])
    · cases e
    · split at e
      · rename_i z zs ls hl hl0
        split at e
        · rename_i hc
          simp only [Option.some.injEq] at e
          subst e
          simp only [Bool.and_eq_true] at hc
          have el := (lstOf_seq hl).symm.trans h1
          simp only [Option.some.injEq] at el
          subst el
          obtain ⟨p, vs, rfl, hp, r1⟩ := lstOf_rep S rx hl
          have hf := ok_flat hc.1
          have hs := shaped_lay hf.2
          have hd := dp_all (X := X) _ _ (show flatL (z :: zs) = true from hf.1) r1
          have hpair : ∀ x ∈ pyL (z :: zs), ∀ y ∈ pyL (z :: zs), (ltP x y).isSome = true := fun x hx y hy => by
            obtain ⟨x', hx', rfl⟩ := pyL_mem hx
            obtain ⟨y', hy', rfl⟩ := pyL_mem hy
            rw [ltP_py]
            have q := hc.2
            unfold cmpA at q
            exact List.all_eq_true.mp (List.all_eq_true.mp q x' hx') y' hy'
          have en : (pyL (z :: zs)).length = zs.length + 1 := by rw [pyL_map]; simp
          refine cr_minD ok.calm (by have := ok.un; omega) pins s σ H _ us Q I r ⟨p, vs, pyL (z :: zs), rfl, .inl hp, hd, by have := hs.1; simpa [D.py, PyData.canLay0] using this, by have := hs.2; simp only [D.py, PyData.depth] at this; omega, by omega, hpair, fun w hw => ?_⟩
          have ef : (fun i j => (ltP ((pyL (z :: zs)).getD i .none) ((pyL (z :: zs)).getD j .none)).getD false) = (fun i j => (fun a b => (ltD a b).getD false) ((z :: zs).getD i .non) ((z :: zs).getD j .non)) := by
            funext i j
            rw [pyL_getD, pyL_getD, ltP_py]
          rw [ef, en, Nat.add_sub_cancel] at hw
          have ab := PySem.W.argBest_fold (fun a b => (ltD a b).getD false) D.non z zs zs.length (Nat.le_refl _)
          rw [List.take_length] at ab
          obtain ⟨w', hw', rw'⟩ := r1.get (i := argBest (fun i j => (fun a b => (ltD a b).getD false) ((z :: zs).getD i .non) ((z :: zs).getD j .non)) zs.length) (d := minT z zs) (by
            have h1 := ab.1
            have h2 := ab.2
            rw [List.getD_eq_getElem?_getD, List.getElem?_eq_getElem (by simp only [List.length_cons]; omega)] at h2
            rw [List.getElem?_eq_getElem (by simp only [List.length_cons]; omega)]
            simp only [Option.getD_some] at h2
            rw [h2]; rfl)
          rw [hw] at hw'
          cases hw'
          exact PostV.here k S rw'
        · cases e
      · cases e
  case h_12 x =>
    obtain ⟨v, rfl, rx⟩ := repL1 rl
    simp only [Option.bind_eq_some_iff] at e
    obtain ⟨ys, h1, e⟩ := e
    split at e
    · rename_i n ns h2
      simp only [Option.some.injEq, Prod.mk.injEq] at e
      obtain ⟨rfl, rfl⟩ := e
      obtain ⟨t, p, vs, rfl, hp, r1⟩ := seqOf_repA (X := X) S rx h1
      have hv := ints_rep h2 r1
      subst hv
      refine cr_maxA ok.calm pins s σ H _ us Q I r ⟨t, p, n :: ns, rfl, hp, by simp, fun q hq hle => ?_⟩
      have f := foldl_max n ns
      have e1 : q = ns.foldl max n := Int.le_antisymm (f.2 q hq) (hle _ f.1)
      exact PostV.here k S (by simp only [Rep]; rw [e1])
    · cases e
  case h_13 x =>
    obtain ⟨v, rfl, rx⟩ := repL1 rl
    simp only [Option.map_eq_some_iff, Prod.mk.injEq] at e
    obtain ⟨ys, h1, rfl, rfl⟩ := e
    obtain ⟨p, vs, rfl, hp, r1⟩ := seqOf_rep (X := X) S rx h1
    rcases hp with hp | hp
    · exact call_tuple_of pins s σ H _ us Q I r ⟨p, vs, rfl, .inl ⟨hp, fun w hw => newT_post S r1 hw k⟩⟩
    · exact call_tuple_of pins s σ H _ us Q I r ⟨p, vs, rfl, .inr ⟨SqT.of hp, PostV.here k S (by simp only [Rep]; exact ⟨p, vs, rfl, hp, r1⟩)⟩⟩
  case h_14 x =>
    obtain ⟨v, rfl, rx⟩ := repL1 rl
    simp only [Option.map_eq_some_iff] at e
    obtain ⟨ys, h1, e⟩ := e
    obtain ⟨p, vs, rfl, hp, r1⟩ := seqOf_rep (X := X) S rx h1
    exact call_list_of pins s σ H _ us Q I r ⟨p, vs, rfl, seq_SqT hp, fun w hw => newL_post S r1 hw e k⟩
  case h_15 x =>
    obtain ⟨v, rfl, rx⟩ := repL1 rl
    simp only [Option.map_eq_some_iff] at e
    obtain ⟨ys, h1, e⟩ := e
    unfold sortD at h1
    simp only [Option.bind_eq_some_iff] at h1
    obtain ⟨zs, hz, h1⟩ := h1
    unfold seqK at hz
    split at hz
    · rename_i t ks ws hd
      simp only [Option.some.injEq] at hz; subst hz
      obtain ⟨p, rfl, q⟩ := dctOf_rep S rx hd
      rcases q with ⟨rfl, kvs, q1, rfl, _⟩ | ⟨rfl, kvs, q1, rfl, _⟩
      · exact cr_sortedAny ok.calm pins s σ H _ us Q I r ⟨p, rfl, .inr (.inl ⟨kvs, q1, sort_to S (keys_repK kvs) h1 e k⟩)⟩
      · exact cr_sortedAny ok.calm pins s σ H _ us Q I r ⟨p, rfl, .inr (.inr ⟨kvs, q1, fun bs hb => sort_to S (keys_repT hb) h1 e k⟩)⟩
    · obtain ⟨p, vs, rfl, hp, r1⟩ := lstOf_rep S rx hz
      exact cr_sortedAny ok.calm pins s σ H _ us Q I r ⟨p, rfl, .inl ⟨vs, .inl hp, sort_to S r1 h1 e k⟩⟩
  case h_16 x =>
    obtain ⟨v, rfl, rx⟩ := repL1 rl
    simp only [Option.bind_eq_some_iff] at e
    obtain ⟨ys, h1, e⟩ := e
    split at e
    · rename_i ps h2
      split at e
      · rename_i hk
        simp only [Option.some.injEq] at e
        obtain ⟨p, vs, rfl, hp, r1⟩ := lstOf_rep S rx h1
        obtain ⟨as, rfl, P⟩ := pairs_rep (t := true) h2 r1
        have : ∃ kvs : List (List L2.Key × V), Paired (fun p kv => p.1 = D.tup (kv.1.map keyD) ∧ Rep H F M p.2 kv.2) ps kvs ∧ Paired (fun p kv => ∃ b, SqT X.K H p [.ref b, kv.2] ∧ H b = some (.tup (kv.1.map kV))) as kvs := by
          clear r1 h2 hp e r rx
          induction P with
          | nil => exact ⟨[], .nil, .nil⟩
          | cons h t ih =>
            simp only [List.all_cons, Bool.and_eq_true] at hk
            obtain ⟨kvs, i1, i2⟩ := ih hk.2
            obtain ⟨k0, v0, h0, q1, q2⟩ := h
            obtain ⟨b, ks, e1, rfl, hb⟩ := isKey_t hk.1 q1
            exact ⟨(ks, v0) :: kvs, .cons ⟨e1, q2⟩ i1, .cons ⟨b, SqT.of h0, hb⟩ i2⟩
        obtain ⟨kvs, P1, P2⟩ := this
        refine cr_dictT ok.calm (by have := ok.un; omega) pins s σ H _ us Q I r ⟨p, as, kvs, rfl, .inl hp, P2, fun w hw => ?_⟩
        have q := putAll_rep (g := fun ks : List L2.Key => D.tup (ks.map keyD)) keq_tup ps kvs [] [] P1 (by simp only [List.map_nil, RepL])
        simp only [List.map_nil] at q
        exact newD_post S hw (.inr ⟨rfl, mergeT [] kvs, rfl, q.1, q.2⟩) e k
      · cases e
    · cases e
  case h_17 x =>
    obtain ⟨v, rfl, rx⟩ := repL1 rl
    simp only [Option.bind_eq_some_iff] at e
    obtain ⟨ys, h1, e⟩ := e
    split at e
    · rename_i ps h2
      split at e
      · rename_i hk
        simp only [Option.some.injEq] at e
        obtain ⟨p, vs, rfl, hp, r1⟩ := lstOf_rep S rx h1
        obtain ⟨as, rfl, P⟩ := pairs_rep (t := true) h2 r1
        have : ∃ kvs : List (L2.Key × V), Paired (fun p kv => p.1 = keyD kv.1 ∧ Rep H F M p.2 kv.2) ps kvs ∧ Paired (fun p kv => SqT X.K H p [kV kv.1, kv.2]) as kvs := by
          clear r1 h2 hp e r rx
          induction P with
          | nil => exact ⟨[], .nil, .nil⟩
          | cons h t ih =>
            simp only [List.all_cons, Bool.and_eq_true] at hk
            obtain ⟨kvs, i1, i2⟩ := ih hk.2
            obtain ⟨k0, v0, h0, q1, q2⟩ := h
            obtain ⟨ky, e1, rfl⟩ := isKey_k hk.1 q1
            exact ⟨(ky, v0) :: kvs, .cons ⟨e1, q2⟩ i1, .cons (SqT.of h0) i2⟩
        obtain ⟨kvs, P1, P2⟩ := this
        refine call_dictP ok.calm pins s σ H _ us Q I r ⟨p, as, kvs, rfl, .inl hp, P2, fun w hw => ?_⟩
        have q := putAll_rep (g := keyD) keq_keyD ps kvs [] [] P1 (by simp only [List.map_nil, RepL])
        simp only [List.map_nil] at q
        exact newD_post S hw (.inl ⟨rfl, mergeK [] kvs, rfl, q.1, q.2⟩) e k
      · cases e
    · cases e
  case h_18 dd _ =>
    obtain ⟨v, rfl, rx⟩ := repL1 rl
    unfold strD at e
    split at e
    · simp only [Option.some.injEq, Prod.mk.injEq] at e
      obtain ⟨rfl, rfl⟩ := e
      simp only [Rep] at rx; subst rx
      obtain ⟨u, rfl, ru⟩ := vals1 r
      cases ru
      exact PySem.P.str_of_none ⟨.str _, H, I.tok _, ⟨_, rfl⟩, PostV.here k S (by simp only [Rep])⟩
    · rename_i b0 _
      simp only [Option.some.injEq, Prod.mk.injEq] at e
      obtain ⟨rfl, rfl⟩ := e
      simp only [Rep] at rx; subst rx
      obtain ⟨u, rfl, ru⟩ := vals1 r
      cases ru
      refine PySem.P.str_of_bool ⟨.str _, H, I.tok _, ⟨_, rfl⟩, PostV.here k S ?_⟩
      cases b0 <;> simp only [Rep] <;> rfl
    · simp only [Option.some.injEq, Prod.mk.injEq] at e
      obtain ⟨rfl, rfl⟩ := e
      simp only [Rep] at rx; subst rx
      obtain ⟨u, rfl, t, rfl⟩ := vals1 r
      exact PySem.P.str_of_str ⟨.str _, H, I, ⟨_, rfl⟩, PostV.here k S (by simp only [Rep])⟩
    · split at e
      · cases e
      · rename_i hnp
        simp only [Option.bind_eq_some_iff] at e
        obtain ⟨e', he, e⟩ := e
        split at e
        · rename_i hc
          simp only [Bool.and_eq_true, decide_eq_true_eq] at hc
          simp only [Option.some.injEq, Prod.mk.injEq] at e
          obtain ⟨rfl, rfl⟩ := e
          have hf := (ok_flat hc.1.1)
          have dp := deref_dp (X := X) S rx he hf.1
          obtain ⟨u, rfl, ru⟩ := vals1 r
          obtain ⟨as, hr⟩ := Dp.reads I _ _ _ dp ru
          obtain ⟨a, rfl⟩ : ∃ a, v = .ref a := by
            cases dd with
            | tup xs => simp only [Rep] at rx; obtain ⟨a, _, rfl, _⟩ := rx; exact ⟨a, rfl⟩
            | lst xs => simp only [Rep] at rx; obtain ⟨a, _, rfl, _⟩ := rx; exact ⟨a, rfl⟩
            | dct t ks xs => cases t <;> simp only [Rep] at rx <;> obtain ⟨a, rfl, _⟩ := rx <;> exact ⟨a, rfl⟩
            | ref n => simp only [Rep] at rx; obtain ⟨a, rfl, _⟩ := rx; exact ⟨a, rfl⟩
            | _ => exact absurd rfl hnp
          cases ru
          have hdp := PySem.SeqAt.depth_of_shaped hf.2
          have hun := ok.un
          exact str_of_reads hr hc.1.2 (PyData.noDict_hsm (flat_noDict _ hf.1)) ok.gd (by omega) (fun _ _ h => h) (fun h' u tk hk => ⟨.str _, H, I.kept hk, ⟨_, rfl⟩, PostV.here k S (by simp only [Rep])⟩) (lim_line hc.2)
        · cases e
  case h_19 => cases e
theorem biT_boot {x : Str} {b : Bi} (h : biT.lookup x = some b) : bootBuiltins x = some (biV b) ∧ x ∈ freeNames := by
  simp only [biT] at h
  iterate 14 (unfold List.lookup at h; split at h; · (rename_i e; have e := eq_of_beq e; subst e; cases h; exact ⟨by decide +kernel, by decide +kernel⟩))
  cases h
theorem pe_callV {v : Value} {r : List V → Hp → VK → Prop} {x : Str} {np : Pos} {es : List Expr} {t : TA} (hv' : (∃ id, v = .builtin id) ∨ ∃ T, v = .type T) (hc : CallR X v r) (hg : Gl X x) (hm : X.mg x = none) (hv : bootBuiltins x = some v) (ha : PA X (e :: es) t) (hn : x ≠ "__name__") (hdb : (x == ("__debug__" : Str)) = false)
    (he : starEach (e :: es) X.env = (false, eval e X.env) :: starEach es X.env) (hpl : (backTo pos (starEach es X.env)).any (·.1) = false) : PE X (.Call (.Name x np) (e :: es) [] pos) (tCB r t) := by
  rcases hv' with ⟨id, rfl⟩ | ⟨T, rfl⟩
  · exact pe_callB hc hg hm hv ha hn hdb he hpl
  · exact pe_callTy hc hg hm hv ha hn hdb he hpl
theorem biV_kind (b : Bi) : (∃ id, biV b = .builtin id) ∨ ∃ T, biV b = .type T := by
  cases b <;> first | exact .inl ⟨_, rfl⟩ | exact .inr ⟨_, rfl⟩
theorem biT_dict (b : Bi) (q : Bool) : biV (if b = .dict && q then .dictT else b) = biV b := by
  cases b <;> cases q <;> rfl
theorem sE_bi (ok : XOk X c) {x : Str} {b b0 : Bi} {np : Pos} {es : List Expr} {is : List IE} (hg : glB c.sc x = true) (hb : biT.lookup x = some b0) (hbb : biV b = biV b0) (hp : (e :: es).all plainE = true) (ha : PA X (e :: es) (REs W is)) :
    PE X (.Call (.Name x np) (e :: es) [] pos) (RE W (.bi b m is)) := by
  refine ⟨fun pins s σ H Q I ⟨F, M, env, st, d, st', En, S, ev, k⟩ => ?_⟩
  simp only [evE] at ev
  split at ev
  · rename_i ds st1 e1
    obtain ⟨h1, h2⟩ := biT_boot hb
    rw [← hbb] at h1
    have hp' := hp
    simp only [List.all_cons, Bool.and_eq_true] at hp'
    refine (pe_callV (biV_kind b) (cb_all (W := W) (m := m) ok b) (ok.gl hg) (ok.free x h2) h1 ha (glB_gl hg).2.2 (nmOk_d (glB_gl hg).2.1).1 (star_plain _ hp'.1) (star_none es hp'.2)).run pins s σ H Q I ?_
    exact ⟨F, M, env, st, ds, st1, En, S, e1, fun F' M' H' vs l S' r => ⟨F', M', st1, ds, d, st', S', r, ev, l.post k⟩⟩
  · cases ev
end
end Pm

/-! Pm, part B9: methods of lists. -/
namespace Pm
open PySem PySem.Spec L2
open PyProof.Rows hiding St
section
open AutoSeq1
/-- a list made longer by a tuple's items, whatever the tuple bears beside them -/
theorem ext_tup (l : Addr) (items : Array Value) (n : Nat) (b : Addr) (items2 : Array Value) (n2 : Nat) (dd : Option Addr) (sl : Array (Option Value))
    (hs0 : ¬(!items.isEmpty && Builtin.List.listTooLong (items.size + items2.size)) = true) (hs1 : items.size ≤ sizeLine) (hs2 : items.size + items2.size ≤ sizeLine + 1) :
    Meets (Builtin.«list.extend» ⟨[.ref l, .ref b], []⟩) (fun _ R s => s.heap.get? l = some { cls := .type "list", data := .seq items n } ∧
      s.heap.get? b = some { cls := .type "tuple", dict := dd, data := .seq items2 n2, slots := sl } ∧
      R (.ok (.ret Value.none)) { s with heap := s.heap.update l (Obj.mapSeq fun x => x ++ items2), toks := s.toks }) :=
  .of_wp fun prog w A R s h => by
    obtain ⟨hp, g, d, tk, os⟩ := s
    obtain ⟨hl, hb, h⟩ := h
    have f1 := AutoSeq1.idx_int
    have f2 := AutoSeq1.sub_tuple_tuple
    have f3 := AutoSeq1.sub_list_list
    have f4 := AutoSeq1.sub_tuple_list
    have f5 := AutoSeq1.sub_list_tuple
    have hz : (items ++ items2).size ≤ sizeLine + 1 := by rw [Array.size_append]; exact hs2
    wp_walk using (wpAny_updateSeq hl rfl (hz := hs1) (_hz' := hz)), wpAny_loadPart' hl, wpAny_loadPart' hb
    exact ⟨_, rfl, h⟩
end
section
variable {X : Cx} {W : Wd} {c : TC} {G : GT} {a b e d' o : Expr} {ia ib ic ie io : IE} {pos p2 : Pos} {m : Bool} {ta tb : Ts} {F M : Ads} {H : Hp} {st st' : Sto} {d : D}
theorem mt_extendT : MtR X "list.extend" (fun x vs H Q => ∃ l b xs zs, x = .ref l ∧ vs = [.ref b] ∧ H l = some (.lst xs) ∧ H b = some (.tup zs) ∧ xs.length + zs.length ≤ sizeLine ∧ Q .non (upd H l (.lst (xs ++ zs)))) := by
  intro pins s σ H x vs v us Q I rx rv ⟨l, b, xs, zs, ex, ev, hH, hB, hz, q⟩
  subst ex; subst ev
  cases rx
  obtain ⟨u, rfl, ru⟩ := rv.one
  cases ru
  obtain ⟨z, its, n, r, hl, e⟩ := I.lstM hH
  obtain ⟨its2, r2, ⟨⟨oc, od, dt, sl⟩, e2, c2, n2, d2⟩, z2⟩ := I.tuple (SqT.of hB)
  simp only at c2 d2
  subst c2; subst d2
  have l2 := r2.length
  have hsz : its.toArray.size + its2.toArray.size ≤ sizeLine := by simp only [List.size_toArray]; omega
  have hlong : ¬ (!its.toArray.isEmpty && Builtin.List.listTooLong (its.toArray.size + its2.toArray.size)) = true := by rw [notLongL hsz]; simp
  refine call_meets F.slot_list_extend ⟨_, e, rfl⟩ F.entry_list_extend (F.args_list_extend_2 _ _) (ext_tup l its.toArray n b its2.toArray n2 od sl hlong (by simp only [List.size_toArray]; omega) (by omega)) ⟨e, e2, ?_⟩
  exact ⟨.non, _, I.lset (its' := its ++ its2) hH e (by simp) (r.append r2) (by rw [List.length_append]; omega), rfl, q⟩
theorem mt_extendR : MtR X "list.extend" (fun x vs H Q => ∃ l b xs zs, x = .ref l ∧ vs = [.ref b] ∧ H l = some (.lst xs) ∧ Rd H b (.lst zs) ∧ xs.length + zs.length ≤ sizeLine ∧ Q .non (upd H l (.lst (xs ++ zs)))) := by
  intro pins s σ H x vs v us Q I rx rv ⟨l, b, xs, zs, ex, ev, hH, hB, hz, q⟩
  subst ex; subst ev
  cases rx
  obtain ⟨u, rfl, ru⟩ := rv.one
  cases ru
  obtain ⟨z, its, n, r, hl, e⟩ := I.lstM hH
  obtain ⟨z2, its2, n2, r2, e2⟩ := Inv.lstR I hB
  have l2 := r2.length
  have hsz : its.toArray.size + its2.toArray.size ≤ sizeLine := by simp only [List.size_toArray]; omega
  have hlong : ¬ (!its.toArray.isEmpty && Builtin.List.listTooLong (its.toArray.size + its2.toArray.size)) = true := by rw [notLongL hsz]; simp
  refine call_meets F.slot_list_extend ⟨_, e, rfl⟩ F.entry_list_extend (F.args_list_extend_2 _ _) (AutoSeq1.list_extend_list_list_0 l its.toArray n b its2.toArray n2 hlong (by simp only [List.size_toArray]; omega) (by omega)) ⟨e, e2, ?_⟩
  exact ⟨.non, _, I.lset (its' := its ++ its2) hH e (by simp) (r.append r2) (by rw [List.length_append]; omega), rfl, q⟩
/-- a list of the store written -/
theorem setL_post {n : Nat} {p : Addr} {vs vs' : List V} {xs' : List D} {v : V} {Q : VK} (S : SRx W H F M st) (hn : M[n]? = some p) (h : H p = some (.lst vs)) (r : RepL H F M xs' vs') (rd : Rep H F M d v)
    (k : PostV W F M H d (st.set n (.lst xs')) Q) : Q v (upd H p (.lst vs')) := by
  have l := Le.write (o := .lst vs') F M (List.mem_of_getElem? hn) h (fun _ z => nomatch z) (fun _ _ z => nomatch z)
  exact k F M _ v l (S.write hn h (fun _ z => nomatch z) (fun _ _ z => nomatch z) ⟨vs', upd_same, r.le l S.mf⟩) (rd.le l S.mf)
def bmId : Bm → String
  | .append => "list.append" | .extend => "list.extend" | .insert => "list.insert" | .pop => "list.pop" | .reverse => "list.reverse" | .remove => "list.remove" | _ => "list.append"
def RM (W : Wd) (b : Bm) (m : Bool) : V → List V → Hp → VK → Prop := fun x xs H Q => ∃ F M st o ds d st', SRx W H F M st ∧ Rep H F M o x ∧ RepL H F M ds xs ∧ bmcall b m o ds st = some (d, st') ∧ PostV W F M H d st' Q
theorem mt_all (b : Bm) (hb : b = .append ∨ b = .extend ∨ b = .insert ∨ b = .pop ∨ b = .reverse ∨ b = .remove) : MtR X (bmId b) (RM W b m) := by
  intro pins s σ H x xs v us Q I rx rs ⟨F, M, st, o, ds, d, st', S, ro, rl, e, k⟩
  unfold bmcall at e
  split at e
  · rename_i n
    simp only [Rep] at ro
    obtain ⟨p, rfl, hm⟩ := ro
    split at e
    · rename_i ys y hx
      obtain ⟨vs, hp, r⟩ := S.obs n _ p hx hm
      split at e
      · rename_i hz
        simp only [Option.some.injEq, Prod.mk.injEq] at e
        obtain ⟨rfl, rfl⟩ := e
        obtain ⟨w, rfl, rw'⟩ := repL1 rl
        have hl := r.length
        have hlt : vs.length < sizeLine := by rw [← hl]; exact Nat.lt_of_lt_of_le hz (by decide)
        exact mt_append pins s σ H _ _ v us Q I rx rs ⟨p, vs, w, rfl, rfl, hp, hlt, setL_post S hm hp (r.append (.cons rw' .nil)) (by simp only [Rep]) k⟩
      · cases e
    · rename_i ys y hx
      obtain ⟨vs, hp, r⟩ := S.obs n _ p hx hm
      simp only [Option.bind_eq_some_iff] at e
      obtain ⟨zs, hz, e⟩ := e
      split at e
      · rename_i hlen
        simp only [Option.some.injEq, Prod.mk.injEq] at e
        obtain ⟨rfl, rfl⟩ := e
        obtain ⟨w, rfl, rw'⟩ := repL1 rl
        have hl := r.length
        cases y with
        | tup ts =>
          simp only [seqOf, Option.some.injEq] at hz; subst hz
          simp only [Rep] at rw'
          obtain ⟨t, ws, rfl, ht, r2⟩ := rw'
          have hl2 := r2.length
          exact mt_extendT pins s σ H _ _ v us Q I rx rs ⟨p, t, vs, ws, rfl, rfl, hp, ht, by rw [← hl, ← hl2]; exact lim_line hlen, setL_post S hm hp (r.append r2) (by simp only [Rep]) k⟩
        | lst ts =>
          obtain ⟨t, ws, rfl, ht, r2⟩ := lstOf_rep (xs := zs) S rw' (by simpa [lstOf, seqOf] using hz)
          have hl2 := r2.length
          · exact mt_extendR pins s σ H _ _ v us Q I rx rs ⟨p, t, vs, ws, rfl, rfl, hp, ht, by rw [← hl, ← hl2]; exact lim_line hlen, setL_post S hm hp (r.append r2) (by simp only [Rep]) k⟩
        | ref q =>
          obtain ⟨t, ws, rfl, ht, r2⟩ := lstOf_rep (xs := zs) S rw' (by simpa [lstOf, seqOf] using hz)
          have hl2 := r2.length
          · exact mt_extendR pins s σ H _ _ v us Q I rx rs ⟨p, t, vs, ws, rfl, rfl, hp, ht, by rw [← hl, ← hl2]; exact lim_line hlen, setL_post S hm hp (r.append r2) (by simp only [Rep]) k⟩
        | _ => simp [seqOf] at hz
      · cases e
    · rename_i ys i y hx
      obtain ⟨vs, hp, r⟩ := S.obs n _ p hx hm
      split at e
      · rename_i hz
        simp only [Bool.and_eq_true, decide_eq_true_eq] at hz
        simp only [Option.some.injEq, Prod.mk.injEq] at e
        obtain ⟨rfl, rfl⟩ := e
        obtain ⟨w, w2, rfl, r1, r2⟩ := repL2 rl
        simp only [Rep] at r1; subst r1
        have hl := r.length
        have hlt : vs.length < sizeLine := by rw [← hl]; exact Nat.lt_of_lt_of_le hz.1.1 (by decide)
        exact mt_insert pins s σ H _ _ v us Q I rx rs ⟨p, vs, i, w2, rfl, rfl, hp, hlt, hz.1.2, by omega, setL_post S hm hp (((r.take _).append (.cons r2 .nil)).append (r.drop _)) (by simp only [Rep]) k⟩
      · cases e
    · rename_i ys hx
      obtain ⟨vs, hp, r⟩ := S.obs n _ p hx hm
      simp only [Option.map_eq_some_iff, Prod.mk.injEq] at e
      obtain ⟨y, hy, rfl, rfl⟩ := e
      simp only [RepL] at rl; subst rl
      obtain ⟨w, hw, rw'⟩ := r.get hy
      have hdl : RepL H F M ys.dropLast vs.dropLast := by
        rw [List.dropLast_eq_take, List.dropLast_eq_take, ← r.length]; exact r.take _
      exact mt_pop pins s σ H _ _ v us Q I rx rs ⟨p, vs, w, rfl, rfl, hp, by rw [← r.length]; exact hw, setL_post S hm hp hdl rw' k⟩
    · rename_i ys i hx
      obtain ⟨vs, hp, r⟩ := S.obs n _ p hx hm
      simp only [Option.bind_eq_some_iff, Option.map_eq_some_iff, Prod.mk.injEq] at e
      obtain ⟨j, hj, y, hy, rfl, rfl⟩ := e
      obtain ⟨w0, rfl, r0⟩ := repL1 rl
      simp only [Rep] at r0; subst r0
      obtain ⟨w, hw, rw'⟩ := r.get hy
      rw [ixN_eq] at hj
      obtain ⟨h1, h2, h3, h4⟩ := ixN_seq hj
      have hz := (I.lstM hp).1
      have hl := r.length
      have hs : (sizeLine : Nat) < 2 ^ 62 := by decide
      exact mt_popAt pins s σ H _ _ v us Q I rx rs ⟨p, vs, i, j, w, rfl, rfl, hp, by omega, by omega, by rw [← hl]; exact h1, hw, setL_post S hm hp (r.erase j) rw' k⟩
    · rename_i ys kk hx
      obtain ⟨vs, hp, r⟩ := S.obs n _ p hx hm
      split at e
      · rename_i ns hns
        split at e
        · rename_i hc
          simp only [Option.some.injEq, Prod.mk.injEq] at e
          obtain ⟨rfl, rfl⟩ := e
          obtain ⟨w0, rfl, r0⟩ := repL1 rl
          simp only [Rep] at r0; subst r0
          have hv := ints_rep hns r
          subst hv
          have hmem : kk ∈ ns := by simpa using hc
          have key : ∀ l : List Int, kk ∈ l → ∃ j : Nat, l[j]? = some kk ∧ (∀ m : Nat, m < j → l[m]? ≠ some kk) ∧ l.eraseIdx j = l.erase kk := by
            intro l
            induction l with
            | nil => intro h; cases h
            | cons z l ih =>
              intro h
              by_cases hz : z = kk
              · subst hz; exact ⟨0, rfl, fun m hm => absurd hm (by omega), by simp⟩
              · obtain ⟨j, h1, h2, h3⟩ := ih (by rcases List.mem_cons.mp h with h | h; exact absurd h.symm hz; exact h)
                refine ⟨j + 1, by simpa using h1, fun m hm => ?_, ?_⟩
                · cases m with
                  | zero => simpa using hz
                  | succ m => simpa using h2 m (by omega)
                · rw [List.eraseIdx_cons_succ, h3, List.erase_cons_tail (by simpa using hz)]
          obtain ⟨j, h1, h2, h3⟩ := key ns hmem
          refine mt_remove pins s σ H _ _ v us Q I rx rs ⟨p, ns, kk, j, rfl, rfl, hp, h1, h2, ?_⟩
          rw [h3]
          exact setL_post S hm hp (RepL.of_get (by simp) fun i d v g1 g2 => by
            rw [List.getElem?_map] at g1 g2
            obtain ⟨z, hz, rfl⟩ := Option.map_eq_some_iff.mp g1
            rw [hz] at g2
            simp only [Option.map_some, Option.some.injEq] at g2
            subst g2
            simp only [Rep]) (by simp only [Rep]) k
        · cases e
      · cases e
    · rename_i ys hx
      obtain ⟨vs, hp, r⟩ := S.obs n _ p hx hm
      simp only [Option.some.injEq, Prod.mk.injEq] at e
      obtain ⟨rfl, rfl⟩ := e
      simp only [RepL] at rl; subst rl
      exact mt_reverse pins s σ H _ _ v us Q I rx rs ⟨p, vs, rfl, rfl, hp, setL_post S hm hp r.reverse (by simp only [Rep]) k⟩
    · cases e
  · cases e

theorem attr_plain {o : Expr} {f : Str} {env : PySem.Env} (h : plainE o = true) (hc : ∀ g as ks p, o ≠ .Call g as ks p) : attributeBase o f env (eval o env) = eval o env := by
  cases o <;> first | rfl | exact absurd rfl (hc _ _ _ _)
theorem attr_ok {o : Expr} {f : Str} {env : PySem.Env} (h : notSuper o = true) : attributeBase o f env (eval o env) = eval o env := by
  unfold attributeBase
  split
  · simp [notSuper] at h
  · rfl
def bm5 (b : Bm) : Bool := match b with
  | .append => true | .extend => true | .insert => true | .pop => true | .reverse => true | .remove => true | _ => false
theorem bm5_or {b : Bm} (h : bm5 b = true) : b = .append ∨ b = .extend ∨ b = .insert ∨ b = .pop ∨ b = .reverse ∨ b = .remove := by
  cases b <;> simp [bm5] at h <;> simp
theorem bmT_facts {x : Str} {b : Bm} (h : bmT.lookup x = some b) (h5 : bm5 b = true) : PlainAttrs "list" ∧ Slot "list" x (bmId b) ∧ typeOf (.builtin (bmId b)) = pure (.type "method_descriptor") := by
  simp only [bmT] at h
  iterate 15 (unfold List.lookup at h; split at h; · (rename_i e; have e := eq_of_beq e; subst e; cases h; first
    | exact ⟨PySem.F.plainAttrs_list, PySem.F.slot_list_append, PySem.F.type_list_append⟩
    | exact ⟨PySem.F.plainAttrs_list, PySem.F.slot_list_extend, PySem.F.type_list_extend⟩
    | exact ⟨PySem.F.plainAttrs_list, PySem.F.slot_list_insert, PySem.F.type_list_insert⟩
    | exact ⟨PySem.F.plainAttrs_list, PySem.F.slot_list_pop, PySem.F.type_list_pop⟩
    | exact ⟨PySem.F.plainAttrs_list, PySem.F.slot_list_reverse, PySem.F.type_list_reverse⟩
    | exact ⟨PySem.F.plainAttrs_list, PySem.F.slot_list_remove, PySem.F.type_list_remove⟩
    | simp [bm5] at h5))
  cases h
theorem bmcall_lst {b : Bm} {o : D} {ds : List D} {r : D × Sto} (e : bmcall b m o ds st = some r) (h5 : bm5 b = true) : rkind st o = 1 := by
  unfold bmcall at e
  split at e
  · rename_i n
    split at e
    all_goals first | (simp only [rkind, lstOf]; simp_all; done) | (cases e; done)
  · cases e
theorem bmcall_5 {b : Bm} {o : D} {ds : List D} {r : D × Sto} (e : bmcall b m o ds st = some r) : bm5 b = true := by
  unfold bmcall at e
  split at e
  · split at e <;> first | rfl | cases e
  · cases e
theorem rkind_lst {K : PySem.W.Frag} {o : D} {v : V} (S : SRx W H F M st) (r : Rep H F M o v) (h : rkind st o = 1) : tyV K "list" v H := by
  unfold rkind at h
  split at h
  · rename_i xs hx
    obtain ⟨p, vs, rfl, hp, _⟩ := lstOf_rep S r hx
    exact .inl ⟨rfl, vs, .inl hp⟩
  · split at h
    · cases h
    · split at h <;> cases h
theorem sE_bm {x : Str} {b : Bm} {apos : Pos} {es : List Expr} {is : List IE} (hline : (apos.endLine == pos.line) = true) (hfew : es.length < 20) (hs : notSuper o = true) (hb : bmT.lookup x = some b) (hp : es.all plainE = true) (hil : es = [] → is = [])
    (ho : PE X o (RE W io)) (ha : PA X es (REs W is)) : PE X (.Call (.Attribute o x apos) es [] pos) (RE W (.bm b m io is)) := by
  refine ⟨fun pins s σ H Q I ⟨F, M, env, st, d, st', En, S, e, k⟩ => ?_⟩
  simp only [evE] at e
  split at e
  · rename_i y st1 e1
    split at e
    · rename_i ds st2 e2
      split at e
      · rename_i hk
        have h5 := bmcall_5 e
        obtain ⟨f1, f2, f3⟩ := bmT_facts hb h5
        have hk1 : rkind st1 y = 1 := hk.trans (bmcall_lst e h5)
        cases es with
        | nil =>
          refine (pe_bm0 f1 f2 f3 (mt_all (W := W) (m := m) b (bm5_or h5)) ho (attr_ok hs) hline).run pins s σ H Q I (.mk En S e1 fun F' M' H' v l S' r => ⟨rkind_lst S' r hk1, ?_⟩)
          have hds : ds = [] ∧ st2 = st1 := by
            have h0 := hil rfl
            subst h0
            simp only [evEs, Option.some.injEq, Prod.mk.injEq] at e2
            exact ⟨e2.1.symm, e2.2.symm⟩
          obtain ⟨rfl, rfl⟩ := hds
          exact ⟨F', M', st2, y, [], d, st', S', r, .nil, e, l.post k⟩
        | cons e0 es =>
          simp only [List.all_cons, Bool.and_eq_true] at hp
          refine (pe_bm f1 f2 f3 (mt_all (W := W) (m := m) b (bm5_or h5)) ho ha (attr_ok hs) ?_ hline (star_plain _ hp.1) (star_none es hp.2)).run pins s σ H Q I (.mk En S e1 fun F' M' H' v l S' r => ⟨rkind_lst S' r hk1, ?_⟩)
          · have h0 := star_none (e0 :: es) (env := X.env) (pos := pos) (by simp [hp])
            simp only [Bool.and_eq_true, decide_eq_true_eq]
            refine ⟨⟨?_, rfl⟩, by simp only [List.length_cons, List.length_nil, List.isEmpty_nil, if_true] at hfew ⊢; omega⟩
            rw [List.all_eq_not_any_not]
            simpa using h0
          · exact ⟨F', M', env, st1, ds, st2, En.le l S.mf, S', e2, fun F2 M2 H2 vs l2 S2 r2 => ⟨F2, M2, st2, y, ds, d, st', S2, r.le l2 S'.mf, r2, e, (l.trans l2).post k⟩⟩
      · cases e
    · cases e
  · cases e
/-- d.get(k), d.get(k, z) -/
theorem isD_rep {x : D} {v : V} {q : Bool × List D × List D} (S : SRx W H F M st) (r : Rep H F M x v) (h : dctOf st x = some q) : ∃ a, v = .ref a ∧ IsD H a := by
  obtain ⟨t, ks, vs⟩ := q
  obtain ⟨a, rfl, q⟩ := dctOf_rep S r h
  rcases q with ⟨rfl, kvs, h1, _⟩ | ⟨rfl, kvs, h1, _⟩
  · exact ⟨a, rfl, .inl ⟨kvs, h1⟩⟩
  · exact ⟨a, rfl, .inr ⟨kvs, h1⟩⟩
theorem look_end {q : Option D} {o : Option V} {z : D} {v : V} (h : LookR H F M q o) (r : Rep H F M z v) : Rep H F M (q.getD z) (o.getD v) := by
  cases q <;> cases o <;> first | exact r | exact h | exact h.elim
theorem m1_plain {e : Expr} {apos : Pos} {n : Str} (hline : (apos.endLine == pos.line) = true) (hs : notSuper o = true) (hp : plainE e = true) : M1 X o n apos e pos where
  base := attr_ok hs
  few := by rw [star_plain [] hp]; rfl
  line := hline
  trees := by rw [star_plain [] hp]; rfl
theorem m2_plain {e f : Expr} {apos : Pos} {n : Str} (hline : (apos.endLine == pos.line) = true) (hs : notSuper o = true) (hp : plainE e = true) (hq : plainE f = true) : M2 X o n apos e f pos where
  base := attr_ok hs
  few := by rw [star_plain [f] hp, star_plain [] hq]; rfl
  line := hline
  trees := by rw [star_plain [f] hp, star_plain [] hq]; rfl
theorem sE_dget1 {e : Expr} {ie : IE} {apos : Pos} (ok : XOk X c) (hline : (apos.endLine == pos.line) = true) (hs : notSuper o = true) (hp : plainE e = true) (ho : PE X o (RE W io)) (he : PE X e (RE W ie)) :
    PE X (.Call (.Attribute o "get" apos) [e] [] pos) (RE W (.dget io ie (.cst .non))) := by
  have hu : X.A.units + 1 < cLine := by have := ok.un; omega
  refine ⟨fun pins s σ H Q I ⟨F, M, env, st, d, st', En, S, e0, k⟩ => ?_⟩
  simp only [evE] at e0
  split at e0
  · rename_i x st1 e1
    split at e0
    · rename_i hd
      obtain ⟨q0, hd⟩ := Option.isSome_iff_exists.mp hd
      split at e0
      · rename_i y st2 e2
        split at e0
        · rename_i t ks vs hd2
          split at e0
          · rename_i hk
            simp only [Option.some.injEq, Prod.mk.injEq] at e0
            obtain ⟨rfl, rfl⟩ := e0
            refine (pe_dget1 hu ho he (m1_plain hline hs hp)).run pins s σ H Q I (.mk En S e1 fun F' M' H' v l S' r => ?_)
            obtain ⟨a, rfl, hD⟩ := isD_rep S' r hd
            refine ⟨a, rfl, hD, .mk (En.le l S.mf) S' e2 fun F2 M2 H2 u l2 S2 r2 => ?_⟩
            obtain ⟨p, o2, ep, g, lr⟩ := dget_rep S2 (r.le l2 S'.mf) hd2 hk r2
            cases ep
            exact ⟨o2, g, ((l.trans l2).post k).here S2 (look_end lr (by simp only [Rep]))⟩
          · cases e0
        · cases e0
      · cases e0
    · cases e0
  · cases e0
theorem sE_dget2 {e f : Expr} {ie jf : IE} {apos : Pos} (ok : XOk X c) (hline : (apos.endLine == pos.line) = true) (hs : notSuper o = true) (hp : plainE e = true) (hq : plainE f = true) (ho : PE X o (RE W io)) (he : PE X e (RE W ie)) (hf : PE X f (RE W jf)) :
    PE X (.Call (.Attribute o "get" apos) [e, f] [] pos) (RE W (.dget io ie jf)) := by
  have hu : X.A.units + 1 < cLine := by have := ok.un; omega
  refine ⟨fun pins s σ H Q I ⟨F, M, env, st, d, st', En, S, e0, k⟩ => ?_⟩
  simp only [evE] at e0
  split at e0
  · rename_i x st1 e1
    split at e0
    · rename_i hd
      obtain ⟨q0, hd⟩ := Option.isSome_iff_exists.mp hd
      split at e0
      · rename_i y st2 e2
        split at e0
        · rename_i z st3 e3
          split at e0
          · rename_i t ks vs hd2
            split at e0
            · rename_i hk
              simp only [Option.some.injEq, Prod.mk.injEq] at e0
              obtain ⟨rfl, rfl⟩ := e0
              refine (pe_dget2 hu ho he hf (m2_plain hline hs hp hq)).run pins s σ H Q I (.mk En S e1 fun F' M' H' v l S' r => ?_)
              obtain ⟨a, rfl, hD⟩ := isD_rep S' r hd
              refine ⟨a, rfl, hD, .mk (En.le l S.mf) S' e2 fun F2 M2 H2 u l2 S2 r2 => .mk ((En.le l S.mf).le l2 S'.mf) S2 e3 fun F3 M3 H3 w l3 S3 r3 => ?_⟩
              obtain ⟨p, o2, ep, g, lr⟩ := dget_rep S3 ((r.le l2 S'.mf).le l3 S2.mf) hd2 hk (r2.le l3 S2.mf)
              cases ep
              exact ⟨o2, g, (((l.trans l2).trans l3).post k).here S3 (look_end lr r3)⟩
            · cases e0
          · cases e0
        · cases e0
      · cases e0
    · cases e0
  · cases e0
end
end Pm

/-! Pm, part Ba: targets; what is walked. -/
namespace Pm
open PySem PySem.Spec L2
open PyProof.Rows hiding St
section
variable {X : Cx} {W : Wd} {c : TC} {G : GT} {a b e d' o : Expr} {ia ib ic ie io : IE} {pos p2 : Pos} {m : Bool} {ta tb : Ts} {F M : Ads} {H : Hp} {st st' : Sto} {d : D}

/-! ### targets -/
theorem locB_loc (ok : XOk X c) {x : Str} (h : locB c x = true) : Loc X.env.scope x ∧ (X.fn x = true ∨ X.env.scope.names.lookup x = some .local) := by
  unfold locB at h
  rw [ok.sc]
  split at h
  · rename_i e; exact ⟨.inl e, .inr e⟩
  · rename_i e; exact ⟨.inr e, .inl (ok.fn x h)⟩
  · cases h
theorem Keep.refl (L : List Nat) (σ : L2.St) : Keep L σ σ := ⟨rfl, fun _ _ => rfl⟩
theorem Keep.trans {l1 l2 : List Nat} {σ σ1 σ2 : L2.St} (a : Keep l1 σ σ1) (b : Keep l2 σ1 σ2) : Keep (l1 ++ l2) σ σ2 :=
  ⟨b.1.trans a.1, fun j hj => by
    simp only [List.mem_append, not_or] at hj
    exact (b.2 j hj.2).trans (a.2 j hj.1)⟩
theorem sG_bad {x : Expr} : PG X x (RG W (.sub .bad .bad)) := ⟨fun pins s σ H v u Q I rv ⟨F, M, env, st, d, env', st', En, S, r, e, k⟩ => by simp [asgT, evE] at e⟩
theorem sG_nm (ok : XOk X c) {x : Str} {i : Nat} (hl : locB c x = true) (hs : slot c.N x = some i) : PG X (.Name x pos) (RG W (.nm i)) := by
  refine ⟨fun pins s σ H v u Q I rv ⟨F, M, env, st, d, env', st', En, S, r, e, k⟩ => ?_⟩
  simp only [asgT] at e
  split at e
  · simp only [Option.some.injEq, Prod.mk.injEq] at e
    obtain ⟨rfl, rfl⟩ := e
    obtain ⟨h1, h2⟩ := locB_loc ok hl
    exact (pg_name (by rw [ok.n]; exact ok.nd) (by rw [ok.n]; exact slot_at hs) h1 h2).run pins s σ H v u Q I rv (k F M H _ (Le.refl F M H) S (En.set r i) ⟨by simp, fun j hj => by rw [List.getElem?_set_ne (by simp [Tg.slots] at hj; omega)]⟩)
  · cases e
theorem assignEach_plain : ∀ (es : List Expr) {env : PySem.Env}, es.all plainE = true → assignEach es env = es.map fun e => (false, assign e env)
  | [], _, _ => rfl
  | e :: es, env, h => by
    simp only [List.all_cons, Bool.and_eq_true] at h
    rw [List.map_cons, ← assignEach_plain es h.2]
    cases e <;> first | rfl | simp [plainE] at h
theorem sGs {t : Expr → Tg} : ∀ (es : List Expr), es.all plainE = true → (∀ e ∈ es, PG X e (RG W (t e))) → PGs X es (RGs W (es.map t))
  | [], _, _ => by
    refine ⟨fun pins s σ H vs us Q I rv ⟨F, M, env, st, ds, env', st', En, S, r, e, k⟩ => ?_⟩
    simp only [List.map_nil] at e
    cases ds with
    | nil =>
      simp only [asgTs, Option.some.injEq, Prod.mk.injEq] at e
      obtain ⟨rfl, rfl⟩ := e
      simp only [RepL] at r; subst r
      exact pgs_nil.run pins s σ H [] us Q I rv ⟨rfl, k F M H σ (Le.refl F M H) S En (Keep.refl _ σ)⟩
    | cons _ _ => simp [asgTs] at e
  | e :: es, hp, h => by
    have hp' := hp
    simp only [List.all_cons, Bool.and_eq_true] at hp
    have ih := sGs es hp.2 fun x hx => h x (List.mem_cons_of_mem _ hx)
    refine ⟨fun pins s σ H vs us Q I rv ⟨F, M, env, st, ds, env', st', En, S, r, ev, k⟩ => ?_⟩
    simp only [List.map_cons] at ev
    cases ds with
    | nil => simp [asgTs] at ev
    | cons d ds =>
      simp only [asgTs] at ev
      split at ev
      · rename_i env1 st1 e1
        simp only [RepL] at r
        obtain ⟨v, t0, rfl, r1, r2⟩ := r
        refine (pgs_cons (h e (List.mem_cons_self ..)) ih (by rw [assignEach_plain _ hp', assignEach_plain _ hp.2]; rfl)).run pins s σ H _ us Q I rv ⟨v, t0, rfl, ?_⟩
        refine ⟨F, M, env, st, d, env1, st1, En, S, r1, e1, fun F1 M1 H1 σ1 l1 S1 En1 k1 => ?_⟩
        exact ⟨F1, M1, env1, st1, ds, env', st', En1, S1, r2.le l1 S.mf, ev, fun F2 M2 H2 σ2 l2 S2 En2 k2 => k F2 M2 H2 σ2 (l1.trans l2) S2 En2 (k1.trans k2)⟩
      · cases ev
theorem sG_tup (ok : XOk X c) {es : List Expr} {ts : List Tg} {j : Nat} (hp : es.all plainE = true) (h : PGs X es (RGs W ts)) (hl : ts.length = es.length) : PG X (.Tuple es j pos) (RG W (.tup ts)) := by
  refine ⟨fun pins s σ H v u Q I rv ⟨F, M, env, st, d, env', st', En, S, r, e, k⟩ => ?_⟩
  simp only [asgT] at e
  split at e
  · rename_i xs hsq
    obtain ⟨p, vs, rfl, hpp, r⟩ := seqOf_rep S r hsq
    have hlen : ∀ {ts : List Tg} {xs : List D} {env : Env} {st : Sto} {r : Env × Sto}, asgTs W.P W.C ts xs env st = some r → xs.length = ts.length := by
      intro ts
      induction ts with
      | nil => intro xs env st r e; cases xs with
        | nil => rfl
        | cons _ _ => simp [asgTs] at e
      | cons t ts ih => intro xs env st r e; cases xs with
        | nil => simp [asgTs] at e
        | cons x xs =>
          simp only [asgTs] at e
          split at e
          · simp [ih e]
          · cases e
    have hA : (assignEach es X.env).length = es.length := by rw [assignEach_plain es hp, List.length_map]
    have hB : (assignEach es X.env).findIdx? (·.1) = none := by
      rw [assignEach_plain es hp, List.findIdx?_map]
      exact List.findIdx?_eq_none_iff.mpr fun x _ => rfl
    have hL : vs.length = es.length := by rw [← r.length, hlen e, hl]
    rcases hpp with hpp | hpp
    · exact (pg_unl (n := es.length) ok.calm h hA hB).run pins s σ H _ u Q I rv ⟨p, vs, rfl, hpp, hL, F, M, env, st, xs, env', st', En, S, r, e, k⟩
    · exact (pg_tup (n := es.length) ok.calm h hA hB).run pins s σ H _ u Q I rv ⟨p, vs, rfl, SqT.of hpp, hL, F, M, env, st, xs, env', st', En, S, r, e, k⟩
  · cases e
theorem pset_all (ok : XOk X c) : PSet X (fun o i v H Q => ∃ F M st do_ di dv st', SRx W H F M st ∧ Rep H F M do_ o ∧ Rep H F M di i ∧ Rep H F M dv v ∧ setItem do_ di dv st = some st' ∧ ∀ F' M' H', Le F M H F' M' H' → SRx W H' F' M' st' → Q H') := by
  intro pins s σ H o i v ov iv u Q I ro ri rv ⟨F, M, st, do_, di, dv, st', S, r1, r2, r3, e, k⟩
  unfold setItem at e
  split at e
  · rename_i n
    simp only [Rep] at r1
    obtain ⟨p, rfl, hm⟩ := r1
    split at e
    · rename_i xs hx
      obtain ⟨vs, hp, r⟩ := S.obs n _ p hx hm
      split at e
      · rename_i j
        simp only [Option.map_eq_some_iff] at e
        obtain ⟨q, hq, rfl⟩ := e
        simp only [Rep] at r2
        rw [ixN_eq, r.length] at hq
        exact set_list pins s σ H _ _ v ov iv u Q I ro ri rv ⟨p, vs, j, q, rfl, r2, hp, hq, setL_post (v := .non) (d := .non) (Q := fun _ H' => Q H') S hm hp (r.set r3 q) (by simp only [Rep]) fun F' M' H' _ l S' _ => k F' M' H' l S'⟩
      · cases e
    · rename_i t ks vs hx
      split at e
      · rename_i hk
        simp only [Bool.and_eq_true, decide_eq_true_eq] at hk
        simp only [Option.some.injEq] at e; subst e
        have o0 := S.obs n _ p hx hm
        have hu : X.A.units + 1 < cLine := by have := ok.un; omega
        cases ro
        cases t with
        | false =>
          obtain ⟨kvs, hp, rfl, r⟩ := o0
          obtain ⟨key, rfl, rfl⟩ := isKey_k hk.1 r2
          obtain ⟨e1, e2⟩ := put_k keq_keyD key r3 kvs vs r
          have hlt : kvs.length < sizeLine := by have := hk.2; rw [List.length_map] at this; exact Nat.lt_of_lt_of_le this (by decide)
          refine d_setItem hu I (DPut.k hp hlt) ri rv fun s' I' => ⟨_, I', ?_⟩
          have l := Le.write (o := .dK (putK kvs key v)) F M (List.mem_of_getElem? hm) hp (fun _ z => nomatch z) (fun _ _ z => nomatch z)
          exact k F M _ l (S.write hm hp (fun _ z => nomatch z) (fun _ _ z => nomatch z) ⟨putK kvs key v, upd_same, e1, e2.le l S.mf⟩)
        | true =>
          obtain ⟨kvs, hp, rfl, r⟩ := o0
          obtain ⟨q, kk, rfl, rfl, hb⟩ := isKey_t hk.1 r2
          obtain ⟨e1, e2⟩ := put_k (g := fun l => .tup (l.map keyD)) keq_tup kk r3 kvs vs r
          have hlt : kvs.length < sizeLine := by have := hk.2; rw [List.length_map] at this; exact Nat.lt_of_lt_of_le this (by decide)
          refine d_setItem hu I (DPut.t hp hb hlt) ri rv fun s' I' => ⟨_, I', ?_⟩
          have l := Le.write (o := .dT (putK kvs kk v)) F M (List.mem_of_getElem? hm) hp (fun _ z => nomatch z) (fun _ _ z => nomatch z)
          exact k F M _ l (S.write hm hp (fun _ z => nomatch z) (fun _ _ z => nomatch z) ⟨putK kvs kk v, upd_same, e1, e2.le l S.mf⟩)
      · cases e
    · cases e
  · cases e
theorem sG_sub (ok : XOk X c) (hp : plainE b = true) (ha : PE X a (RE W ia)) (hb : PE X b (RE W ib)) : PG X (.Subscript a b pos) (RG W (.sub ia ib)) := by
  refine ⟨fun pins s σ H v u Q I rv ⟨F, M, env, st, d, env', st', En, S, r, e, k⟩ => ?_⟩
  simp only [asgT] at e
  split at e
  · rename_i x st1 e1
    split at e
    · rename_i y st2 e2
      split at e
      · rename_i st3 e3
        simp only [Option.some.injEq, Prod.mk.injEq] at e
        obtain ⟨rfl, rfl⟩ := e
        refine (pg_sub ha hb (pset_all (W := W) ok) (fun _ => by cases b <;> first | rfl | simp [plainE] at hp)).run pins s σ H v u Q I rv ?_
        refine sE_two En S e1 e2 fun F' M' H' p q l S' r1 r2 => ⟨F', M', st2, x, y, d, st3, S', r1, r2, r.le l S.mf, e3, fun F2 M2 H2 l2 S2 => ?_⟩
        exact k F2 M2 H2 σ (l.trans l2) S2 (En.le (l.trans l2) S.mf) (Keep.refl _ σ)
      · cases e
    · cases e
  · cases e

/-! ### what is walked -/
/-- the walk J goes over the items xs, as long as their objects stand -/
structure ItR (W : Wd) (F M : Ads) (H : Hp) (xs : List D) (src : Src) (J : L2.It) : Prop where
  go : ∀ F' M' H' st' i, Le F M H F' M' H' → SRx W H' F' M' st' → chk st' src = true → i < xs.length → J.go i H'
  stop : ∀ F' M' H' st', Le F M H F' M' H' → SRx W H' F' M' st' → chk st' src = true → J.stop xs.length H'
  yld : ∀ F' M' H' st' i x, Le F M H F' M' H' → SRx W H' F' M' st' → chk st' src = true → xs[i]? = some x → ∀ v H'', J.yld i H' v H'' → Le F' M' H' F' M' H'' ∧ SRx W H'' F' M' st' ∧ Rep H'' F' M' x v
def RI (W : Wd) (it : It) : TI := fun σ H R => ∃ F M env st xs src st', EnR H F M env σ ∧ SRx W H F M st ∧ evIt W.P W.C it env st = some (xs, src, st') ∧
  ∀ F' M' H' J, Le F M H F' M' H' → SRx W H' F' M' st' → ItR W F' M' H' xs src J → R J H'
theorem chk_get {st : Sto} : ∀ {s t : Src}, chk st (s ++ t) = true → chk st s = true ∧ chk st t = true
  | [], t, h => ⟨rfl, h⟩
  | p :: s, t, h => by
    simp only [List.cons_append, chk, Bool.and_eq_true] at h ⊢
    obtain ⟨h1, h2⟩ := h
    exact ⟨⟨h1, (chk_get h2).1⟩, (chk_get h2).2⟩
/-- a list's items stand as long as it is as it was -/
theorem src_list {xs : List D} {v : V} (S : SRx W H F M st) (r : Rep H F M d v) (h : lstOf st d = some xs) : ∃ p, v = .ref p ∧ ∀ F' M' H' st', Le F M H F' M' H' → SRx W H' F' M' st' → chk st' (srcOf st d) = true →
    ∃ vs, Rd H' p (.lst vs) ∧ RepL H' F' M' xs vs := by
  cases d with
  | lst ys =>
    simp only [lstOf, Option.some.injEq] at h; subst h
    have r0 := r
    simp only [Rep] at r
    obtain ⟨p, vs, rfl, _⟩ := r
    refine ⟨p, rfl, fun F' M' H' st' l S' _ => ?_⟩
    have r1 := r0.le l S.mf
    simp only [Rep] at r1
    obtain ⟨p', vs', e, h1, _, h2⟩ := r1
    cases e
    exact ⟨vs', h1, h2⟩
  | ref n =>
    simp only [Rep] at r
    obtain ⟨p, rfl, hm⟩ := r
    simp only [lstOf] at h
    split at h
    · rename_i ys hy
      simp only [Option.some.injEq] at h; subst h
      refine ⟨p, rfl, fun F' M' H' st' l S' hc => ?_⟩
      simp only [srcOf, hy, chk, Bool.and_true] at hc
      split at hc
      · rename_i zs hz
        have ez := of_decide_eq_true hc
        subst ez
        obtain ⟨vs, h1, h2⟩ := S'.obs n _ p hz (l.pre n p hm)
        exact ⟨vs, .inl h1, h2⟩
      · cases hc
    · cases h
  | _ => simp [lstOf] at h
theorem src_tup {xs : List D} {v : V} (S : SRx W H F M st) (r : Rep H F M (.tup xs) v) : ∃ p, v = .ref p ∧ ∀ F' M' H', Le F M H F' M' H' → ∃ vs, H' p = some (.tup vs) ∧ RepL H' F' M' xs vs := by
  have r0 := r
  simp only [Rep] at r
  obtain ⟨p, vs, rfl, _⟩ := r
  refine ⟨p, rfl, fun F' M' H' l => ?_⟩
  have r1 := r0.le l S.mf
  simp only [Rep] at r1
  obtain ⟨p', vs', e, h1, h2⟩ := r1
  cases e
  exact ⟨vs', h1, h2⟩
theorem seq_cases {xs : List D} (h : seqOf st d = some xs) : d = .tup xs ∨ lstOf st d = some xs := by
  cases d with
  | tup ys => simp only [seqOf, Option.some.injEq] at h; subst h; exact .inl rfl
  | lst ys => exact .inr (by simpa [seqOf, lstOf] using h)
  | ref n => exact .inr (by simpa [seqOf, lstOf] using h)
  | _ => simp [seqOf] at h
theorem itr_list {K : PySem.W.Frag} {xs : List D} {src : Src} {p : Addr} (h : ∀ F' M' H' st', Le F M H F' M' H' → SRx W H' F' M' st' → chk st' src = true → ∃ vs, Rd H' p (.lst vs) ∧ RepL H' F' M' xs vs) : ItR W F M H xs src (Itl K p) where
  go := fun F' M' H' st' i l S' hc hi => by
    obtain ⟨vs, h1, h2⟩ := h F' M' H' st' l S' hc
    obtain ⟨v, hv, _⟩ := h2.get (List.getElem?_eq_getElem hi)
    exact ⟨vs, v, .inl h1, hv⟩
  stop := fun F' M' H' st' l S' hc => by
    obtain ⟨vs, h1, h2⟩ := h F' M' H' st' l S' hc
    exact ⟨vs, .inl h1, by rw [h2.length]; exact Nat.le_refl _⟩
  yld := fun F' M' H' st' i x l S' hc hx v H'' ⟨e, hv⟩ => by
    subst e
    obtain ⟨vs, h1, h2⟩ := h F' M' H'' st' l S' hc
    obtain ⟨w, hw, rw'⟩ := h2.get hx
    have e := (hv vs (.inl h1)).symm.trans hw
    cases e
    exact ⟨Le.refl _ _ _, S', rw'⟩
theorem itr_tup {K : PySem.W.Frag} {xs : List D} {src : Src} {p : Addr} (h : ∀ F' M' H', Le F M H F' M' H' → ∃ vs, H' p = some (.tup vs) ∧ RepL H' F' M' xs vs) : ItR W F M H xs src (Itt K p) where
  go := fun F' M' H' st' i l S' hc hi => by
    obtain ⟨vs, h1, h2⟩ := h F' M' H' l
    obtain ⟨v, hv, _⟩ := h2.get (List.getElem?_eq_getElem hi)
    exact ⟨vs, v, SqT.of h1, hv⟩
  stop := fun F' M' H' st' l S' hc => by
    obtain ⟨vs, h1, h2⟩ := h F' M' H' l
    exact ⟨vs, SqT.of h1, by rw [h2.length]; exact Nat.le_refl _⟩
  yld := fun F' M' H' st' i x l S' hc hx v H'' ⟨e, hv⟩ => by
    subst e
    obtain ⟨vs, h1, h2⟩ := h F' M' H'' l
    obtain ⟨w, hw, rw'⟩ := h2.get hx
    have e := (hv vs (SqT.of h1)).symm.trans hw
    cases e
    exact ⟨Le.refl _ _ _, S', rw'⟩
/-- a locked dict's keys stand -/
theorem itr_dK {d : Addr} {o : Obj} {kvs : List (L2.Key × V)} (h : H d = some (.frz o (.dK kvs))) : ItR W F M H (kvs.map fun p => keyD p.1) [] (Itk d o kvs) where
  go := fun F' M' H' st' i l S' _ hi => ⟨l.frzs _ _ _ h, by rwa [List.length_map] at hi⟩
  stop := fun F' M' H' st' l S' _ => ⟨l.frzs _ _ _ h, by rw [List.length_map]; exact Nat.le_refl _⟩
  yld := fun F' M' H' st' i x l S' _ hx v H'' ⟨e, k, w, hk, hv⟩ => by
    subst e; subst hv
    rw [List.getElem?_map, hk] at hx
    cases hx
    exact ⟨Le.refl _ _ _, S', keyD_rep k⟩
theorem itr_dT {d : Addr} {o : Obj} {kvs : List (List L2.Key × V)} (h : H d = some (.frz o (.dT kvs))) : ItR W F M H (kvs.map fun p => .tup (p.1.map keyD)) [] (Itkt d o kvs) where
  go := fun F' M' H' st' i l S' _ hi => ⟨l.frzs _ _ _ h, by rwa [List.length_map] at hi⟩
  stop := fun F' M' H' st' l S' _ => ⟨l.frzs _ _ _ h, by rw [List.length_map]; exact Nat.le_refl _⟩
  yld := fun F' M' H' st' i x l S' _ hx v H'' ⟨e, k, w, q, hk, hv, hq⟩ => by
    subst e; subst hv
    rw [List.getElem?_map, hk] at hx
    cases hx
    exact ⟨Le.refl _ _ _, S', by simp only [Rep]; exact ⟨q, _, rfl, hq, keyL_rep k⟩⟩
theorem sI_val {tg : Expr} (ha : PE X a (RE W ia)) : PI X tg a (RI W (.val ia)) := by
  refine ⟨fun pins s σ H R I ⟨F, M, env, st, xs, src, st', En, S, e, k⟩ => ?_⟩
  simp only [evIt] at e
  split at e
  · rename_i d st1 e1
    split at e
    · rename_i ys hy
      simp only [Option.some.injEq, Prod.mk.injEq] at e
      obtain ⟨rfl, rfl, rfl⟩ := e
      rcases seq_cases hy with hd | hd
      · subst hd
        refine (pi_tup ha).run pins s σ H R I (.mk En S e1 fun F' M' H' v l S' r => ?_)
        obtain ⟨p, rfl, h⟩ := src_tup S' r
        obtain ⟨vs, h1, _⟩ := h F' M' H' (Le.refl _ _ _)
        exact ⟨p, rfl, ⟨vs, SqT.of h1⟩, k F' M' H' _ l S' (itr_tup h)⟩
      · refine (pi_list ha).run pins s σ H R I (.mk En S e1 fun F' M' H' v l S' r => ?_)
        obtain ⟨p, vs, rfl, hp, _⟩ := lstOf_rep S' r hd
        obtain ⟨p', e', h⟩ := src_list S' r hd
        cases e'
        exact ⟨p, rfl, ⟨vs, .inl hp⟩, k F' M' H' _ l S' (itr_list h)⟩
    · unfold lockD at e
      split at e
      · rename_i n _
        split at e
        · rename_i t ks vs hx
          simp only [Option.some.injEq, Prod.mk.injEq] at e
          obtain ⟨rfl, rfl, rfl⟩ := e
          refine (pi_lock ha).run pins s σ H R I (.mk En S e1 fun F' M' H' v l S' r => ?_)
          simp only [Rep] at r
          obtain ⟨p, rfl, hm⟩ := r
          have o0 := S'.obs n _ p hx hm
          cases t with
          | false =>
            obtain ⟨kvs, hp, rfl, r⟩ := o0
            refine ⟨p, rfl, .inl ⟨kvs, hp, fun o => ?_⟩⟩
            have l2 := Le.write (o := .frz o (.dK kvs)) F' M' (List.mem_of_getElem? hm) hp (fun _ z => nomatch z) (fun _ _ z => nomatch z)
            have S2 := S'.write (ob := .fdc false (kvs.map fun p => keyD p.1) vs) hm hp (fun _ z => nomatch z) (fun _ _ z => nomatch z) ⟨kvs, ⟨o, upd_same⟩, rfl, r.le l2 S'.mf⟩
            exact k F' M' _ _ (l.trans l2) S2 (itr_dK upd_same)
          | true =>
            obtain ⟨kvs, hp, rfl, r⟩ := o0
            refine ⟨p, rfl, .inr (.inl ⟨kvs, hp, fun o => ?_⟩)⟩
            have l2 := Le.write (o := .frz o (.dT kvs)) F' M' (List.mem_of_getElem? hm) hp (fun _ z => nomatch z) (fun _ _ z => nomatch z)
            have S2 := S'.write (ob := .fdc true (kvs.map fun p => .tup (p.1.map keyD)) vs) hm hp (fun _ z => nomatch z) (fun _ _ z => nomatch z) ⟨kvs, ⟨o, upd_same⟩, rfl, r.le l2 S'.mf⟩
            exact k F' M' _ _ (l.trans l2) S2 (itr_dT upd_same)
        · rename_i t ks vs hx
          simp only [Option.some.injEq, Prod.mk.injEq] at e
          obtain ⟨rfl, rfl, rfl⟩ := e
          refine (pi_lock ha).run pins s σ H R I (.mk En S e1 fun F' M' H' v l S' r => ?_)
          simp only [Rep] at r
          obtain ⟨p, rfl, hm⟩ := r
          have o0 := S'.obs n _ p hx hm
          cases t with
          | false =>
            obtain ⟨kvs, ⟨o, hp⟩, rfl, r⟩ := o0
            exact ⟨p, rfl, .inr (.inr (.inl ⟨o, kvs, hp, k F' M' _ _ l S' (itr_dK hp)⟩))⟩
          | true =>
            obtain ⟨kvs, ⟨o, hp⟩, rfl, r⟩ := o0
            exact ⟨p, rfl, .inr (.inr (.inr ⟨o, kvs, hp, k F' M' _ _ l S' (itr_dT hp)⟩))⟩
        · cases e
      · cases e
  · cases e
end
end Pm

/-! Pm, part Bb: range, enumerate, zip, reversed. -/
namespace Pm
open PySem PySem.Spec L2
open PyProof.Rows hiding St
section
variable {X : Cx} {W : Wd} {c : TC} {G : GT} {a b e d' o tg : Expr} {ia ib ic ie io : IE} {pos p2 np tpos : Pos} {m : Bool} {ta tb : Ts} {F M : Ads} {H : Hp} {st st' : Sto} {d : D} {elts : List Expr} {kk : Nat}
theorem len2 {α : Type} : ∀ {l : List α}, l.length = 2 → ∃ a b, l = [a, b]
  | [a, b], _ => ⟨a, b, rfl⟩
theorem len3 {α : Type} : ∀ {l : List α}, l.length = 3 → ∃ a b c, l = [a, b, c]
  | [a, b, c], _ => ⟨a, b, c, rfl⟩
theorem rangeL_len (lo c : Int) (n : Nat) : (rangeL lo c n).length = n := by
  induction n generalizing lo with
  | zero => rfl
  | succ n ih => simp [rangeL, ih]
theorem rangeL_get (lo c : Int) (n i : Nat) (h : i < n) : (rangeL lo c n)[i]? = some (.int (lo + (i : Int) * c)) := by
  induction n generalizing lo i with
  | zero => omega
  | succ n ih =>
    cases i with
    | zero => simp [rangeL]
    | succ i =>
      simp only [rangeL, List.getElem?_cons_succ]
      rw [ih (lo + c) i (by omega)]
      congr 2
      have e : ((i + 1 : Nat) : Int) * c = (i : Int) * c + c := by
        rw [Int.natCast_add, Int.add_mul]; simp
      rw [e]; omega
theorem inR_b {i : Int} (h : inR i = true) : -1000000 ≤ i ∧ i ≤ 1000000 := by simpa [inR] using h
theorem itr_itc {lo k : Int} {n : Nat} {xs : List D} (hl : xs.length = n) (hx : ∀ i, i < n → xs[i]? = some (.int (lo + (i : Int) * k))) : ItR W F M H xs [] (Itc lo k n) where
  go := fun F' M' H' st' i l S' hc hi => by rw [hl] at hi; exact hi
  stop := fun F' M' H' st' l S' hc => by rw [hl]; exact Nat.le_refl _
  yld := fun F' M' H' st' i x l S' hc he v H'' ⟨e, hv⟩ => by
    subst e
    have hi : i < n := by rw [← hl]; exact (List.getElem?_eq_some_iff.mp he).1
    rw [hx i hi] at he
    cases he
    exact ⟨Le.refl _ _ _, S', by simp only [Rep]; exact hv⟩
theorem itr_itr {lo : Int} {n : Nat} {xs : List D} (hl : xs.length = n) (hx : ∀ i, i < n → xs[i]? = some (.int (lo + (i : Int)))) : ItR W F M H xs [] (Itr lo n) where
  go := fun F' M' H' st' i l S' hc hi => by rw [hl] at hi; exact hi
  stop := fun F' M' H' st' l S' hc => by rw [hl]; exact Nat.le_refl _
  yld := fun F' M' H' st' i x l S' hc he v H'' ⟨e, hv⟩ => by
    subst e
    have hi : i < n := by rw [← hl]; exact (List.getElem?_eq_some_iff.mp he).1
    rw [hx i hi] at he
    cases he
    exact ⟨Le.refl _ _ _, S', by simp only [Rep]; exact hv⟩
theorem repInt {ds : List D} {vs : List V} (r : RepL H F M ds vs) : (∀ i, ds = [.int i] → vs = [.int i]) ∧ (∀ i j, ds = [.int i, .int j] → vs = [.int i, .int j]) ∧ (∀ i j k, ds = [.int i, .int j, .int k] → vs = [.int i, .int j, .int k]) := by
  refine ⟨?_, ?_, ?_⟩
  · rintro i rfl
    simp only [RepL, Rep] at r
    obtain ⟨v, t, rfl, rfl, rfl⟩ := r; rfl
  · rintro i j rfl
    simp only [RepL, Rep] at r
    obtain ⟨v, t, rfl, rfl, w, u, rfl, rfl, rfl⟩ := r; rfl
  · rintro i j k rfl
    simp only [RepL, Rep] at r
    obtain ⟨v, t, rfl, rfl, w, u, rfl, rfl, x, y, rfl, rfl, rfl⟩ := r; rfl
theorem sI_rng (ok : XOk X c) {es : List Expr} {is : List IE} (hg : glB c.sc "range" = true) (hp : es.all plainE = true) (hl : is.length = es.length) (ha : PA X es (REs W is)) : PI X tg (.Call (.Name "range" np) es [] pos) (RI W (.rng is)) := by
  refine ⟨fun pins s σ H R I ⟨F, M, env, st, xs, src, st', En, S, e, k⟩ => ?_⟩
  have hfree : X.mg "range" = none := ok.free _ (by decide +kernel)
  simp only [evIt] at e
  split at e
  · rename_i ds st1 e1
    have hdl := evEs_len e1
    split at e
    · rename_i ys hy
      simp only [Option.some.injEq, Prod.mk.injEq] at e
      obtain ⟨rfl, rfl, rfl⟩ := e
      unfold rng at hy
      split at hy
      · rename_i j
        split at hy
        · rename_i hb
          have hb := inR_b hb
          simp only [Option.some.injEq] at hy; subst hy
          have h1 : es.length = 1 := by rw [← hl, ← hdl]; rfl
          obtain ⟨a, rfl⟩ := List.length_eq_one_iff.mp h1
          refine (pi_range1 (ok.gl hg) hfree ha (star_plain [] (by simpa using hp))).run pins s σ H R I ⟨F, M, env, st, _, st1, En, S, e1, fun F' M' H' vs l S' r => ?_⟩
          refine ⟨j, (repInt r).1 j rfl, by omega, by omega, k F' M' H' _ l S' (itr_itr (rangeL_len ..) fun i hi => ?_)⟩
          rw [rangeL_get 0 1 _ i hi]; simp
        · cases hy
      · rename_i i j
        split at hy
        · rename_i hb
          simp only [Bool.and_eq_true] at hb
          have hb1 := inR_b hb.1
          have hb2 := inR_b hb.2
          simp only [Option.some.injEq] at hy; subst hy
          have h1 : es.length = 2 := by rw [← hl, ← hdl]; rfl
          obtain ⟨a, b, rfl⟩ := len2 h1
          simp only [List.all_cons, List.all_nil, Bool.and_true, Bool.and_eq_true] at hp
          refine (pi_range2 (ok.gl hg) hfree ha (by rw [star_plain _ hp.1, star_plain _ hp.2]; rfl) (star_plain [] hp.2)).run pins s σ H R I ⟨F, M, env, st, _, st1, En, S, e1, fun F' M' H' vs l S' r => ?_⟩
          refine ⟨i, j, (repInt r).2.1 i j rfl, ⟨by omega, by omega, by omega, by omega⟩, k F' M' H' _ l S' (itr_itr (rangeL_len ..) fun q hq => ?_)⟩
          rw [rangeL_get i 1 _ q hq]; simp
        · cases hy
      · rename_i i j cc
        split at hy
        · rename_i hb
          simp only [Bool.and_eq_true, decide_eq_true_eq] at hb
          obtain ⟨⟨rfl, hb1⟩, hb2⟩ := hb
          have hb1 := inR_b hb1
          have hb2 := inR_b hb2
          simp only [Option.some.injEq] at hy; subst hy
          have h1 : es.length = 3 := by rw [← hl, ← hdl]; rfl
          obtain ⟨a, b, d, rfl⟩ := len3 h1
          simp only [List.all_cons, List.all_nil, Bool.and_true, Bool.and_eq_true] at hp
          refine (pi_range3 (ok.gl hg) hfree ha (star_plain _ hp.1) (star_none [_, _] (by simp [hp]))).run pins s σ H R I ⟨F, M, env, st, _, st1, En, S, e1, fun F' M' H' vs l S' r => ?_⟩
          refine ⟨i, j, -1, _, (repInt r).2.2 i j (-1) rfl, RgC.neg (by omega) (by omega) (by omega) (by omega), k F' M' H' _ l S' (itr_itc (rangeL_len ..) fun q hq => ?_)⟩
          exact rangeL_get i (-1) _ q hq
        · cases hy
      · cases hy
    · cases e
  · cases e
theorem rev_get {α : Type} (xs : List α) (i : Nat) (h : i < xs.length) : xs.reverse[i]? = xs[xs.length - 1 - i]? := by
  rw [List.getElem?_reverse h]
theorem sI_revr (ok : XOk X c) {es : List Expr} {t : Expr → IE} {np2 : Pos} (hg : glB c.sc "reversed" = true) (hgr : glB c.sc "range" = true) (hp : es.all plainE = true) (ha : ∀ e ∈ es, PE X e (RE W (t e))) :
    PI X tg (.Call (.Name "reversed" np) [.Call (.Name "range" np2) es [] p2] [] pos) (RI W (.revr (es.map t))) := by
  refine ⟨fun pins s σ H R I ⟨F, M, env, st, xs, src, st', En, S, e, k⟩ => ?_⟩
  have hfr : X.mg "range" = none := ok.free _ (by decide +kernel)
  have hfv : X.mg "reversed" = none := ok.free _ (by decide +kernel)
  simp only [evIt] at e
  split at e
  · rename_i ds st1 e1
    have hdl := evEs_len e1
    rw [List.length_map] at hdl
    split at e
    · rename_i ys hy
      split at e
      · rename_i h2
        simp only [Option.some.injEq, Prod.mk.injEq] at e
        obtain ⟨rfl, rfl, rfl⟩ := e
        have fin : ∀ (lo : Int) (n : Nat), ys = rangeL lo 1 n → ∀ F' M' H', Le F M H F' M' H' → SRx W H' F' M' st1 → R (Itc (lo + ((n : Nat) : Int) - 1) (-1) n) H' := fun lo n hys F' M' H' l S' => by
          subst hys
          refine k F' M' H' _ l S' (itr_itc (by rw [List.length_reverse, rangeL_len]) fun i hi => ?_)
          rw [rev_get _ _ (by rw [rangeL_len]; exact hi), rangeL_len, rangeL_get lo 1 n _ (by omega)]
          congr 2
          have : ((n - 1 - i : Nat) : Int) = (n : Int) - 1 - i := by omega
          rw [this]; omega
        unfold rng at hy
        split at hy
        · rename_i j
          split at hy
          · rename_i hb
            have hb := inR_b hb
            simp only [Option.some.injEq] at hy
            have h1 : es.length = 1 := by rw [← hdl]; rfl
            obtain ⟨a, rfl⟩ := List.length_eq_one_iff.mp h1
            simp only [List.all_cons, List.all_nil, Bool.and_true] at hp
            have hpe := ha a (List.mem_cons_self ..)
            simp only [List.map_cons, List.map_nil, evEs] at e1
            split at e1
            · rename_i x st2 e2
              simp only [Option.some.injEq, Prod.mk.injEq, List.cons.injEq, and_true] at e1
              obtain ⟨rfl, rfl⟩ := e1
              refine (pi_revR (ok.gl hg) hfv (prg_1 (ok.gl hgr) hfr hpe (star_plain [] hp)) (by rfl)).run pins s σ H R I ?_
              refine .mk En S e2 fun F' M' H' v l S' r => ?_
              simp only [Rep] at r
              refine ⟨j, r, by omega, by omega, by omega, by omega, ?_⟩
              exact fin 0 (j - 0).toNat (by rw [← hy]; simp) F' M' H' l S'
            · cases e1
          · cases hy
        · rename_i i j
          split at hy
          · rename_i hb
            simp only [Bool.and_eq_true] at hb
            have hb1 := inR_b hb.1
            have hb2 := inR_b hb.2
            simp only [Option.some.injEq] at hy
            have h1 : es.length = 2 := by rw [← hdl]; rfl
            obtain ⟨a, b, rfl⟩ := len2 h1
            simp only [List.all_cons, List.all_nil, Bool.and_true, Bool.and_eq_true] at hp
            have hpa := ha a (by simp)
            have hpb := ha b (by simp)
            simp only [List.map_cons, List.map_nil, evEs] at e1
            split at e1
            · rename_i x st2 e2
              split at e1
              · rename_i ds3 st3 e3
                split at e3
                · rename_i y st4 e4
                  simp only [Option.some.injEq, Prod.mk.injEq] at e3
                  obtain ⟨rfl, rfl⟩ := e3
                  simp only [Option.some.injEq, Prod.mk.injEq, List.cons.injEq, and_true] at e1
                  obtain ⟨⟨rfl, rfl⟩, rfl⟩ := e1
                  refine (pi_revR (ok.gl hg) hfv (prg_2 (ok.gl hgr) hfr hpa hpb (star_plain _ hp.1) (star_plain [] hp.2) (star_none [_] (by simp [hp]))) (by rfl)).run pins s σ H R I ?_
                  refine sE_two En S e2 e4 fun F' M' H' u v l S' r1 r2 => ?_
                  simp only [Rep] at r1 r2
                  refine ⟨i, j, r1, r2, by omega, by omega, by omega, by omega, ?_⟩
                  exact fin i (j - i).toNat hy.symm F' M' H' l S'
                · cases e3
              · cases e1
            · cases e1
          · cases hy
        · simp at h2
        · cases hy
      · cases e
    · cases e
  · cases e
theorem sI_rev (ok : XOk X c) (hg : glB c.sc "reversed" = true) (hp : plainE a = true) (ha : PE X a (RE W ia)) : PI X tg (.Call (.Name "reversed" np) [a] [] pos) (RI W (.rev ia)) := by
  refine ⟨fun pins s σ H R I ⟨F, M, env, st, xs, src, st', En, S, e, k⟩ => ?_⟩
  have hfv : X.mg "reversed" = none := ok.free _ (by decide +kernel)
  simp only [evIt] at e
  split at e
  · rename_i d st1 e1
    split at e
    · rename_i ys hy
      simp only [Option.some.injEq, Prod.mk.injEq] at e
      obtain ⟨rfl, rfl, rfl⟩ := e
      refine (_root_.RT.pi_revA (ok.gl hg) hfv ha (star_plain [] hp)).run pins s σ H R I (.mk En S e1 fun F' M' H' v l S' r => ?_)
      rcases seq_cases hy with hd | hd
      · subst hd
        obtain ⟨p, rfl, h⟩ := src_tup S' r
        obtain ⟨vs, h1, h2⟩ := h F' M' H' (Le.refl _ _ _)
        refine ⟨p, vs, rfl, .inr ⟨SqT.of h1, k F' M' H' _ l S' ?_⟩⟩
        rw [← h2.length]
        exact {
          go := fun F2 M2 H2 st2 i l2 S2 hc hi => by
            rw [List.length_reverse] at hi
            obtain ⟨ws, w1, w2⟩ := h F2 M2 H2 l2
            obtain ⟨v, hv, _⟩ := w2.get (i := ys.length - 1 - i) (List.getElem?_eq_getElem (by omega))
            exact ⟨hi, ws, v, SqT.of w1, hv⟩
          stop := fun F2 M2 H2 st2 l2 S2 hc => by rw [List.length_reverse]; exact Nat.le_refl _
          yld := fun F2 M2 H2 st2 i x l2 S2 hc hx v H'' ⟨e, hv⟩ => by
            subst e
            have hi : i < ys.length := by have := (List.getElem?_eq_some_iff.mp hx).1; simpa using this
            obtain ⟨ws, w1, w2⟩ := h F2 M2 H'' l2
            rw [rev_get _ _ hi] at hx
            obtain ⟨u, hu, ru⟩ := w2.get hx
            have e := (hv ws (SqT.of w1)).symm.trans hu
            cases e
            exact ⟨Le.refl _ _ _, S2, ru⟩ }
      · obtain ⟨p, rfl, h⟩ := src_list S' r hd
        obtain ⟨p0, vs, e0, h1, h2⟩ := lstOf_rep S' r hd
        cases e0
        refine ⟨p, vs, rfl, .inl ⟨.inl h1, k F' M' H' _ l S' ?_⟩⟩
        rw [← h2.length]
        exact {
          go := fun F2 M2 H2 st2 i l2 S2 hc hi => by
            rw [List.length_reverse] at hi
            obtain ⟨ws, w1, w2⟩ := h F2 M2 H2 st2 l2 S2 hc
            obtain ⟨v, hv, _⟩ := w2.get (i := ys.length - 1 - i) (List.getElem?_eq_getElem (by omega))
            exact ⟨hi, ws, v, .inl w1, hv⟩
          stop := fun F2 M2 H2 st2 l2 S2 hc => by rw [List.length_reverse]; exact Nat.le_refl _
          yld := fun F2 M2 H2 st2 i x l2 S2 hc hx v H'' ⟨e, hv⟩ => by
            subst e
            have hi : i < ys.length := by have := (List.getElem?_eq_some_iff.mp hx).1; simpa using this
            obtain ⟨ws, w1, w2⟩ := h F2 M2 H'' st2 l2 S2 hc
            rw [rev_get _ _ hi] at hx
            obtain ⟨u, hu, ru⟩ := w2.get hx
            have e := (hv ws (.inl w1)).symm.trans hu
            cases e
            exact ⟨Le.refl _ _ _, S2, ru⟩ }
    · cases e
  · cases e

/-! ### enumerate, zip -/
theorem enumL_len (k : Nat) (xs : List D) : (enumL k xs).length = xs.length := by
  induction xs generalizing k with
  | nil => rfl
  | cons x xs ih => simp [enumL, ih]
theorem enumL_get (k : Nat) (xs : List D) (i : Nat) : (enumL k xs)[i]? = (xs[i]?).map fun x => .tup [.int ((k + i : Nat) : Int), x] := by
  induction xs generalizing k i with
  | nil => simp [enumL]
  | cons x xs ih =>
    cases i with
    | zero => simp [enumL]
    | succ i => simp only [enumL, List.getElem?_cons_succ, ih]; congr 1; funext y; congr 4; omega
theorem zipL_get (xs ys : List D) (i : Nat) : (zipL xs ys)[i]? = match xs[i]?, ys[i]? with | some x, some y => some (.tup [x, y]) | _, _ => none := by
  induction xs generalizing ys i with
  | nil => simp [zipL]
  | cons x xs ih =>
    cases ys with
    | nil => simp [zipL]
    | cons y ys => cases i with
      | zero => simp [zipL]
      | succ i => simp only [zipL, List.getElem?_cons_succ, ih]
theorem zipL_len (xs ys : List D) : (zipL xs ys).length = min xs.length ys.length := by
  induction xs generalizing ys with
  | nil => simp [zipL]
  | cons x xs ih => cases ys with
    | nil => simp [zipL]
    | cons y ys => simp only [zipL, List.length_cons, ih]; omega
/-- a new pair -/
theorem pair_new {x y : D} {u v : V} {T : Addr} (S : SRx W H F M st) (hT : H T = none) (r1 : Rep H F M x u) (r2 : Rep H F M y v) : Le F M H F M (upd H T (.tup [u, v])) ∧ SRx W (upd H T (.tup [u, v])) F M st ∧ Rep (upd H T (.tup [u, v])) F M (.tup [x, y]) (.ref T) := by
  have l := Le.fresh (o := .tup [u, v]) F M hT
  refine ⟨l, S.fresh hT, ?_⟩
  simp only [Rep]
  exact ⟨T, _, rfl, upd_same, .cons (r1.le l S.mf) (.cons (r2.le l S.mf) .nil)⟩
/-- a thing that is walked stands as a list or a tuple, as long as it is not written -/
theorem src_seq {x : D} {v : V} {xs : List D} {F' M' : Ads} {H' : Hp} {st1 : Sto} (S' : SRx W H' F' M' st1) (r : Rep H' F' M' x v) (h : seqOf st1 x = some xs) :
    ∃ (t : Bool) (p : Addr), v = .ref p ∧ ∀ F2 M2 H2 st2, Le F' M' H' F2 M2 H2 → SRx W H2 F2 M2 st2 → chk st2 (srcOf st1 x) = true → ∃ vs, SqA t X.K H2 p vs ∧ RepL H2 F2 M2 xs vs := by
  rcases seq_cases h with hd | hd
  · subst hd
    obtain ⟨p, rfl, g⟩ := src_tup S' r
    refine ⟨true, p, rfl, fun F2 M2 H2 st2 l S2 hc => ?_⟩
    obtain ⟨vs, h1, h2⟩ := g F2 M2 H2 l
    exact ⟨vs, SqT.of h1, h2⟩
  · obtain ⟨p, rfl, g⟩ := src_list S' r hd
    refine ⟨false, p, rfl, fun F2 M2 H2 st2 l S2 hc => ?_⟩
    obtain ⟨vs, h1, h2⟩ := g F2 M2 H2 st2 l S2 hc
    exact ⟨vs, .inl h1, h2⟩
theorem chk_self : ∀ {x : D} {xs : List D}, seqOf st x = some xs → chk st (srcOf st x) = true := by
  intro x xs h
  cases x <;> simp only [srcOf, chk] <;> simp only [seqOf] at h
  rename_i n
  cases hn : st[n]? with
  | none => rw [hn] at h; simp at h
  | some o =>
    rw [hn] at h
    cases o <;> simp at h
    simp [chk, hn]
theorem chk_app : ∀ {s1 s2 : Src}, chk st s1 = true → chk st s2 = true → chk st (s1 ++ s2) = true
  | [], s2, _, h => h
  | p :: s1, s2, h, g => by
    simp only [List.cons_append, chk, Bool.and_eq_true] at h ⊢
    exact ⟨h.1, chk_app h.2 g⟩
theorem sI_enm (ok : XOk X c) (hg : glB c.sc "enumerate" = true) (hp : plainE a = true) (ha : PE X a (RE W ia)) : PI X (.Tuple elts kk tpos) (.Call (.Name "enumerate" np) [a] [] pos) (RI W (.enm ia)) := by
  refine ⟨fun pins s σ H R I ⟨F, M, env, st, xs, src, st', En, S, e, k⟩ => ?_⟩
  have hf : X.mg "enumerate" = none := ok.free _ (by decide +kernel)
  simp only [evIt] at e
  split at e
  · rename_i d st1 e1
    split at e
    · rename_i ys hy
      simp only [Option.some.injEq, Prod.mk.injEq] at e
      obtain ⟨rfl, rfl, rfl⟩ := e
      refine (pi_enumA (ok.gl hg) hf (pa_cons ha pa_nil (star_plain [] hp)) (star_plain [] hp)).run pins s σ H R I (.mk En S e1 fun F' M' H' v l S' r => ?_)
      obtain ⟨t, p, rfl, h⟩ := src_seq (X := X) S' r hy
      obtain ⟨vs, h1, h2⟩ := h F' M' H' _ (Le.refl _ _ _) S' (chk_self hy)
      refine ⟨t, p, vs, rfl, h1, k F' M' H' _ l S' ?_⟩
      exact {
        go := fun F2 M2 H2 st2 i l2 S2 hc hi => by
          rw [enumL_len] at hi
          obtain ⟨ws, w1, w2⟩ := h F2 M2 H2 st2 l2 S2 hc
          obtain ⟨v, hv, _⟩ := w2.get (List.getElem?_eq_getElem hi)
          exact ⟨ws, v, w1, hv⟩
        stop := fun F2 M2 H2 st2 l2 S2 hc => by
          obtain ⟨ws, w1, w2⟩ := h F2 M2 H2 st2 l2 S2 hc
          exact ⟨ws, w1, by rw [enumL_len, w2.length]⟩
        yld := fun F2 M2 H2 st2 i x l2 S2 hc hx v H'' ⟨T, u, ev, hT, eH, hv⟩ => by
          subst ev; subst eH
          rw [enumL_get] at hx
          simp only [Option.map_eq_some_iff, Nat.zero_add] at hx
          obtain ⟨y, hy, rfl⟩ := hx
          obtain ⟨ws, w1, w2⟩ := h F2 M2 H2 st2 l2 S2 hc
          obtain ⟨u', hu, ru⟩ := w2.get hy
          have e := (hv ws w1).symm.trans hu
          cases e
          exact pair_new S2 hT (by simp only [Rep]) ru }
    · cases e
  · cases e
theorem sI_zip (ok : XOk X c) (htg : isTupE tg = true ∨ isNmE tg = true) (hg : glB c.sc "zip" = true) (hp : plainE a = true) (hq : plainE b = true) (ha : PE X a (RE W ia)) (hb : PE X b (RE W ib)) : PI X tg (.Call (.Name "zip" np) [a, b] [] pos) (RI W (.zip ia ib)) := by
  refine ⟨fun pins s σ H R I ⟨F, M, env, st, xs, src, st', En, S, e, k⟩ => ?_⟩
  have hf : X.mg "zip" = none := ok.free _ (by decide +kernel)
  simp only [evIt] at e
  split at e
  · rename_i x st1 e1
    split at e
    · rename_i y st2 e2
      split at e
      · rename_i us ws hu hw
        simp only [Option.some.injEq, Prod.mk.injEq] at e
        obtain ⟨rfl, rfl, rfl⟩ := e
        have pz : PI X tg (.Call (.Name "zip" np) [a, b] [] pos) (iZipG X.K (tCons (RE W ia) (tCons (RE W ib) tNil))) := by
          cases tg <;> simp [isTupE, isNmE] at htg
          · exact pi_zipN (ok.gl hg) hf (pa_cons ha (pa_cons hb pa_nil (star_plain [] hq)) (star_plain _ hp)) (star_plain _ hp) (star_none [_] (by simp [hq]))
          · exact pi_zipG (ok.gl hg) hf (pa_cons ha (pa_cons hb pa_nil (star_plain [] hq)) (star_plain _ hp)) (star_plain _ hp) (star_none [_] (by simp [hq]))
        refine pz.run pins s σ H R I ?_
        refine sE_two En S e1 e2 fun F' M' H' u v l S' r1 r2 => ?_
        obtain ⟨t, p, rfl, h⟩ := src_seq (X := X) S' r1 hu
        obtain ⟨t2, q, rfl, g⟩ := src_seq (X := X) S' r2 hw
        obtain ⟨v1, a1, a2⟩ := h F' M' H' _ (Le.refl _ _ _) S' (chk_self hu)
        obtain ⟨v2, b1, b2⟩ := g F' M' H' _ (Le.refl _ _ _) S' (chk_self hw)
        refine ⟨t, t2, p, q, v1, v2, rfl, a1, b1, k F' M' H' _ l S' ?_⟩
        exact {
          go := fun F2 M2 H2 st2 i l2 S2 hc hi => by
            rw [zipL_len] at hi
            obtain ⟨k1, k2⟩ := chk_get hc
            obtain ⟨z1, c1, c2⟩ := h F2 M2 H2 st2 l2 S2 k1
            obtain ⟨z2, d1, d2⟩ := g F2 M2 H2 st2 l2 S2 k2
            obtain ⟨x1, f1, _⟩ := c2.get (i := i) (List.getElem?_eq_getElem (by omega))
            obtain ⟨x2, f2, _⟩ := d2.get (i := i) (List.getElem?_eq_getElem (by omega))
            exact ⟨z1, z2, x1, x2, c1, d1, f1, f2⟩
          stop := fun F2 M2 H2 st2 l2 S2 hc => by
            obtain ⟨k1, k2⟩ := chk_get hc
            obtain ⟨z1, c1, c2⟩ := h F2 M2 H2 st2 l2 S2 k1
            obtain ⟨z2, d1, d2⟩ := g F2 M2 H2 st2 l2 S2 k2
            have e1 := c2.length
            have e2 := d2.length
            exact ⟨z1, z2, c1, d1, by rw [zipL_len]; omega, by rw [zipL_len]; omega, by rw [zipL_len]; omega⟩
          yld := fun F2 M2 H2 st2 i x l2 S2 hc hx v H'' ⟨T, x1, x2, ev, hT, eH, g1, g2⟩ => by
            subst ev; subst eH
            rw [zipL_get] at hx
            split at hx
            · rename_i y1 y2 hy1 hy2
              cases hx
              obtain ⟨k1, k2⟩ := chk_get hc
              obtain ⟨z1, c1, c2⟩ := h F2 M2 H2 st2 l2 S2 k1
              obtain ⟨z2, d1, d2⟩ := g F2 M2 H2 st2 l2 S2 k2
              obtain ⟨w1, f1, q1⟩ := c2.get hy1
              obtain ⟨w2, f2, q2⟩ := d2.get hy2
              have e1 := (g1 z1 c1).symm.trans f1
              have e2 := (g2 z2 d1).symm.trans f2
              cases e1; cases e2
              exact pair_new S2 hT q1 q2
            · cases hx }
      · cases e
    · cases e
  · cases e
theorem rgV_rep {xs : List D} {a b : Int} (h : xs = rangeL a 1 (b - a).toNat) : RepL H F M xs (rgV a b) := by
  subst h
  refine RepL.of_get (by rw [rangeL_len, rgV_length]) fun i d v h1 h2 => ?_
  have hi : i < (b - a).toNat := by have := (List.getElem?_eq_some_iff.mp h1).1; rwa [rangeL_len] at this
  rw [rangeL_get a 1 _ i hi] at h1
  unfold rgV at h2
  rw [List.getElem?_map, List.getElem?_range hi] at h2
  simp only [Option.map_some, Option.some.injEq] at h1 h2
  subst h1; subst h2
  simp only [Rep]
  congr 1; omega
theorem sE_rngL {tup : Bool} {x : Str} {es : List Expr} {t : Expr → IE} {np2 : Pos} (ok : XOk X c) (hx : x = (if tup then ("tuple" : Str) else "list")) (hg : glB c.sc x = true) (hgr : glB c.sc "range" = true) (hp : es.all plainE = true) (ha : ∀ e ∈ es, PE X e (RE W (t e))) :
    PE X (.Call (.Name x np) [.Call (.Name "range" np2) es [] p2] [] pos) (RE W (.rngL tup m (es.map t))) := by
  refine ⟨fun pins s σ H Q I ⟨F, M, env, st, d, st', En, S, e, k⟩ => ?_⟩
  have hfr : X.mg "range" = none := ok.free _ (by decide +kernel)
  simp only [evE] at e
  split at e
  · rename_i ds st1 e1
    have hdl := evEs_len e1
    rw [List.length_map] at hdl
    split at e
    · rename_i ys hy
      split at e
      · rename_i h2
        -- behind the range
        have fin : ∀ (tr : L2.St → Hp → (Int → Int → Hp → Prop) → Prop), PRg X (.Call (.Name "range" np2) es [] p2) tr →
            (∀ R : Int → Int → Hp → Prop, (∀ a b F' M' H', RgOk a b → ys = rangeL a 1 (b - a).toNat → Le F M H F' M' H' → SRx W H' F' M' st1 → R a b H') → tr σ H R) →
            wpAny (model X.prog X.w) X.A (eval (.Call (.Name x np) [.Call (.Name "range" np2) es [] p2] [] pos) X.env) (EP X pins σ Q) X.xe s := fun tr hr hk => by
          cases tup with
          | true =>
            simp only [if_true] at hx
            subst hx
            simp only [Option.some.injEq, Prod.mk.injEq] at e
            obtain ⟨rfl, rfl⟩ := e
            refine (pe_tupRg ok.calm (ok.gl hg) (ok.free _ (by decide +kernel)) hr (by rfl)).run pins s σ H Q I (hk _ fun a b F' M' H' hok hys l S' => ⟨hok, fun q hq => ?_⟩)
            exact newT_post S' (rgV_rep hys) hq (l.post k)
          | false =>
            simp only [Bool.false_eq_true, if_false] at hx
            subst hx
            simp only [Option.some.injEq] at e
            refine (pe_listRg ok.calm (ok.gl hg) (ok.free _ (by decide +kernel)) hr (by rfl)).run pins s σ H Q I (hk _ fun a b F' M' H' hok hys l S' => ⟨hok, fun q hq => ?_⟩)
            exact newL_post S' (rgV_rep hys) hq e (l.post k)
        unfold rng at hy
        split at hy
        · rename_i j
          split at hy
          · rename_i hb
            have hb := inR_b hb
            simp only [Option.some.injEq] at hy
            have h1 : es.length = 1 := by rw [← hdl]; rfl
            obtain ⟨a, rfl⟩ := List.length_eq_one_iff.mp h1
            simp only [List.all_cons, List.all_nil, Bool.and_true] at hp
            have hpe := ha a (List.mem_cons_self ..)
            simp only [List.map_cons, List.map_nil, evEs] at e1
            split at e1
            · rename_i x' st2 e2
              simp only [Option.some.injEq, Prod.mk.injEq, List.cons.injEq, and_true] at e1
              obtain ⟨rfl, rfl⟩ := e1
              refine fin _ (prg_1 (ok.gl hgr) hfr hpe (star_plain [] hp)) fun R hR => ?_
              refine .mk En S e2 fun F' M' H' v l S' r => ?_
              simp only [Rep] at r
              exact ⟨j, r, hR 0 j F' M' H' ⟨by omega, by omega, by omega, by omega, by omega⟩ (by rw [← hy]; simp) l S'⟩
            · cases e1
          · cases hy
        · rename_i i j
          split at hy
          · rename_i hb
            simp only [Bool.and_eq_true] at hb
            have hb1 := inR_b hb.1
            have hb2 := inR_b hb.2
            simp only [Option.some.injEq] at hy
            have h1 : es.length = 2 := by rw [← hdl]; rfl
            obtain ⟨a, b, rfl⟩ := len2 h1
            simp only [List.all_cons, List.all_nil, Bool.and_true, Bool.and_eq_true] at hp
            have hpa := ha a (by simp)
            have hpb := ha b (by simp)
            simp only [List.map_cons, List.map_nil, evEs] at e1
            split at e1
            · rename_i x' st2 e2
              split at e1
              · rename_i ds3 st3 e3
                split at e3
                · rename_i y st4 e4
                  simp only [Option.some.injEq, Prod.mk.injEq] at e3
                  obtain ⟨rfl, rfl⟩ := e3
                  simp only [Option.some.injEq, Prod.mk.injEq, List.cons.injEq, and_true] at e1
                  obtain ⟨⟨rfl, rfl⟩, rfl⟩ := e1
                  refine fin _ (prg_2 (ok.gl hgr) hfr hpa hpb (star_plain _ hp.1) (star_plain [] hp.2) (star_none [_] (by simp [hp]))) fun R hR => ?_
                  refine sE_two En S e2 e4 fun F' M' H' u v l S' r1 r2 => ?_
                  simp only [Rep] at r1 r2
                  exact ⟨i, j, r1, r2, hR i j F' M' H' ⟨by omega, by omega, by omega, by omega, by omega⟩ hy.symm l S'⟩
                · cases e3
              · cases e1
            · cases e1
          · cases hy
        · simp at h2
        · cases hy
      · cases e
    · cases e
  · cases e
theorem sE_trev {np2 : Pos} (ok : XOk X c) (hg : glB c.sc "tuple" = true) (hgr : glB c.sc "reversed" = true) (hp : plainE a = true) (ha : PE X a (RE W ia)) :
    PE X (.Call (.Name "tuple" np) [.Call (.Name "reversed" np2) [a] [] p2] [] pos) (RE W (.trev ia)) := by
  refine ⟨fun pins s σ H Q I ⟨F, M, env, st, d, st', En, S, e, k⟩ => ?_⟩
  simp only [evE] at e
  split at e
  · rename_i x st1 e1
    split at e
    · rename_i ys hy
      simp only [Option.some.injEq, Prod.mk.injEq] at e
      obtain ⟨rfl, rfl⟩ := e
      refine (_root_.RT.pe_tupRev ok.calm (ok.gl hg) (ok.free _ (by decide +kernel)) (ok.gl hgr) (ok.free _ (by decide +kernel)) ha (star_plain [] hp) (by rfl)).run pins s σ H Q I (.mk En S e1 fun F' M' H' v l S' r => ?_)
      obtain ⟨p, vs, rfl, h1, h2⟩ := lstOf_rep S' r hy
      exact ⟨p, vs, rfl, .inl h1, fun q hq => newT_post S' h2.reverse hq (l.post k)⟩
    · cases e
  · cases e
end
end Pm

/-! Pm, part Bc: comprehensions. -/
namespace Pm
open PySem PySem.Spec L2
open PyProof.Rows hiding St
section
variable {X : Cx} {W : Wd} {c : TC} {G : GT} {a b e d' o tg iter elt : Expr} {ia ib ic ie io : IE} {pos p2 np tpos : Pos} {m : Bool} {ta tb : Ts} {F M F' M' : Ads} {H H' : Hp} {st st' : Sto} {d : D}
/-! ### an object outside the store that is being made -/
mutual
theorem Rep.subF (h : ∀ a ∈ F', a ∈ F) : ∀ (d : D) (v : V), Rep H F M d v → Rep H F' M d v
  | .non, v, r => by simp only [Rep] at r ⊢; exact r
  | .bl b, v, r => by simp only [Rep] at r ⊢; exact r
  | .int i, v, r => by simp only [Rep] at r ⊢; exact r
  | .str x, v, r => by simp only [Rep] at r ⊢; exact r
  | .tup ds, v, r => by
    simp only [Rep] at r ⊢
    obtain ⟨p, vs, e, hp, r⟩ := r
    exact ⟨p, vs, e, hp, RepL.subF h ds vs r⟩
  | .lst ds, v, r => by
    simp only [Rep] at r ⊢
    obtain ⟨p, vs, e, hp, n, r⟩ := r
    exact ⟨p, vs, e, hp, fun z => n (h _ z), RepL.subF h ds vs r⟩
  | .dct false ks ds, v, r => by
    simp only [Rep] at r ⊢
    obtain ⟨p, e, n, kvs, hp, ek, r⟩ := r
    exact ⟨p, e, fun z => n (h _ z), kvs, hp, ek, RepL.subF h ds _ r⟩
  | .dct true ks ds, v, r => by
    simp only [Rep] at r ⊢
    obtain ⟨p, e, n, kvs, hp, ek, r⟩ := r
    exact ⟨p, e, fun z => n (h _ z), kvs, hp, ek, RepL.subF h ds _ r⟩
  | .ref n, v, r => by simp only [Rep] at r ⊢; exact r
theorem RepL.subF (h : ∀ a ∈ F', a ∈ F) : ∀ (ds : List D) (vs : List V), RepL H F M ds vs → RepL H F' M ds vs
  | [], vs, r => by simp only [RepL] at r ⊢; exact r
  | d :: ds, vs, r => by
    simp only [RepL] at r ⊢
    obtain ⟨v, t, e, h1, h2⟩ := r
    exact ⟨v, t, e, Rep.subF h d v h1, RepL.subF h ds t h2⟩
end
mutual
/-- an object written that no value has -/
theorem Rep.updD {p : Addr} {vs0 : List V} {o : HO} (hF : p ∈ F) (hM : p ∉ M) (hp : H p = some (.lst vs0)) : ∀ (d : D) (v : V), Rep H F M d v → Rep (upd H p o) F M d v
  | .non, v, r => by simp only [Rep] at r ⊢; exact r
  | .bl b, v, r => by simp only [Rep] at r ⊢; exact r
  | .int i, v, r => by simp only [Rep] at r ⊢; exact r
  | .str x, v, r => by simp only [Rep] at r ⊢; exact r
  | .tup ds, v, r => by
    simp only [Rep] at r ⊢
    obtain ⟨q, vs, e, hq, r⟩ := r
    exact ⟨q, vs, e, by rw [upd_ne (fun z => by subst z; rw [hp] at hq; cases hq)]; exact hq, RepL.updD hF hM hp ds vs r⟩
  | .lst ds, v, r => by
    simp only [Rep] at r ⊢
    obtain ⟨q, vs, e, hq, n, r⟩ := r
    have hne : q ≠ p := fun z => n (by rw [z]; exact hF)
    refine ⟨q, vs, e, ?_, n, RepL.updD hF hM hp ds vs r⟩
    rcases hq with hq | ⟨ob, hq⟩
    · exact .inl (by rw [upd_ne hne]; exact hq)
    · exact .inr ⟨ob, by rw [upd_ne hne]; exact hq⟩
  | .dct false ks ds, v, r => by
    simp only [Rep] at r ⊢
    obtain ⟨q, e, n, kvs, hq, ek, r⟩ := r
    exact ⟨q, e, n, kvs, by rw [upd_ne (fun z => n (by rw [z]; exact hF))]; exact hq, ek, RepL.updD hF hM hp ds _ r⟩
  | .dct true ks ds, v, r => by
    simp only [Rep] at r ⊢
    obtain ⟨q, e, n, kvs, hq, ek, r⟩ := r
    exact ⟨q, e, n, kvs, by rw [upd_ne (fun z => n (by rw [z]; exact hF))]; exact hq, ek, RepL.updD hF hM hp ds _ r⟩
  | .ref n, v, r => by simp only [Rep] at r ⊢; exact r
theorem RepL.updD {p : Addr} {vs0 : List V} {o : HO} (hF : p ∈ F) (hM : p ∉ M) (hp : H p = some (.lst vs0)) : ∀ (ds : List D) (vs : List V), RepL H F M ds vs → RepL (upd H p o) F M ds vs
  | [], vs, r => by simp only [RepL] at r ⊢; exact r
  | d :: ds, vs, r => by
    simp only [RepL] at r ⊢
    obtain ⟨v, t, e, h1, h2⟩ := r
    exact ⟨v, t, e, Rep.updD hF hM hp d v h1, RepL.updD hF hM hp ds t h2⟩
end
theorem ObR.updD {p : Addr} {vs0 : List V} {o : HO} {cl : Nat → Addr} {fl : Nat → Str} {ob : Ob} {q : Addr} (hF : p ∈ F) (hM : p ∉ M) (hp : H p = some (.lst vs0)) (hq : q ∈ M) (h : ObR H F M cl fl ob q) : ObR (upd H p o) F M cl fl ob q := by
  have hne : q ≠ p := fun z => hM (by rw [← z]; exact hq)
  match ob, h with
  | .lst ds, ⟨vs, e, r⟩ => exact ⟨vs, by rw [upd_ne hne]; exact e, RepL.updD hF hM hp ds vs r⟩
  | .dct false ks ds, ⟨kvs, e, ek, r⟩ => exact ⟨kvs, by rw [upd_ne hne]; exact e, ek, RepL.updD hF hM hp ds _ r⟩
  | .dct true ks ds, ⟨kvs, e, ek, r⟩ => exact ⟨kvs, by rw [upd_ne hne]; exact e, ek, RepL.updD hF hM hp ds _ r⟩
  | .fdc false ks ds, ⟨kvs, e, ek, r⟩ => exact ⟨kvs, by rw [upd_ne hne]; exact e, ek, RepL.updD hF hM hp ds _ r⟩
  | .fdc true ks ds, ⟨kvs, e, ek, r⟩ => exact ⟨kvs, by rw [upd_ne hne]; exact e, ek, RepL.updD hF hM hp ds _ r⟩
  | .ins cc fs, ⟨dx, fvs, e, ek, r⟩ => exact ⟨dx, fvs, by rw [upd_ne hne]; exact e, ek, RepL.updD hF hM hp _ _ r⟩
theorem ObR.subF {cl : Nat → Addr} {fl : Nat → Str} {ob : Ob} {q : Addr} (h : ∀ a ∈ F', a ∈ F) (r : ObR H F M cl fl ob q) : ObR H F' M cl fl ob q := by
  match ob, r with
  | .lst ds, ⟨vs, e, r⟩ => exact ⟨vs, e, RepL.subF h ds vs r⟩
  | .dct false ks ds, ⟨kvs, e, ek, r⟩ => exact ⟨kvs, e, ek, RepL.subF h ds _ r⟩
  | .dct true ks ds, ⟨kvs, e, ek, r⟩ => exact ⟨kvs, e, ek, RepL.subF h ds _ r⟩
  | .fdc false ks ds, ⟨kvs, e, ek, r⟩ => exact ⟨kvs, e, ek, RepL.subF h ds _ r⟩
  | .fdc true ks ds, ⟨kvs, e, ek, r⟩ => exact ⟨kvs, e, ek, RepL.subF h ds _ r⟩
  | .ins cc fs, ⟨dx, fvs, e, ek, r⟩ => exact ⟨dx, fvs, e, ek, RepL.subF h _ _ r⟩
theorem SR.updD {p : Addr} {vs0 : List V} {o : HO} (S : SRx W H F M st) (hF : p ∈ F) (hM : p ∉ M) (hp : H p = some (.lst vs0)) : SRx W (upd H p o) F M st :=
  ⟨S.len, S.nd, S.mf, fun q hq => by
    by_cases z : q = p
    · rw [z, upd_same]; simp
    · rw [upd_ne z]; exact S.fs q hq, fun n ob q e1 e2 => (S.obs n ob q e1 e2).updD hF hM hp (List.mem_of_getElem? e2)⟩
theorem EnR.updD {p : Addr} {vs0 : List V} {o : HO} {env : Env} {σ : L2.St} (h : EnR H F M env σ) (hF : p ∈ F) (hM : p ∉ M) (hp : H p = some (.lst vs0)) : EnR (upd H p o) F M env σ :=
  ⟨h.len, fun i d e => let ⟨v, e1, r⟩ := h.at_ i d e; ⟨v, e1, Rep.updD hF hM hp d v r⟩⟩
/-- a new list being made: nobody's value has it -/
theorem Le.begin {p : Addr} {o : HO} (F M : Ads) (hp : H p = none) : Le F M H (F ++ [p]) M (upd H p o) :=
  { Le.fresh (o := o) F M hp with
    fsub := fun _ h => List.mem_append_left _ h
    fnew := fun a h => by
      rcases List.mem_append.mp h with h | h
      · exact .inl h
      · have e : a = p := by simpa using h
        subst e; exact .inr hp }
theorem SR.begin {p : Addr} {o : HO} (S : SRx W H F M st) (hp : H p = none) : SRx W (upd H p o) (F ++ [p]) M st where
  len := S.len
  nd := S.nd
  mf := fun a h => List.mem_append_left _ (S.mf a h)
  fs := fun a h => by
    rcases List.mem_append.mp h with h | h
    · exact (Le.fresh (o := o) F M hp).alive a (S.fs a h)
    · have e : a = p := by simpa using h
      subst e; rw [upd_same]; simp
  obs := fun n ob a e1 e2 => (S.obs n ob a e1 e2).le (Le.begin F M hp) S.mf fun u h => by
    rw [upd_ne (ne_of_none h hp)]; exact h
/-- .. written on -/
theorem Le.updD {p : Addr} {o : HO} {F1 M1 : Ads} {H1 : Hp} (l : Le F M H F1 M1 H1) (h0 : H p = none) : Le F M H F1 M1 (upd H1 p o) where
  ext := fun a u h n => by rw [upd_ne (ne_of_none h h0)]; exact l.ext a u h n
  alive := fun a h => by
    by_cases z : a = p
    · rw [z, upd_same]; simp
    · rw [upd_ne z]; exact l.alive a h
  tups := fun a xs h => by rw [upd_ne (ne_of_none h h0)]; exact l.tups a xs h
  frzs := fun a u w h => by rw [upd_ne (ne_of_none h h0)]; exact l.frzs a u w h
  pre := l.pre
  fsub := l.fsub
  fnew := l.fnew
  mnew := l.mnew
mutual
theorem Rep.preM (h : ∀ (n : Nat) (a : Addr), M[n]? = some a → M'[n]? = some a) : ∀ (d : D) (v : V), Rep H F M d v → Rep H F M' d v
  | .non, v, r => by simp only [Rep] at r ⊢; exact r
  | .bl b, v, r => by simp only [Rep] at r ⊢; exact r
  | .int i, v, r => by simp only [Rep] at r ⊢; exact r
  | .str x, v, r => by simp only [Rep] at r ⊢; exact r
  | .tup ds, v, r => by
    simp only [Rep] at r ⊢
    obtain ⟨p, vs, e, hp, r⟩ := r
    exact ⟨p, vs, e, hp, RepL.preM h ds vs r⟩
  | .lst ds, v, r => by
    simp only [Rep] at r ⊢
    obtain ⟨p, vs, e, hp, n, r⟩ := r
    exact ⟨p, vs, e, hp, n, RepL.preM h ds vs r⟩
  | .dct false ks ds, v, r => by
    simp only [Rep] at r ⊢
    obtain ⟨p, e, n, kvs, hp, ek, r⟩ := r
    exact ⟨p, e, n, kvs, hp, ek, RepL.preM h ds _ r⟩
  | .dct true ks ds, v, r => by
    simp only [Rep] at r ⊢
    obtain ⟨p, e, n, kvs, hp, ek, r⟩ := r
    exact ⟨p, e, n, kvs, hp, ek, RepL.preM h ds _ r⟩
  | .ref n, v, r => by
    simp only [Rep] at r ⊢
    obtain ⟨p, e, hm⟩ := r
    exact ⟨p, e, h n p hm⟩
theorem RepL.preM (h : ∀ (n : Nat) (a : Addr), M[n]? = some a → M'[n]? = some a) : ∀ (ds : List D) (vs : List V), RepL H F M ds vs → RepL H F M' ds vs
  | [], vs, r => by simp only [RepL] at r ⊢; exact r
  | d :: ds, vs, r => by
    simp only [RepL] at r ⊢
    obtain ⟨v, t, e, h1, h2⟩ := r
    exact ⟨v, t, e, Rep.preM h d v h1, RepL.preM h ds t h2⟩
end
theorem ObR.preM {cl : Nat → Addr} {fl : Nat → Str} {ob : Ob} {q : Addr} (h : ∀ (n : Nat) (a : Addr), M[n]? = some a → M'[n]? = some a) (r : ObR H F M cl fl ob q) : ObR H F M' cl fl ob q := by
  match ob, r with
  | .lst ds, ⟨vs, e, r⟩ => exact ⟨vs, e, RepL.preM h ds vs r⟩
  | .dct false ks ds, ⟨kvs, e, ek, r⟩ => exact ⟨kvs, e, ek, RepL.preM h ds _ r⟩
  | .dct true ks ds, ⟨kvs, e, ek, r⟩ => exact ⟨kvs, e, ek, RepL.preM h ds _ r⟩
  | .fdc false ks ds, ⟨kvs, e, ek, r⟩ => exact ⟨kvs, e, ek, RepL.preM h ds _ r⟩
  | .fdc true ks ds, ⟨kvs, e, ek, r⟩ => exact ⟨kvs, e, ek, RepL.preM h ds _ r⟩
  | .ins cc fs, ⟨dx, fvs, e, ek, r⟩ => exact ⟨dx, fvs, e, ek, RepL.preM h _ _ r⟩
/-- .. done: a list of the store, or one that nobody writes -/
theorem done_post {p : Addr} {F1 M1 : Ads} {H1 : Hp} {ds : List D} {vs : List V} {Q : VK} {st0 : Sto} (l : Le F M H F1 M1 H1) (S : SRx W H F M st0) (S1 : SRx W H1 F1 M1 st) (h0 : H p = none) (hF : p ∈ F1) (hM : p ∉ M1) (hp : H1 p = some (.lst vs)) (r : RepL H1 F1 M1 ds vs)
    {st2 : Sto} (e : newL m ds st = (d, st2)) (k : PostV W F M H d st2 Q) : Q (.ref p) H1 := by
  cases m with
  | true =>
    simp only [newL, if_true, Prod.mk.injEq] at e
    obtain ⟨rfl, rfl⟩ := e
    have hpre : ∀ (n : Nat) (a : Addr), M1[n]? = some a → (M1 ++ [p])[n]? = some a := fun n a h => by
      rw [List.getElem?_append_left (List.getElem?_eq_some_iff.mp h).1]; exact h
    have l2 : Le F M H F1 (M1 ++ [p]) H1 := { l with
      pre := fun n a h => hpre n a (l.pre n a h)
      mnew := fun a h => by
        rcases List.mem_append.mp h with h | h
        · exact l.mnew a h
        · have e : a = p := by simpa using h
          subst e; exact .inr h0 }
    refine k F1 (M1 ++ [p]) H1 _ l2 ?_ ?_
    · refine ⟨by simp [S1.len], ?_, fun a h => ?_, S1.fs, fun n ob a e1 e2 => ?_⟩
      · rw [List.nodup_append]
        exact ⟨S1.nd, by simp, fun a ha b hb e => by
          have e2 : b = p := by simpa using hb
          subst e2; subst e; exact hM ha⟩
      · rcases List.mem_append.mp h with h | h
        · exact S1.mf a h
        · have e : a = p := by simpa using h
          subst e; exact hF
      · by_cases hn : n < st.length
        · rw [List.getElem?_append_left hn] at e1
          rw [List.getElem?_append_left (by rw [S1.len]; exact hn)] at e2
          exact (S1.obs n ob a e1 e2).preM hpre
        · have en : n = st.length := by
            have := (List.getElem?_eq_some_iff.mp e1).1
            simp at this; omega
          subst en
          rw [List.getElem?_append_right (Nat.le_refl _)] at e1
          rw [List.getElem?_append_right (by rw [S1.len]; exact Nat.le_refl _), S1.len] at e2
          simp at e1 e2
          subst e1; subst e2
          exact ⟨vs, hp, RepL.preM hpre ds vs r⟩
    · simp only [Rep]
      exact ⟨p, rfl, by rw [← S1.len]; simp⟩
  | false =>
    simp only [newL, Bool.false_eq_true, if_false, Prod.mk.injEq] at e
    obtain ⟨rfl, rfl⟩ := e
    have hs : ∀ a ∈ F1.filter (fun a => decide (a ≠ p)), a ∈ F1 := fun a h => (List.mem_filter.mp h).1
    have hnp : p ∉ F1.filter (fun a => decide (a ≠ p)) := fun h => by
      have := (List.mem_filter.mp h).2
      simp at this
    have l2 : Le F M H (F1.filter fun a => decide (a ≠ p)) M1 H1 := { l with
      fsub := fun a h => List.mem_filter.mpr ⟨l.fsub a h, decide_eq_true fun z => S.fs a h (by rw [z]; exact h0)⟩
      fnew := fun a h => l.fnew a (hs a h) }
    refine k _ M1 H1 _ l2 ⟨S1.len, S1.nd, fun a h => List.mem_filter.mpr ⟨S1.mf a h, decide_eq_true fun z => hM (by rw [← z]; exact h)⟩, fun a h => S1.fs a (hs a h), fun n ob a e1 e2 => (S1.obs n ob a e1 e2).subF hs⟩ ?_
    simp only [Rep]
    exact ⟨p, vs, rfl, .inl hp, hnp, RepL.subF hs ds vs r⟩

/-! ### the comprehension -/
theorem XOk.blk (ok : XOk X c) {s : Shared} {H : Hp} {scope : Scope} {cl : List (Str × Addr)} {C : Addr} {fp : List Addr} : XOk (X.blk s H scope (compEnvC scope cl C X.env) fp) (c.blk scope) where
  n := ok.n
  sc := by
    show relabel scope X.env = relS scope c.sc
    unfold relabel relS Env.kindOf
    rw [ok.sc]
  nd := ok.nd
  calm := ok.calm
  fn := fun x h => h
  xe := rfl
  un := ok.un
  gd := ok.gd
  free := ok.free
theorem wipe_keep {σ σ' : L2.St} {vs L : List Nat} (h : ∀ j ∈ L, j ∈ vs) (k : Keep L σ σ') : L2.wipe σ' vs = L2.wipe σ vs := by
  apply List.ext_getElem?
  intro j
  have wg : ∀ (τ : L2.St) (vs : List Nat) (j : Nat), (L2.wipe τ vs)[j]? = if j ∈ vs then (if j < τ.length then some none else none) else τ[j]? := by
    intro τ vs
    induction vs with
    | nil => intro j; simp [L2.wipe]
    | cons v vs ih =>
      intro j
      simp only [L2.wipe]
      by_cases e : j = v
      · subst e
        by_cases hl : j < τ.length
        · rw [List.getElem?_set_self (by rw [wipe_length]; exact hl)]; simp [hl]
        · rw [List.getElem?_eq_none (by rw [List.length_set, wipe_length]; omega)]; simp [hl]
      · rw [List.getElem?_set_ne (Ne.symm e), ih]
        simp [e]
  rw [wg, wg, k.1]
  by_cases hj : j ∈ vs
  · simp [hj]
  · simp only [hj, if_false]
    exact k.2 j fun z => hj (h j z)
theorem wipe_wipe (σ : L2.St) (vs : List Nat) : L2.wipe (L2.wipe σ vs) vs = L2.wipe σ vs := by
  apply List.ext_getElem?
  intro j
  have wg : ∀ (τ : L2.St) (vs : List Nat) (j : Nat), (L2.wipe τ vs)[j]? = if j ∈ vs then (if j < τ.length then some none else none) else τ[j]? := by
    intro τ vs
    induction vs with
    | nil => intro j; simp [L2.wipe]
    | cons v vs ih =>
      intro j
      simp only [L2.wipe]
      by_cases e : j = v
      · subst e
        by_cases hl : j < τ.length
        · rw [List.getElem?_set_self (by rw [wipe_length]; exact hl)]; simp [hl]
        · rw [List.getElem?_eq_none (by rw [List.length_set, wipe_length]; omega)]; simp [hl]
      · rw [List.getElem?_set_ne (Ne.symm e), ih]
        simp [e]
  rw [wg, wg, wipe_length]
  by_cases hj : j ∈ vs <;> simp [hj]
theorem RepL.snoc {ds : List D} {vs : List V} {v : V} (h : RepL H F M ds vs) (r : Rep H F M d v) : RepL H F M (ds ++ [d]) (vs ++ [v]) := h.append (.cons r .nil)
variable {it : It} {t : Tg} {cs : List Ts} {own : List Nat}
/-- the reading of a comprehension from what its parts come to -/
theorem comp_rd {K : PySem.W.Frag} {σ : L2.St} {Q : VK} {env : Env} (En : EnR H F M env σ) (S : SRx W H F M st) (ho : ∀ j ∈ t.slots, j ∈ own) (e : evE W.P W.C (.comp m own t it cs ie) env st = some (d, st')) (k : PostV W F M H d st' Q) :
    tLc (RI W it) (RG W t) (RTs W cs) (RE W ie) own σ H Q := by
  simp only [evE] at e
  split at e
  · rename_i xs src st1 e1
    split at e
    · rename_i hlim
      split at e
      · rename_i ds st2 e2
        simp only [Option.some.injEq] at e
        refine ⟨F, M, env, st, xs, src, st1, En, S, e1, fun F1 M1 H1 J l1 S1 hJ => fun p hp => ?_⟩
        have En1 := (En.le l1 S.mf).wipe own
        refine ⟨fun i n H' => i + n = xs.length ∧ ∃ F' M' st'' acc vs rest, Le F1 M1 H1 F' M' H' ∧ SRx W H' F' M' st'' ∧ EnR H' F' M' (wipe env own) (L2.wipe σ own) ∧ p ∈ F' ∧ p ∉ M' ∧ H' p = some (.lst vs) ∧ RepL H' F' M' acc vs ∧ acc.length ≤ i ∧
          compL (fun d env st => asgT W.P W.C t d env st) (fun env st => evTs W.P W.C cs env st) (fun env st => evE W.P W.C ie env st) src (wipe env own) (xs.drop i) st'' = some (rest, st2) ∧ acc ++ rest = ds, ⟨xs.length, ?_⟩, fun i n H' hW => ?_⟩
        · have lb := Le.begin (o := .lst []) F1 M1 hp
          exact ⟨by omega, F1 ++ [p], M1, st1, [], [], ds, lb, S1.begin hp, En1.le lb S1.mf, List.mem_append_right _ (by simp), fun z => S1.fs p (S1.mf p z) hp, upd_same, .nil, Nat.le_refl _, by simpa using e2, rfl⟩
        · obtain ⟨hin, F', M', st'', acc, vs, rest, l', S', En', pF, pM, hpp, r, hai, ec, hd⟩ := hW
          by_cases hi : i < xs.length
          · right
            have hdrop : xs.drop i = xs[i] :: xs.drop (i + 1) := List.drop_eq_getElem_cons hi
            rw [hdrop] at ec
            simp only [compL] at ec
            split at ec
            · cases ec
            · rename_i hchk
              have hchk : chk st'' src = true := by simpa using hchk
              refine ⟨hJ.go F' M' H' st'' i l' S' hchk hi, fun H5 => ∃ F5 M5 st5 acc5 vs5 rest5, Le F1 M1 H1 F5 M5 H5 ∧ SRx W H5 F5 M5 st5 ∧ EnR H5 F5 M5 (wipe env own) (L2.wipe σ own) ∧ p ∈ F5 ∧ p ∉ M5 ∧ H5 p = some (.lst vs5) ∧ RepL H5 F5 M5 acc5 vs5 ∧ acc5.length ≤ i + 1 ∧
                compL (fun d env st => asgT W.P W.C t d env st) (fun env st => evTs W.P W.C cs env st) (fun env st => evE W.P W.C ie env st) src (wipe env own) (xs.drop (i + 1)) st5 = some (rest5, st2) ∧ acc5 ++ rest5 = ds, fun H5 h5 => ⟨n - 1, by omega, by omega, h5⟩, fun v H2 hy => ?_⟩
              obtain ⟨l2, S2, rv⟩ := hJ.yld F' M' H' st'' i _ l' S' hchk (List.getElem?_eq_getElem hi) v H2 hy
              have En2 := En'.le l2 S'.mf
              have l02 := l'.trans l2
              have hp2 : H2 p = some (.lst vs) := l2.ext p _ hpp pM
              have r2 := r.le l2 S'.mf
              split at ec
              · cases ec
              · rename_i env1 st3 e3
                refine ⟨F', M', wipe env own, st'', xs[i], env1, st3, En2, S2, rv, e3, fun F3 M3 H3 σ3 l3 S3 En3 hk => ⟨?_, ?_⟩⟩
                · rw [wipe_keep ho hk, wipe_wipe]
                · have hne : H2 p ≠ none := by rw [hp2]; simp
                  have pF3 : p ∈ F3 := l3.fsub p pF
                  have pM3 : p ∉ M3 := fun z => (l3.mnew p z).elim pM hne
                  have hp3 : H3 p = some (.lst vs) := l3.ext p _ hp2 pM
                  have r3 := r2.le l3 S2.mf
                  have l03 := l02.trans l3
                  have EnW := En2.le l3 S2.mf
                  split at ec
                  · cases ec
                  · rename_i st4 e4
                    refine ⟨F3, M3, env1, st3, false, st4, En3, S3, e4, fun F4 M4 H4 l4 S4 => ?_⟩
                    refine iteF ?_
                    have hne3 : H3 p ≠ none := by rw [hp3]; simp
                    exact ⟨F4, M4, st4, acc, vs, rest, l03.trans l4, S4, EnW.le l4 S3.mf, l4.fsub p pF3, fun z => (l4.mnew p z).elim pM3 hne3, l4.ext p _ hp3 pM3, r3.le l4 S3.mf, by omega, ec, hd⟩
                  · rename_i st4 e4
                    refine ⟨F3, M3, env1, st3, true, st4, En3, S3, e4, fun F4 M4 H4 l4 S4 => ?_⟩
                    refine iteT ?_
                    have hne3 : H3 p ≠ none := by rw [hp3]; simp
                    have pF4 := l4.fsub p pF3
                    have pM4 : p ∉ M4 := fun z => (l4.mnew p z).elim pM3 hne3
                    have hp4 : H4 p = some (.lst vs) := l4.ext p _ hp3 pM3
                    have hne4 : H4 p ≠ none := by rw [hp4]; simp
                    have r4 := r3.le l4 S3.mf
                    split at ec
                    · cases ec
                    · rename_i dd st5 e5
                      split at ec
                      · cases ec
                      · rename_i rest5 st6 e6
                        simp only [Option.some.injEq, Prod.mk.injEq] at ec
                        obtain ⟨rfl, rfl⟩ := ec
                        refine .mk (En3.le l4 S3.mf) S4 e5 fun F5 M5 H5 y l5 S5 ry => ?_
                        have pF5 := l5.fsub p pF4
                        have pM5 : p ∉ M5 := fun z => (l5.mnew p z).elim pM4 hne4
                        have hp5 : H5 p = some (.lst vs) := l5.ext p _ hp4 pM4
                        have r5 := r4.le l5 S4.mf
                        have hlen : vs.length < sizeLine := by
                          rw [← r5.length]
                          exact Nat.lt_of_le_of_lt hai (Nat.lt_trans hi (Nat.lt_of_lt_of_le hlim (by decide)))
                        refine ⟨vs, hp5, hlen, ?_⟩
                        have hfresh : H1 p = none := hp
                        exact ⟨F5, M5, st5, acc ++ [dd], vs ++ [y], rest5, ((l03.trans l4).trans l5).updD hfresh, S5.updD pF5 pM5 hp5, ((EnW.le l4 S3.mf).le l5 S4.mf).updD pF5 pM5 hp5, pF5, pM5, upd_same,
                          RepL.updD pF5 pM5 hp5 _ _ (r5.snoc ry), by simp; omega, e6, by rw [List.append_assoc]; exact hd⟩
          · left
            have hiL : i = xs.length := by omega
            subst hiL
            rw [List.drop_length] at ec
            simp only [compL] at ec
            split at ec
            · rename_i hchk
              simp only [Option.some.injEq, Prod.mk.injEq] at ec
              obtain ⟨rfl, rfl⟩ := ec
              rw [List.append_nil] at hd
              subst hd
              exact ⟨hJ.stop F' M' H' st'' l' S' hchk, done_post l' S1 S' hp pF pM hpp r e (l1.post k)⟩
            · cases ec
      · cases e
    · cases e
  · cases e
theorem sTs {ts : Expr → Ts} : ∀ (ifs : List Expr), ifs.length ≤ 1 → (∀ e ∈ ifs, PT X e (RT W (ts e))) → PTs X ifs (RTs W (ifs.map ts))
  | [], _, _ => by
    refine ⟨fun pins s σ H Q I ⟨F, M, env, st, b, st', En, S, e, k⟩ => ?_⟩
    simp only [List.map_nil, evTs, Option.some.injEq, Prod.mk.injEq] at e
    obtain ⟨rfl, rfl⟩ := e
    exact pts_nil.run pins s σ H Q I (k F M H (Le.refl F M H) S)
  | [x], _, h => by
    refine ⟨fun pins s σ H Q I ⟨F, M, env, st, b, st', En, S, e, k⟩ => ?_⟩
    simp only [List.map_cons, List.map_nil, evTs] at e
    exact (pts_one (h x (List.mem_cons_self ..))).run pins s σ H Q I ⟨F, M, env, st, b, st', En, S, e, k⟩
  | _ :: _ :: _, h, _ => by simp at h
theorem folded_plain {x : Expr} {env : PySem.Env} (h : plainE x = true) (v : Value) : foldedSetIterable x env v = pure v := by
  cases x <;> first | rfl | simp [plainE] at h
theorem sE_comp (ok : XOk X c) {ifs : List Expr} {scope : Scope} (hb : blkC c.N c.sc scope (ownOf c.N scope) = true) (ho : ∀ j ∈ t.slots, j ∈ (ownOf c.N scope).map (·.2)) (hp : plainE iter = true) (hi : PI X tg iter (RI W it))
    (hg : ∀ (s : Shared) (H : Hp) (C : Addr) (cl : List (Str × Addr)) (fp : List Addr), PG (X.blk s H scope (compEnvC scope cl C X.env) fp) tg (RG W t))
    (ht : ∀ (s : Shared) (H : Hp) (C : Addr) (cl : List (Str × Addr)) (fp : List Addr), PTs (X.blk s H scope (compEnvC scope cl C X.env) fp) ifs (RTs W cs))
    (he : ∀ (s : Shared) (H : Hp) (C : Addr) (cl : List (Str × Addr)) (fp : List Addr), PE (X.blk s H scope (compEnvC scope cl C X.env) fp) elt (RE W ie)) :
    PE X (.ListComp elt [⟨tg, iter, ifs, 0⟩] scope pos) (RE W (.comp m ((ownOf c.N scope).map (·.2)) t it cs ie)) := by
  have hbk : BlkOk X.N X.env.scope scope (ownOf c.N scope) := by rw [ok.n, ok.sc]; exact blkOk_by hb
  refine ⟨fun pins s σ H Q I ⟨F, M, env, st, d, st', En, S, e, k⟩ => ?_⟩
  exact (pe_lc ok.calm (by rw [ok.n]; exact ok.nd) hi hbk hg ht he (folded_plain hp)).run pins s σ H Q I (comp_rd (K := X.K) En S ho e k)
/-- a list or a tuple that stands apart from z -/
def SqZ (t : Bool) (K : PySem.W.Frag) (H : Hp) (p z : Addr) (xs : List V) : Prop := (Rd H p (if t then .tup xs else .lst xs) ∧ p ≠ z) ∨ ∀ H', SqA t K H' p xs
theorem SqZ.of {t : Bool} {K : PySem.W.Frag} {p z : Addr} {xs : List V} (h : SqA t K H p xs) (hz : H z = none) : SqZ t K H p z xs := by
  cases t
  · rcases h with h | h
    · exact .inl ⟨h, fun q => rd_some h (by rw [q]; exact hz)⟩
    · exact .inr fun H' => .inr h
  · rcases h with h | h
    · exact .inl ⟨h, fun q => rd_some h (by rw [q]; exact hz)⟩
    · exact .inr fun H' => .inr h
theorem SqZ.to {t : Bool} {K : PySem.W.Frag} {p z : Addr} {xs : List V} (h : SqZ t K H p z xs) : SqA t K H p xs := by
  rcases h with ⟨h, _⟩ | h
  · cases t
    · exact .inl h
    · exact .inl h
  · exact h H
theorem SqZ.upd {t : Bool} {K : PySem.W.Frag} {p z c : Addr} {o : HO} {xs : List V} (h : SqZ t K H p z xs) (hc : H c = none ∨ c = z) : SqZ t K (upd H c o) p z xs := by
  rcases h with ⟨h, n⟩ | h
  · have hne : p ≠ c := fun q => hc.elim (fun g => rd_some h (by rw [q]; exact g)) fun g => n (q.trans g)
    refine .inl ⟨?_, n⟩
    rcases h with h | ⟨w, h⟩
    · exact .inl (by rw [upd_ne hne]; exact h)
    · exact .inr ⟨w, by rw [upd_ne hne]; exact h⟩
  · exact .inr h
/-- list(zip(a, b)) -/
theorem sE_lzip {np2 : Pos} (ok : XOk X c) (hg : glB c.sc "list" = true) (hgz : glB c.sc "zip" = true) (hp : plainE a = true) (hq : plainE b = true) (ha : PE X a (RE W ia)) (hb : PE X b (RE W ib)) :
    PE X (.Call (.Name "list" np) [.Call (.Name "zip" np2) [a, b] [] p2] [] pos) (RE W (.lzip m ia ib)) := by
  refine ⟨fun pins s σ H Q I ⟨F, M, env, st, d, st', En, S, e, k⟩ => ?_⟩
  simp only [evE] at e
  split at e
  · rename_i x st1 e1
    split at e
    · rename_i y st2 e2
      split at e
      · rename_i us ws hu hw
        split at e
        · rename_i hlim
          simp only [Option.some.injEq] at e
          refine (pe_listZip ok.calm (ok.gl hg) (ok.free _ (by decide +kernel)) (ok.gl hgz) (ok.free _ (by decide +kernel)) (pa_cons ha (pa_cons hb pa_nil (star_plain [] hq)) (star_plain _ hp)) (star_plain _ hp) (star_none [_] (by simp [hq])) (by rfl)).run pins s σ H Q I ?_
          refine sE_two En S e1 e2 fun F' M' H' u v l S' r1 r2 => ?_
          obtain ⟨t, p, rfl, h⟩ := src_seq (X := X) S' r1 hu
          obtain ⟨t2, q, rfl, g⟩ := src_seq (X := X) S' r2 hw
          obtain ⟨v1, a1, a2⟩ := h F' M' H' _ (Le.refl _ _ _) S' (chk_self hu)
          obtain ⟨v2, b1, b2⟩ := g F' M' H' _ (Le.refl _ _ _) S' (chk_self hw)
          have la := a2.length
          have lb := b2.length
          have lim1 : lim < sizeLine := by decide
          refine ⟨t, t2, p, q, v1, v2, rfl, a1, b1, by omega, fun z hz => ?_⟩
          refine ⟨fun i H1 => ∃ F1 acc, SqZ t X.K H1 p z v1 ∧ SqZ t2 X.K H1 q z v2 ∧ Le F' M' H' F1 M' H1 ∧ SRx W H1 F1 M' st2 ∧ z ∈ F1 ∧ z ∉ M' ∧ H1 z = some (.lst acc) ∧ acc.length = i ∧ RepL H1 F1 M' ((zipL us ws).take i) acc, ?_, fun i H1 hi hP => ?_, fun H1 hP => ?_, fun H1 hP => ?_⟩
          · exact ⟨F' ++ [z], [], (SqZ.of a1 hz).upd (.inl hz), (SqZ.of b1 hz).upd (.inl hz), Le.begin _ _ hz, S'.begin hz, List.mem_append_right _ (by simp), fun n => S'.fs z (S'.mf z n) hz, upd_same, rfl, .nil⟩
          · obtain ⟨F1, acc, s1, s2, l1, S1, zF, zM, hzz, hacc, ra⟩ := hP
            refine ⟨s1.to, s2.to, acc, hzz, hacc, fun x y T hx hy hT => ?_⟩
            have hT2 : Le F1 M' H1 F1 M' (upd H1 T (.tup [x, y])) := Le.fresh F1 M' hT
            have S2 := SR.fresh (o := .tup [x, y]) S1 hT
            have hz2 : upd H1 T (.tup [x, y]) z = some (.lst acc) := by rw [upd_ne (ne_of_none hzz hT)]; exact hzz
            refine ⟨F1, acc ++ [.ref T], (s1.upd (.inl hT)).upd (.inr rfl), (s2.upd (.inl hT)).upd (.inr rfl), (l1.trans hT2).updD hz, S2.updD zF zM hz2, zF, zM, upd_same, by simp; omega, RepL.updD zF zM hz2 _ _ ?_⟩
            have hu' : us[i]? = some us[i] := List.getElem?_eq_getElem (by omega)
            have hw' : ws[i]? = some ws[i] := List.getElem?_eq_getElem (by omega)
            have e3 : (zipL us ws)[i]? = some (.tup [us[i], ws[i]]) := by rw [zipL_get, hu', hw']
            rw [List.take_add_one, e3]
            refine (ra.le hT2 S1.mf).append ?_
            have r1' := (a2.le l1 S'.mf).le hT2 S1.mf
            have r2' := (b2.le l1 S'.mf).le hT2 S1.mf
            obtain ⟨x', hx', rx'⟩ := r1'.get hu'
            obtain ⟨y', hy', ry'⟩ := r2'.get hw'
            rw [hx] at hx'; cases hx'
            rw [hy] at hy'; cases hy'
            exact .cons (by simp only [Rep]; exact ⟨T, [x, y], rfl, upd_same, .cons rx' (.cons ry' .nil)⟩) .nil
          · obtain ⟨F1, acc, s1, s2, _⟩ := hP
            exact ⟨s1.to, s2.to⟩
          · obtain ⟨F1, acc, s1, s2, l1, S1, zF, zM, hzz, hacc, ra⟩ := hP
            rw [List.take_of_length_le (by rw [zipL_len]; omega)] at ra
            exact done_post l1 S' S1 hz zF zM hzz ra e (l.post k)
        · cases e
      · cases e
    · cases e
  · cases e
end
end Pm

/-! Pm, part Bd: statements. -/
namespace Pm
open PySem PySem.Spec L2
open PyProof.Rows hiding St
section
variable {X : Cx} {W : Wd} {c : TC} {G : GT} {a b e d' o tg iter elt : Expr} {ia ib ic ie io : IE} {pos p2 np tpos : Pos} {m : Bool} {ta tb : Ts} {F M F' M' : Ads} {H H' : Hp} {st st' : Sto} {d : D} {t : Tg} {it : It} {sa sb : List IS} {s1 : IS}
theorem OutR.le {Dn : Ends} {o : Out} (l : Le F M H F' M' H') (h : OutR W F M H Dn o) : OutR W F' M' H' Dn o := by
  cases o with
  | nx env st => exact fun F2 M2 H2 σ2 l2 S2 E2 => h F2 M2 H2 σ2 (l.trans l2) S2 E2
  | bk env st => exact fun F2 M2 H2 σ2 l2 S2 E2 => h F2 M2 H2 σ2 (l.trans l2) S2 E2
  | ct env st => exact fun F2 M2 H2 σ2 l2 S2 E2 => h F2 M2 H2 σ2 (l.trans l2) S2 E2
  | rt d st => exact fun F2 M2 H2 v l2 S2 r2 => h F2 M2 H2 v (l.trans l2) S2 r2
theorem sS_bad {x : Stmt} : PS X x (RS W .bad) := ⟨fun pins s σ H Dn I ⟨F, M, env, st, o, En, S, e, k⟩ => by simp [exS] at e⟩
theorem sS_pass : PS X (.Pass pos) (RS W .pass) := by
  refine ⟨fun pins s σ H Dn I ⟨F, M, env, st, o, En, S, e, k⟩ => ?_⟩
  simp only [exS, Option.some.injEq] at e; subst e
  exact ps_pass.run pins s σ H Dn I (k F M H σ (Le.refl F M H) S En)
theorem sS_brk : PS X (.Break pos) (RS W .brk) := by
  refine ⟨fun pins s σ H Dn I ⟨F, M, env, st, o, En, S, e, k⟩ => ?_⟩
  simp only [exS, Option.some.injEq] at e; subst e
  exact ps_break.run pins s σ H Dn I (k F M H σ (Le.refl F M H) S En)
theorem sS_cnt : PS X (.Continue pos) (RS W .cnt) := by
  refine ⟨fun pins s σ H Dn I ⟨F, M, env, st, o, En, S, e, k⟩ => ?_⟩
  simp only [exS, Option.some.injEq] at e; subst e
  exact ps_continue.run pins s σ H Dn I (k F M H σ (Le.refl F M H) S En)
theorem sS_ret (ha : PE X a (RE W ia)) : PS X (.Return (some a) pos) (RS W (.ret ia)) := by
  refine ⟨fun pins s σ H Dn I ⟨F, M, env, st, o, En, S, e, k⟩ => ?_⟩
  simp only [exS] at e
  split at e
  · rename_i d st1 e1
    simp only [Option.some.injEq] at e; subst e
    exact (ps_ret ha).run pins s σ H Dn I (.mk En S e1 k)
  · cases e
theorem sS_retN : PS X (.Return none pos) (RS W (.ret (.cst .non))) := by
  refine ⟨fun pins s σ H Dn I ⟨F, M, env, st, o, En, S, e, k⟩ => ?_⟩
  simp only [exS, evE, Option.some.injEq] at e; subst e
  exact ps_retN.run pins s σ H Dn I (k F M H _ (Le.refl F M H) S (by simp only [Rep]))
theorem swaps_plain {x : Expr} {tgt : Option Expr} {n : Nat} {env : PySem.Env} (h1 : ∀ a b c d, x ≠ .ListComp a b c d) (h2 : ∀ a b c d, x ≠ .SetComp a b c d) (h3 : ∀ a b c d e, x ≠ .DictComp a b c d e) : swapsWith x tgt n env = pure false := by
  cases x <;> first | rfl | exact absurd rfl (h1 _ _ _ _) | exact absurd rfl (h2 _ _ _ _) | exact absurd rfl (h3 _ _ _ _ _)
theorem sS_expr {f : Expr} {as : List Expr} {ks : List Keyword} (ha : PE X (.Call f as ks p2) (RE W ia)) : PS X (.Expr (.Call f as ks p2) pos) (RS W (.expr ia)) := by
  refine ⟨fun pins s σ H Dn I ⟨F, M, env, st, o, En, S, e, k⟩ => ?_⟩
  simp only [exS] at e
  split at e
  · rename_i d st1 e1
    simp only [Option.some.injEq] at e; subst e
    exact (ps_expr ha rfl).run pins s σ H Dn I (.mk En S e1 fun F' M' H' v l S' _ => k F' M' H' σ l S' (En.le l S.mf))
  · cases e
theorem sSs {ts : Stmt → IS} : ∀ (b : List Stmt), (∀ s ∈ b, PS X s (RS W (ts s))) → PSs X b (RSs W (b.map ts))
  | [], _ => by
    refine ⟨fun pins s σ H Dn I ⟨F, M, env, st, o, En, S, e, k⟩ => ?_⟩
    simp only [List.map_nil, exSs, Option.some.injEq] at e; subst e
    exact pss_nil.run pins s σ H Dn I (k F M H σ (Le.refl F M H) S En)
  | x :: b, h => by
    have ih := sSs b fun s hs => h s (List.mem_cons_of_mem _ hs)
    refine ⟨fun pins s σ H Dn I ⟨F, M, env, st, o, En, S, e, k⟩ => ?_⟩
    simp only [List.map_cons, exSs] at e
    refine (pss_cons (h x (List.mem_cons_self ..)) ih).run pins s σ H Dn I ?_
    split at e
    · rename_i env1 st1 e1
      refine ⟨F, M, env, st, .nx env1 st1, En, S, e1, fun F1 M1 H1 σ1 l1 S1 En1 => ?_⟩
      exact ⟨F1, M1, env1, st1, o, En1, S1, e, k.le l1⟩
    · rename_i r hne
      refine ⟨F, M, env, st, o, En, S, e, ?_⟩
      cases o with
      | nx env1 st1 => exact absurd e (hne env1 st1)
      | _ => exact k
theorem sS_if {x : Expr} {p q : List Stmt} (ht : PT X x (RT W ta)) (hp : PSs X p (RSs W sa)) (hq : PSs X q (RSs W sb)) : PS X (.If x p q pos) (RS W (.ife ta sa sb)) := by
  refine ⟨fun pins s σ H Dn I ⟨F, M, env, st, o, En, S, e, k⟩ => ?_⟩
  simp only [exS] at e
  split at e
  · rename_i st1 e1
    exact (ps_if ht hp hq).run pins s σ H Dn I (RT.mk En S e1 fun F' M' H' l S' => iteT ⟨F', M', env, st1, o, En.le l S.mf, S', e, k.le l⟩)
  · rename_i st1 e1
    exact (ps_if ht hp hq).run pins s σ H Dn I (RT.mk En S e1 fun F' M' H' l S' => iteF ⟨F', M', env, st1, o, En.le l S.mf, S', e, k.le l⟩)
  · cases e

/-! ### stores -/
/-- a target is stored from a value -/
theorem asg_rd {σ : L2.St} {Dn : Ends} {env : Env} {o : Out} (En : EnR H F M env σ) (S : SRx W H F M st) (e : exS W.P W.C (.asg t ie) env st = some o) (k : OutR W F M H Dn o) : tAsg (RE W ie) (RG W t) Dn σ H := by
  simp only [exS] at e
  split at e
  · rename_i d st1 e1
    split at e
    · rename_i env1 st2 e2
      simp only [Option.some.injEq] at e; subst e
      refine .mk En S e1 fun F1 M1 H1 v l1 S1 r1 => ?_
      exact ⟨F1, M1, env, st1, d, env1, st2, En.le l1 S.mf, S1, r1, e2, fun F2 M2 H2 σ2 l2 S2 En2 _ => k F2 M2 H2 σ2 (l1.trans l2) S2 En2⟩
    · cases e
  · cases e
theorem kindOf_sc {env : PySem.Env} {c : TC} (h : env.scope = c.sc) (x : Str) : env.kindOf x = c.sc.names.lookup x := by
  unfold Env.kindOf
  rw [h]
theorem plain_noStar : ∀ {vs : List Expr}, vs.all plainE = true → (vs.any fun | .Starred .. => true | _ => false) = false
  | [], _ => rfl
  | e :: vs, h => by
    simp only [List.all_cons, Bool.and_eq_true] at h
    have ih := plain_noStar h.2
    rw [List.any_cons, ih]
    cases e <;> first | rfl | simp [plainE] at h
def parNs (c : TC) (ts : List Expr) : List Str := ts.filterMap (parNm c ((ts.head?.map (·.pos.line)).getD 0))
theorem swst_val {env : PySem.Env} {c : TC} {ts vs : List Expr} {k : Nat} {p k2 p2} (hs : env.scope = c.sc) (hst : (vs.any fun | .Starred .. => true | _ => false) = false) : swappedStores [.Tuple ts k p] (.Tuple vs k2 p2) env =
    (if (!(ts.length == 2 || ts.length == 3) || vs.length != ts.length || env.blockKind != ScopeKind.function) = true then pure none
     else if ((parNs c ts).length != ts.length || (parNs c ts).eraseDups.length != (parNs c ts).length) = true then pure none
     else if vs.all (foldedForSure 8) = true then pure none
     else if vs.all (constantsAlone 8) = true then (do unsupported "assign.tuple-of-constant-expressions:order-of-the-stores"; pure (some (parNs c ts))) else pure (some (parNs c ts))) := by
  obtain ⟨N, sc, fnc⟩ := c
  subst hs
  unfold swappedStores
  simp only [bind_pure_comp, pure_bind]
  split
  · rfl
  · split
    · rename_i h; exact absurd (hst.symm.trans h) (by decide)
    · rfl
theorem parT_out {c : TC} {ts vs : List Expr} {r : ParK} (h : parT c ts vs = r) : (if (!(ts.length == 2 || ts.length == 3) || vs.length != ts.length) = true then ParK.no
  else if (!(vs.all plainE) || !(c.sc.kind == .function)) = true then .bad
  else if ((parNs c ts).length != ts.length || (parNs c ts).eraseDups.length != (parNs c ts).length) = true then .no
  else if vs.all (foldedForSure 8) = true then .no
  else if vs.all (constantsAlone 8) = true then .bad
  else match slotsOf c.N (parNs c ts) with
    | some is => if is.Nodup then .yes is vs else .bad
    | none => .bad) = r := h
theorem swst_none {env : PySem.Env} {c : TC} (hs : env.scope = c.sc) (hk : parK c tg e = .no) (hl : ∀ es p, tg ≠ .List es p) : swappedStores [tg] e env = pure none := by
  cases tg with
  | Tuple ts k p =>
    cases e with
    | Tuple vs k2 p2 =>
      have hk := parT_out (show parT c ts vs = .no from hk)
      split at hk
      · rename_i h1
        unfold swappedStores
        simp only [bind_pure_comp, pure_bind]
        rw [if_pos (by rw [h1]; rfl)]
      · rename_i h1
        split at hk
        · cases hk
        · rename_i h2
          simp only [Bool.or_eq_true, Bool.not_eq_true', not_or, Bool.not_eq_false] at h2
          rw [swst_val hs (plain_noStar h2.1)]
          split
          · rfl
          · split at hk
            · rename_i h3; rw [if_pos h3]
            · rename_i h3
              rw [if_neg h3]
              split at hk
              · rename_i h4; rw [if_pos h4]
              · split at hk
                · cases hk
                · split at hk
                  · split at hk <;> cases hk
                  · cases hk
    | _ => rfl
  | List es p => exact absurd rfl (hl es p)
  | _ => rfl
theorem parNm_some {c : TC} {l : Nat} {e : Expr} {x : Str} (h : parNm c l e = some x) : (∃ px, e = .Name x px) ∧ c.sc.names.lookup x = some .local := by
  cases e <;> simp [parNm] at h
  obtain ⟨h1, rfl⟩ := h
  exact ⟨⟨_, rfl⟩, h1.1⟩
theorem parNs_all {c : TC} {l : Nat} : ∀ {ts : List Expr}, (ts.filterMap (parNm c l)).length = ts.length → ∀ {i : Nat} {e : Expr}, ts[i]? = some e → ∃ x, parNm c l e = some x ∧ (ts.filterMap (parNm c l))[i]? = some x
  | [], _, i, e, h => by simp at h
  | t :: ts, hl, i, e, h => by
    cases q : parNm c l t with
    | none =>
      rw [List.filterMap_cons, q] at hl
      have := List.length_filterMap_le (parNm c l) ts
      simp only [List.length_cons] at hl
      omega
    | some x =>
      rw [List.filterMap_cons, q] at hl ⊢
      simp only [List.length_cons, Nat.add_right_cancel_iff] at hl
      cases i with
      | zero =>
        simp only [List.getElem?_cons_zero, Option.some.injEq] at h ⊢
        subst h
        exact ⟨x, q, rfl⟩
      | succ i =>
        simp only [List.getElem?_cons_succ] at h ⊢
        exact parNs_all hl h
theorem slot_at' {N : List Str} {x : Str} {i : Nat} (h : slot N x = some i) : N[i]? = some x := slot_at h
/-- a, b = x, y; a, b, c = x, y, z: name by name -/
theorem sS_par (ok : XOk X c) {is : List Nat} {es : List Expr} {t : Expr → IE} (hk : parK c tg e = .yes is es) (h : ∀ e, PE X e (RE W (t e))) : PS X (.Assign [tg] e pos) (RS W (.par is (es.map t))) := by
  have hN : X.N.Nodup := by rw [ok.n]; exact ok.nd
  cases tg with
  | Tuple ts k p =>
    cases e with
    | Tuple vs k2 p2 =>
      have hk := parT_out (show parT c ts vs = .yes is es from hk)
      split at hk
      · cases hk
      · rename_i h1
        split at hk
        · cases hk
        · rename_i h2
          split at hk
          · cases hk
          · rename_i h3
            split at hk
            · cases hk
            · rename_i h4
              split at hk
              · cases hk
              · rename_i h5
                split at hk
                · rename_i is' hsl
                  split at hk
                  · rename_i hnd
                    simp only [ParK.yes.injEq] at hk
                    obtain ⟨rfl, rfl⟩ := hk
                    simp only [Bool.or_eq_true, Bool.not_eq_true', not_or, Bool.not_eq_false, bne_iff_ne, ne_eq, Decidable.not_not, beq_iff_eq] at h1 h2 h3
                    have hbk : X.env.blockKind = .function := by
                      unfold Env.blockKind
                      rw [ok.sc]
                      have : c.sc.kind = .function := by simpa using h2.2
                      rw [this]
                      rfl
                    have hw : swappedStores [.Tuple ts k p] (.Tuple vs k2 p2) X.env = pure (some (parNs c ts)) := by
                      rw [swst_val ok.sc (plain_noStar h2.1), if_neg (by
                        simp only [Bool.or_eq_true, Bool.not_eq_true', not_or, Bool.not_eq_false, bne_iff_ne, ne_eq, Decidable.not_not, beq_iff_eq]
                        exact ⟨⟨h1.1, h1.2⟩, hbk⟩), if_neg (by
                        simp only [Bool.or_eq_true, bne_iff_ne, ne_eq, not_or, Decidable.not_not]
                        exact h3), if_neg h4, if_neg h5]
                    have ha := sEs (X := X) (W := W) (t := t) vs h2.1 fun e _ => h e
                    have hns : ∀ {i : Nat} {e : Expr}, ts[i]? = some e → ∃ x, parNm c ((ts.head?.map (·.pos.line)).getD 0) e = some x ∧ (parNs c ts)[i]? = some x := parNs_all h3.1
                    rcases h1.1 with hl | hl
                    · obtain ⟨a, b, rfl⟩ := len2 hl
                      obtain ⟨e1, e2, rfl⟩ := len2 (h1.2.trans hl)
                      obtain ⟨x, hx, gx⟩ := hns (i := 0) (e := a) rfl
                      obtain ⟨y, hy, gy⟩ := hns (i := 1) (e := b) rfl
                      obtain ⟨⟨px, rfl⟩, lx⟩ := parNm_some hx
                      obtain ⟨⟨py, rfl⟩, ly⟩ := parNm_some hy
                      obtain ⟨x', y', hxy⟩ := len2 h3.1
                      have hxy : parNs c [.Name x px, .Name y py] = [x', y'] := hxy
                      rw [hxy] at gx gy hw hsl
                      simp only [List.getElem?_cons_zero, List.getElem?_cons_succ, Option.some.injEq] at gx gy
                      subst gx; subst gy
                      simp only [slotsOf] at hsl
                      split at hsl
                      · rename_i i js hsi hjs
                        split at hjs
                        · rename_i j ks hsj hks
                          simp only [Option.some.injEq] at hks hjs hsl
                          subst hks; subst hjs; subst hsl
                          have hij : i ≠ j := by simpa using hnd
                          refine ⟨fun pins s σ H Dn I ⟨F, M, env, st, o, En, S, ev, kk⟩ => ?_⟩
                          simp only [exS] at ev
                          split at ev
                          · rename_i ds st1 ee
                            split at ev
                            · rename_i env1 es2
                              simp only [Option.some.injEq] at ev; subst ev
                              obtain ⟨d1, d2, rfl⟩ := len2 (evEs_len ee)
                              refine (ps_par ok.calm hN (by rw [ok.n]; exact slot_at hsi) (by rw [ok.n]; exact slot_at hsj) hij (by rw [ok.sc]; exact lx) (by rw [ok.sc]; exact ly) ha hw).run pins s σ H Dn I ⟨F, M, env, st, _, st1, En, S, ee, fun F1 M1 H1 us l1 S1 r1 => ?_⟩
                              obtain ⟨v1, v2, rfl, q1, q2⟩ := repL2 r1
                              refine ⟨v1, v2, rfl, ?_⟩
                              simp only [setAll] at es2
                              split at es2
                              · split at es2
                                · simp only [Option.some.injEq] at es2; subst es2
                                  exact kk F1 M1 H1 _ l1 S1 (((En.le l1 S.mf).set q1 i).set q2 j)
                                · cases es2
                              · cases es2
                            · cases ev
                          · cases ev
                        · cases hjs
                      · cases hsl
                    · obtain ⟨a, b, b2, rfl⟩ := len3 hl
                      obtain ⟨e1, e2, e3, rfl⟩ := len3 (h1.2.trans hl)
                      obtain ⟨x, hx, gx⟩ := hns (i := 0) (e := a) rfl
                      obtain ⟨y, hy, gy⟩ := hns (i := 1) (e := b) rfl
                      obtain ⟨z, hz, gz⟩ := hns (i := 2) (e := b2) rfl
                      obtain ⟨⟨px, rfl⟩, lx⟩ := parNm_some hx
                      obtain ⟨⟨py, rfl⟩, ly⟩ := parNm_some hy
                      obtain ⟨⟨pz, rfl⟩, lz⟩ := parNm_some hz
                      obtain ⟨x', y', z', hxy⟩ := len3 h3.1
                      have hxy : parNs c [.Name x px, .Name y py, .Name z pz] = [x', y', z'] := hxy
                      rw [hxy] at gx gy gz hw hsl
                      simp only [List.getElem?_cons_zero, List.getElem?_cons_succ, Option.some.injEq] at gx gy gz
                      subst gx; subst gy; subst gz
                      have hslx : ∃ i j l, is' = [i, j, l] ∧ slot c.N x' = some i ∧ slot c.N y' = some j ∧ slot c.N z' = some l := by
                        simp only [slotsOf] at hsl
                        revert hsl
                        cases slot c.N x' with
                        | none => intro hsl; cases hsl
                        | some i =>
                          cases slot c.N y' with
                          | none => intro hsl; cases hsl
                          | some j =>
                            cases slot c.N z' with
                            | none => intro hsl; cases hsl
                            | some l => intro hsl; cases hsl; exact ⟨i, j, l, rfl, rfl, rfl, rfl⟩
                      obtain ⟨i, j, l, rfl, hsi, hsj, hsk⟩ := hslx
                      have hij : i ≠ j ∧ i ≠ l ∧ j ≠ l := by
                        simp only [List.nodup_cons, List.mem_cons, List.not_mem_nil, or_false, not_or, not_false_eq_true, List.nodup_nil, and_true] at hnd
                        exact ⟨hnd.1.1, hnd.1.2, hnd.2⟩
                      refine ⟨fun pins s σ H Dn I ⟨F, M, env, st, o, En, S, ev, kk⟩ => ?_⟩
                      simp only [exS] at ev
                      split at ev
                      · rename_i ds st1 ee
                        split at ev
                        · rename_i env1 es2
                          simp only [Option.some.injEq] at ev; subst ev
                          obtain ⟨d1, d2, d3, rfl⟩ := len3 (evEs_len ee)
                          refine (ps_par3 ok.calm hN (by rw [ok.n]; exact slot_at hsi) (by rw [ok.n]; exact slot_at hsj) (by rw [ok.n]; exact slot_at hsk) hij.1 hij.2.1 hij.2.2 (by rw [ok.sc]; exact lx) (by rw [ok.sc]; exact ly) (by rw [ok.sc]; exact lz) ha hw).run pins s σ H Dn I ⟨F, M, env, st, _, st1, En, S, ee, fun F1 M1 H1 us l1 S1 r1 => ?_⟩
                          simp only [RepL] at r1
                          obtain ⟨v1, t1, rfl, q1, v2, t2, rfl, q2, v3, t3, rfl, q3, rfl⟩ := r1
                          refine ⟨v1, v2, v3, rfl, ?_⟩
                          simp only [setAll] at es2
                          split at es2
                          · split at es2
                            · split at es2
                              · simp only [Option.some.injEq] at es2; subst es2
                                exact kk F1 M1 H1 _ l1 S1 ((((En.le l1 S.mf).set q1 i).set q2 j).set q3 l)
                              · cases es2
                            · cases es2
                          · cases es2
                        · cases ev
                      · cases ev
                  · cases hk
                · cases hk
    | _ => cases hk
  | _ => cases hk
theorem sS_asg (ok : XOk X c) (hpt : plainE tg = true) (hp : plainE e = true) (hn : parK c tg e = .no) (hl : ∀ es p, tg ≠ .List es p) (hc : ∀ a b c d, e ≠ .SetComp a b c d) (hc2 : ∀ a b c d f, e ≠ .DictComp a b c d f) (hcomp : ∀ a b c d, e = .ListComp a b c d → ∀ x p, tg ≠ .Name x p)
    (he : PE X e (RE W ie)) (hg : PG X tg (RG W t)) : PS X (.Assign [tg] e pos) (RS W (.asg t ie)) := by
  refine ⟨fun pins s σ H Dn I ⟨F, M, env, st, o, En, S, ev, k⟩ => ?_⟩
  refine (ps_asg he hg ?_ (swst_none ok.sc hn hl) (by rw [assignEach_plain [tg] (by simp [hpt])]; rfl)).run pins s σ H Dn I (asg_rd En S ev k)
  show swapsWith e (some tg) pos.line X.env = pure false
  by_cases h1 : ∃ a b c d, e = .ListComp a b c d
  · obtain ⟨a, b, c, d, rfl⟩ := h1
    have := hcomp a b c d rfl
    cases tg <;> first | rfl | exact absurd rfl (this _ _)
  · exact swaps_plain (fun a b c d h => h1 ⟨a, b, c, d, h⟩) hc hc2
/-- name = [.. for ..] -/
theorem sS_setLc (ok : XOk X c) {cs : List Ts} {x : Str} {i : Nat} {py : Pos} {ifs : List Expr} {scope : Scope} (hlo : locB c x = true) (hsl : slot c.N x = some i) (hb : blkC c.N c.sc scope (ownOf c.N scope) = true) (ho : ∀ j ∈ t.slots, j ∈ (ownOf c.N scope).map (·.2)) (hp : plainE iter = true) (hi : PI X tg iter (RI W it))
    (hg : ∀ (s : Shared) (H : Hp) (C : Addr) (cl : List (Str × Addr)) (fp : List Addr), PG (X.blk s H scope (compEnvC scope cl C X.env) fp) tg (RG W t))
    (ht : ∀ (s : Shared) (H : Hp) (C : Addr) (cl : List (Str × Addr)) (fp : List Addr), PTs (X.blk s H scope (compEnvC scope cl C X.env) fp) ifs (RTs W cs))
    (he : ∀ (s : Shared) (H : Hp) (C : Addr) (cl : List (Str × Addr)) (fp : List Addr), PE (X.blk s H scope (compEnvC scope cl C X.env) fp) elt (RE W ie)) :
    PS X (.Assign [.Name x py] (.ListComp elt [⟨tg, iter, ifs, 0⟩] scope p2) pos) (RS W (.asg (.nm i) (.comp m ((ownOf c.N scope).map (·.2)) t it cs ie))) := by
  have hbk : BlkOk X.N X.env.scope scope (ownOf c.N scope) := by rw [ok.n, ok.sc]; exact blkOk_by hb
  have hN : X.N.Nodup := by rw [ok.n]; exact ok.nd
  have hix : X.N[i]? = some x := by rw [ok.n]; exact slot_at hsl
  obtain ⟨b, hbq, hbl⟩ : ∃ b : Bool, swapsWith (.ListComp elt [⟨tg, iter, ifs, 0⟩] scope p2) (some (.Name x py)) pos.line X.env = pure b ∧ (b = true → X.env.scope.names.lookup x = some .local) := by
    refine ⟨X.env.blockKind == .function && X.env.kindOf x == some .local && py.line == p2.line && !(scope.names.any fun (n, k) => n == x && (k == .local || k == .cell)), rfl, fun h => ?_⟩
    simp only [Bool.and_eq_true] at h
    exact eq_of_beq h.1.1.2
  cases b with
  | false =>
    refine ⟨fun pins s σ H Dn I ⟨F, M, env, st, o, En, S, ev, k⟩ => ?_⟩
    exact (ps_asg (sE_comp (pos := p2) (m := m) ok hb ho hp hi hg ht he) (sG_nm (pos := py) ok hlo hsl) hbq rfl).run pins s σ H Dn I (asg_rd En S ev k)
  | true =>
    refine ⟨fun pins s σ H Dn I ⟨F, M, env, st, o, En, S, ev, k⟩ => ?_⟩
    refine (ps_setLc ok.calm hN hix (hbl rfl) hbq hi hbk hg ht he (folded_plain hp)).run pins s σ H Dn I ?_
    simp only [exS] at ev
    split at ev
    · rename_i d st1 e1
      split at ev
      · rename_i env1 st2 e2
        simp only [Option.some.injEq] at ev; subst ev
        refine comp_rd (K := X.K) En S ho e1 fun F1 M1 H1 v l1 S1 r1 => ?_
        simp only [asgT] at e2
        split at e2
        · simp only [Option.some.injEq, Prod.mk.injEq] at e2
          obtain ⟨rfl, rfl⟩ := e2
          exact k F1 M1 H1 _ l1 S1 ((En.le l1 S.mf).set r1 i)
        · cases e2
      · cases ev
    · cases ev

/-! ### op= -/
theorem iop_arith {o : Bop} : OpR X (inplaceOp (opP o)) (fun x y H Q => ∃ i j k, x = .int i ∧ y = .int j ∧ arith o i j = some k ∧ o ≠ .pow ∧ Q (.int k) H) := by
  intro pins s σ H x y v u Q I rx ry h
  obtain ⟨i, j, k, rfl, rfl, e, hne, q⟩ := h
  cases o with
  | add => simp only [arith, Option.some.injEq] at e; subst e; exact iop_add pins s σ H _ _ v u Q I rx ry ⟨i, j, rfl, rfl, q⟩
  | sub => simp only [arith, Option.some.injEq] at e; subst e; exact iop_sub pins s σ H _ _ v u Q I rx ry ⟨i, j, rfl, rfl, q⟩
  | mul =>
    simp only [arith] at e
    split at e
    · rename_i hb
      simp only [Option.some.injEq] at e; subst e
      refine iop_mul pins s σ H _ _ v u Q I rx ry ⟨i, j, rfl, rfl, ?_, q⟩
      simp only [Bool.or_eq_true, decide_eq_true_eq] at hb
      unfold CMul
      have e64 : (2 : Int) ^ 64 = 18446744073709551616 := by decide
      rw [e64]
      omega
    · cases e
  | fdiv =>
    simp only [arith] at e
    split at e
    · rename_i hb
      simp only [Option.some.injEq] at e; subst e
      simp only [Bool.and_eq_true, decide_eq_true_eq] at hb
      exact iop_fdiv pins s σ H _ _ v u Q I rx ry ⟨i, j, rfl, rfl, hb, q⟩
    · cases e
  | mod =>
    simp only [arith] at e
    split at e
    · rename_i hb
      simp only [Option.some.injEq] at e; subst e
      exact iop_mod pins s σ H _ _ v u Q I rx ry ⟨i, j, rfl, rfl, hb, q⟩
    · cases e
  | pow => exact absurd rfl hne
theorem pip_aug {op : Operator} {o : Bop} (ho : bopOf op = some o) : PIp X op (fun x y H Q => ∃ a b d, Rep H [] [] a x ∧ Rep H [] [] b y ∧ augop o a b = some d ∧ ∀ v, Rep H [] [] d v → Q v H) := by
  intro pins s σ H x y v u Q I rx ry ⟨a, b, d, ra, rb, e, q⟩
  obtain rfl := bopOf_op ho
  unfold augop at e
  split at e
  · rename_i i j
    split at e
    · cases e
    · rename_i hne
      simp only [Option.map_eq_some_iff] at e
      obtain ⟨k, e, rfl⟩ := e
      simp only [Rep] at ra rb
      exact iop_arith pins s σ H x y v u Q I rx ry ⟨i, j, k, ra, rb, e, hne, q _ (by simp only [Rep])⟩
  · cases e
theorem augop_int {o : Bop} {x y z : D} (h : augop o x y = some z) : ∃ i j k, x = .int i ∧ y = .int j ∧ z = .int k := by
  unfold augop at h
  split at h
  · rename_i i j
    split at h
    · cases h
    · simp only [Option.map_eq_some_iff] at h
      obtain ⟨k, _, rfl⟩ := h
      exact ⟨i, j, k, rfl, rfl, rfl⟩
  · cases h
theorem int_any {F1 M1 : Ads} {i : Int} {v : V} {H1 : Hp} (r : Rep H F M (.int i) v) : Rep H1 F1 M1 (.int i) v := by simp only [Rep] at r ⊢; exact r
theorem sS_aug (ok : XOk X c) {op : Operator} {o : Bop} {x : Str} {i : Nat} (ho : bopOf op = some o) (hl : locB c x = true) (hs : slot c.N x = some i) (he : PE X e (RE W ie)) : PS X (.AugAssign (.Name x p2) op e pos) (RS W (.aug i o ie)) := by
  refine ⟨fun pins s σ H Dn I ⟨F, M, env, st, ot, En, S, ev, k⟩ => ?_⟩
  simp only [exS] at ev
  split at ev
  · rename_i x0 hx0
    split at ev
    · rename_i y st1 e1
      split at ev
      · rename_i z e2
        simp only [Option.some.injEq] at ev; subst ev
        obtain ⟨h1, h2⟩ := locB_loc ok hl
        obtain ⟨v0, hv0, r0⟩ := En.at_ i _ hx0
        refine (ps_aug (by rw [ok.n]; exact ok.nd) (by rw [ok.n]; exact slot_at hs) h1 he (pip_aug ho) h2).run pins s σ H Dn I ⟨v0, hv0, .mk En S e1 fun F1 M1 H1 v l1 S1 r1 => ?_⟩
        obtain ⟨p, q, r, rfl, rfl, rfl⟩ := augop_int e2
        refine ⟨_, _, _, int_any r0, int_any r1, e2, fun w rw' => ?_⟩
        exact k F1 M1 H1 _ l1 S1 ((En.le l1 S.mf).set (int_any rw') i)
      · cases ev
    · cases ev
  · cases ev
theorem pget_all (ok : XOk X c) : PGet X (fun x y H Q => ∃ F M st n i d, SRx W H F M st ∧ Rep H F M (.ref n) x ∧ Rep H F M i y ∧ index st (.ref n) i = some d ∧ ∀ v, Rep H F M d v → Q v H) := by
  intro pins s σ H x y ov iv Q I rx ry ⟨F, M, st, n, i, d, S, ra, ri, e, q⟩
  have hu : X.A.units + 1 < cLine := by have := ok.un; omega
  unfold index at e
  split at e
  · rename_i t ks vs hd
    split at e
    · rename_i hk
      obtain ⟨p, o, rfl, g, lr⟩ := dget_rep S ra hd hk ri
      rw [e] at lr
      cases o with
      | none => exact lr.elim
      | some w =>
        cases rx
        exact d_getItem hu I g ry fun w' s' I' rw' => ⟨w, H, I', rw', q w lr⟩
    · cases e
  · split at e
    · rename_i xs k hx
      obtain ⟨p, vs, rfl, hp, r⟩ := lstOf_rep (xs := xs) S ra (by simpa [lstOf, seqOf] using hx)
      simp only [Rep] at ri
      subst ri
      simp only [Option.bind_eq_some_iff] at e
      obtain ⟨j, ej, e⟩ := e
      obtain ⟨w, ew, rw'⟩ := r.get e
      rw [ixN_eq, r.length] at ej
      obtain ⟨h1, h2, h3, h4⟩ := ixN_seq ej
      cases rx
      obtain ⟨t, rfl⟩ := ry
      obtain ⟨its, rv, pl, hz⟩ := I.list (.inl hp)
      obtain ⟨u, eu, ru⟩ := rv.get ew
      have hl := rv.length
      have hn := line63
      have fin : EP X pins σ Q u s := ⟨w, H, I, ru, q w rw'⟩
      by_cases h0 : 0 ≤ k
      · have hj : k.toNat = j := by
          rw [seqIndex_of h0 h4] at h1
          exact Option.some.inj h1
        exact wpAny_getItem_list pl.isList h0 (by omega) (by rw [hj]; simpa using eu) fin
      · have hj : (k + (its.toArray.size : Int)).toNat = j := by
          rw [seqIndex_neg (by omega) h3] at h1
          rw [List.size_toArray, ← hl]
          exact Option.some.inj h1
        exact wpAny_getItem_list_neg pl.isList (by omega) (by rw [List.size_toArray]; omega) (by omega) (by rw [hj]; simpa using eu) fin
    · split at e
      · exact nomatch ‹D.ref n = D.str _›
      · cases e
theorem aug_plain {i : Expr} (h : plainE i = true) (ov iv new : Value) : augStore i ov iv new = (do holding [new, ov, iv] (PySem.setItem ov iv new); release [new, ov, iv] []; pure .next) := by
  cases i <;> first | rfl | simp [plainE] at h
theorem setItem_ref {x k w : D} {st' : Sto} (h : setItem x k w st = some st') : ∃ n, x = .ref n := by
  cases x <;> simp [setItem] at h
  exact ⟨_, rfl⟩
theorem sS_augS (ok : XOk X c) {op : Operator} {p : Bop} (hop : bopOf op = some p) (hpl : plainE b = true) (ha : PE X a (RE W ia)) (hb : PE X b (RE W ib)) (he : PE X e (RE W ie)) : PS X (.AugAssign (.Subscript a b p2) op e pos) (RS W (.augS ia ib p ie)) := by
  refine ⟨fun pins s σ H Dn I ⟨F, M, env, st, ot, En, S, ev, k⟩ => ?_⟩
  simp only [exS] at ev
  split at ev
  · rename_i x st1 e1
    split at ev
    · rename_i y st2 e2
      split at ev
      · rename_i g e3
        split at ev
        · rename_i z st3 e4
          split at ev
          · rename_i w e5
            split at ev
            · rename_i st4 e6
              simp only [Option.some.injEq] at ev; subst ev
              obtain ⟨n, rfl⟩ := setItem_ref e6
              refine (ps_augS ha hb (pget_all (W := W) ok) he (pip_aug hop) (pset_all (W := W) ok) (aug_plain hpl)).run pins s σ H Dn I ?_
              refine sE_two En S e1 e2 fun F2 M2 H2 u v l2 S2 r1 r2 => ⟨F2, M2, st2, n, y, g, S2, r1, r2, e3, fun vg rg => ?_⟩
              refine .mk (En.le l2 S.mf) S2 e4 fun F3 M3 H3 vz l3 S3 rz => ?_
              obtain ⟨i1, i2, i3, rfl, rfl, rfl⟩ := augop_int e5
              refine ⟨_, _, _, int_any rg, int_any rz, e5, fun vw rw' => ?_⟩
              refine ⟨F3, M3, st3, .ref n, y, .int i3, st4, S3, r1.le l3 S2.mf, r2.le l3 S2.mf, int_any rw', e6, fun F4 M4 H4 l4 S4 => ?_⟩
              exact k F4 M4 H4 σ ((l2.trans l3).trans l4) S4 (En.le ((l2.trans l3).trans l4) S.mf)
            · cases ev
          · cases ev
        · cases ev
      · cases ev
    · cases ev
  · cases ev

/-! ### loops -/
theorem sS_for (ok : XOk X c) {body : List Stmt} (hp : plainE iter = true) (hi : PI X tg iter (RI W it)) (hg : PG X tg (RG W t)) (hb : PSs X body (RSs W sb)) : PS X (.For tg iter body [] pos) (RS W (.for_ t it sb)) := by
  refine ⟨fun pins s σ H Dn I ⟨F, M, env, st, o, En, S, e, k⟩ => ?_⟩
  simp only [exS] at e
  split at e
  · rename_i xs src st1 e1
    have hpn : PassesOwn (model X.prog X.w) X.A X.env X.xe := by rw [ok.xe]; exact PassesOwn.never
    refine (ps_for hpn ok.calm hi hg hb (folded_plain hp)).run pins s σ H Dn I ⟨F, M, env, st, xs, src, st1, En, S, e1, fun F1 M1 H1 J l1 S1 hJ => ?_⟩
    refine ⟨fun i n σ' H' => i + n = xs.length ∧ ∃ F' M' env' st', Le F1 M1 H1 F' M' H' ∧ SRx W H' F' M' st' ∧ EnR H' F' M' env' σ' ∧ forL (fun d env st => asgT W.P W.C t d env st) (fun env st => exSs W.P W.C sb env st) src (xs.drop i) env' st' = some o ∧ OutR W F' M' H' Dn o,
      ⟨xs.length, by omega, F1, M1, env, st1, Le.refl _ _ _, S1, En.le l1 S.mf, by simpa using e, k.le l1⟩, fun i n σ' H' hW => ?_⟩
    obtain ⟨hin, F', M', env', st', l', S', En', ef, k'⟩ := hW
    by_cases hlt : i < xs.length
    · right
      rw [List.drop_eq_getElem_cons hlt] at ef
      simp only [forL] at ef
      split at ef
      · cases ef
      · rename_i hchk
        have hchk : chk st' src = true := by simpa using hchk
        refine ⟨hJ.go F' M' H' st' i l' S' hchk hlt, fun σ5 H5 => ∃ F5 M5 env5 st5, Le F1 M1 H1 F5 M5 H5 ∧ SRx W H5 F5 M5 st5 ∧ EnR H5 F5 M5 env5 σ5 ∧ forL (fun d env st => asgT W.P W.C t d env st) (fun env st => exSs W.P W.C sb env st) src (xs.drop (i + 1)) env5 st5 = some o ∧ OutR W F5 M5 H5 Dn o,
          fun σ5 H5 h5 => ⟨n - 1, by omega, by omega, h5⟩, fun v H2 hy => ?_⟩
        obtain ⟨l2, S2, rv⟩ := hJ.yld F' M' H' st' i _ l' S' hchk (List.getElem?_eq_getElem hlt) v H2 hy
        split at ef
        · cases ef
        · rename_i env1 st3 e3
          refine ⟨F', M', env', st', xs[i], env1, st3, En'.le l2 S'.mf, S2, rv, e3, fun F3 M3 H3 σ3 l3 S3 En3 _ => ?_⟩
          have l03 := (l'.trans l2).trans l3
          have k3 := (k'.le l2).le l3
          split at ef
          · rename_i en s4 e4
            exact ⟨F3, M3, env1, st3, _, En3, S3, e4, fun F4 M4 H4 σ4 l4 S4 En4 => ⟨F4, M4, en, s4, l03.trans l4, S4, En4, ef, k3.le l4⟩⟩
          · rename_i en s4 e4
            exact ⟨F3, M3, env1, st3, _, En3, S3, e4, fun F4 M4 H4 σ4 l4 S4 En4 => ⟨F4, M4, en, s4, l03.trans l4, S4, En4, ef, k3.le l4⟩⟩
          · rename_i en s4 e4
            simp only [Option.some.injEq] at ef; subst ef
            exact ⟨F3, M3, env1, st3, _, En3, S3, e4, fun F4 M4 H4 σ4 l4 S4 En4 => k3 F4 M4 H4 σ4 l4 S4 En4⟩
          · rename_i dd s4 e4
            simp only [Option.some.injEq] at ef; subst ef
            exact ⟨F3, M3, env1, st3, _, En3, S3, e4, fun F4 M4 H4 v4 l4 S4 r4 => k3 F4 M4 H4 v4 l4 S4 r4⟩
          · cases ef
    · left
      have hiL : i = xs.length := by omega
      subst hiL
      rw [List.drop_length] at ef
      simp only [forL] at ef
      split at ef
      · rename_i hchk
        simp only [Option.some.injEq] at ef; subst ef
        exact ⟨hJ.stop F' M' H' st' l' S' hchk, k' F' M' H' σ' (Le.refl _ _ _) S' En'⟩
      · cases ef
  · cases e
theorem sS_whl (ok : XOk X c) {x : Expr} {body : List Stmt} (ht : PT X x (RT W ta)) (hb : PSs X body (RSs W sb)) : PS X (.While x body [] pos) (RS W (.whl ta sb)) := by
  refine ⟨fun pins s σ H Dn I ⟨F, M, env, st, o, En, S, e, k⟩ => ?_⟩
  simp only [exS] at e
  have hpn : PassesOwn (model X.prog X.w) X.A X.env X.xe := by rw [ok.xe]; exact PassesOwn.never
  refine (ps_while hpn ht hb).run pins s σ H Dn I ?_
  refine ⟨fun n σ' H' => ∃ F' M' env' st', SRx W H' F' M' st' ∧ EnR H' F' M' env' σ' ∧ whlL (fun env st => evT W.P W.C ta env st) (fun env st => exSs W.P W.C sb env st) n env' st' = some o ∧ OutR W F' M' H' Dn o, ⟨wfuel, F, M, env, st, S, En, e, k⟩, fun n σ' H' hW => ?_⟩
  obtain ⟨F', M', env', st', S', En', ef, k'⟩ := hW
  cases n with
  | zero => simp [whlL] at ef
  | succ n =>
    simp only [whlL] at ef
    split at ef
    · cases ef
    · rename_i st1 e1
      simp only [Option.some.injEq] at ef; subst ef
      exact RT.mk En' S' e1 fun F1 M1 H1 l1 S1 => iteF (k' F1 M1 H1 σ' l1 S1 (En'.le l1 S'.mf))
    · rename_i st1 e1
      refine RT.mk En' S' e1 fun F1 M1 H1 l1 S1 => iteT ?_
      refine ⟨fun σ5 H5 => ∃ F5 M5 env5 st5, SRx W H5 F5 M5 st5 ∧ EnR H5 F5 M5 env5 σ5 ∧ whlL (fun env st => evT W.P W.C ta env st) (fun env st => exSs W.P W.C sb env st) n env5 st5 = some o ∧ OutR W F5 M5 H5 Dn o, fun σ5 H5 h5 => ⟨n, by omega, h5⟩, ?_⟩
      have k1 := k'.le l1
      split at ef
      · rename_i en s4 e4
        exact ⟨F1, M1, env', st1, _, En'.le l1 S'.mf, S1, e4, fun F4 M4 H4 σ4 l4 S4 En4 => ⟨F4, M4, en, s4, S4, En4, ef, k1.le l4⟩⟩
      · rename_i en s4 e4
        exact ⟨F1, M1, env', st1, _, En'.le l1 S'.mf, S1, e4, fun F4 M4 H4 σ4 l4 S4 En4 => ⟨F4, M4, en, s4, S4, En4, ef, k1.le l4⟩⟩
      · rename_i en s4 e4
        simp only [Option.some.injEq] at ef; subst ef
        exact ⟨F1, M1, env', st1, _, En'.le l1 S'.mf, S1, e4, fun F4 M4 H4 σ4 l4 S4 En4 => k1 F4 M4 H4 σ4 l4 S4 En4⟩
      · rename_i dd s4 e4
        simp only [Option.some.injEq] at ef; subst ef
        exact ⟨F1, M1, env', st1, _, En'.le l1 S'.mf, S1, e4, fun F4 M4 H4 v4 l4 S4 r4 => k1 F4 M4 H4 v4 l4 S4 r4⟩
      · cases ef
end
end Pm

/-! Pm, part Be: own defs and their calls. -/
namespace Pm
open PySem PySem.Spec L2
open PyProof.Rows hiding St

abbrev Sq := List V → Hp → VK → Prop
def CN : CXT := fun _ _ _ _ _ _ => False
def EN : XK := fun _ _ _ => False
/-- a def of the text keeps a promise, where no guard stands about the call -/
structure FnG (P : Program) (w : World) (K : PySem.W.Frag) (mg : Str → Option Value) (base : Heap) (k : Nat) (f : Addr) (fd : FuncData) (ps : List Str) (sp : Sq) : Prop where
  len : ∀ vs H Q, sp vs H Q → vs.length = ps.length
  run : ∀ (A : Around) (outer : List PySem.Env) (s : Shared) (H : Hp) (args : Args) (us : List Value) (vs : List V) (Q : VK), A.guards = some [] → Room k A → Env0 P w K mg base A outer s H → BindsTo s fd args (ps.zip us) → Vals vs us → sp vs H Q →
    codeAny (model P w) A (.call (.ref f) args) (CR CN outer P w H s Q EN) s

section
variable {P : Program} {w : World} {K : PySem.W.Frag} {mg : Str → Option Value} {base : Heap} {k : Nat} {f : Addr} {fd : FuncData} {N ps : List Str} {x qual : Str} {params : Arguments} {body : List Stmt} {scope : Scope} {dvs : List V} {kws : List (Str × V)} {sp : Sq}
/-- by its body -/
theorem fnG_of (D : FunD K x qual params body scope dvs kws f fd) (S : FnScope N ps scope) (len : ∀ vs H Q, sp vs H Q → vs.length = ps.length)
    (hb : ∀ (cdv : Value) (A : Around) (outer : List PySem.Env) (s : Shared) (H : Hp) (vs : List V) (Q : VK), A.guards = some [] → Room k (A.deeper (envOfC qual scope s.heap.objs.size f cdv)) → sp vs H Q →
      ∃ t, PSs (cxOf CN P w K mg base N qual scope f cdv A outer s H EN).nox body t ∧ t { nx := fun _ H' => Q .non H', rt := Q } (start N vs) H) :
    FnG P w K mg base (k + 1) f fd ps sp := by
  obtain ⟨oc, od, dV, kV, doc, pm, an, cdv, ct, osl, rfl, lk, hcd, _, _⟩ := D.ex
  refine ⟨len, fun A outer s H args us vs Q hg hr e0 hbd r hsp => ?_⟩
  have hl := len _ _ _ hsp
  have keep0 : ∀ b o, base.get? b = some o → s.heap.get? b = some o := fun b o e => (e0.bs b o e).1
  have KX : K.In s.heap := e0.mod.kin.keeps keep0
  have nol : s.heap.NoLimit := e0.mod.nolimit.keeps keep0
  have hkind : ∀ y ∈ ps.zip us, scope.names.lookup y.1 = some .local ∨ (scope.names.lookup y.1 = some .cell ∧ ((cellsFrom (s.heap.objs.size + 1) scope.names []).lookup y.1).isSome = true) := by
    rintro ⟨n, v⟩ hy
    rcases S.par n (List.of_mem_zip hy).1 with q | q
    · exact Or.inl q
    · exact Or.inr (And.intro q (PySem.W.cellsFrom_some _ _ _ (.inl q)))
  refine codeAny_call_function hr.depth (KX _ _ lk) rfl S.co S.gen rfl (PySem.W.codeRec_of KX hcd) (hbd _ _ _ _ (wpAny_newFunctionEnv_cells S.kind hkind fun env he s1 x1 => ?_))
  subst he
  refine And.intro (nol.keeps x1.toInCall.keep) (codeAny_func ?_)
  obtain ⟨t, ht, hq⟩ := hb cdv A outer s H vs Q hg (hr.deeper _) hsp
  have I : Inv (cxOf CN P w K mg base N qual scope f cdv A outer s H EN) [] (start N vs) H s1 := inv_start S hr.hd e0 hl r x1
  refine wpAny_mono ((PSs.nox ht).run [] s1 (start N vs) H _ I hq) (fun fl s' hs => ?_) fun e s' hs => hs
  have fin : ∀ {σ' : L2.St} {H' : Hp} {v : V} {u : Value}, Inv (cxOf CN P w K mg base N qual scope f cdv A outer s H EN) [] σ' H' s' → RelV v u → Q v H' → CE outer P w H s Q u s' := by
    intro σ' H' v u J rv q
    exact ⟨v, H', J.os, J.bare, J.base, J.hok, rv, q⟩
  cases fl with
  | ret u => obtain ⟨v, σ', H', J, rv, q⟩ := hs; exact fin J rv q
  | next => obtain ⟨σ', H', J, q⟩ := hs; exact fin (v := V.non) (u := Value.none) J rfl q
  | brk => obtain ⟨_, _, _, q⟩ := hs; exact q.elim
  | cont => obtain ⟨_, _, _, q⟩ := hs; exact q.elim
end

section
variable {X : Cx} {k : Nat} {f : Addr} {fd : FuncData} {ps : List Str} {sp : Sq}
theorem runG {pins : List (Addr × Obj)} {σ : L2.St} {H : Hp} {s : Shared} {Q : VK} {us : List Value} {vs : List V} (F : FnG X.prog X.w X.K X.mg X.base k f fd ps sp) (hg : X.A.guards = some []) (hr : Room k X.A) (hb : Binds X.K fd ps [])
    (I : Inv X pins σ H s) (r : Vals vs us) (h : sp vs H Q) : wpAny (model X.prog X.w) X.A (call (.ref f) us) (EP X pins σ Q) X.xe s := by
  have hl : us.length = ps.length := by rw [← r.length]; exact F.len _ _ _ h
  have hb' : BindsTo s fd ⟨us, []⟩ (ps.zip us) := by
    have q := hb s us I.kIn (by rw [List.append_nil]; exact hl)
    rw [List.append_nil] at q
    exact q
  refine wpAny_call (codeAny_mono (F.run X.A X.stack s H ⟨us, []⟩ us vs Q hg hr I.env0 hb' r h) ?_)
  intro r s' hq
  match r, hq with
  | .ok (.ret u), hq => exact I.after hq
  | .ok .next, hq => exact hq.elim
  | .ok .brk, hq => exact hq.elim
  | .ok .cont, hq => exact hq.elim
  | .error e, hq => exact hq.elim
end

/-! ### what a call of an own def comes to -/
/-- the promise that stands for the numbers' meaning -/
def spD (W : Wd) (j : Nat) : Sq := fun vs H Q => ∃ F M ds st d st', RepL H F M ds vs ∧ SRx W H F M st ∧ W.C j ds st = some (d, st') ∧ PostV W F M H d st' Q
structure TOk (G : GT) (W : Wd) (k : Nat) (X : Cx) : Prop where
  room : Room k X.A
  fns : ∀ (x : Str) (j : Nat) (eff : Nat), G.fns.lookup x = some (j, eff) → ∃ f fd ps, X.mg x = some (.ref f) ∧ PySem.W.keepIn X.K (.ref f) = true ∧ Binds X.K fd ps [] ∧ FnG X.prog X.w X.K X.mg X.base k f fd ps (spD W j)
  cons : ∀ (x : Str) (d : D), G.cons.lookup x = some d → ∃ u v, X.mg x = some u ∧ RelV v u ∧ d.plain = true ∧ Rep (fun _ => none) [] [] d v
  nofl : G.flds = []
  nomt : G.mths = []
  nocl : G.cls = []

theorem Rep.plain {d : D} {v : V} {H H' : Hp} {F M F' M' : Ads} (h : d.plain = true) (r : Rep H F M d v) : Rep H' F' M' d v := by
  cases d <;> first | (simp only [Rep] at r ⊢; exact r) | simp [D.plain] at h

section
variable {H : Hp} {F M : Ads}
mutual
/-- what the callee sees: none of the store's objects, and nothing that is handed in may be written -/
theorem Rep.sub {F' M' : Ads} (hf : ∀ a, a ∈ F' → a ∈ F) : ∀ (d : D) (v : V), d.noRef = true → Rep H F M d v → Rep H F' M' d v
  | .non, _, _, h => by simp only [Rep] at h ⊢; exact h
  | .bl _, _, _, h => by simp only [Rep] at h ⊢; exact h
  | .int _, _, _, h => by simp only [Rep] at h ⊢; exact h
  | .str _, _, _, h => by simp only [Rep] at h ⊢; exact h
  | .tup ds, v, n, h => by
    simp only [Rep] at h ⊢
    simp only [D.noRef] at n
    obtain ⟨a, vs, e, s, r⟩ := h
    exact ⟨a, vs, e, s, RepL.sub hf ds vs n r⟩
  | .lst ds, v, n, h => by
    simp only [Rep] at h ⊢
    simp only [D.noRef] at n
    obtain ⟨a, vs, e, s, na, r⟩ := h
    exact ⟨a, vs, e, s, fun z => na (hf a z), RepL.sub hf ds vs n r⟩
  | .dct false ks ds, v, n, h => by
    simp only [Rep] at h ⊢
    simp only [D.noRef, Bool.and_eq_true] at n
    obtain ⟨a, e, na, kvs, s, ek, r⟩ := h
    exact ⟨a, e, fun z => na (hf a z), kvs, s, ek, RepL.sub hf ds _ n.2 r⟩
  | .dct true ks ds, v, n, h => by
    simp only [Rep] at h ⊢
    simp only [D.noRef, Bool.and_eq_true] at n
    obtain ⟨a, e, na, kvs, s, ek, r⟩ := h
    exact ⟨a, e, fun z => na (hf a z), kvs, s, ek, RepL.sub hf ds _ n.2 r⟩
  | .ref _, _, n, _ => by simp [D.noRef] at n
theorem RepL.sub {F' M' : Ads} (hf : ∀ a, a ∈ F' → a ∈ F) : ∀ (ds : List D) (vs : List V), noRefL ds = true → RepL H F M ds vs → RepL H F' M' ds vs
  | [], _, _, h => by simp only [RepL] at h ⊢; exact h
  | d :: ds, vs, n, h => by
    simp only [RepL] at h ⊢
    simp only [noRefL, Bool.and_eq_true] at n
    obtain ⟨v, r, e, h1, h2⟩ := h
    exact ⟨v, r, e, Rep.sub hf d v n.1 h1, RepL.sub hf ds r n.2 h2⟩
end
mutual
/-- no list within: it does not matter who writes -/
theorem Rep.noL {F' M' : Ads} : ∀ (d : D) (v : V), d.noLst = true → Rep H F M d v → Rep H F' M' d v
  | .non, _, _, h => by simp only [Rep] at h ⊢; exact h
  | .bl _, _, _, h => by simp only [Rep] at h ⊢; exact h
  | .int _, _, _, h => by simp only [Rep] at h ⊢; exact h
  | .str _, _, _, h => by simp only [Rep] at h ⊢; exact h
  | .tup ds, v, n, h => by
    simp only [Rep] at h ⊢
    simp only [D.noLst] at n
    obtain ⟨a, vs, e, s, r⟩ := h
    exact ⟨a, vs, e, s, RepL.noL ds vs n r⟩
  | .lst ds, v, n, h => by simp [D.noLst] at n
  | .dct _ ks ds, v, n, h => by simp [D.noLst] at n
  | .ref _, _, n, _ => by simp [D.noLst] at n
theorem RepL.noL {F' M' : Ads} : ∀ (ds : List D) (vs : List V), noLstL ds = true → RepL H F M ds vs → RepL H F' M' ds vs
  | [], _, _, h => by simp only [RepL] at h ⊢; exact h
  | d :: ds, vs, n, h => by
    simp only [RepL] at h ⊢
    simp only [noLstL, Bool.and_eq_true] at n
    obtain ⟨v, r, e, h1, h2⟩ := h
    exact ⟨v, r, e, Rep.noL d v n.1 h1, RepL.noL ds r n.2 h2⟩
end
end

/-- the objects that are handed in -/
def refsOf (M : Ads) : List D → Ads
  | [] => []
  | .ref n :: ds => (match M[n]? with | some a => [a] | none => []) ++ refsOf M ds
  | _ :: ds => refsOf M ds
theorem refsOf_ref {M : Ads} {n : Nat} {a : Addr} (h : M[n]? = some a) : ∀ {ds : List D}, D.ref n ∈ ds → a ∈ refsOf M ds
  | d :: ds, hm => by
    rcases List.mem_cons.mp hm with e | hm
    · subst e
      simp only [refsOf, h, List.mem_append]
      exact .inl (by simp)
    · have ih := refsOf_ref h hm
      cases d <;> simp only [refsOf, List.mem_append] <;> first | exact ih | exact .inr ih
theorem refsOf_none {M : Ads} : ∀ {ds : List D}, ds.all D.noRef = true → refsOf M ds = []
  | [], _ => rfl
  | d :: ds, h => by
    simp only [List.all_cons, Bool.and_eq_true] at h
    cases d <;> simp only [refsOf] <;> first | exact refsOf_none h.2 | simp [D.noRef] at h

section
variable {W : Wd} {F M : Ads} {H : Hp} {st : Sto} {X : Cx}
theorem deref_rep {F' : Ads} (hf : ∀ a, a ∈ F' → a ∈ F) {d e : D} {v : V} (S : SRx W H F M st) (r : Rep H F M d v) (h : deref st d = some e) (hr : ∀ n a, d = .ref n → M[n]? = some a → a ∉ F') : Rep H F' [] e v := by
  unfold deref at h
  split at h
  · rename_i hn
    simp only [Option.some.injEq] at h; subst h
    exact Rep.sub hf d v hn r
  · split at h
    · rename_i n hn
      simp only [Rep] at r
      obtain ⟨a, rfl, hm⟩ := r
      have na := hr n a rfl hm
      split at h
      · rename_i xs hx
        split at h
        · rename_i hq
          simp only [Option.some.injEq] at h; subst h
          obtain ⟨vs, h1, h2⟩ := S.obs n _ a hx hm
          simp only [Rep]
          exact ⟨a, vs, rfl, .inl h1, na, RepL.sub hf xs vs hq h2⟩
        · cases h
      · rename_i t ks vs hx
        split at h
        · rename_i hq
          simp only [Bool.and_eq_true] at hq
          simp only [Option.some.injEq] at h; subst h
          have o := S.obs n _ a hx hm
          cases t with
          | false =>
            obtain ⟨kvs, h1, h2, h3⟩ := o
            simp only [Rep]
            exact ⟨a, rfl, na, kvs, h1, h2, RepL.sub hf _ _ hq.2 h3⟩
          | true =>
            obtain ⟨kvs, h1, h2, h3⟩ := o
            simp only [Rep]
            exact ⟨a, rfl, na, kvs, h1, h2, RepL.sub hf _ _ hq.2 h3⟩
        · cases h
      · cases h
    · cases h
theorem deref_all {F' : Ads} (hf : ∀ a, a ∈ F' → a ∈ F) (S : SRx W H F M st) : ∀ {ds es : List D} {vs : List V}, RepL H F M ds vs → ds.mapM (deref st) = some es → (∀ n a, D.ref n ∈ ds → M[n]? = some a → a ∉ F') → RepL H F' [] es vs
  | [], es, vs, r, h, _ => by
    simp only [List.mapM_nil, Option.pure_def, Option.some.injEq] at h; subst h
    simpa only [RepL] using r
  | d :: ds, es, vs, r, h, hr => by
    simp only [List.mapM_cons, Option.bind_eq_bind, Option.bind_eq_some_iff, Option.pure_def, Option.some.injEq] at h
    obtain ⟨e, he, es', hes, rfl⟩ := h
    simp only [RepL] at r ⊢
    obtain ⟨v, vs', rfl, r1, r2⟩ := r
    exact ⟨v, vs', rfl, deref_rep hf S r1 he fun n a e1 e2 => hr n a (by rw [e1]; exact List.mem_cons_self ..) e2, deref_all hf S r2 hes fun n a e1 e2 => hr n a (List.mem_cons_of_mem _ e1) e2⟩
/-- a pure call, from the callee's promise -/
theorem pcall_sp {j : Nat} {ds : List D} {vs : List V} {w : D} {Q : VK} (S : SRx W H F M st) (r : RepL H F M ds vs) (e : pcall W.C j ds st = some w) (k : PostV W F M H w st Q) : spD W j vs H Q := by
  unfold pcall at e
  simp only [Option.bind_eq_bind, Option.bind_eq_some_iff] at e
  obtain ⟨es, he, ⟨v', st'⟩, hc, w', hw, e⟩ := e
  split at e
  · rename_i hcond
    simp only [Option.some.injEq] at e; subst e
    have hf : ∀ a, a ∈ F.filter (fun a => !(refsOf M ds).contains a) → a ∈ F := fun a h => (List.mem_filter.mp h).1
    have hn : ∀ n a, D.ref n ∈ ds → M[n]? = some a → a ∉ F.filter (fun a => !(refsOf M ds).contains a) := fun n a h1 h2 h3 => by
      have q := (List.mem_filter.mp h3).2
      have z := refsOf_ref h2 h1
      simp [z] at q
    have S0 : SRx W H (F.filter (fun a => !(refsOf M ds).contains a)) [] [] := ⟨rfl, List.nodup_nil, fun a h => (nomatch h), fun a h => S.fs a (hf a h), fun n ob a h => by simp at h⟩
    refine ⟨_, [], es, [], v', st', deref_all hf S r he hn, S0, hc, fun F' M' H' val l S' rv => ?_⟩
    have l2 : Le F M H F M H' := ⟨fun a o h _ => l.ext a o h (by simp), l.alive, l.tups, l.frzs, fun _ _ h => h, fun _ h => h, fun _ h => .inl h, fun _ h => .inl h⟩
    have S2 : SRx W H' F M st := ⟨S.len, S.nd, S.mf, fun a h => l.alive a (S.fs a h), fun n ob a h1 h2 => (S.obs n ob a h1 h2).le l2 S.mf fun o h => l.ext a o h (by simp)⟩
    refine k F M H' val l2 S2 ?_
    rcases Bool.or_eq_true_iff.mp hcond with hall | hnl
    · -- nothing of the store is handed in
      have hF : F.filter (fun a => !(refsOf M ds).contains a) = F := by
        rw [refsOf_none hall]
        exact List.filter_eq_self.mpr fun a _ => by simp
      rw [hF] at l
      -- what may be written now and was there, or is new
      have hsub : ∀ a, a ∈ F → a ∈ F' := l.fsub
      have rw' := deref_rep (F' := F) hsub S' rv hw fun n a _ hm ha => by
        rcases l.mnew a (List.mem_of_getElem? hm) with z | z
        · cases z
        · exact S.fs a ha z
      have hnr : w'.noRef = true := by
        unfold deref at hw
        split at hw
        · rename_i q; simp only [Option.some.injEq] at hw; subst hw; exact q
        · split at hw
          · split at hw
            · split at hw
              · rename_i q; simp only [Option.some.injEq] at hw; subst hw; simpa [D.noRef] using q
              · cases hw
            · split at hw
              · rename_i q; simp only [Option.some.injEq] at hw; subst hw; simpa [D.noRef] using q
              · cases hw
            · cases hw
          · cases hw
      exact Rep.sub (fun a h => h) w' val hnr rw'
    · have hv : v' = w' := by
        unfold deref at hw
        split at hw
        · simpa using hw
        · split at hw
          · split at hw
            · split at hw
              · simp only [Option.some.injEq] at hw; subst hw; simp [D.noLst] at hnl
              · cases hw
            · split at hw
              · simp only [Option.some.injEq] at hw; subst hw; simp [D.noLst] at hnl
              · cases hw
            · cases hw
          · cases hw
      subst hv
      exact Rep.noL v' val hnl rv
  · cases e
theorem Rep.plainL {H' : Hp} {F' M' : Ads} : ∀ {ds : List D} {vs : List V}, ds.all D.plain = true → RepL H F M ds vs → RepL H' F' M' ds vs
  | [], _, _, h => by simp only [RepL] at h ⊢; exact h
  | d :: ds, vs, n, h => by
    simp only [RepL] at h ⊢
    simp only [List.all_cons, Bool.and_eq_true] at n
    obtain ⟨v, r, e, h1, h2⟩ := h
    exact ⟨v, r, e, Rep.plain n.1 h1, Rep.plainL n.2 h2⟩
theorem nd_inj {α : Type} : ∀ {l : List α} {i j : Nat} (nd : l.Nodup) (hi : i < l.length) (hj : j < l.length), l[i] = l[j] → i = j
  | x :: l, 0, 0, _, _, _, _ => rfl
  | x :: l, 0, j + 1, nd, _, hj, h => by
    have := (List.nodup_cons.mp nd).1
    simp only [List.getElem_cons_zero, List.getElem_cons_succ] at h
    exact absurd (by rw [h]; exact List.getElem_mem _) this
  | x :: l, i + 1, 0, nd, hi, _, h => by
    have := (List.nodup_cons.mp nd).1
    simp only [List.getElem_cons_zero, List.getElem_cons_succ] at h
    exact absurd (by rw [← h]; exact List.getElem_mem _) this
  | x :: l, i + 1, j + 1, nd, hi, hj, h => by
    simp only [List.getElem_cons_succ] at h
    rw [nd_inj (List.nodup_cons.mp nd).2 (by simpa using hi) (by simpa using hj) h]
/-- a draw: a call that writes its first argument alone -/
theorem dcall_sp {j : Nat} {ds : List D} {vs : List V} {w : D} {st2 : Sto} {Q : VK} (S : SRx W H F M st) (r : RepL H F M ds vs) (e : dcall W.C j ds st = some (w, st2)) (k : PostV W F M H w st2 Q) : spD W j vs H Q := by
  unfold dcall at e
  split at e
  case h_2 => cases e
  rename_i n es
  split at e
  case h_2 => cases e
  rename_i xs hx
  split at e
  case isFalse => cases e
  rename_i hc
  simp only [Bool.and_eq_true] at hc
  obtain ⟨hpl, hne⟩ := hc
  split at e
  case h_2 => cases e
  rename_i fs hfs
  split at e
  case h_2 => cases e
  rename_i v' st' hcall
  split at e
  case h_2 => cases e
  rename_i ys w' hy hw
  split at e
  case isFalse => cases e
  rename_i hcond
  simp only [Bool.and_eq_true] at hcond
  obtain ⟨⟨hyp, hv0⟩, hcond⟩ := hcond
  simp only [Option.some.injEq, Prod.mk.injEq] at e
  obtain ⟨rfl, rfl⟩ := e
  simp only [RepL] at r
  obtain ⟨v, vs', rfl, r1, r2⟩ := r
  simp only [Rep] at r1
  obtain ⟨ar, rfl, hM⟩ := r1
  have har : ar ∈ M := List.mem_of_getElem? hM
  have hf : ∀ a, a ∈ F.filter (fun a => !(refsOf M es).contains a) → a ∈ F := fun a h => (List.mem_filter.mp h).1
  have hn : ∀ n a, D.ref n ∈ es → M[n]? = some a → a ∉ F.filter (fun a => !(refsOf M es).contains a) := fun n a h1 h2 h3 => by
    have q := (List.mem_filter.mp h3).2
    have z := refsOf_ref h2 h1
    simp [z] at q
  have inj : ∀ m, M[m]? = some ar → m = n := fun m hm => by
    obtain ⟨h1, h2⟩ := List.getElem?_eq_some_iff.mp hm
    obtain ⟨h3, h4⟩ := List.getElem?_eq_some_iff.mp hM
    exact nd_inj S.nd h1 h3 (h2.trans h4.symm)
  have nr : ar ∉ refsOf M es := by
    have gen : ∀ l : List D, l.all (fun e => !decide (e = .ref n)) = true → ar ∉ refsOf M l := by
      intro l
      induction l with
      | nil => intro _; simp [refsOf]
      | cons d l ih =>
        intro hl
        simp only [List.all_cons, Bool.and_eq_true] at hl
        have i2 := ih hl.2
        cases d <;> simp only [refsOf, List.mem_append, not_or] <;> first | exact i2 | refine ⟨?_, i2⟩
        rename_i m
        cases hm : M[m]? with
        | none => simp
        | some a =>
          simp only [List.mem_singleton]
          intro z
          subst z
          have := inj m hm
          subst this
          simp at hl
    exact gen es hne
  have harF : ar ∈ F.filter (fun a => !(refsOf M es).contains a) := List.mem_filter.mpr ⟨S.mf ar har, by simpa using nr⟩
  obtain ⟨vs0, o1, o2⟩ := S.obs n _ ar hx hM
  have S0 : SRx W H (F.filter (fun a => !(refsOf M es).contains a)) [ar] [.lst xs] := ⟨rfl, List.pairwise_singleton _ _, fun a h => by rw [List.mem_singleton.mp h]; exact harF, fun a h => S.fs a (hf a h), fun m ob a h1 h2 => by
    cases m with
    | zero =>
      simp only [List.getElem?_cons_zero, Option.some.injEq] at h1 h2
      subst h1; subst h2
      exact ⟨vs0, o1, Rep.plainL hpl o2⟩
    | succ m => simp at h1⟩
  refine ⟨_, [ar], .ref 0 :: fs, [.lst xs], v', st', ?_, S0, hcall, fun F' M' H' val l S' rv => ?_⟩
  · simp only [RepL]
    refine ⟨_, _, rfl, by simp only [Rep]; exact ⟨ar, rfl, rfl⟩, ?_⟩
    have q := deref_all hf S r2 hfs hn
    exact RepL.sub (fun a h => h) fs vs' (by
      clear q r2 hcall
      revert hfs
      have nrf : ∀ d e : D, deref st d = some e → e.noRef = true := fun d e hw => by
        unfold deref at hw
        split at hw
        · rename_i q; simp only [Option.some.injEq] at hw; subst hw; exact q
        · split at hw
          · split at hw
            · split at hw
              · rename_i q; simp only [Option.some.injEq] at hw; subst hw; simpa [D.noRef] using q
              · cases hw
            · split at hw
              · rename_i q; simp only [Option.some.injEq] at hw; subst hw; simpa [D.noRef] using q
              · cases hw
            · cases hw
          · cases hw
      have : ∀ (es fs : List D), es.mapM (deref st) = some fs → noRefL fs = true := by
        intro es
        induction es with
        | nil => intro fs h; simp only [List.mapM_nil, Option.pure_def, Option.some.injEq] at h; subst h; rfl
        | cons d es ih =>
          intro fs h
          simp only [List.mapM_cons, Option.bind_eq_bind, Option.bind_eq_some_iff, Option.pure_def, Option.some.injEq] at h
          obtain ⟨e, he, es', hes, rfl⟩ := h
          simp only [noRefL, nrf d e he, ih es' hes, Bool.and_self]
      exact this es fs) q
  have hM0 : M'[0]? = some ar := l.pre 0 ar rfl
  have l2 : Le F M H F M H' := ⟨fun a o h hnm => l.ext a o h (by simp only [List.mem_singleton]; intro z; exact hnm (by rw [z]; exact har)), l.alive, l.tups, l.frzs, fun _ _ h => h, fun _ h => h, fun _ h => .inl h, fun _ h => .inl h⟩
  have S2 : SRx W H' F M (st.set n (.lst ys)) := ⟨by rw [List.length_set]; exact S.len, S.nd, S.mf, fun a h => l.alive a (S.fs a h), fun m ob a h1 h2 => by
    by_cases hmn : m = n
    · subst hmn
      have ha : a = ar := by rw [hM] at h2; simpa using h2.symm
      subst ha
      have hlt : m < st.length := by
        have := (List.getElem?_eq_some_iff.mp hx).1
        exact this
      rw [List.getElem?_set_self hlt] at h1
      simp only [Option.some.injEq] at h1
      subst h1
      obtain ⟨vs1, p1, p2⟩ := S'.obs 0 _ a hy hM0
      exact ⟨vs1, p1, Rep.plainL hyp p2⟩
    · rw [List.getElem?_set_ne (fun z => hmn z.symm)] at h1
      have hna : a ≠ ar := fun z => hmn (inj m (by rw [h2, z]))
      exact (S.obs m ob a h1 h2).le l2 S.mf fun o h => l.ext a o h (by simpa using hna)⟩
  refine k F M H' val l2 S2 ?_
  have vnew : ∀ m a, v' = .ref m → M'[m]? = some a → H a = none := fun m a hv hm => by
    rcases l.mnew a (List.mem_of_getElem? hm) with z | z
    · have z := List.mem_singleton.mp z
      subst z
      have : m = 0 := by
        obtain ⟨h1, h2⟩ := List.getElem?_eq_some_iff.mp hm
        obtain ⟨h3, h4⟩ := List.getElem?_eq_some_iff.mp hM0
        exact nd_inj S'.nd h1 h3 (h2.trans h4.symm)
      subst this
      subst hv
      simp at hv0
    · exact z
  rcases Bool.or_eq_true_iff.mp hcond with hall | hnl
  · have hF : F.filter (fun a => !(refsOf M es).contains a) = F := by
      rw [refsOf_none hall]
      exact List.filter_eq_self.mpr fun a _ => by simp
    rw [hF] at l
    have rw' := deref_rep (F' := F) l.fsub S' rv hw fun m a hv hm ha => S.fs a ha (vnew m a hv hm)
    have hnr : w'.noRef = true := by
      unfold deref at hw
      split at hw
      · rename_i q; simp only [Option.some.injEq] at hw; subst hw; exact q
      · split at hw
        · split at hw
          · split at hw
            · rename_i q; simp only [Option.some.injEq] at hw; subst hw; simpa [D.noRef] using q
            · cases hw
          · split at hw
            · rename_i q; simp only [Option.some.injEq] at hw; subst hw; simpa [D.noRef] using q
            · cases hw
          · cases hw
        · cases hw
    exact Rep.sub (fun a h => h) w' val hnr rw'
  · have hv : v' = w' := by
      unfold deref at hw
      split at hw
      · simpa using hw
      · split at hw
        · split at hw
          · split at hw
            · simp only [Option.some.injEq] at hw; subst hw; simp [D.noLst] at hnl
            · cases hw
          · split at hw
            · simp only [Option.some.injEq] at hw; subst hw; simp [D.noLst] at hnl
            · cases hw
          · cases hw
        · cases hw
    subst hv
    exact Rep.noL v' val hnl rv
/-- a call that tells a new list -/
theorem fcall_sp {j : Nat} {ds : List D} {vs : List V} {w : D} {st2 : Sto} {Q : VK} (S : SRx W H F M st) (r : RepL H F M ds vs) (e : fcall W.C j ds st = some (w, st2)) (k : PostV W F M H w st2 Q) : spD W j vs H Q := by
  unfold fcall at e
  split at e
  case h_2 => cases e
  rename_i es he
  split at e
  case h_2 => cases e
  rename_i n st' hc
  split at e
  case h_2 => cases e
  rename_i xs hx
  split at e
  case isFalse => cases e
  rename_i hcond
  simp only [Bool.and_eq_true] at hcond
  obtain ⟨hxr, hcond⟩ := hcond
  simp only [Option.some.injEq, Prod.mk.injEq] at e
  obtain ⟨rfl, rfl⟩ := e
  have hf : ∀ a, a ∈ F.filter (fun a => !(refsOf M ds).contains a) → a ∈ F := fun a h => (List.mem_filter.mp h).1
  have hn : ∀ n a, D.ref n ∈ ds → M[n]? = some a → a ∉ F.filter (fun a => !(refsOf M ds).contains a) := fun n a h1 h2 h3 => by
    have q := (List.mem_filter.mp h3).2
    have z := refsOf_ref h2 h1
    simp [z] at q
  have S0 : SRx W H (F.filter (fun a => !(refsOf M ds).contains a)) [] [] := ⟨rfl, List.nodup_nil, fun a h => (nomatch h), fun a h => S.fs a (hf a h), fun n ob a h => by simp at h⟩
  refine ⟨_, [], es, [], .ref n, st', deref_all hf S r he hn, S0, hc, fun F' M' H' val l S' rv => ?_⟩
  simp only [Rep] at rv
  obtain ⟨a, rfl, hM⟩ := rv
  have ha : H a = none := by
    rcases l.mnew a (List.mem_of_getElem? hM) with z | z
    · cases z
    · exact z
  have haF : a ∉ F := fun z => S.fs a z ha
  have haM : a ∉ M := fun z => haF (S.mf a z)
  obtain ⟨vs1, o1, o2⟩ := S'.obs n _ a hx hM
  have l2 : Le F M H (a :: F) (M ++ [a]) H' := ⟨fun b o h _ => l.ext b o h (by simp), l.alive, l.tups, l.frzs, fun m b h => by rw [List.getElem?_append_left (List.getElem?_eq_some_iff.mp h).1]; exact h, fun b h => List.mem_cons_of_mem _ h, fun b h => by
    rcases List.mem_cons.mp h with rfl | h
    · exact .inr ha
    · exact .inl h, fun b h => by
    rcases List.mem_append.mp h with h | h
    · exact .inl h
    · rw [List.mem_singleton.mp h]; exact .inr ha⟩
  have rx : RepL H' (a :: F) (M ++ [a]) xs vs1 := by
    rcases Bool.or_eq_true_iff.mp hcond with hall | hnl
    · have hF : F.filter (fun a => !(refsOf M ds).contains a) = F := by
        rw [refsOf_none hall]
        exact List.filter_eq_self.mpr fun a _ => by simp
      rw [hF] at l
      refine RepL.sub (fun b hb => ?_) xs vs1 hxr o2
      rcases List.mem_cons.mp hb with rfl | hb
      · exact S'.mf b (List.mem_of_getElem? hM)
      · exact l.fsub b hb
    · exact RepL.noL xs vs1 hnl o2
  have S2 : SRx W H' (a :: F) (M ++ [a]) (st ++ [.lst xs]) := by
    refine ⟨by rw [List.length_append, List.length_append, S.len] <;> rfl, ?_, fun b hb => ?_, fun b hb => ?_, fun m ob b h1 h2 => ?_⟩
    · refine List.nodup_append.mpr ⟨S.nd, List.pairwise_singleton _ _, fun x hx y hy z => ?_⟩
      rw [List.mem_singleton.mp hy] at z
      exact haM (by rw [← z]; exact hx)
    · rcases List.mem_append.mp hb with hb | hb
      · exact List.mem_cons_of_mem _ (S.mf b hb)
      · rw [List.mem_singleton.mp hb]; exact List.mem_cons_self ..
    · rcases List.mem_cons.mp hb with rfl | hb
      · rw [o1]; simp
      · exact l.alive b (S.fs b hb)
    · by_cases hm : m < st.length
      · rw [List.getElem?_append_left hm] at h1
        rw [List.getElem?_append_left (by rw [S.len]; exact hm)] at h2
        exact (S.obs m ob b h1 h2).le l2 S.mf fun o h => l.ext b o h (by simp)
      · rw [List.getElem?_append_right (by omega)] at h1
        rw [List.getElem?_append_right (by rw [S.len]; omega), S.len] at h2
        have hz : m - st.length = 0 := by
          have := (List.getElem?_eq_some_iff.mp h1).1
          simp only [List.length_singleton] at this
          omega
        rw [hz] at h1 h2
        simp only [List.getElem?_cons_zero, Option.some.injEq] at h1 h2
        subst h1; subst h2
        exact ⟨vs1, o1, rx⟩
  refine k (a :: F) (M ++ [a]) H' (.ref a) l2 S2 ?_
  simp only [Rep]
  exact ⟨a, rfl, by rw [List.getElem?_append_right (by rw [S.len]; exact Nat.le_refl _), S.len, Nat.sub_self] <;> rfl⟩
variable {c : TC} {G : GT} {pos np : Pos}
/-- f(e, ..), f an own def -/
theorem sE_call {k j : Nat} {eff : Nat} (ok : XOk X c) (tk : TOk G W k X) {x : Str} {e : Expr} {es : List Expr} {is : List IE} (hg : glB c.sc x = true) (hf : G.fns.lookup x = some (j, eff)) (hp : (e :: es).all plainE = true) (ha : PA X (e :: es) (REs W is)) :
    PE X (.Call (.Name x np) (e :: es) [] pos) (RE W (.call j eff is)) := by
  refine ⟨fun pins s σ H Q I ⟨F, M, env, st, d, st', En, S, ev, q⟩ => ?_⟩
  obtain ⟨f, fd, ps, hm, hk, hb, FG⟩ := tk.fns x j eff hf
  have hp' := hp
  simp only [List.all_cons, Bool.and_eq_true] at hp'
  simp only [evE] at ev
  split at ev
  · rename_i ds st1 e1
    have hsp : ∀ F' M' H' vs, Le F M H F' M' H' → SRx W H' F' M' st1 → RepL H' F' M' ds vs → spD W j vs H' Q := fun F' M' H' vs l S' r => by
      match eff, ev with
      | 1, ev => exact ⟨F', M', ds, st1, d, st', r, S', ev, l.post q⟩
      | 0, ev =>
        simp only at ev
        split at ev
        · rename_i v ev2
          simp only [Option.some.injEq, Prod.mk.injEq] at ev
          obtain ⟨rfl, rfl⟩ := ev
          exact pcall_sp S' r ev2 (l.post q)
        · cases ev
      | 2, ev => exact dcall_sp S' r ev (l.post q)
      | _ + 3, ev => exact fcall_sp S' r ev (l.post q)
    refine wpAny_Call_Name_kw (ld_glob I (ok.gl hg) hm ?_ (nmOk_d (glB_gl hg).2.1).1)
    refine PySem.W.callWith_K (h₀ := X.base) I.ok.mod.kin hk (thn (ha.run pos pins s σ H (fun vs H1 => spD W j vs H1 Q) I ⟨F, M, env, st, ds, st1, En, S, e1, hsp⟩) fun us s1 ⟨vs, H1, I1, r, q2⟩ => And.intro I1.kIn ?_) (star_plain es hp'.1) (star_none es hp'.2)
    exact runG FG ok.gd tk.room hb I1 r q2
  · cases ev
/-- f(), f an own def -/
theorem sE_call0 {k j : Nat} {eff : Nat} (ok : XOk X c) (tk : TOk G W k X) {x : Str} (hg : glB c.sc x = true) (hf : G.fns.lookup x = some (j, eff)) :
    PE X (.Call (.Name x np) [] [] pos) (RE W (.call j eff [])) := by
  refine ⟨fun pins s σ H Q I ⟨F, M, env, st, d, st', En, S, ev, q⟩ => ?_⟩
  obtain ⟨f, fd, ps, hm, hk, hb, FG⟩ := tk.fns x j eff hf
  simp only [evE, evEs] at ev
  have hsp : spD W j [] H Q := by
    have r : RepL H F M [] [] := .nil
    match eff, ev with
    | 1, ev => exact ⟨F, M, [], st, d, st', r, S, ev, q⟩
    | 0, ev =>
      simp only at ev
      split at ev
      · rename_i v ev2
        simp only [Option.some.injEq, Prod.mk.injEq] at ev
        obtain ⟨rfl, rfl⟩ := ev
        exact pcall_sp S r ev2 q
      · cases ev
    | 2, ev => exact dcall_sp S r ev q
    | _ + 3, ev => exact fcall_sp S r ev q
  refine wpAny_Call_Name_kw (ld_glob I (ok.gl hg) hm ?_ (nmOk_d (glB_gl hg).2.1).1)
  exact PySem.W.callWith_K0 I.kIn hk (runG FG ok.gd tk.room hb I .nil hsp)
theorem sE_con {k : Nat} (ok : XOk X c) (tk : TOk G W k X) {x : Str} {d : D} (hg : glB c.sc x = true) (hf : G.cons.lookup x = some d) : PE X (.Name x pos) (RE W (.cst d)) := by
  refine ⟨fun pins s σ H Q I ⟨F, M, env, st, d', st', En, S, ev, q⟩ => ?_⟩
  obtain ⟨u, v, hm, hr, hpl, rp⟩ := tk.cons x d hf
  simp only [evE, Option.some.injEq, Prod.mk.injEq] at ev
  obtain ⟨rfl, rfl⟩ := ev
  refine (pe_glob (ok.gl hg) hm hr (nmOk_d (glB_gl hg).2.1).1).run pins s σ H Q I ?_
  exact q F M H v (Le.refl F M H) S (Rep.plain hpl rp)
end
end Pm

/-! Pm, part Bf: the text's terms and their translations agree. -/
namespace Pm
open PySem PySem.Spec L2
open PyProof.Rows hiding St
section
variable {X : Cx} {W : Wd} {c : TC} {G : GT} {t : Expr → IE} {tt : Expr → Ts}
theorem snd_and : ∀ {es : List Expr} {pos : Pos}, (∀ e, PE X e (RE W (t e))) → PE X (.BoolOp .And es pos) (RE W (trAnd t es))
  | [], _, _ => sE_bad rfl
  | [a], _, h => pe_one (h a)
  | a :: b :: r, _, h => sE_and (h a) (snd_and h)
theorem snd_or : ∀ {es : List Expr} {pos : Pos}, (∀ e, PE X e (RE W (t e))) → PE X (.BoolOp .Or es pos) (RE W (trOr t es))
  | [], _, _ => sE_bad rfl
  | [a], _, h => pe_one (h a)
  | a :: b :: r, _, h => sE_or (h a) (snd_or h)
theorem snd_andT : ∀ {a : Expr} {es : List Expr} {pos : Pos}, (∀ e, PT X e (RT W (tt e))) → PW X (.BoolOp .And (a :: es) pos) (RT W (trAndT tt (a :: es)))
  | a, [], _, h => sW_one (h a)
  | a, b :: r, _, h => sW_and (h a) (snd_andT h)
theorem snd_orT : ∀ {a : Expr} {es : List Expr} {pos : Pos}, (∀ e, PT X e (RT W (tt e))) → PW X (.BoolOp .Or (a :: es) pos) (RT W (trOrT tt (a :: es)))
  | a, [], _, h => sW_one (h a)
  | a, b :: r, _, h => sW_or (h a) (snd_orT h)
theorem snd_cmp (ok : XOk X c) {a : Expr} {ops : List CmpOp} {bs : List Expr} {pos : Pos} (h : ∀ e, PE X e (RE W (t e))) : PE X (.Compare a ops bs pos) (RE W (trCmp t a ops bs)) := by
  unfold trCmp
  split
  · rename_i b
    split
    · rename_i hp; exact sE_cmp ok hp (h _) (h _)
    · exact sE_bad rfl
  · split
    · rename_i hp
      simp only [Bool.and_eq_true] at hp
      exact sE_cmp2 ok hp.2 (h _) (h _) (h _)
    · exact sE_bad rfl
  · exact sE_bad rfl
theorem snd_cmpT (ok : XOk X c) {a : Expr} {ops : List CmpOp} {bs : List Expr} {pos : Pos} (h : ∀ e, PE X e (RE W (t e))) : PT X (.Compare a ops bs pos) (RT W (.val (trCmp t a ops bs))) := by
  unfold trCmp
  split
  · rename_i b
    split
    · rename_i hp; exact sT_cmp ok hp (h _) (h _)
    · exact sT_bad
  · split
    · rename_i hp
      simp only [Bool.and_eq_true] at hp
      exact sT_cmp2 ok hp.2 (h _) (h _) (h _)
    · exact sT_bad
  · exact sT_bad
theorem snd_sub (ok : XOk X c) {a i : Expr} {pos : Pos} (h : ∀ e, PE X e (RE W (t e))) : PE X (.Subscript a i pos) (RE W (trSub G t a i pos)) := by
  unfold trSub
  split
  · exact sE_bad rfl
  · split
    · exact sE_slc (h a) (fun e _ _ => h e) (fun e _ _ => h e)
    · split
      · rename_i hn; exact sE_rev hn (h a)
      · exact sE_bad rfl
    · split
      · rename_i hp; exact sE_idx ok hp (h a) (h _)
      · exact sE_bad rfl
theorem fidx_nil {x : Str} {G : GT} (h : G.flds = []) : fidx G.flds x = none := by rw [h]; rfl
theorem fidx_nilM {x : Str} {G : GT} (h : G.mths = []) : fidx G.mths x = none := by rw [h]; rfl
theorem trRng_some {e : Expr} {es : List IE} (h : trRng t c e = some es) : ∃ np args pos, e = .Call (.Name "range" np) args [] pos ∧ glB c.sc "range" = true ∧ args.all plainE = true ∧ es = args.map t := by
  unfold trRng at h
  split at h
  · rename_i x np args pos
    split at h
    · rename_i hc
      simp only [Bool.and_eq_true, Bool.not_eq_true'] at hc
      obtain rfl : x = "range" := eq_of_beq hc.1.2
      obtain ⟨h1, h2, h3⟩ := trArgs_some h
      exact ⟨np, args, pos, rfl, hc.1.1, h2, h3⟩
    · cases h
  · cases h
theorem sE_seq (ok : XOk X c) {x : Str} {np pos : Pos} {m : Bool} {args : List Expr} {e' : IE} (hg : glB c.sc x = true) (hne : args.isEmpty = false) (h : trSeq t c m x args = some e') (hE : ∀ e, PE X e (RE W (t e))) : PE X (.Call (.Name x np) args [] pos) (RE W e') := by
  unfold trSeq at h
  split at h
  case h_2 => cases h
  rename_i a
  split at h
  case isFalse => cases h
  rename_i hx
  simp only [Bool.or_eq_true, beq_iff_eq] at hx
  split at h
  · rename_i es hr
    split at h
    · simp only [Option.some.injEq] at h
      subst h
      obtain ⟨np2, args, pos2, rfl, hgr, hp, rfl⟩ := trRng_some hr
      refine sE_rngL ok ?_ hg hgr hp fun e _ => hE e
      rcases hx with rfl | rfl <;> rfl
    · cases h
  · split at h
    · rename_i hxt
      have hxt : x = "tuple" := eq_of_beq hxt
      subst hxt
      split at h
      case h_2 => cases h
      rename_i y _ b _ _
      split at h
      case isFalse => cases h
      rename_i hc
      simp only [Bool.and_eq_true] at hc
      obtain ⟨⟨h1, h2⟩, h3⟩ := hc
      have h2 : y = "reversed" := eq_of_beq h2
      subst h2
      simp only [Option.some.injEq] at h
      subst h
      exact sE_trev ok hg h1 h3 (hE _)
    · rename_i hxt
      have hxl : x = "list" := hx.resolve_left fun z => hxt (by rw [z]; rfl)
      subst hxl
      split at h
      case h_2 => cases h
      rename_i y _ b d _ _
      split at h
      case isFalse => cases h
      rename_i hc
      simp only [Bool.and_eq_true] at hc
      obtain ⟨⟨h1, h2⟩, h3, h4⟩ := hc
      have h2 : y = "zip" := eq_of_beq h2
      subst h2
      simp only [Option.some.injEq] at h
      subst h
      exact sE_lzip ok hg h1 h3 h4 (hE _) (hE _)
theorem snd_call {k : Nat} (ok : XOk X c) (tk : TOk G W k X) {x : Str} {np pos : Pos} {args : List Expr} (h : ∀ e, PE X e (RE W (t e))) : PE X (.Call (.Name x np) args [] pos) (RE W (trCall G c t x args pos)) := by
  unfold trCall
  split
  · exact sE_bad rfl
  · rename_i h0
    simp only [Bool.not_eq_true', Bool.not_eq_false] at h0
    have hg := h0
    cases args with
    | nil =>
      simp only [List.isEmpty_nil, if_true]
      split
      · rename_i j eff hf; exact sE_call0 ok tk hg hf
      · exact sE_bad rfl
    | cons e es =>
    have hne : (e :: es).isEmpty = false := rfl
    simp only [List.isEmpty_cons, Bool.false_eq_true, if_false]
    split
    · exact sE_bad rfl
    · rename_i is his
      obtain ⟨h1, h2, rfl⟩ := trArgs_some his
      have ha := sEs (X := X) (W := W) (t := t) (e :: es) h2 fun e _ => h e
      split
      · rename_i j eff hf; exact sE_call ok tk hg hf h2 ha
      · split
        · rename_i hc; rw [tk.nocl] at hc; cases hc
        · split
          · rename_i e' he'
            exact sE_seq ok hg hne he' h
          split
          · rename_i b hb; exact sE_bi ok hg hb (biT_dict b _) h2 ha
          · split
            · rename_i hx
              obtain rfl : x = "isinstance" := eq_of_beq hx
              split
              · rename_i a ty heq
                simp only [List.cons.injEq] at heq
                obtain ⟨rfl, rfl⟩ := heq
                simp only [List.all_cons, List.all_nil, Bool.and_true, Bool.and_eq_true] at h2
                split
                · rename_i ts hts
                  split
                  · rename_i hl
                    exact sE_isi ok hg h2.1 h2.2 (h _) hts hl
                  · exact sE_bad rfl
                · exact sE_bad rfl
              · exact sE_bad rfl
            · exact sE_bad rfl
theorem snd_meth {k : Nat} (ok : XOk X c) (tk : TOk G W k X) {o : Expr} {m : Str} {apos pos : Pos} {args : List Expr} (h : ∀ e, PE X e (RE W (t e))) : PE X (.Call (.Attribute o m apos) args [] pos) (RE W (trMeth G t o m args apos pos)) := by
  unfold trMeth
  split
  · exact sE_bad rfl
  · rename_i h0
    simp only [Bool.or_eq_true, Bool.not_eq_true', not_or, Bool.not_eq_false, decide_eq_false_iff_not, Nat.not_lt, Nat.not_le] at h0
    obtain ⟨hl, hn⟩ := h0
    split
    · exact sE_bad rfl
    · rename_i is his
      obtain ⟨h1, h2, rfl⟩ := trArgs_some his
      split
      · exact sE_bad rfl
      · rename_i h3
        simp only [Bool.or_eq_true, Bool.not_eq_true', not_or, Bool.not_eq_false] at h3
        rw [fidx_nilM tk.nomt]
        simp only
        split
        · rename_i hget
          obtain rfl : m = "get" := eq_of_beq hget
          split
          · simp only [List.all_cons, List.all_nil, Bool.and_true] at h2
            exact sE_dget1 ok hl h3.2 h2 (h o) (h _)
          · simp only [List.all_cons, List.all_nil, Bool.and_true, Bool.and_eq_true] at h2
            exact sE_dget2 ok hl h3.2 h2.1 h2.2 (h o) (h _) (h _)
          · exact sE_bad rfl
        · split
          · rename_i b hb
            exact sE_bm hl hn h3.2 hb h2 (fun e => by rw [e]; rfl) (h o) (sEs args h2 fun e _ => h e)
          · exact sE_bad rfl
theorem snd_it (ok : XOk X c) {tg e : Expr} (h : ∀ e, PE X e (RE W (t e))) : PI X tg e (RI W (trIt t c (isTupE tg) (isNmE tg) e)) := by
  unfold trIt
  split
  · rename_i es hr
    obtain ⟨np, args, pos, rfl, hg, hp, rfl⟩ := trRng_some hr
    exact sI_rng ok hg hp (by rw [List.length_map]) (sEs args hp fun e _ => h e)
  · split
    · rename_i x np args pos hrn
      split
      · rename_i hc
        simp only [Bool.and_eq_true] at hc
        obtain rfl : x = "enumerate" := eq_of_beq hc.1.2
        cases tg <;> try (exfalso; simpa [isTupE] using hc.2)
        split
        · split
          · rename_i hp; exact sI_enm ok hc.1.1 hp (h _)
          · exact sI_val (sE_bad rfl)
        · exact sI_val (sE_bad rfl)
      · split
        · rename_i hc
          simp only [Bool.and_eq_true] at hc
          obtain rfl : x = "zip" := eq_of_beq hc.1.2
          have htg : isTupE tg = true ∨ isNmE tg = true := by simpa using hc.2
          split
          · split
            · rename_i hp
              simp only [Bool.and_eq_true] at hp
              exact sI_zip ok htg hc.1.1 hp.1 hp.2 (h _) (h _)
            · exact sI_val (sE_bad rfl)
          · exact sI_val (sE_bad rfl)
        · split
          · rename_i hc
            simp only [Bool.and_eq_true] at hc
            obtain rfl : x = "reversed" := eq_of_beq hc.2
            split
            · split
              · rename_i hp
                split
                · rename_i es hr
                  obtain ⟨np, args, pos, rfl, hg, hp2, rfl⟩ := trRng_some hr
                  exact sI_revr ok hc.1 hg hp2 fun e _ => h e
                · exact sI_rev ok hc.1 hp (h _)
              · exact sI_val (sE_bad rfl)
            · exact sI_val (sE_bad rfl)
          · exact sI_val (h _)
    · split
      · exact sI_val (h _)
      · exact sI_val (sE_bad rfl)
theorem sG_bad' {e : Expr} : PG X e (RG W (.sub .bad .bad)) := by
  refine ⟨fun pins s σ H v u Q I rv ⟨F, M, env, st, d, env', st', En, S, r, ev, k⟩ => ?_⟩
  simp [asgT, evE] at ev
theorem snd_tg {k : Nat} (ok : XOk X c) (tk : TOk G W k X) (h : ∀ e, PE X e (RE W (t e))) : ∀ (n : Nat) (e : Expr), PG X e (RG W (trTg G t c n e))
  | 0, e => sG_bad'
  | n + 1, e => by
    unfold trTg
    split
    · split
      · rename_i hl
        split
        · rename_i hs; exact sG_nm ok hl hs
        · exact sG_bad'
      · exact sG_bad'
    · split
      · rename_i hp
        exact sG_tup ok hp (sGs _ hp fun e _ => snd_tg ok tk h n e) (by rw [List.length_map])
      · exact sG_bad'
    · split
      · rename_i hp
        simp only [Bool.and_eq_true] at hp
        exact sG_sub ok hp.2 (h _) (h _)
      · exact sG_bad'
    · rw [fidx_nil tk.nofl]
      exact sG_bad'
    · exact sG_bad'
theorem TOk.blk {k : Nat} (tk : TOk G W k X) {s : Shared} {H : Hp} {scope : Scope} {cl : List (Str × Addr)} {C : Addr} {fp : List Addr} : TOk G W k (X.blk s H scope (compEnvC scope cl C X.env) fp) where
  room := tk.room
  fns := tk.fns
  cons := tk.cons
  nofl := tk.nofl
  nomt := tk.nomt
  nocl := tk.nocl
theorem it_bad {t : Expr → IE} {b b' : Bool} {e : Expr} (h : ¬ plainE e = true) : trIt t c b b' e = .val .bad := by
  cases e <;> first | rfl | simp [plainE] at h
/-- a comprehension, by its parts -/
theorem snd_comp (ok : XOk X c) {tg iter elt : Expr} {ifs : List Expr} {scope : Scope} {pos : Pos} {m : Bool} {t : Tg} {ti : Expr → IE} {ts : Expr → Ts} {ie : IE} (hb : blkC c.N c.sc scope (ownOf c.N scope) = true) (ho : ∀ j ∈ t.slots, j ∈ (ownOf c.N scope).map (·.2)) (hl : ifs.length ≤ 1) (hi : PI X tg iter (RI W (trIt ti c (isTupE tg) (isNmE tg) iter)))
    (hg : ∀ (s : Shared) (H : Hp) (C : Addr) (cl : List (Str × Addr)) (fp : List Addr), PG (X.blk s H scope (compEnvC scope cl C X.env) fp) tg (RG W t))
    (ht : ∀ (s : Shared) (H : Hp) (C : Addr) (cl : List (Str × Addr)) (fp : List Addr), ∀ e ∈ ifs, PT (X.blk s H scope (compEnvC scope cl C X.env) fp) e (RT W (ts e)))
    (he : ∀ (s : Shared) (H : Hp) (C : Addr) (cl : List (Str × Addr)) (fp : List Addr), PE (X.blk s H scope (compEnvC scope cl C X.env) fp) elt (RE W ie)) :
    PE X (.ListComp elt [⟨tg, iter, ifs, 0⟩] scope pos) (RE W (.comp m ((ownOf c.N scope).map (·.2)) t (trIt ti c (isTupE tg) (isNmE tg) iter) (ifs.map ts) ie)) := by
  by_cases hp : plainE iter = true
  · exact sE_comp ok hb ho hp hi hg (fun s H C cl fp => sTs ifs hl (ht s H C cl fp)) he
  · rw [it_bad hp]
    exact ⟨fun pins s σ H Q I ⟨F, M, env, st, d, st', En, S, e, k⟩ => by simp [evE, evIt] at e⟩
theorem snd_E {k : Nat} : ∀ (n : Nat) {X : Cx} {c : TC}, XOk X c → TOk G W k X → (∀ e, PE X e (RE W (trE G n c e))) ∧ (∀ e, PT X e (RT W (trT G n c e))) ∧ (∀ a ops bs pos, PT X (.Compare a ops bs pos) (RT W (.val (trE G n c (.Compare a ops bs pos)))))
  | 0, X, c, ok, tk => ⟨fun e => sE_bad rfl, fun e => sT_bad, fun _ _ _ _ => sT_bad⟩
  | n + 1, X, c, ok, tk => by
    obtain ⟨hE, hT, hC⟩ := snd_E n ok tk
    refine ⟨fun e => ?_, fun e => ?_, fun a ops bs pos => ?_⟩
    · unfold trE
      split
      · exact sE_const _
      · rename_i x pos
        unfold trName
        split
        · rename_i hv
          split
          · rename_i hn
            split
            · rename_i i hs; exact sE_var ok hv hn hs
            · exact sE_bad rfl
          · exact sE_bad rfl
        · split
          · rename_i hg
            split
            · rename_i d hd; exact sE_con ok tk hg hd
            · exact sE_bad rfl
          · exact sE_bad rfl
      · split
        · rename_i es j pos is his
          obtain ⟨h1, h2, rfl⟩ := trArgs_some his
          exact sE_tup (sEs _ h2 fun e _ => hE e) (by rw [List.length_map]; exact h1)
        · exact sE_bad rfl
      · split
        · rename_i es pos is his
          obtain ⟨h1, h2, rfl⟩ := trArgs_some his
          exact sE_lst (sEs _ h2 fun e _ => hE e) (by rw [List.length_map]; exact h1)
        · exact sE_bad rfl
      · split
        · rename_i hc
          simp only [Bool.and_eq_true, List.isEmpty_iff] at hc
          obtain ⟨rfl, rfl⟩ := hc
          exact sE_dct0
        · exact sE_bad rfl
      · split
        · rename_i o ho; exact sE_bin ho (hE _) (hE _)
        · exact sE_bad rfl
      · split
        · exact sE_neg (hE _)
        · exact sE_not (hE _)
        · exact sE_bad rfl
      · split
        · exact snd_and hE
        · exact snd_or hE
      · exact snd_cmp ok hE
      · exact sE_ife (hT _) (hE _) (hE _)
      · exact snd_sub ok hE
      · split
        · exact sE_bad rfl
        · rename_i kws pos hk
          have hk' : kws = [] := by simpa using hk
          subst hk'
          split
          · exact snd_call ok tk hE
          · exact snd_meth ok tk hE
          · exact sE_bad rfl
      · rw [fidx_nil tk.nofl]
        exact sE_bad rfl
      · split
        · split
          · rename_i hc
            simp only [Bool.and_eq_true, decide_eq_true_eq, List.all_eq_true] at hc
            obtain ⟨⟨⟨⟨h1, h2⟩, h3⟩, h4⟩, h5⟩ := hc
            exact snd_comp ok h4 (fun j hj => by simpa using h5 j hj) h1 (snd_it ok hE) (fun s H C cl fp => snd_tg ok.blk tk.blk (snd_E n ok.blk tk.blk).1 n _) (fun s H C cl fp e he => (snd_E n ok.blk tk.blk).2.1 e) (fun s H C cl fp => (snd_E n ok.blk tk.blk).1 _)
          · exact sE_bad rfl
        · exact sE_bad rfl
      · exact sE_bad rfl
    · have dflt : ∀ e, (∀ whole, isTrue e X.env whole = (do let v ← whole; standAt e.pos; holding [v] (truthy v))) → PT X e (RT W (if plainE e then .val (trE G n c e) else .val .bad)) := fun e he => by
        split
        · exact sT_val (hE e) he
        · exact sT_bad
      cases e with
      | UnaryOp op a p =>
        cases op with
        | Not => exact sT_not (hT a)
        | _ => exact dflt _ (fun _ => rfl)
      | BoolOp op es p =>
        cases op with
        | And =>
          cases es with
          | nil => exact sT_bad
          | cons a r => exact (snd_andT hT).pt
        | Or =>
          cases es with
          | nil => exact sT_bad
          | cons a r => exact (snd_orT hT).pt
      | IfExp _ _ _ _ => exact sT_bad
      | Compare a ops bs p =>
        show PT X _ (RT W (if plainE (.Compare a ops bs p) then .val (trE G n c (.Compare a ops bs p)) else .val .bad))
        split
        · exact hC _ _ _ _
        · exact sT_bad
      | _ => exact dflt _ (fun _ => rfl)
    · unfold trE
      exact snd_cmpT ok hE
/-- statements -/
theorem tTup_not {e : Expr} (h : isTupE e = true) : ∃ es j p, e = .Tuple es j p := by
  cases e <;> first | exact ⟨_, _, _, rfl⟩ | simp [isTupE] at h
theorem snd_S {k : Nat} (ok : XOk X c) (tk : TOk G W k X) : ∀ (n : Nat) (s : Stmt), PS X s (RS W (trS G n c s))
  | 0, s => sS_bad
  | n + 1, s => by
    obtain ⟨hE, hT, hC⟩ := snd_E (G := G) (W := W) n ok tk
    have hG := fun e => snd_tg ok tk hE n e
    have hS := snd_S ok tk n
    cases s with
    | Assign tgs e pos =>
      show PS X _ (RS W (match tgs with
        | [tg] => if !plainE e then .bad else match parK c tg e with
          | .no => .asg (trTg G (trE G n c) c n tg) (trE G n c e)
          | .bad => .bad
          | .yes is es => .par is (es.map (trE G n c))
        | _ => .bad))
      split
      · rename_i tg
        split
        · exact sS_bad
        · rename_i hp
          have hp : plainE e = true := by simpa using hp
          split
          · rename_i hn
            have vac1 : trTg G (trE G n c) c n tg = .sub .bad .bad → PS X (.Assign [tg] e pos) (RS W (.asg (trTg G (trE G n c) c n tg) (trE G n c e))) := fun h => by
              rw [h]
              refine ⟨fun pins s σ H Dn I ⟨F, M, env, st, o, En, S, ev, k⟩ => ?_⟩
              simp only [exS, asgT, evE] at ev
              split at ev <;> simp at ev
            have vac2 : trE G n c e = .bad → PS X (.Assign [tg] e pos) (RS W (.asg (trTg G (trE G n c) c n tg) (trE G n c e))) := fun h => by
              rw [h]
              exact ⟨fun pins s σ H Dn I ⟨F, M, env, st, o, En, S, ev, k⟩ => by simp [exS, evE] at ev⟩
            have main := fun h1 h2 h3 h4 h5 => sS_asg (pos := pos) (e := e) (tg := tg) ok h1 hp hn h2 h3 h4 h5 (hE e) (hG tg)
            cases tg with
            | List es p => exact vac1 (by cases n <;> rfl)
            | Starred _ _ => exact vac1 (by cases n <;> rfl)
            | Slice _ _ _ _ => exact vac1 (by cases n <;> rfl)
            | Set _ _ => exact vac1 (by cases n <;> rfl)
            | Name x px =>
              cases e with
              | SetComp _ _ _ _ => exact vac2 (by cases n <;> rfl)
              | DictComp _ _ _ _ _ => exact vac2 (by cases n <;> rfl)
              | ListComp elt gens scope p2 =>
                cases n with
                | zero => exact vac1 rfl
                | succ n =>
                  obtain ⟨hE', hT', _⟩ := snd_E (G := G) (W := W) n ok tk
                  have e1 : trTg G (trE G (n + 1) c) c (n + 1) (.Name x px) = (if locB c x then match slot c.N x with | some i => .nm i | none => .sub .bad .bad else .sub .bad .bad) := rfl
                  rw [e1] at vac1 ⊢
                  split
                  · rename_i hlo
                    split
                    · rename_i i hs
                      unfold trE at vac2 ⊢
                      simp only at vac2 ⊢
                      split
                      · rename_i tg iter ifs _
                        split
                        · rename_i hc
                          simp only [Bool.and_eq_true, decide_eq_true_eq, List.all_eq_true] at hc
                          obtain ⟨⟨⟨⟨h1, h2⟩, h3⟩, h4⟩, h5⟩ := hc
                          by_cases hpi : plainE iter = true
                          · exact sS_setLc ok hlo hs h4 (fun j hj => by simpa using h5 j hj) hpi (snd_it ok hE') (fun s H C cl fp => snd_tg ok.blk tk.blk (snd_E n ok.blk tk.blk).1 n _) (fun s H C cl fp => sTs ifs h1 fun e he => (snd_E n ok.blk tk.blk).2.1 e) (fun s H C cl fp => (snd_E n ok.blk tk.blk).1 _)
                          · rw [it_bad hpi]
                            exact ⟨fun pins s σ H Dn I ⟨F, M, env, st, o, En, S, ev, k⟩ => by simp [exS, evE, evIt] at ev⟩
                        · exact ⟨fun pins s σ H Dn I ⟨F, M, env, st, o, En, S, ev, k⟩ => by simp [exS, evE] at ev⟩
                      · exact ⟨fun pins s σ H Dn I ⟨F, M, env, st, o, En, S, ev, k⟩ => by simp [exS, evE] at ev⟩
                    · refine ⟨fun pins s σ H Dn I ⟨F, M, env, st, o, En, S, ev, k⟩ => ?_⟩
                      simp only [exS, asgT, evE] at ev
                      split at ev <;> simp at ev
                  · refine ⟨fun pins s σ H Dn I ⟨F, M, env, st, o, En, S, ev, k⟩ => ?_⟩
                    simp only [exS, asgT, evE] at ev
                    split at ev <;> simp at ev
              | _ => exact main rfl (fun _ _ h => nomatch h) (fun _ _ _ _ h => nomatch h) (fun _ _ _ _ _ h => nomatch h) (fun _ _ _ _ h => nomatch h)
            | _ =>
              cases e with
              | SetComp _ _ _ _ => exact vac2 (by cases n <;> rfl)
              | DictComp _ _ _ _ _ => exact vac2 (by cases n <;> rfl)
              | _ => exact main rfl (fun _ _ h => nomatch h) (fun _ _ _ _ h => nomatch h) (fun _ _ _ _ _ h => nomatch h) (fun _ _ _ _ _ _ _ h => nomatch h)
          · exact sS_bad
          · rename_i hy; exact sS_par ok hy hE
      · exact sS_bad
    | AugAssign tg op e pos =>
      show PS X _ (RS W (match bopOf op with
        | none => .bad
        | some o => match tg with
          | .Name x _ => if locB c x then match slot c.N x with | some i => .aug i o (trE G n c e) | none => .bad else .bad
          | .Subscript a i _ => if plainE a && plainE i then .augS (trE G n c a) (trE G n c i) o (trE G n c e) else .bad
          | .Attribute a f _ => match fidx G.flds f with | some j => .augF (trE G n c a) j o (trE G n c e) | none => .bad
          | _ => .bad))
      split
      · exact sS_bad
      · rename_i o ho
        split
        · split
          · rename_i hl
            split
            · rename_i hs; exact sS_aug ok ho hl hs (hE e)
            · exact sS_bad
          · exact sS_bad
        · split
          · rename_i hp
            simp only [Bool.and_eq_true] at hp
            exact sS_augS ok ho hp.2 (hE _) (hE _) (hE e)
          · exact sS_bad
        · rw [fidx_nil tk.nofl]; exact sS_bad
        · exact sS_bad
    | Expr e pos =>
      cases e with
      | Call f as ks p => exact sS_expr (hE _)
      | _ => exact sS_bad
    | Return v pos =>
      cases v with
      | none => exact sS_retN
      | some e =>
        show PS X _ (RS W (if plainE e then .ret (trE G n c e) else .bad))
        split
        · exact sS_ret (hE e)
        · exact sS_bad
    | If t a b pos => exact sS_if (hT t) (sSs a fun s _ => hS s) (sSs b fun s _ => hS s)
    | For tg iter body orelse pos =>
      cases orelse with
      | cons _ _ => exact sS_bad
      | nil =>
        show PS X _ (RS W (.for_ (trTg G (trE G n c) c n tg) (trIt (trE G n c) c (isTupE tg) (isNmE tg) iter) (body.map (trS G n c))))
        by_cases hp : plainE iter = true
        · exact sS_for ok hp (snd_it ok hE) (hG tg) (sSs body fun s _ => hS s)
        · rw [it_bad hp]
          exact ⟨fun pins s σ H Dn I ⟨F, M, env, st, o, En, S, e, k⟩ => by simp [exS, evE, evIt] at e⟩
    | While t body orelse pos =>
      cases orelse with
      | cons _ _ => exact sS_bad
      | nil => exact sS_whl ok (hT t) (sSs body fun s _ => hS s)
    | Pass pos => exact sS_pass
    | Break pos => exact sS_brk
    | Continue pos => exact sS_cnt
    | _ => exact sS_bad
end
end Pm

/-! Pm, part Bg: the levels, the law's end. -/
namespace Pm
open PySem PySem.Spec L2
open PyProof.Rows hiding St

/-- a def of the text -/
structure Df where
  x : Str
  ps : List Str
  N : List Str
  params : Arguments
  body : List Stmt
  scope : Scope
def Df.dd (d : Df) : He.DefD := ⟨(d.x, none), d.x, d.x, d.params, d.body, d.scope, [], []⟩
def Df.tc (d : Df) : TC := ⟨d.N, d.scope, fun _ => true⟩
def Df.fn (G : GT) (n : Nat) (d : Df) : Fn := ⟨d.ps.length, d.N.length, d.body.map (trS G n d.tc)⟩
/-- what is known of the module -/
structure ModOk (K : PySem.W.Frag) (mg : Str → Option Value) (G : GT) (n : Nat) (fns : Nat → Option Fn) : Prop where
  defs : ∀ (x : Str) (j : Nat) (eff : Nat), G.fns.lookup x = some (j, eff) → ∃ (d : Df) (f : Addr) (fd : FuncData), d.x = x ∧ fns j = some (d.fn G n) ∧ FnScope d.N d.ps d.scope ∧ FunD K d.x d.x d.params d.body d.scope [] [] f fd ∧ mg x = some (.ref f) ∧ Binds K fd d.ps []
  free : ∀ x ∈ freeNames, mg x = none
  cons : ∀ (x : Str) (d : D), G.cons.lookup x = some d → ∃ u v, mg x = some u ∧ RelV v u ∧ d.plain = true ∧ Rep (fun _ => none) [] [] d v
  nofl : G.flds = []
  nomt : G.mths = []
  nocl : G.cls = []

section
variable {Pr : Program} {w : World} {K : PySem.W.Frag} {mg : Str → Option Value} {base : Heap} {G : GT} {n : Nat} {fns : Nat → Option Fn} {cl : Nat → Addr} {fl : Nat → Str} {P : Pg}
abbrev wd (cl : Nat → Addr) (fl : Nat → Str) (P : Pg) (fns : Nat → Option Fn) (k : Nat) : Wd := ⟨cl, fl, P, callN P fns k⟩
theorem start_env {H : Hp} {F M : Ads} {ds : List D} {vs : List V} {N : List Str} {np : Nat} (r : RepL H F M ds vs) (h : ds.length = np) : EnR H F M (ds.map some ++ List.replicate (N.length - np) none) (L2.start N vs) := by
  have hl := r.length
  refine ⟨?_, fun i d e => ?_⟩
  · unfold L2.start
    simp only [List.length_append, List.length_map, List.length_replicate]
    omega
  · unfold L2.start
    by_cases hi : i < ds.length
    · rw [List.getElem?_append_left (by simpa using hi), List.getElem?_map] at e
      rw [List.getElem?_append_left (by simpa [← hl] using hi), List.getElem?_map]
      obtain ⟨x, hx, e⟩ := Option.map_eq_some_iff.mp e
      simp only [Option.some.injEq] at e
      subst e
      obtain ⟨v, h1, h2⟩ := r.get hx
      exact ⟨v, by rw [h1]; rfl, h2⟩
    · rw [List.getElem?_append_right (by simpa using hi), List.getElem?_replicate] at e
      split at e <;> simp at e
/-- one level up -/
theorem level_up {k : Nat} {d : Df} {f : Addr} {fd : FuncData} {j : Nat} (mo : ModOk K mg G n fns) (hj : fns j = some (d.fn G n)) (S : FnScope d.N d.ps d.scope) (FD : FunD K d.x d.x d.params d.body d.scope [] [] f fd)
    (ih : ∀ (x : Str) (j : Nat) (eff : Nat), G.fns.lookup x = some (j, eff) → ∃ f fd ps, mg x = some (.ref f) ∧ PySem.W.keepIn K (.ref f) = true ∧ Binds K fd ps [] ∧ FnG Pr w K mg base k f fd ps (spD (wd cl fl P fns k) j)) :
    FnG Pr w K mg base (k + 1) f fd d.ps (spD (wd cl fl P fns (k + 1)) j) := by
  refine fnG_of FD S (fun vs H Q h => ?_) fun cdv A outer s H vs Q hg hr h => ?_
  · obtain ⟨F, M, ds, st, v, st', r, _, e, _⟩ := h
    simp only [callN, hj, runFn] at e
    split at e
    · rename_i hl
      rw [← r.length, hl]
      rfl
    · cases e
  · obtain ⟨F, M, ds, st, v, st', r, Sr, e, q⟩ := h
    simp only [callN, hj, runFn] at e
    split at e
    · rename_i hl
      have ok : XOk (cxOf CN Pr w K mg base d.N d.x d.scope f cdv A outer s H EN).nox d.tc := { n := rfl, sc := rfl, nd := S.nd, calm := rfl, fn := fun _ _ => rfl, xe := rfl, un := by have := hr.un; show (A.deeper _).units + 200 < _; omega, gd := hg, free := mo.free }
      have tk : TOk G (wd cl fl P fns k) k (cxOf CN Pr w K mg base d.N d.x d.scope f cdv A outer s H EN).nox := { room := hr, fns := ih, cons := mo.cons, nofl := mo.nofl, nomt := mo.nomt, nocl := mo.nocl }
      refine ⟨_, sSs d.body fun s _ => snd_S ok tk n s, ?_⟩
      generalize hx : exSs P (callN P fns k) (d.fn G n).body (ds.map some ++ List.replicate ((d.fn G n).ns - (d.fn G n).np) none) st = o at e
      cases o with
      | none => simp [fin] at e
      | some o =>
        refine ⟨F, M, _, st, o, start_env (N := d.N) r hl, Sr, hx, ?_⟩
        cases o with
        | nx env s1 =>
          simp only [fin, Option.some.injEq, Prod.mk.injEq] at e
          obtain ⟨rfl, rfl⟩ := e
          exact fun F' M' H' σ' l S' _ => q F' M' H' .non l S' (by simp only [Rep])
        | rt d1 s1 =>
          simp only [fin, Option.some.injEq, Prod.mk.injEq] at e
          obtain ⟨rfl, rfl⟩ := e
          exact fun F' M' H' v l S' r' => q F' M' H' v l S' r'
        | bk env s1 => simp [fin] at e
        | ct env s1 => simp [fin] at e
    · cases e
theorem levels (mo : ModOk K mg G n fns) : ∀ (k : Nat) (x : Str) (j : Nat) (eff : Nat), G.fns.lookup x = some (j, eff) → ∃ f fd ps, mg x = some (.ref f) ∧ PySem.W.keepIn K (.ref f) = true ∧ Binds K fd ps [] ∧ FnG Pr w K mg base k f fd ps (spD (wd cl fl P fns k) j)
  | 0, x, j, eff, h => by
    obtain ⟨d, f, fd, _, hj, S, FD, hm, hb⟩ := mo.defs x j eff h
    refine ⟨f, fd, d.ps, hm, FD.kp, hb, ⟨fun vs H Q h => ?_, fun A outer s H args us vs Q _ _ _ _ _ h => ?_⟩⟩
    · obtain ⟨F, M, ds, st, v, st', r, _, e, _⟩ := h
      cases e
    · obtain ⟨F, M, ds, st, v, st', r, _, e, _⟩ := h
      cases e
  | k + 1, x, j, eff, h => by
    obtain ⟨d, f, fd, _, hj, S, FD, hm, hb⟩ := mo.defs x j eff h
    exact ⟨f, fd, d.ps, hm, FD.kp, hb, level_up mo hj S FD (levels mo k)⟩
end

/-! ### the end -/
def lstO (o : Obj) : Bool := match o.cls with
  | .type c => decide (c = "list")
  | _ => false
def NoLs (K : PySem.W.Frag) : Prop := ∀ a o, K.lookup a = some o → lstO o = false
section
variable {P : Program} {w : World} {K : PySem.W.Frag} {mg mb : Str → Option Value} {k : Nat} {fa a : Addr} {fd : FuncData} {x : Str} {sp : Sq} {s₁ : Shared} {vs : List Value} {ns : List Int}
/-- the law's def is called: the script is a list of the caller's -/
theorem end_call (KX : K.In s₁.heap) (nl : NoLs K) (hns : s₁.heap.Ns mainGlobals mg) (hb : s₁.heap.Ns builtinsNs mb) (hbb : ∀ x : Str, x ≠ "__name__" → mb x = bootBuiltins x) (hlim : s₁.heap.NoLimit) (hg : s₁.gens = #[])
    (ha : s₁.heap.get? a = some { cls := .type "list", data := .seq vs.toArray }) (hi : IntsAre vs ns) (hl : ns.length ≤ sizeLine) (hr : Room k callerA)
    (F : ∀ base : Heap, FnG P w K mg base k fa fd [x] sp) (hbind : ∀ (s : Shared) (u : Value), BindsTo s fd ⟨[u], []⟩ [(x, u)])
    (hsp : ∀ H : Hp, Rd H a (.lst (ns.map V.int)) → sp [.ref a] H (fun v _ => v = .bl true)) :
    codeAny (model P w) callerA (.call (.ref fa) ⟨[.ref a], []⟩) (fun r s' => r = .ok (.ret (.bool true)) ∧ OldK s₁.heap s'.heap ∧ s'.os = s₁.os ∧ AllBare s'.gens) s₁ := by
  have rv := vals_ints hi
  generalize hH : (fun b => if b = a then some (HO.frz { cls := .type "list", data := .seq vs.toArray } (.lst (ns.map V.int))) else none : Hp) = H
  have Ha : H a = some (.frz { cls := .type "list", data := .seq vs.toArray } (.lst (ns.map V.int))) := by rw [← hH]; exact if_pos rfl
  have Hn : ∀ b, b ≠ a → H b = none := fun b z => by rw [← hH]; exact if_neg z
  have hK : K.lookup a = none := by
    cases q : K.lookup a with
    | none => rfl
    | some o =>
      have e := KX a o q
      rw [ha] at e
      cases e
      exact absurd (nl a _ q) (fun z => nomatch (show true = false from z))
  have hok : HOk P w H s₁.heap := fun b u z => by
    by_cases h : b = a
    · subst h
      rw [Ha] at z; cases z
      exact ⟨ha, by rw [List.length_map]; exact hl, vs, _, rv, ha⟩
    · rw [Hn b h] at z; cases z
  have dictN : ∀ {b : Addr} {o : Obj} {es : Array DictEntry} {ep : Nat}, s₁.heap.get? b = some o → o.data = .dict es ep → b ≠ a := fun {b o es ep} e d z => by
    subst z
    rw [ha] at e; cases e; cases d
  have nsH : ∀ {b : Addr} {m : Str → Option Value}, s₁.heap.Ns b m → (hidT s₁.heap H).Ns b m := fun {b m} ⟨o, es, ep, e, d, r⟩ => ⟨o, es, ep, hidT_get e (Hn _ (dictN e d)), d, r⟩
  have inH : K.In (hidT s₁.heap H) := fun b o e => hidT_get (KX b o e) (Hn b fun z => by rw [z, hK] at e; cases e)
  have mod : Mod K mg (hidT s₁.heap H) := ⟨inH, nsH hns, ⟨mb, nsH hb, hbb⟩, by obtain ⟨mc, h1, h2⟩ := hlim; exact ⟨mc, nsH h1, h2⟩⟩
  have e0 : Env0 P w K mg (hidT s₁.heap H) callerA [] s₁ H := { frames := rfl, mod := mod, bs := fun b o e => of_hidT e, bsz := Nat.le_of_eq (hidT_size _ _), funs := trivial, frf := fun b hb => absurd (show b ∈ ([] : List Addr) from hb) (by simp), hok := hok, bare := .of_eq hg }
  refine codeAny_mono ((F (hidT s₁.heap H)).run callerA [] s₁ H ⟨[.ref a], []⟩ [.ref a] [.ref a] _ rfl hr e0 (hbind s₁ (.ref a)) (.cons rfl .nil) (hsp H (.inr ⟨_, Ha⟩))) ?_
  intro r s' h
  match r, h with
  | .error e, h => exact h.elim
  | .ok .next, h => exact h.elim
  | .ok .brk, h => exact h.elim
  | .ok .cont, h => exact h.elim
  | .ok (.ret u), ⟨v, H', os, bare, un, hok', r', q⟩ =>
    have q' : v = .bl true := q
    subst q'
    obtain rfl : u = Value.bool true := r'
    refine ⟨rfl, OldK.of_keep fun b o e => ?_, os, bare⟩
    by_cases h : b = a
    · subst h
      have z2 := un.frzs b _ _ Ha
      obtain ⟨e2, _⟩ := hok' b _ z2
      rw [e] at ha; cases ha
      exact e2
    · exact un.keep b o e (Hn b h) (by intro z; exact absurd (show b ∈ ([] : List Addr) from z) (by simp)) (by simp)
end

/-! ### the head's facts -/
def noL (g : Addr → Option Obj) (as : List Addr) : List Addr := as.filter fun a => match g a with
  | some o => !lstO o
  | none => true
theorem lk_mem {β : Type} {a : Addr} {o : β} : ∀ {l : List (Addr × β)}, l.lookup a = some o → (a, o) ∈ l
  | [], h => by simp at h
  | (b, u) :: l, h => by
    simp only [List.lookup_cons] at h
    split at h
    · rename_i e
      simp only [Option.some.injEq] at h
      subst h
      rw [eq_of_beq e]
      exact List.mem_cons_self ..
    · exact List.mem_cons_of_mem _ (lk_mem h)
theorem frG_noL {g : Addr → Option Obj} {as : List Addr} : NoLs (He.frG g (noL g as)) := fun a o e => by
  have m := lk_mem e
  unfold He.frG at m
  obtain ⟨b, hb, e2⟩ := List.mem_filterMap.mp m
  obtain ⟨o2, h2, e3⟩ := Option.map_eq_some_iff.mp e2
  simp only [Prod.mk.injEq] at e3
  obtain ⟨rfl, rfl⟩ := e3
  have q := (List.mem_filter.mp hb).2
  rw [h2] at q
  simpa using q
def obsM (n : Nat) (fa : List He.Fa) (fn : List He.DefD) (g : Addr → Option Obj) : He.AlD := He.obsD fa fn (He.frG g (noL g (He.asD g n)))
def hookM (n : Nat) (fa : List He.Fa) (fn : List He.DefD) : PySem.W.Hook where
  α := He.AlD
  obs := fun s => obsM n fa fn s.heap.get?
  val := fun _ => He.valD fn
  says := fun _ h => ∃ K : PySem.W.Frag, K.In h ∧ He.SaysD fa fn K ∧ NoLs K
  of := fun _ _ e => ⟨_, He.frG_in, e, frG_noL⟩
  keeps := fun _ _ _ ⟨K, hK, c, z⟩ k => ⟨K, PySem.W.Frag.In.keeps hK k, c, z⟩
theorem obsM_eq {n : Nat} {fa : List He.Fa} {fn : List He.DefD} {g : Addr → Option Obj} {s : Shared} (h : ∀ a, g a = s.heap.get? a) : obsM n fa fn g = (hookM n fa fn).obs s := by
  have e : g = s.heap.get? := funext h
  subst e
  rfl
/-! ### a text as data -/
structure Mo where
  ds : List Df
  ids : List Nat
  effs : List Nat
  cons : List (Str × D)
  muts : List (Nat × Nat)
  tups : List (Nat × Nat)
def Mo.fnl : List Df → List Nat → List Nat → List (Str × Nat × Nat)
  | d :: ds, i :: is, b :: bs => (d.x, i, b) :: Mo.fnl ds is bs
  | _, _, _ => []
def Mo.G (m : Mo) : GT := ⟨Mo.fnl m.ds m.ids m.effs, m.cons, [], [], [], m.muts, m.tups⟩
def conF : Str × D → He.Fa
  | (x, .int i) => .int x i
  | (x, .str z) => .str x z
  | (x, _) => .code (x, none) x
def Mo.fa (m : Mo) : List He.Fa := m.ds.map (fun d => .glo d.x) ++ freeNames.map .free ++ m.cons.map conF
def Mo.fn (m : Mo) : List He.DefD := m.ds.map Df.dd
def conOk : D → Bool
  | .int _ => true | .str _ => true | _ => false
/-- all names differ, the scopes serve -/
def Mo.ok (m : Mo) : Bool := m.ds.all (fun d => C8.scC d.N d.ps d.scope) && m.cons.all (fun p => conOk p.2)
/-- every parameter is given -/
def BindQ (d : Df) : Prop := ∀ (kV doc pm : Value) (an : Option Addr) (cdv ct : Value) (us : List Value), us.length = d.ps.length → bindArgs (PySem.W.fnOf d.x d.x d.params d.body d.scope .none kV doc pm an cdv ct) ⟨us, []⟩ = pure (d.ps.zip us)
theorem fnl_at {x : Str} {j : Nat} {b : Nat} : ∀ {ds : List Df} {is : List Nat} {bs : List Nat}, (Mo.fnl ds is bs).lookup x = some (j, b) → ∃ (i : Nat) (d : Df), ds[i]? = some d ∧ is[i]? = some j ∧ d.x = x
  | [], _, _, h => by simp [Mo.fnl] at h
  | d :: ds, [], _, h => by simp [Mo.fnl] at h
  | d :: ds, _ :: _, [], h => by simp [Mo.fnl] at h
  | d :: ds, i :: is, e :: bs, h => by
    simp only [Mo.fnl, List.lookup_cons] at h
    split at h
    · rename_i hx
      simp only [Option.some.injEq, Prod.mk.injEq] at h
      obtain ⟨rfl, rfl⟩ := h
      exact ⟨0, d, rfl, rfl, (eq_of_beq hx).symm⟩
    · obtain ⟨n, d', h1, h2, h3⟩ := fnl_at h
      exact ⟨n + 1, d', h1, h2, h3⟩
section
variable {K : PySem.W.Frag} {h : Heap} {mg : Str → Option Value} {m : Mo} {n : Nat} {fns : Nat → Option Fn}
theorem modOk (KX : K.In h) (Gn : h.Ns mainGlobals mg) (c : He.SaysD m.fa m.fn K) (ok : m.ok = true) (hb : ∀ d ∈ m.ds, BindQ d) (hf : ∀ (i : Nat) (d : Df) (j : Nat), m.ds[i]? = some d → m.ids[i]? = some j → fns j = some (d.fn m.G n)) : ModOk K mg m.G n fns := by
  unfold Mo.ok at ok
  simp only [Bool.and_eq_true, List.all_eq_true] at ok
  have glo : ∀ d ∈ m.ds, mg d.x = some (.ref (He.ga K d.x)) := fun d hd => He.glo_ok KX Gn (c.facts (f := .glo d.x) (by
    unfold Mo.fa
    simp only [List.mem_append, List.mem_map]
    exact .inl (.inl ⟨d, hd, rfl⟩)))
  refine ⟨fun x j eff hl => ?_, fun x hx => ?_, fun x d hd => ?_, rfl, rfl, rfl⟩
  · obtain ⟨i, d, h1, hi, h2⟩ := fnl_at hl
    have hm : d ∈ m.ds := List.mem_of_getElem? h1
    have hdd : d.dd ∈ m.fn := List.mem_map.mpr ⟨d, hm, rfl⟩
    obtain ⟨fd, FD⟩ := c.defs hdd
    have FD' : FunD K d.x d.x d.params d.body d.scope [] [] (He.ga K d.x) fd := FD
    exact ⟨d, _, fd, h2, hf i d j h1 hi, C8.fnScope_by (ok.1 d hm), FD', by rw [← h2]; exact glo d hm, FD'.bindsN (hb d hm)⟩
  · exact He.free_ok KX Gn (c.facts (f := .free x) (by
      unfold Mo.fa
      simp only [List.mem_append, List.mem_map]
      exact .inl (.inr ⟨x, hx, rfl⟩)))
  · have hmem : (x, d) ∈ m.cons := PySem.mem_of_lookup hd
    have hc := ok.2 _ hmem
    have hfa : conF (x, d) ∈ m.fa := by
      unfold Mo.fa
      simp only [List.mem_append, List.mem_map]
      exact .inr ⟨(x, d), hmem, rfl⟩
    have hk := c.facts hfa
    cases d <;> simp only [conOk, Bool.false_eq_true] at hc
    · obtain ⟨t, ht⟩ := He.int_ok KX Gn hk
      exact ⟨_, .int _, ht, ⟨t, rfl⟩, rfl, by simp only [Rep]⟩
    · obtain ⟨t, ht⟩ := He.str_ok KX Gn hk
      exact ⟨_, .str _, ht, ⟨t, rfl⟩, rfl, by simp only [Rep]⟩
end
/-- the walk of a law, from what its text comes to -/
theorem pm_walk {l : PySem.W.OpenLaw} {nn k fu j : Nat} {q : Program} {loose : List Str} {XP : (Str → Option Value) → Heap → Prop} {d : DefRec} {m : Mo} {u : Nat} {x : Str} {eff : Nat} {fns : Nat → Option Fn} {P : Pg}
    (hn : l.most = some nn) (hn2 : nn ≤ sizeLine) (hdf : d.params.defaults = []) (hr : Room (k + 1) callerA) (ok : m.ok = true) (hb : ∀ d ∈ m.ds, BindQ d) (hf : ∀ (i : Nat) (d : Df) (j : Nat), m.ds[i]? = some d → m.ids[i]? = some j → fns j = some (d.fn m.G fu))
    (hlk : m.G.fns.lookup d.name = some (j, eff)) (hps : m.ds.all (fun e => !decide (e.x = d.name) || decide (e.ps = [x])) = true)
    (law : ∀ ns : List Int, ns.length ≤ nn → ∃ st, callN P fns (k + 1) j [.lst (ns.map D.int)] [] = some (.bl true, st)) :
    PySem.W.WalkO q loose XP (hookM u m.fa m.fn).says l.row.toRowW d [] (fun f vs => PySem.call f vs) := by
  refine Att.attach_call hn hdf fun w s₀ s₁ mg mb fa o pm cd doc a vs ns G Y ho hd hcd hmg hobj hints hlen hg => ?_
  obtain ⟨K, KX, c, nl⟩ := Y
  have mo := modOk (fns := fns) (n := fu) KX G.T.g c ok hb hf
  obtain ⟨di, dd, h1, hdi, h2⟩ := fnl_at hlk
  have hm : dd ∈ m.ds := List.mem_of_getElem? h1
  have hdd : dd.dd ∈ m.fn := List.mem_map.mpr ⟨dd, hm, rfl⟩
  obtain ⟨fd, FD⟩ := c.defs hdd
  have FD' : FunD K dd.x dd.x dd.params dd.body dd.scope [] [] (He.ga K dd.x) fd := FD
  have hp : dd.ps = [x] := by
    have q := List.all_eq_true.mp hps dd hm
    simpa [h2] using q
  have ok' := ok
  unfold Mo.ok at ok'
  simp only [Bool.and_eq_true, List.all_eq_true] at ok'
  have glo : mg dd.x = some (.ref (He.ga K dd.x)) := He.glo_ok KX G.T.g (c.facts (f := .glo dd.x) (by
    unfold Mo.fa
    simp only [List.mem_append, List.mem_map]
    exact .inl (.inl ⟨dd, hm, rfl⟩)))
  have efa : fa = He.ga K dd.x := by
    rw [h2, hmg] at glo
    cases glo
    rw [h2]
  have Fg : ∀ base : Heap, FnG l.prog w K mg base (k + 1) (He.ga K dd.x) fd [x] (spD (wd (fun _ => 0) (fun _ => "") P fns (k + 1)) j) := fun base => by
    rw [← hp]
    exact level_up mo (hf di dd j h1 hdi) (C8.fnScope_by (ok'.1 dd hm)) FD' (levels mo k)
  rw [efa]
  refine end_call KX nl G.T.g G.T.b G.T.builtins G.T.nolimit hg hobj hints (Nat.le_trans hlen hn2) hr Fg (fun s u => ?_) fun H hS => ?_
  · have z := FD'.bindsA (hb dd hm) s [u] (by rw [hp]; rfl)
    rw [hp] at z
    exact z
  · obtain ⟨st, e⟩ := law ns hlen
    refine ⟨[], [], [.lst (ns.map D.int)], [], _, st, ?_, ⟨rfl, List.nodup_nil, fun a h => (nomatch h), fun a h => (nomatch h), fun n ob a h => by simp at h⟩, e, fun F' M' H' v l S' r => by simpa only [Rep] using r⟩
    refine .cons ?_ .nil
    simp only [Rep]
    refine ⟨a, ns.map V.int, rfl, hS, by simp, RepL.of_get (by simp) fun i d v h1 h2 => ?_⟩
    rw [List.getElem?_map] at h1 h2
    obtain ⟨z, hz, rfl⟩ := Option.map_eq_some_iff.mp h1
    rw [hz] at h2
    simp only [Option.map_some, Option.some.injEq] at h2
    subst h2
    simp only [Rep]
end Pm

/-! Pm, part P: what a term comes to, told from behind. -/
namespace Pm
open PySem (Str PyData)
/-- told as it stands, not by reckoning -/
theorem nd {p : Prop} (h : p) : p := h
/-- a mark: what is marked is not looked into by the stepping words -/
class Tag {α : Sort u} (a : α) : Type where
  mk ::
instance tagI {α : Sort u} (a : α) : Tag a := ⟨⟩
def wR : Rv → (Q : D → Sto → Prop) → [Tag Q] → Prop
  | some (d, s), Q, _ => Q d s
  | none, _, _ => False
def wO {α : Type} : Option α → (Q : α → Prop) → [Tag Q] → Prop
  | some d, Q, _ => Q d
  | none, _, _ => False
def wOut : Option Out → (Q : Out → Prop) → [Tag Q] → Prop
  | some o, Q, _ => Q o
  | none, _, _ => False
def wLs : Option (List D × Sto) → (Q : List D → Sto → Prop) → [Tag Q] → Prop
  | some (d, s), Q, _ => Q d s
  | none, _, _ => False
def wTr : Option (Bool × Sto) → (Q : Bool → Sto → Prop) → [Tag Q] → Prop
  | some (d, s), Q, _ => Q d s
  | none, _, _ => False
def wEn : Option (Env × Sto) → (Q : Env → Sto → Prop) → [Tag Q] → Prop
  | some (d, s), Q, _ => Q d s
  | none, _, _ => False
def wItr : Option (List D × Src × Sto) → (Q : List D → Src → Sto → Prop) → [Tag Q] → Prop
  | some (d, c, s), Q, _ => Q d c s
  | none, _, _ => False
/-- what is walked over: a list, a tuple, a dict of the store -/
def itV (s : Sto) (d : D) : Option (List D × Src × Sto) := match seqOf s d with
  | some xs => some (xs, srcOf s d, s)
  | none => lockD s d
def wSeq (s : Sto) (d : D) (Q : List D → Src → Sto → Prop) [Tag Q] : Prop := wItr (itV s d) Q
section
variable (P : Pg) (C : Call)
def wE (e : IE) (env : Env) (st : Sto) (Q : D → Sto → Prop) [Tag e] [Tag Q] : Prop := wR (evE P C e env st) Q
def wEs (e : List IE) (env : Env) (st : Sto) (Q : List D → Sto → Prop) [Tag e] [Tag Q] : Prop := wLs (evEs P C e env st) Q
def wT (e : Ts) (env : Env) (st : Sto) (Q : Bool → Sto → Prop) [Tag e] [Tag Q] : Prop := wTr (evT P C e env st) Q
def wTs (e : List Ts) (env : Env) (st : Sto) (Q : Bool → Sto → Prop) [Tag e] [Tag Q] : Prop := wTr (evTs P C e env st) Q
def wIt (e : It) (env : Env) (st : Sto) (Q : List D → Src → Sto → Prop) [Tag e] [Tag Q] : Prop := wItr (evIt P C e env st) Q
def wA (t : Tg) (d : D) (env : Env) (st : Sto) (Q : Env → Sto → Prop) [Tag t] [Tag Q] : Prop := wEn (asgT P C t d env st) Q
def wAs (t : List Tg) (d : List D) (env : Env) (st : Sto) (Q : Env → Sto → Prop) [Tag t] [Tag Q] : Prop := wEn (asgTs P C t d env st) Q
def wS (s : IS) (env : Env) (st : Sto) (Q : Out → Prop) [Tag s] [Tag Q] : Prop := wOut (exS P C s env st) Q
def wSs (s : List IS) (env : Env) (st : Sto) (Q : Out → Prop) [Tag s] [Tag Q] : Prop := wOut (exSs P C s env st) Q
/-- a walk -/
def wF (t : Tg) (b : List IS) (src : Src) (xs : List D) (env : Env) (st : Sto) (Q : Out → Prop) [Tag t] [Tag b] [Tag Q] : Prop := wOut (forL (fun d env st => asgT P C t d env st) (fun env st => exSs P C b env st) src xs env st) Q
def wW (c : Ts) (b : List IS) (env : Env) (st : Sto) (Q : Out → Prop) [Tag c] [Tag b] [Tag Q] : Prop := wOut (whlL (fun env st => evT P C c env st) (fun env st => exSs P C b env st) wfuel env st) Q
def wC (t : Tg) (cs : List Ts) (e : IE) (src : Src) (xs : List D) (env : Env) (st : Sto) (Q : List D → Sto → Prop) [Tag t] [Tag cs] [Tag e] [Tag Q] : Prop := wLs (compL (fun d env st => asgT P C t d env st) (fun env st => evTs P C cs env st) (fun env st => evE P C e env st) src env xs st) Q
def kSs (ss : List IS) (Q : Out → Prop) [Tag ss] [Tag Q] : Out → Prop
  | .nx e s => wSs P C ss e s Q
  | o => Q o
end
def finQ (Q : D → Sto → Prop) [Tag Q] : Out → Prop
  | .nx _ s => Q .non s
  | .rt d s => Q d s
  | _ => False
def wV : Option (Option D) → (Q : D → Prop) → [Tag Q] → Prop
  | some (some d), Q, _ => Q d
  | _, _, _ => False
section
variable {P : Pg} {C : Call}
theorem wO_cont {α : Type} {o : Option α} {F G : α → Prop} (h : ∀ x, F x = G x) : wO o F = wO o G := by
  have : F = G := funext h
  subst this; rfl
theorem wR_some {d : D} {s : Sto} {Q : D → Sto → Prop} : wR (some (d, s)) Q = Q d s := nd rfl
theorem wR_none {Q : D → Sto → Prop} : wR none Q = False := nd rfl
theorem wO_some {α : Type} {d : α} {Q : α → Prop} : wO (some d) Q = Q d := nd rfl
theorem wO_none {α : Type} {Q : α → Prop} : wO none Q = False := nd rfl
theorem wO_map {α β : Type} {o : Option α} {f : α → β} {Q : β → Prop} : wO (o.map f) Q = wO o (fun x => Q (f x)) := by cases o <;> rfl
theorem wO_bind {α β : Type} {o : Option α} {f : α → Option β} {Q : β → Prop} : wO (o.bind f) Q = wO o (fun x => wO (f x) Q) := by cases o <;> rfl
theorem wO_ite {α : Type} {c : Prop} [Decidable c] {d : α} {Q : α → Prop} : wO (if c then some d else none) Q = (c ∧ Q d) := by
  by_cases h : c <;> simp [h, wO]
theorem wR_ite {c : Prop} [Decidable c] {d : D} {s : Sto} {Q : D → Sto → Prop} : wR (if c then some (d, s) else none) Q = (c ∧ Q d s) := by
  by_cases h : c <;> simp [h, wR]
theorem wV_some {d : D} {Q : D → Prop} : wV (some (some d)) Q = Q d := nd rfl
theorem wR_map {α : Type} {o : Option α} {f : α → D × Sto} {Q : D → Sto → Prop} : wR (o.map f) Q = wO o (fun x => Q (f x).1 (f x).2) := by cases o <;> rfl
theorem wR_bind {α : Type} {o : Option α} {f : α → Rv} {Q : D → Sto → Prop} : wR (o.bind f) Q = wO o (fun x => wR (f x) Q) := by cases o <;> rfl
theorem kSs_nx {ss : List IS} {Q : Out → Prop} {e : Env} {s : Sto} : kSs P C ss Q (.nx e s) = wSs P C ss e s Q := nd rfl
theorem kSs_rt {ss : List IS} {Q : Out → Prop} {d : D} {s : Sto} : kSs P C ss Q (.rt d s) = Q (.rt d s) := nd rfl
theorem kSs_bk {ss : List IS} {Q : Out → Prop} {e : Env} {s : Sto} : kSs P C ss Q (.bk e s) = Q (.bk e s) := nd rfl
theorem kSs_ct {ss : List IS} {Q : Out → Prop} {e : Env} {s : Sto} : kSs P C ss Q (.ct e s) = Q (.ct e s) := nd rfl
theorem finQ_nx {Q : D → Sto → Prop} {e : Env} {s : Sto} : finQ Q (.nx e s) = Q .non s := nd rfl
theorem finQ_rt {Q : D → Sto → Prop} {d : D} {s : Sto} : finQ Q (.rt d s) = Q d s := nd rfl
/-! ### terms -/
variable {env : Env} {st : Sto} {Q : D → Sto → Prop} {QL : List D → Sto → Prop} {QB : Bool → Sto → Prop} {QE : Env → Sto → Prop} {QI : List D → Src → Sto → Prop} {QO : Out → Prop}
theorem wE_cst {d : D} : wE P C (.cst d) env st Q = Q d st := by simp only [wE, evE, wR]
theorem wE_var {i : Nat} : wE P C (.var i) env st Q = wV env[i]? (fun d => Q d st) := by
  unfold wE; rw [evE]
  cases h : env[i]? with
  | none => rfl
  | some o => cases o <;> rfl
theorem wE_tup {es : List IE} : wE P C (.tup es) env st Q = wEs P C es env st (fun ds s => Q (.tup ds) s) := by
  unfold wE wEs; rw [evE]; cases evEs P C es env st <;> rfl
theorem wE_lstF {es : List IE} : wE P C (.lst false es) env st Q = wEs P C es env st (fun ds s => Q (.lst ds) s) := by
  unfold wE wEs; rw [evE]; cases evEs P C es env st <;> rfl
theorem wE_lstT {es : List IE} : wE P C (.lst true es) env st Q = wEs P C es env st (fun ds s => Q (.ref s.length) (s ++ [.lst ds])) := by
  unfold wE wEs; rw [evE]; cases evEs P C es env st <;> rfl
theorem wE_dct0F {t : Bool} : wE P C (.dct0 false t) env st Q = Q (.dct t [] []) st := by
  unfold wE; rw [evE]; rfl
theorem wE_dct0T {t : Bool} : wE P C (.dct0 true t) env st Q = Q (.ref st.length) (st ++ [.dct t [] []]) := by
  unfold wE; rw [evE]; rfl
theorem wEs_nil : wEs P C [] env st QL = QL [] st := by simp only [wEs, evEs, wLs]
theorem wEs_cons {e : IE} {es : List IE} : wEs P C (e :: es) env st QL = wE P C e env st (fun d s => wEs P C es env s (fun ds s' => QL (d :: ds) s')) := by
  unfold wE wEs; rw [evEs]
  cases evE P C e env st with
  | none => rfl
  | some p =>
    simp only [wR]
    cases evEs P C es env p.2 <;> rfl
theorem wE_bin {o : Bop} {m : Bool} {a b : IE} : wE P C (.bin o m a b) env st Q = wE P C a env st (fun x s => wE P C b env s (fun y s' => wR (binop o m x y s') Q)) := by
  unfold wE; rw [evE]
  cases evE P C a env st with
  | none => rfl
  | some p => simp only [wR]; cases evE P C b env p.2 <;> rfl
def wI : D → (Int → Prop) → Prop
  | .int i, Q => Q i
  | _, _ => False
def wB : D → (Bool → Prop) → Prop
  | .bl i, Q => Q i
  | _, _ => False
theorem wI_int {i : Int} {Q : Int → Prop} : wI (.int i) Q = Q i := nd rfl
theorem wB_bl {i : Bool} {Q : Bool → Prop} : wB (.bl i) Q = Q i := nd rfl
theorem wE_neg {a : IE} : wE P C (.neg a) env st Q = wE P C a env st (fun x s => wI x fun i => Q (.int (-i)) s) := by
  unfold wE; rw [evE]
  cases evE P C a env st with
  | none => rfl
  | some p => obtain ⟨d, s⟩ := p; cases d <;> rfl
theorem wE_not {a : IE} : wE P C (.not a) env st Q = wE P C a env st (fun x s => wB x fun b => Q (.bl (!b)) s) := by
  unfold wE; rw [evE]
  cases evE P C a env st with
  | none => rfl
  | some p => obtain ⟨d, s⟩ := p; cases d <;> rfl
theorem wE_and {a b : IE} : wE P C (.and a b) env st Q = wE P C a env st (fun x s => wB x fun t => if t = true then wE P C b env s Q else Q (.bl false) s) := by
  unfold wE; rw [evE]
  cases evE P C a env st with
  | none => rfl
  | some p => obtain ⟨d, s⟩ := p; cases d <;> first | rfl | (rename_i t; cases t <;> rfl)
theorem wE_or {a b : IE} : wE P C (.or a b) env st Q = wE P C a env st (fun x s => wB x fun t => if t = true then Q (.bl true) s else wE P C b env s Q) := by
  unfold wE; rw [evE]
  cases evE P C a env st with
  | none => rfl
  | some p => obtain ⟨d, s⟩ := p; cases d <;> first | rfl | (rename_i t; cases t <;> rfl)
theorem wE_cmp {o : Cop} {a b : IE} : wE P C (.cmp o a b) env st Q = wE P C a env st (fun x s => wE P C b env s (fun y s' => wO (cmpop o s' x y) fun r => Q (.bl r) s')) := by
  unfold wE; rw [evE]
  cases evE P C a env st with
  | none => rfl
  | some p =>
    simp only [wR]
    cases evE P C b env p.2 with
    | none => rfl
    | some q =>
      simp only [wR]
      cases cmpop o q.2 p.1 q.1 <;> rfl
theorem wE_cmp2 {o p : Cop} {a b c : IE} : wE P C (.cmp2 o p a b c) env st Q = wE P C a env st (fun x s => wE P C b env s (fun y s' => wO (cmpop o s' x y) fun r => if r = true then wE P C c env s' (fun z s'' => wO (cmpop p s'' y z) fun r' => Q (.bl r') s'') else Q (.bl false) s')) := by
  unfold wE; rw [evE]
  cases evE P C a env st with
  | none => rfl
  | some p1 =>
    simp only [wR]
    cases evE P C b env p1.2 with
    | none => rfl
    | some q =>
      simp only [wR]
      cases cmpop o q.2 p1.1 q.1 with
      | none => rfl
      | some r =>
        cases r with
        | false => rfl
        | true =>
          simp only [wO, if_true]
          cases evE P C c env q.2 with
          | none => rfl
          | some z => simp only [wR]; cases cmpop p z.2 q.1 z.1 <;> rfl
theorem wE_ife {c : Ts} {a b : IE} : wE P C (.ife c a b) env st Q = wT P C c env st (fun t s => if t = true then wE P C a env s Q else wE P C b env s Q) := by
  unfold wE wT; rw [evE]
  cases evT P C c env st with
  | none => rfl
  | some p => obtain ⟨t, s⟩ := p; cases t <;> rfl
theorem wE_idx {a i : IE} : wE P C (.idx a i) env st Q = wE P C a env st (fun x s => wE P C i env s (fun y s' => wO (index s' x y) fun d => Q d s')) := by
  unfold wE; rw [evE]
  cases evE P C a env st with
  | none => rfl
  | some p =>
    simp only [wR]
    cases evE P C i env p.2 with
    | none => rfl
    | some q =>
      simp only [wR]
      cases index q.2 p.1 q.1 <;> rfl
theorem wE_slc {m : Bool} {a lo hi : IE} : wE P C (.slc m a lo hi) env st Q = wE P C a env st (fun x s => wE P C lo env s (fun y s' => wE P C hi env s' (fun z s'' => partOk lo y = true ∧ partOk hi z = true ∧ wR (slice m x y z s'') Q))) := by
  unfold wE; rw [evE]
  cases evE P C a env st with
  | none => rfl
  | some p =>
    simp only [wR]
    cases evE P C lo env p.2 with
    | none => rfl
    | some q =>
      simp only [wR]
      cases evE P C hi env q.2 with
      | none => rfl
      | some z =>
        simp only [wR]
        cases h1 : partOk lo q.1 <;> cases h2 : partOk hi z.1 <;> simp [wR]
def wRev (m : Bool) (x : D) (s : Sto) (Q : D → Sto → Prop) : Prop := match x with
  | .tup xs => Q (.tup xs.reverse) s
  | x => wO (lstOf s x) fun xs => Q (newL m xs.reverse s).1 (newL m xs.reverse s).2
theorem wE_rev {m : Bool} {a : IE} : wE P C (.rev m a) env st Q = wE P C a env st (fun x s => wRev m x s Q) := by
  unfold wE; rw [evE]
  cases evE P C a env st with
  | none => rfl
  | some p =>
    obtain ⟨d, s⟩ := p
    cases d <;> simp only [wR, wRev] <;> first | rfl | (cases lstOf s _ <;> rfl)
theorem wE_rngL {t m : Bool} {es : List IE} : wE P C (.rngL t m es) env st Q = wEs P C es env st (fun ds s => wO (rng ds) fun xs => ds.length ≤ 2 ∧ (if t = true then Q (.tup xs) s else Q (newL m xs s).1 (newL m xs s).2)) := by
  unfold wE wEs; rw [evE]
  cases evEs P C es env st with
  | none => rfl
  | some p =>
    simp only [wLs]
    cases rng p.1 with
    | none => rfl
    | some xs =>
      simp only [wO]
      by_cases h : p.1.length ≤ 2
      · cases t <;> simp [h, wR]
      · cases t <;> simp [h, wR]
theorem wE_trev {a : IE} : wE P C (.trev a) env st Q = wE P C a env st (fun x s => wO (lstOf s x) fun xs => Q (.tup xs.reverse) s) := by
  unfold wE; rw [evE]
  cases evE P C a env st with
  | none => rfl
  | some p => simp only [wR]; cases lstOf p.2 p.1 <;> rfl
theorem wE_lzip {m : Bool} {a b : IE} : wE P C (.lzip m a b) env st Q = wE P C a env st (fun x s => wE P C b env s (fun y s' => wO (seqOf s' x) fun xs => wO (seqOf s' y) fun ys => xs.length < lim ∧ Q (newL m (zipL xs ys) s').1 (newL m (zipL xs ys) s').2)) := by
  unfold wE; rw [evE]
  cases evE P C a env st with
  | none => rfl
  | some p =>
    simp only [wR]
    cases evE P C b env p.2 with
    | none => rfl
    | some q =>
      simp only [wR]
      cases seqOf q.2 p.1 with
      | none => rfl
      | some xs =>
        simp only [wO]
        cases seqOf q.2 q.1 with
        | none => rfl
        | some ys =>
          simp only [wO]
          by_cases h : xs.length < lim <;> simp [h, wR]
theorem wE_dget {a k d : IE} : wE P C (.dget a k d) env st Q = wE P C a env st (fun x s => (dctOf s x).isSome = true ∧ wE P C k env s (fun y s' => wE P C d env s' (fun z s2 => wO (dctOf s2 x) fun q => y.isKey q.1 = true ∧ Q ((look y q.2.1 q.2.2).getD z) s2))) := by
  unfold wE; rw [evE]
  cases evE P C a env st with
  | none => rfl
  | some p =>
    simp only [wR]
    by_cases h : (dctOf p.2 p.1).isSome = true
    · simp only [h, if_true, true_and]
      cases evE P C k env p.2 with
      | none => rfl
      | some q =>
        simp only [wR]
        cases evE P C d env q.2 with
        | none => rfl
        | some r =>
          simp only [wR]
          cases dctOf r.2 p.1 with
          | none => rfl
          | some t => simp only [wO]; by_cases g : q.1.isKey t.1 = true <;> simp [g, wR]
    · simp [h, wR]
theorem wE_call0 {f : Nat} {es : List IE} : wE P C (.call f 0 es) env st Q = wEs P C es env st (fun ds s => wO (pcall C f ds s) fun v => Q v s) := by
  unfold wE wEs; rw [evE]
  cases evEs P C es env st with
  | none => rfl
  | some p => simp only [wLs]; cases pcall C f p.1 p.2 <;> rfl
theorem wE_call1 {f : Nat} {es : List IE} : wE P C (.call f 1 es) env st Q = wEs P C es env st (fun ds s => wR (C f ds s) Q) := by
  unfold wE wEs; rw [evE]
  cases evEs P C es env st <;> rfl
theorem wE_call2 {f : Nat} {es : List IE} : wE P C (.call f 2 es) env st Q = wEs P C es env st (fun ds s => wR (dcall C f ds s) Q) := by
  unfold wE wEs; rw [evE]
  cases evEs P C es env st <;> rfl
theorem wE_call3 {f : Nat} {es : List IE} : wE P C (.call f 3 es) env st Q = wEs P C es env st (fun ds s => wR (fcall C f ds s) Q) := by
  unfold wE wEs; rw [evE]
  cases evEs P C es env st <;> rfl
theorem wE_bm {b : Bm} {m : Bool} {o : IE} {es : List IE} : wE P C (.bm b m o es) env st Q = wE P C o env st (fun x s => wEs P C es env s (fun ds s' => rkind s x = rkind s' x ∧ wR (bmcall b m x ds s') Q)) := by
  unfold wE wEs; rw [evE]
  cases evE P C o env st with
  | none => rfl
  | some p =>
    simp only [wR]
    cases evEs P C es env p.2 with
    | none => rfl
    | some q =>
      simp only [wLs]
      by_cases h : rkind p.2 p.1 = rkind q.2 p.1 <;> simp [h, wR]
theorem wE_bi {b : Bi} {m : Bool} {es : List IE} : wE P C (.bi b m es) env st Q = wEs P C es env st (fun ds s => wR (bicall b m ds s) Q) := by
  unfold wE wEs; rw [evE]
  cases evEs P C es env st <;> rfl
theorem wE_isi {a : IE} {ts : List Ty} : wE P C (.isi a ts) env st Q = wE P C a env st (fun x s => isiOk s x = true ∧ Q (.bl (ts.any (isTy s x))) s) := by
  unfold wE; rw [evE]
  cases evE P C a env st with
  | none => rfl
  | some p =>
    simp only [wR]
    cases h : isiOk p.2 p.1 <;> simp [wR]
theorem wE_comp {m : Bool} {own : List Nat} {t : Tg} {it : It} {cs : List Ts} {e : IE} : wE P C (.comp m own t it cs e) env st Q =
    wIt P C it env st (fun xs src s => xs.length < lim ∧ wC P C t cs e src xs (wipe env own) s (fun ds s' => Q (newL m ds s').1 (newL m ds s').2)) := by
  unfold wE wIt wC; rw [evE]
  cases evIt P C it env st with
  | none => rfl
  | some p =>
    obtain ⟨xs, src, s⟩ := p
    simp only [wItr]
    by_cases h : xs.length < lim
    · simp only [h, if_true, true_and]
      cases compL (fun d env st => asgT P C t d env st) (fun env st => evTs P C cs env st) (fun env st => evE P C e env st) src (wipe env own) xs s <;> rfl
    · simp [h, wR]
theorem wT_val {e : IE} : wT P C (.val e) env st QB = wE P C e env st (fun d s => wO (tru s d) fun b => QB b s) := by
  unfold wE wT; rw [evT]
  cases evE P C e env st with
  | none => rfl
  | some p => simp only [wR]; cases tru p.2 p.1 <;> rfl
theorem wT_not {a : Ts} : wT P C (.not a) env st QB = wT P C a env st (fun b s => QB (!b) s) := by
  unfold wT; rw [evT]
  cases evT P C a env st <;> rfl
theorem wT_and {a b : Ts} : wT P C (.and a b) env st QB = wT P C a env st (fun t s => if t = true then wT P C b env s QB else QB false s) := by
  unfold wT; rw [evT]
  cases evT P C a env st with
  | none => rfl
  | some p => obtain ⟨t, s⟩ := p; cases t <;> rfl
theorem wT_or {a b : Ts} : wT P C (.or a b) env st QB = wT P C a env st (fun t s => if t = true then QB true s else wT P C b env s QB) := by
  unfold wT; rw [evT]
  cases evT P C a env st with
  | none => rfl
  | some p => obtain ⟨t, s⟩ := p; cases t <;> rfl
theorem wTs_nil : wTs P C [] env st QB = QB true st := by simp only [wTs, evTs, wTr]
theorem wTs_cons {e : Ts} {es : List Ts} : wTs P C (e :: es) env st QB = wT P C e env st QB := by simp only [wTs, evTs, wT]
theorem wIt_val {e : IE} : wIt P C (.val e) env st QI = wE P C e env st (fun d s => wSeq s d QI) := by
  unfold wE wIt; rw [evIt]
  cases evE P C e env st with
  | none => rfl
  | some p => rfl
theorem wIt_rng {es : List IE} : wIt P C (.rng es) env st QI = wEs P C es env st (fun ds s => wO (rng ds) fun xs => QI xs [] s) := by
  unfold wEs wIt; rw [evIt]
  cases evEs P C es env st with
  | none => rfl
  | some p => simp only [wLs]; cases rng p.1 <;> rfl
theorem wIt_enm {e : IE} : wIt P C (.enm e) env st QI = wE P C e env st (fun d s => wO (seqOf s d) fun xs => QI (enumL 0 xs) (srcOf s d) s) := by
  unfold wE wIt; rw [evIt]
  cases evE P C e env st with
  | none => rfl
  | some p => simp only [wR]; cases seqOf p.2 p.1 <;> rfl
theorem wIt_zip {a b : IE} : wIt P C (.zip a b) env st QI = wE P C a env st (fun x s => wE P C b env s (fun y s' => wO (seqOf s' x) fun xs => wO (seqOf s' y) fun ys => QI (zipL xs ys) (srcOf s' x ++ srcOf s' y) s')) := by
  unfold wE wIt; rw [evIt]
  cases evE P C a env st with
  | none => rfl
  | some p =>
    simp only [wR]
    cases evE P C b env p.2 with
    | none => rfl
    | some q =>
      simp only [wR]
      cases seqOf q.2 p.1 with
      | none => rfl
      | some xs => simp only [wO]; cases seqOf q.2 q.1 <;> rfl
theorem wIt_rev {e : IE} : wIt P C (.rev e) env st QI = wE P C e env st (fun d s => wO (seqOf s d) fun xs => QI xs.reverse (srcOf s d) s) := by
  unfold wE wIt; rw [evIt]
  cases evE P C e env st with
  | none => rfl
  | some p => simp only [wR]; cases seqOf p.2 p.1 <;> rfl
theorem wIt_revr {es : List IE} : wIt P C (.revr es) env st QI = wEs P C es env st (fun ds s => wO (rng ds) fun xs => ds.length ≤ 2 ∧ QI xs.reverse [] s) := by
  unfold wEs wIt; rw [evIt]
  cases evEs P C es env st with
  | none => rfl
  | some p =>
    simp only [wLs]
    cases rng p.1 with
    | none => rfl
    | some xs =>
      simp only [wO]
      by_cases h : p.1.length ≤ 2 <;> simp [h, wItr]
theorem wA_nm {i : Nat} {d : D} : wA P C (.nm i) d env st QE = (i < env.length ∧ QE (env.set i (some d)) st) := by
  unfold wA; rw [asgT]
  by_cases h : i < env.length <;> simp [h, wEn]
theorem wA_tup {ts : List Tg} {d : D} : wA P C (.tup ts) d env st QE = wO (seqOf st d) (fun xs => wAs P C ts xs env st QE) := by
  unfold wA wAs
  rw [asgT]
  cases seqOf st d <;> rfl
theorem wAs_nil : wAs P C [] [] env st QE = QE env st := by simp only [wAs, asgTs, wEn]
theorem wAs_cons {t : Tg} {ts : List Tg} {d : D} {ds : List D} : wAs P C (t :: ts) (d :: ds) env st QE = wA P C t d env st (fun e s => wAs P C ts ds e s QE) := by
  unfold wA wAs; rw [asgTs]
  cases asgT P C t d env st <;> rfl
theorem wA_sub {o i : IE} {d : D} : wA P C (.sub o i) d env st QE = wE P C o env st (fun x s => wE P C i env s (fun y s' => wO (setItem x y d s') fun s'' => QE env s'')) := by
  unfold wE wA; rw [asgT]
  cases evE P C o env st with
  | none => rfl
  | some p =>
    simp only [wR]
    cases evE P C i env p.2 with
    | none => rfl
    | some q => simp only [wR]; cases setItem p.1 q.1 d q.2 <;> rfl
/-! ### statements -/
theorem wSs_nil : wSs P C [] env st QO = QO (.nx env st) := by simp only [wSs, exSs, wOut]
theorem wSs_cons {s : IS} {ss : List IS} : wSs P C (s :: ss) env st QO = wS P C s env st (kSs P C ss QO) := by
  unfold wS wSs; rw [exSs]
  cases exS P C s env st with
  | none => rfl
  | some o => cases o <;> rfl
theorem wS_asg {t : Tg} {e : IE} : wS P C (.asg t e) env st QO = wE P C e env st (fun d s => wA P C t d env s (fun e' s' => QO (.nx e' s'))) := by
  unfold wE wA wS; rw [exS]
  cases evE P C e env st with
  | none => rfl
  | some p => simp only [wR]; cases asgT P C t p.1 env p.2 <;> rfl
theorem wS_par {is : List Nat} {es : List IE} : wS P C (.par is es) env st QO = wEs P C es env st (fun ds s => wO (setAll is ds env) fun e' => QO (.nx e' s)) := by
  unfold wEs wS; rw [exS]
  cases evEs P C es env st with
  | none => rfl
  | some p => simp only [wLs]; cases setAll is p.1 env <;> rfl
theorem wS_aug {i : Nat} {o : Bop} {e : IE} : wS P C (.aug i o e) env st QO = wV env[i]? (fun x => wE P C e env st (fun y s => wO (augop o x y) fun z => QO (.nx (env.set i (some z)) s))) := by
  unfold wE wS; rw [exS]
  cases env[i]? with
  | none => rfl
  | some q =>
    cases q with
    | none => rfl
    | some x =>
      simp only [wV]
      cases evE P C e env st with
      | none => rfl
      | some p => simp only [wR]; cases augop o x p.1 <;> rfl
theorem wS_augS {o i : IE} {p : Bop} {e : IE} : wS P C (.augS o i p e) env st QO = wE P C o env st (fun x s => wE P C i env s (fun k s' => wO (index s' x k) fun y => wE P C e env s' (fun z s'' => wO (augop p y z) fun w => wO (setItem x k w s'') fun s3 => QO (.nx env s3)))) := by
  unfold wE wS; rw [exS]
  cases evE P C o env st with
  | none => rfl
  | some p1 =>
    simp only [wR]
    cases evE P C i env p1.2 with
    | none => rfl
    | some q =>
      simp only [wR]
      cases index q.2 p1.1 q.1 with
      | none => rfl
      | some y =>
        simp only [wO]
        cases evE P C e env q.2 with
        | none => rfl
        | some z =>
          simp only [wR]
          cases augop p y z.1 with
          | none => rfl
          | some w => simp only [wO]; cases setItem p1.1 q.1 w z.2 <;> rfl
theorem wS_expr {e : IE} : wS P C (.expr e) env st QO = wE P C e env st (fun _ s => QO (.nx env s)) := by
  unfold wE wS; rw [exS]
  cases evE P C e env st <;> rfl
theorem wS_ret {e : IE} : wS P C (.ret e) env st QO = wE P C e env st (fun d s => QO (.rt d s)) := by
  unfold wE wS; rw [exS]
  cases evE P C e env st <;> rfl
theorem wS_ife {c : Ts} {a b : List IS} : wS P C (.ife c a b) env st QO = wT P C c env st (fun t s => if t = true then wSs P C a env s QO else wSs P C b env s QO) := by
  unfold wS wT wSs; rw [exS]
  cases evT P C c env st with
  | none => rfl
  | some p => obtain ⟨t, s⟩ := p; cases t <;> rfl
theorem wS_for {t : Tg} {it : It} {b : List IS} : wS P C (.for_ t it b) env st QO = wIt P C it env st (fun xs src s => wF P C t b src xs env s QO) := by
  unfold wS wIt wF; rw [exS]
  cases evIt P C it env st <;> rfl
theorem wS_whl {c : Ts} {b : List IS} : wS P C (.whl c b) env st QO = wW P C c b env st QO := by
  unfold wS wW; rw [exS]
theorem wS_pass : wS P C .pass env st QO = QO (.nx env st) := by simp only [wS, exS, wOut]
theorem wS_brk : wS P C .brk env st QO = QO (.bk env st) := by simp only [wS, exS, wOut]
theorem wS_cnt : wS P C .cnt env st QO = QO (.ct env st) := by simp only [wS, exS, wOut]
end
end Pm

/-! Pm, part Q: values, walks, calls, told from behind. -/
namespace Pm
open PySem (Str PyData)
section
variable {P : Pg} {C : Call} {st : Sto} {Q : D → Sto → Prop} {m : Bool}
/-! ### operators -/
theorem b_addI {i j : Int} : binop .add m (.int i) (.int j) st = some (.int (i + j), st) := nd rfl
theorem b_subI {i j : Int} : binop .sub m (.int i) (.int j) st = some (.int (i - j), st) := nd rfl
theorem b_mulI {i j : Int} : wR (binop .mul m (.int i) (.int j) st) Q = ((i.natAbs < 18446744073709551616 ∨ j.natAbs < 18446744073709551616) ∧ Q (.int (i * j)) st) := by
  simp only [binop, arith]
  by_cases h : (i.natAbs < 18446744073709551616 ∨ j.natAbs < 18446744073709551616)
  · simp [h, wR]
  · simp [h, wR]
theorem b_fdivI {i j : Int} : wR (binop .fdiv m (.int i) (.int j) st) Q = ((0 < j ∧ j < 1073741824) ∧ Q (.int (i / j)) st) := by
  simp only [binop, arith]
  by_cases h : (0 < j ∧ j < 1073741824)
  · simp [h, wR]
  · simp [h, wR]
theorem b_modI {i j : Int} : wR (binop .mod m (.int i) (.int j) st) Q = (0 < j ∧ Q (.int (i % j)) st) := by
  simp only [binop, arith]
  by_cases h : 0 < j
  · simp [h, wR]
  · simp [h, wR]
theorem b_powI {i j : Int} : wR (binop .pow m (.int i) (.int j) st) Q = ((0 ≤ j ∧ j ≤ 1000000 ∧ i.natAbs < 18446744073709551616) ∧ Q (.int (i ^ j.toNat)) st) := by
  simp only [binop, arith]
  by_cases h1 : 0 ≤ j <;> by_cases h2 : j ≤ 1000000 <;> by_cases h3 : i.natAbs < 18446744073709551616 <;> simp [h1, h2, h3, wR]
theorem b_addT {xs ys : List D} : wR (binop .add m (.tup xs) (.tup ys) st) Q = (xs.length + ys.length ≤ lim ∧ Q (.tup (xs ++ ys)) st) := by
  simp only [binop]
  by_cases h : xs.length + ys.length ≤ lim <;> simp [h, wR]
theorem b_addL {xs ys : List D} : wR (binop .add false (.lst xs) (.lst ys) st) Q = (xs.length + ys.length ≤ lim ∧ Q (.lst (xs ++ ys)) st) := by
  simp only [binop, lstOf]
  by_cases h : xs.length + ys.length ≤ lim <;> simp [h, wR, newL]
theorem b_mulL {xs : List D} {k : Int} : wR (binop .mul false (.lst xs) (.int k) st) Q = ((xs.length * k.toNat ≤ lim ∧ k ≤ 1000000 ∧ -1000000 ≤ k) ∧ Q (.lst (List.replicate k.toNat xs).flatten) st) := by
  simp only [binop, lstOf]
  by_cases h1 : xs.length * k.toNat ≤ lim <;> by_cases h2 : k ≤ 1000000 <;> by_cases h3 : -1000000 ≤ k <;> simp [h1, h2, h3, wR, newL]
theorem b_mulLm {xs : List D} {k : Int} : wR (binop .mul true (.lst xs) (.int k) st) Q = ((xs.length * k.toNat ≤ lim ∧ k ≤ 1000000 ∧ -1000000 ≤ k) ∧ Q (.ref st.length) (st ++ [.lst (List.replicate k.toNat xs).flatten])) := by
  simp only [binop, lstOf]
  by_cases h1 : xs.length * k.toNat ≤ lim <;> by_cases h2 : k ≤ 1000000 <;> by_cases h3 : -1000000 ≤ k <;> simp [h1, h2, h3, wR, newL]
theorem b_addLm {xs ys : List D} : wR (binop .add true (.lst xs) (.lst ys) st) Q = (xs.length + ys.length ≤ lim ∧ Q (.ref st.length) (st ++ [.lst (xs ++ ys)])) := by
  simp only [binop, lstOf]
  by_cases h : xs.length + ys.length ≤ lim <;> simp [h, wR, newL]
theorem b_mulT {xs : List D} {k : Int} : wR (binop .mul m (.tup xs) (.int k) st) Q = (xs ≠ [] ∧ (if 2 ≤ k then ((k ≤ 1000 ∧ xs.length ≤ 1000) ∧ Q (.tup (List.replicate k.toNat xs).flatten) st) else if k = 1 then Q (.tup xs) st else if k = 0 then Q (.tup []) st else False)) := by
  simp only [binop]
  by_cases h0 : xs = [] <;> by_cases h1 : 2 ≤ k <;> by_cases h2 : k ≤ 1000 <;> by_cases h3 : xs.length ≤ 1000 <;> by_cases h4 : k = 1 <;> by_cases h5 : k = 0 <;> simp [h0, h1, h2, h3, h4, h5, wR] <;> omega
theorem b_mulR {r : Nat} {k : Int} : wR (binop .mul m (.ref r) (.int k) st) Q = wO (lstOf st (.ref r)) (fun xs => (xs.length * k.toNat ≤ lim ∧ k ≤ 1000000 ∧ -1000000 ≤ k) ∧ Q (newL m (List.replicate k.toNat xs).flatten st).1 (newL m (List.replicate k.toNat xs).flatten st).2) := by
  simp only [binop]
  cases lstOf st (.ref r) with
  | none => rfl
  | some xs =>
    simp only [wO]
    by_cases h1 : xs.length * k.toNat ≤ lim <;> by_cases h2 : k ≤ 1000000 <;> by_cases h3 : -1000000 ≤ k <;> simp [h1, h2, h3, wR]
theorem b_addRL {r : Nat} {ys : List D} : wR (binop .add m (.ref r) (.lst ys) st) Q = wO (lstOf st (.ref r)) (fun xs => xs.length + ys.length ≤ lim ∧ Q (newL m (xs ++ ys) st).1 (newL m (xs ++ ys) st).2) := by
  simp only [binop]
  have : lstOf st (.lst ys) = some ys := rfl
  rw [this]
  cases lstOf st (.ref r) with
  | none => rfl
  | some xs =>
    simp only [wO]
    by_cases h1 : xs.length + ys.length ≤ lim <;> simp [h1, wR]
theorem b_addLR {r : Nat} {xs : List D} : wR (binop .add m (.lst xs) (.ref r) st) Q = wO (lstOf st (.ref r)) (fun ys => xs.length + ys.length ≤ lim ∧ Q (newL m (xs ++ ys) st).1 (newL m (xs ++ ys) st).2) := by
  simp only [binop]
  have : lstOf st (.lst xs) = some xs := rfl
  rw [this]
  cases lstOf st (.ref r) with
  | none => rfl
  | some ys =>
    simp only [wO]
    by_cases h1 : xs.length + ys.length ≤ lim <;> simp [h1, wR]
theorem b_addRR {r q : Nat} : wR (binop .add m (.ref r) (.ref q) st) Q = wO (lstOf st (.ref r)) (fun xs => wO (lstOf st (.ref q)) fun ys => xs.length + ys.length ≤ lim ∧ Q (newL m (xs ++ ys) st).1 (newL m (xs ++ ys) st).2) := by
  simp only [binop]
  cases lstOf st (.ref r) with
  | none => rfl
  | some xs =>
    cases lstOf st (.ref q) with
    | none => rfl
    | some ys =>
      simp only [wO]
      by_cases h1 : xs.length + ys.length ≤ lim <;> simp [h1, wR]
theorem a_addI {i j : Int} : augop .add (.int i) (.int j) = some (.int (i + j)) := nd rfl
theorem a_subI {i j : Int} : augop .sub (.int i) (.int j) = some (.int (i - j)) := nd rfl
/-! ### comparisons -/
variable {i j : Int} {a b : D}
theorem c_ltI : cmpop .lt st (.int i) (.int j) = some (decide (i < j)) := nd rfl
theorem c_gtI : cmpop .gt st (.int i) (.int j) = some (decide (j < i)) := nd rfl
theorem c_leI : cmpop .le st (.int i) (.int j) = some (decide (i ≤ j)) := nd rfl
theorem c_geI : cmpop .ge st (.int i) (.int j) = some (decide (j ≤ i)) := nd rfl
theorem c_eqI : cmpop .eq st (.int i) (.int j) = some (decide (i = j)) := by
  show (some (i == j)) = _
  congr 1
theorem c_neI : cmpop .ne st (.int i) (.int j) = some (!decide (i = j)) := by
  show (some (!(i == j))) = _
  congr 1
theorem c_eqS {x y : Str} : cmpop .eq st (.str x) (.str y) = some (x == y) := nd rfl
theorem c_neS {x y : Str} : cmpop .ne st (.str x) (.str y) = some (!(x == y)) := nd rfl
theorem c_isN : cmpop .is st a .non = some (decide (a = .non)) := by cases a <;> rfl
theorem c_isnN : cmpop .isn st a .non = some (!decide (a = .non)) := by cases a <;> rfl
theorem c_isB {x y : Bool} : cmpop .is st (.bl x) (.bl y) = some (decide (x = y)) := nd rfl
theorem c_isnB {x y : Bool} : cmpop .isn st (.bl x) (.bl y) = some (!decide (x = y)) := nd rfl
theorem c_in : cmpop .in_ st a b = inD st a b := nd rfl
theorem c_nin : cmpop .nin st a b = (inD st a b).map (!·) := nd rfl
theorem c_eqB {x y : Bool} : cmpop .eq st (.bl x) (.bl y) = some (x == y) := by
  cases x <;> cases y <;> rfl
theorem c_neB {x y : Bool} : cmpop .ne st (.bl x) (.bl y) = some (!(x == y)) := by
  cases x <;> cases y <;> rfl
theorem dN_int : decide ((D.int i) = .non) = false := nd rfl
theorem dN_tup {xs : List D} : decide ((D.tup xs) = .non) = false := nd rfl
theorem dN_lst {xs : List D} : decide ((D.lst xs) = .non) = false := nd rfl
theorem dN_non : decide (D.non = .non) = true := nd rfl
theorem dN_bl {x : Bool} : decide ((D.bl x) = .non) = false := nd rfl
theorem dN_str {x : Str} : decide ((D.str x) = .non) = false := nd rfl
theorem t_bl {x : Bool} : tru st (.bl x) = some x := nd rfl
theorem t_int : tru st (.int i) = some (i != 0) := nd rfl
theorem t_non : tru st .non = some false := nd rfl
theorem t_tup {xs : List D} : tru st (.tup xs) = some (!xs.isEmpty) := nd rfl
theorem t_lst {xs : List D} : tru st (.lst xs) = some (!xs.isEmpty) := nd rfl
/-! ### sequences -/
theorem s_tup {xs : List D} : seqOf st (.tup xs) = some xs := nd rfl
theorem s_lst {xs : List D} : seqOf st (.lst xs) = some xs := nd rfl
theorem s_ref {r : Nat} {xs : List D} (h : st[r]? = some (.lst xs)) : seqOf st (.ref r) = some xs := by simp only [seqOf, h]
theorem l_lst {xs : List D} : lstOf st (.lst xs) = some xs := nd rfl
theorem l_ref {r : Nat} {xs : List D} (h : st[r]? = some (.lst xs)) : lstOf st (.ref r) = some xs := by simp only [lstOf, h]
theorem l_tup {xs : List D} : lstOf st (.tup xs) = none := nd rfl
theorem o_tup {xs : List D} : srcOf st (.tup xs) = [] := nd rfl
theorem o_lst {xs : List D} : srcOf st (.lst xs) = [] := nd rfl
theorem o_ref {r : Nat} {xs : List D} (h : st[r]? = some (.lst xs)) : srcOf st (.ref r) = [(r, xs)] := by simp only [srcOf, h]
theorem r_1 {j : Int} : wO (rng [.int j]) (fun xs => Q (.lst xs) st) = wO (rng [.int j]) (fun xs => Q (.lst xs) st) := nd rfl
theorem rng1 {j : Int} (h1 : -1000000 ≤ j) (h2 : j ≤ 1000000) : rng [.int j] = some (rangeL 0 1 j.toNat) := by simp [rng, inR, h1, h2]
theorem rng1n {n : Nat} (h2 : n ≤ 1000000) : rng [.int (n : Int)] = some (rangeL 0 1 n) := by rw [rng1 (by omega) (by omega)]; simp
theorem rng2 {i j : Int} (h1 : -1000000 ≤ i) (h2 : i ≤ 1000000) (h3 : -1000000 ≤ j) (h4 : j ≤ 1000000) : rng [.int i, .int j] = some (rangeL i 1 (j - i).toNat) := by simp [rng, inR, h1, h2, h3, h4]
theorem rng3 {i j : Int} (h1 : -1000000 ≤ i) (h2 : i ≤ 1000000) (h3 : -1000000 ≤ j) (h4 : j ≤ 1000000) : rng [.int i, .int j, .int (-1)] = some (rangeL i (-1) (i - j).toNat) := by simp [rng, inR, h1, h2, h3, h4]
theorem rangeL_lenQ {lo c : Int} {n : Nat} : (rangeL lo c n).length = n := by
  induction n generalizing lo with
  | zero => rfl
  | succ n ih => simp [rangeL, ih]
theorem rangeL_getQ {lo c : Int} {n i : Nat} : (rangeL lo c n)[i]? = if i < n then some (.int (lo + (i : Int) * c)) else none := by
  induction n generalizing lo i with
  | zero => simp [rangeL]
  | succ n ih =>
    cases i with
    | zero => simp [rangeL]
    | succ i =>
      simp only [rangeL, List.getElem?_cons_succ]
      rw [ih]
      have e : lo + c + (i : Int) * c = lo + ((i + 1 : Nat) : Int) * c := by
        rw [Int.natCast_add, Int.add_mul]; simp; omega
      by_cases h : i < n
      · rw [if_pos h, if_pos (by omega), e]
      · rw [if_neg h, if_neg (by omega)]
theorem rangeL_mapN {n : Nat} : rangeL 0 1 n = (List.range n).map (fun i : Nat => D.int (i : Int)) := by
  apply List.ext_getElem?
  intro i
  rw [rangeL_getQ, List.getElem?_map]
  by_cases h : i < n
  · simp [h]
  · simp [h]
theorem enumL_lenQ {k : Nat} {xs : List D} : (enumL k xs).length = xs.length := by
  induction xs generalizing k with
  | nil => rfl
  | cons x xs ih => simp [enumL, ih]
theorem enumL_getQ {k : Nat} {xs : List D} {i : Nat} : (enumL k xs)[i]? = (xs[i]?).map fun x => .tup [.int ((k + i : Nat) : Int), x] := by
  induction xs generalizing k i with
  | nil => simp [enumL]
  | cons x xs ih =>
    cases i with
    | zero => simp [enumL]
    | succ i => simp only [enumL, List.getElem?_cons_succ, ih]; congr 1; funext y; congr 4; omega
theorem zipL_getQ {xs ys : List D} {i : Nat} {z : D} : (zipL xs ys)[i]? = some z ↔ ∃ x y, xs[i]? = some x ∧ ys[i]? = some y ∧ z = .tup [x, y] := by
  induction xs generalizing ys i with
  | nil => simp [zipL]
  | cons x xs ih =>
    cases ys with
    | nil => simp [zipL]
    | cons y ys => cases i with
      | zero => simp [zipL, eq_comm]
      | succ i => simp only [zipL, List.getElem?_cons_succ, ih]
theorem zipL_lenQ {xs ys : List D} : (zipL xs ys).length = min xs.length ys.length := by
  induction xs generalizing ys with
  | nil => simp [zipL]
  | cons x xs ih => cases ys with
    | nil => simp [zipL]
    | cons y ys => simp only [zipL, List.length_cons, ih]; omega
/-- xs[k], k from 0 on -/
theorem ix_tup {xs : List D} {k : Int} (h : 0 ≤ k) : index st (.tup xs) (.int k) = xs[k.toNat]? := by
  simp only [index, dctOf, seqOf, ixN, h, if_true]
  by_cases h2 : k < xs.length
  · rw [if_pos h2]; rfl
  · rw [if_neg h2]; simp only [Option.bind_none]; rw [List.getElem?_eq_none (by omega)]
theorem ix_lst {xs : List D} {k : Int} (h : 0 ≤ k) : index st (.lst xs) (.int k) = xs[k.toNat]? := by
  simp only [index, dctOf, seqOf, ixN, h, if_true]
  by_cases h2 : k < xs.length
  · rw [if_pos h2]; rfl
  · rw [if_neg h2]; simp only [Option.bind_none]; rw [List.getElem?_eq_none (by omega)]
theorem ix_ref {r : Nat} {xs : List D} {k : Int} (h0 : st[r]? = some (.lst xs)) (h : 0 ≤ k) : index st (.ref r) (.int k) = xs[k.toNat]? := by
  simp only [index, dctOf, seqOf, h0, ixN, h, if_true]
  by_cases h2 : k < xs.length
  · rw [if_pos h2]; rfl
  · rw [if_neg h2]; simp only [Option.bind_none]; rw [List.getElem?_eq_none (by omega)]
theorem ix_neg {xs : List D} : ixN xs.length (-1) = if 0 < xs.length then some (xs.length - 1) else none := by
  unfold ixN
  rw [if_neg (by omega)]
  by_cases h : 0 < xs.length
  · rw [if_pos (by omega), if_pos h]; congr 1; omega
  · rw [if_neg (by omega), if_neg h]
theorem ix_tupm {xs : List D} : index st (.tup xs) (.int (-1)) = xs.getLast? := by
  simp only [index, dctOf, seqOf, ix_neg, List.getLast?_eq_getElem?]
  by_cases h : 0 < xs.length
  · rw [if_pos h]; rfl
  · rw [if_neg h, List.getElem?_eq_none (by omega)]; rfl
theorem ix_lstm {xs : List D} : index st (.lst xs) (.int (-1)) = xs.getLast? := by
  simp only [index, dctOf, seqOf, ix_neg, List.getLast?_eq_getElem?]
  by_cases h : 0 < xs.length
  · rw [if_pos h]; rfl
  · rw [if_neg h, List.getElem?_eq_none (by omega)]; rfl
theorem ix_refm {r : Nat} {xs : List D} (h0 : st[r]? = some (.lst xs)) : index st (.ref r) (.int (-1)) = xs.getLast? := by
  simp only [index, dctOf, seqOf, h0, ix_neg, List.getLast?_eq_getElem?]
  by_cases h : 0 < xs.length
  · rw [if_pos h]; rfl
  · rw [if_neg h, List.getElem?_eq_none (by omega)]; rfl
theorem ix_dct {t : Bool} {ks vs : List D} {k : D} : index st (.dct t ks vs) k = if k.isKey t then look k ks vs else none := nd rfl
theorem si_lst {r : Nat} {xs : List D} {k : Int} {v : D} (h0 : st[r]? = some (.lst xs)) (h : 0 ≤ k) (h2 : k.toNat < xs.length) : setItem (.ref r) (.int k) v st = some (st.set r (.lst (xs.set k.toNat v))) := by
  simp only [setItem, h0, ixN, h, if_true, show k < xs.length by omega, Option.map_some]
/-- the object that is a list -/
def wOb : Option Ob → (F : List D → Prop) → [Tag F] → Prop
  | some (.lst xs), F, _ => F xs
  | _, _, _ => False
theorem wOb_lst {xs : List D} {F : List D → Prop} : wOb (some (.lst xs)) F = F xs := nd rfl
def ixL (xs : List D) (k : Int) : Option D := if 0 ≤ k then xs[k.toNat]? else if k = -1 then xs.getLast? else (ixN xs.length k).bind fun j => xs[j]?
def ixO : Option Ob → D → Option D
  | some (.lst xs), .int k => ixL xs k
  | some (.dct t ks vs), i => if i.isKey t then look i ks vs else none
  | some (.fdc t ks vs), i => if i.isKey t then look i ks vs else none
  | _, _ => none
theorem ixL_eq {xs : List D} {k : Int} : ((ixN xs.length k).bind fun j => xs[j]?) = ixL xs k := by
  unfold ixL
  by_cases h : 0 ≤ k
  · rw [if_pos h]; exact ix_lst (st := []) h
  · rw [if_neg h]
    by_cases h2 : k = -1
    · rw [if_pos h2]; subst h2; exact ix_lstm (st := [])
    · rw [if_neg h2]
theorem i_tup {xs : List D} {k : Int} : index st (.tup xs) (.int k) = ixL xs k := ixL_eq
theorem i_lst {xs : List D} {k : Int} : index st (.lst xs) (.int k) = ixL xs k := ixL_eq
theorem i_ref {r : Nat} {d : D} : index st (.ref r) d = ixO st[r]? d := by
  simp only [index, dctOf, seqOf]
  generalize st[r]? = o
  cases o with
  | none => cases d <;> rfl
  | some o =>
    cases o with
    | lst xs => cases d <;> first | rfl | exact ixL_eq
    | dct t ks vs => cases d <;> rfl
    | fdc t ks vs => cases d <;> rfl
    | ins c fs => cases d <;> rfl
theorem i_dct {t : Bool} {ks vs : List D} {k : D} : index st (.dct t ks vs) k = if k.isKey t then look k ks vs else none := nd rfl
theorem ixO_lst {xs : List D} {k : Int} : ixO (some (.lst xs)) (.int k) = ixL xs k := nd rfl
theorem ixO_fdc {t : Bool} {ks vs : List D} {k : D} : ixO (some (.fdc t ks vs)) k = if k.isKey t then look k ks vs else none := nd rfl
theorem ixO_dct {t : Bool} {ks vs : List D} {k : D} : ixO (some (.dct t ks vs)) k = if k.isKey t then look k ks vs else none := nd rfl
def siO (o : Option Ob) (r : Nat) (i v : D) (st : Sto) : Option Sto := match o with
  | some (.lst xs) => (match i with
    | .int k => (ixN xs.length k).map fun j => st.set r (.lst (xs.set j v))
    | _ => none)
  | some (.dct t ks vs) => if i.isKey t && ks.length < lim then some (st.set r (.dct t (put i v ks vs).1 (put i v ks vs).2)) else none
  | _ => none
theorem si_ref {r : Nat} {i v : D} : setItem (.ref r) i v st = siO st[r]? r i v st := by
  simp only [setItem, siO] <;> (generalize st[r]? = o; cases o <;> first | rfl | (rename_i o; cases o <;> rfl))
theorem siO_lst {xs : List D} {r : Nat} {k : Int} {v : D} {F : Sto → Prop} : wO (siO (some (.lst xs)) r (.int k) v st) F = wO (ixN xs.length k) (fun j => F (st.set r (.lst (xs.set j v)))) := by
  simp only [siO, wO_map]
theorem siO_dct {t : Bool} {ks vs : List D} {r : Nat} {k v : D} {F : Sto → Prop} : wO (siO (some (.dct t ks vs)) r k v st) F = ((k.isKey t = true ∧ ks.length < lim) ∧ F (st.set r (.dct t (put k v ks vs).1 (put k v ks vs).2))) := by
  simp only [siO]
  cases h : k.isKey t <;> by_cases h2 : ks.length < lim <;> simp [h2, wO]
theorem wO_ixN {n : Nat} {k : Int} {F : Nat → Prop} : wO (ixN n k) F = if 0 ≤ k then (k < n ∧ F k.toNat) else (-(n : Int) ≤ k ∧ F (k + n).toNat) := by
  unfold ixN
  by_cases h : 0 ≤ k
  · rw [if_pos h, if_pos h, wO_ite]
  · rw [if_neg h, if_neg h, wO_ite]
def sqO : Option Ob → Option (List D)
  | some (.lst xs) => some xs
  | _ => none
theorem s_refO {r : Nat} : seqOf st (.ref r) = sqO st[r]? := by
  simp only [seqOf]
  generalize st[r]? = o
  cases o with
  | none => rfl
  | some o => cases o <;> rfl
theorem l_refO {r : Nat} : lstOf st (.ref r) = sqO st[r]? := by
  simp only [lstOf]
  generalize st[r]? = o
  cases o with
  | none => rfl
  | some o => cases o <;> rfl
theorem sqO_lst {xs : List D} : sqO (some (.lst xs)) = some xs := nd rfl
def scO : Option Ob → Nat → Src
  | some (.lst xs), r => [(r, xs)]
  | _, _ => []
theorem o_refO {r : Nat} : srcOf st (.ref r) = scO st[r]? r := by
  simp only [srcOf]
  generalize st[r]? = o
  cases o with
  | none => rfl
  | some o => cases o <;> rfl
theorem scO_lst {xs : List D} {r : Nat} : scO (some (.lst xs)) r = [(r, xs)] := nd rfl
/-- walked over -/
def qO (o : Option Ob) (r : Nat) (s : Sto) (Q : List D → Src → Sto → Prop) [Tag Q] : Prop := match o with
  | some (.lst xs) => Q xs [(r, xs)] s
  | some (.dct t ks vs) => Q ks [] (s.set r (.fdc t ks vs))
  | some (.fdc _ ks _) => Q ks [] s
  | _ => False
theorem q_tup {xs : List D} {Q : List D → Src → Sto → Prop} [Tag Q] : wSeq st (.tup xs) Q = Q xs (srcOf st (.tup xs)) st := nd rfl
theorem q_lst {xs : List D} {Q : List D → Src → Sto → Prop} [Tag Q] : wSeq st (.lst xs) Q = Q xs (srcOf st (.lst xs)) st := nd rfl
theorem q_refO {r : Nat} {Q : List D → Src → Sto → Prop} [Tag Q] : wSeq st (.ref r) Q = qO st[r]? r st Q := by
  simp only [wSeq, itV, seqOf, lockD, srcOf, qO]
  generalize st[r]? = o
  cases o with
  | none => rfl
  | some o => cases o <;> rfl
theorem q_ref {r : Nat} {xs : List D} {Q : List D → Src → Sto → Prop} [Tag Q] (h : st[r]? = some (.lst xs)) : wSeq st (.ref r) Q = Q xs (srcOf st (.ref r)) st := by
  rw [q_refO, h]; simp only [qO, srcOf, h]
theorem q_some {d : D} {xs : List D} {Q : List D → Src → Sto → Prop} [Tag Q] (h : seqOf st d = some xs) : wSeq st d Q = Q xs (srcOf st d) st := by
  simp only [wSeq, itV, h, wItr]
theorem qO_lst {xs : List D} {r : Nat} {s : Sto} {Q : List D → Src → Sto → Prop} [Tag Q] : qO (some (.lst xs)) r s Q = Q xs [(r, xs)] s := nd rfl
theorem qO_dct {t : Bool} {ks vs : List D} {r : Nat} {s : Sto} {Q : List D → Src → Sto → Prop} [Tag Q] : qO (some (.dct t ks vs)) r s Q = Q ks [] (s.set r (.fdc t ks vs)) := nd rfl
theorem qO_fdc {t : Bool} {ks vs : List D} {r : Nat} {s : Sto} {Q : List D → Src → Sto → Prop} [Tag Q] : qO (some (.fdc t ks vs)) r s Q = Q ks [] s := nd rfl
/-- a dict, if it is one -/
def dcO : Option Ob → Option (Bool × List D × List D)
  | some (.dct t ks vs) => some (t, ks, vs)
  | some (.fdc t ks vs) => some (t, ks, vs)
  | _ => none
theorem dc_dct {t : Bool} {ks vs : List D} : dctOf st (.dct t ks vs) = some (t, ks, vs) := nd rfl
theorem dc_ref {r : Nat} : dctOf st (.ref r) = dcO st[r]? := by
  simp only [dctOf]
  generalize st[r]? = o
  cases o with
  | none => rfl
  | some o => cases o <;> rfl
theorem dcO_dct {t : Bool} {ks vs : List D} : dcO (some (.dct t ks vs)) = some (t, ks, vs) := nd rfl
theorem dcO_fdc {t : Bool} {ks vs : List D} : dcO (some (.fdc t ks vs)) = some (t, ks, vs) := nd rfl
def rkO : Option Ob → Nat
  | some (.lst _) => 1
  | some (.dct _ _ _) => 2
  | some (.fdc _ _ _) => 2
  | _ => 0
theorem rk_ref {r : Nat} : rkind st (.ref r) = rkO st[r]? := by
  simp only [rkind, lstOf, dctOf]
  generalize st[r]? = o
  cases o with
  | none => rfl
  | some o => cases o <;> rfl
theorem rkO_lst {xs : List D} : rkO (some (.lst xs)) = 1 := nd rfl
theorem rkO_dct {t : Bool} {ks vs : List D} : rkO (some (.dct t ks vs)) = 2 := nd rfl
def lnO : Option Ob → Option Nat
  | some (.lst xs) => some xs.length
  | some (.dct _ ks _) => some ks.length
  | some (.fdc _ ks _) => some ks.length
  | _ => none
theorem f_lenO {r : Nat} : bicall .len m [.ref r] st = (lnO st[r]?).map fun n => (.int (n : Int), st) := by
  simp only [bicall, dctOf, seqOf]
  generalize st[r]? = o
  cases o with
  | none => rfl
  | some o => cases o <;> rfl
theorem lnO_lst {xs : List D} : lnO (some (.lst xs)) = some xs.length := nd rfl
theorem lnO_dct {t : Bool} {ks vs : List D} : lnO (some (.dct t ks vs)) = some ks.length := nd rfl
theorem f_tupO {r : Nat} : bicall .tuple m [.ref r] st = (sqO st[r]?).map fun xs => (.tup xs, st) := by
  simp only [bicall, s_refO]
theorem f_lstO {r : Nat} : bicall .list m [.ref r] st = (sqO st[r]?).map fun xs => newL m xs st := by
  simp only [bicall, s_refO]
def tuO : Option Ob → Option Bool
  | some (.lst xs) => some (!xs.isEmpty)
  | _ => none
theorem t_refO {r : Nat} : tru st (.ref r) = tuO st[r]? := by
  simp only [tru]
  generalize st[r]? = o
  cases o with
  | none => rfl
  | some o => cases o <;> rfl
theorem tuO_lst {xs : List D} : tuO (some (.lst xs)) = some (!xs.isEmpty) := nd rfl
theorem sl_refO {r : Nat} {lo hi : D} : slice m (.ref r) lo hi st = (sqO st[r]?).bind fun xs => (cut xs lo hi).map fun ys => newL m ys st := by
  simp only [slice, l_refO]
  cases sqO st[r]? <;> rfl
theorem m_appO {r : Nat} {d : D} : wR (bmcall .append m (.ref r) [d] st) Q = wOb st[r]? (fun xs => xs.length < lim ∧ Q .non (st.set r (.lst (xs ++ [d])))) := by
  cases h : st[r]? with
  | none => simp only [bmcall, h]; rfl
  | some o =>
    cases o with
    | lst xs =>
      simp only [bmcall, h, wOb]
      by_cases h2 : xs.length < lim <;> simp [h2, wR]
    | dct t ks vs => simp only [bmcall, h]; rfl
    | fdc t ks vs => simp only [bmcall, h]; rfl
    | ins c fs => simp only [bmcall, h]; rfl
theorem m_extO {r : Nat} {d : D} : wR (bmcall .extend m (.ref r) [d] st) Q = wOb st[r]? (fun xs => wO (seqOf st d) fun ys => xs.length + ys.length ≤ lim ∧ Q .non (st.set r (.lst (xs ++ ys)))) := by
  cases h : st[r]? with
  | none => simp only [bmcall, h]; rfl
  | some o =>
    cases o with
    | lst xs =>
      simp only [bmcall, h, wOb, wR_bind]
      refine wO_cont fun ys => ?_
      by_cases h2 : xs.length + ys.length ≤ lim <;> simp [h2, wR]
    | dct t ks vs => simp only [bmcall, h]; rfl
    | fdc t ks vs => simp only [bmcall, h]; rfl
    | ins c fs => simp only [bmcall, h]; rfl
theorem m_insO {r : Nat} {k : Int} {d : D} : wR (bmcall .insert m (.ref r) [.int k, d] st) Q = wOb st[r]? (fun xs => (xs.length < lim ∧ 0 ≤ k ∧ k < 1000000) ∧ Q .non (st.set r (.lst (xs.take k.toNat ++ [d] ++ xs.drop k.toNat)))) := by
  cases h : st[r]? with
  | none => simp only [bmcall, h]; rfl
  | some o =>
    cases o with
    | lst xs =>
      simp only [bmcall, h, wOb]
      by_cases h1 : xs.length < lim <;> by_cases h2 : 0 ≤ k <;> by_cases h3 : k < 1000000 <;> simp [h1, h2, h3, wR]
    | dct t ks vs => simp only [bmcall, h]; rfl
    | fdc t ks vs => simp only [bmcall, h]; rfl
    | ins c fs => simp only [bmcall, h]; rfl
theorem m_popO {r : Nat} : wR (bmcall .pop m (.ref r) [] st) Q = wOb st[r]? (fun xs => wO xs.getLast? (fun d => Q d (st.set r (.lst xs.dropLast)))) := by
  cases h : st[r]? with
  | none => simp only [bmcall, h]; rfl
  | some o =>
    cases o with
    | lst xs =>
      simp only [bmcall, h, wOb, List.getLast?_eq_getElem?]
      cases xs[xs.length - 1]? <;> rfl
    | dct t ks vs => simp only [bmcall, h]; rfl
    | fdc t ks vs => simp only [bmcall, h]; rfl
    | ins c fs => simp only [bmcall, h]; rfl
theorem m_popIO {r : Nat} {k : Int} : wR (bmcall .pop m (.ref r) [.int k] st) Q = wOb st[r]? (fun xs => wO (ixN xs.length k) fun j => wO xs[j]? (fun d => Q d (st.set r (.lst (xs.eraseIdx j))))) := by
  cases h : st[r]? with
  | none => simp only [bmcall, h]; rfl
  | some o =>
    cases o with
    | lst xs =>
      simp only [bmcall, h, wOb, wR_bind]
      refine wO_cont fun j => ?_
      rw [wR_map]
    | dct t ks vs => simp only [bmcall, h]; rfl
    | fdc t ks vs => simp only [bmcall, h]; rfl
    | ins c fs => simp only [bmcall, h]; rfl
theorem m_revO {r : Nat} : wR (bmcall .reverse m (.ref r) [] st) Q = wOb st[r]? (fun xs => Q .non (st.set r (.lst xs.reverse))) := by
  cases h : st[r]? with
  | none => simp only [bmcall, h]; rfl
  | some o =>
    cases o with
    | lst xs => simp only [bmcall, h, wOb, wR]
    | dct t ks vs => simp only [bmcall, h]; rfl
    | fdc t ks vs => simp only [bmcall, h]; rfl
    | ins c fs => simp only [bmcall, h]; rfl
theorem wO_none' {α : Type} {Q : α → Prop} : wO (none : Option α) Q = False := nd rfl
/-! ### built-ins -/
theorem f_lenT {xs : List D} : bicall .len m [.tup xs] st = some (.int xs.length, st) := nd rfl
theorem f_lenL {xs : List D} : bicall .len m [.lst xs] st = some (.int xs.length, st) := nd rfl
theorem f_lenR {r : Nat} {xs : List D} (h : st[r]? = some (.lst xs)) : bicall .len m [.ref r] st = some (.int xs.length, st) := by simp only [bicall, dctOf, seqOf, h, Option.map_some]
theorem f_lenD {t : Bool} {ks vs : List D} : bicall .len m [.dct t ks vs] st = some (.int ks.length, st) := nd rfl
theorem f_abs : bicall .abs m [.int i] st = some (.int (if i < 0 then -i else i), st) := nd rfl
theorem f_intI : bicall .int m [.int i] st = some (.int i, st) := nd rfl
theorem f_intB {x : Bool} : bicall .int m [.bl x] st = some (.int (if x = true then 1 else 0), st) := by cases x <;> rfl
theorem f_min2 : bicall .min m [.int i, .int j] st = some (.int (if j < i then j else i), st) := nd rfl
theorem f_max2 : bicall .max m [.int i, .int j] st = some (.int (if i < j then j else i), st) := nd rfl
theorem blsD_map {α : Type} {f : α → Bool} {l : List α} : blsD (l.map fun x => .bl (f x)) = some (l.map f) := by
  induction l with
  | nil => rfl
  | cons x l ih => simp [blsD, ih]
theorem f_all {α : Type} {f : α → Bool} {l : List α} : bicall .all m [.lst (l.map fun x => .bl (f x))] st = some (.bl (l.all f), st) := by
  simp only [bicall, lstOf, Option.bind_some, blsD_map, Option.map_some]
  rw [List.all_map]; rfl
theorem f_any {α : Type} {f : α → Bool} {l : List α} : bicall .any m [.lst (l.map fun x => .bl (f x))] st = some (.bl (l.any f), st) := by
  simp only [bicall, lstOf, Option.bind_some, blsD_map, Option.map_some]
  rw [List.any_map]; rfl
theorem f_allB {l : List Bool} : bicall .all m [.lst (l.map D.bl)] st = some (.bl (l.all id), st) := f_all (f := fun b : Bool => b)
theorem f_anyB {l : List Bool} : bicall .any m [.lst (l.map D.bl)] st = some (.bl (l.any id), st) := f_any (f := fun b : Bool => b)
def trues (n : Nat) : List D := List.replicate n (.bl true)
theorem f_trues {n : Nat} : bicall .all m [.lst (trues n)] st = some (.bl true, st) := by
  have := f_allB (m := m) (st := st) (l := List.replicate n true)
  simpa [trues] using this
theorem intsD_map {α : Type} {f : α → Int} {l : List α} : intsD (l.map fun x => .int (f x)) = some (l.map f) := by
  induction l with
  | nil => rfl
  | cons x l ih => simp [intsD, ih]
theorem intsD_ints {l : List Int} : intsD (l.map D.int) = some l := by
  have := intsD_map (f := fun x : Int => x) (l := l)
  simpa using this
theorem f_sumL {α : Type} {f : α → Int} {l : List α} : bicall .sum m [.lst (l.map fun x => .int (f x))] st = some (.int (l.map f).sum, st) := by
  simp only [bicall, seqOf, Option.bind_some, intsD_map, Option.map_some]
theorem f_sumT {l : List Int} : bicall .sum m [.tup (l.map D.int)] st = some (.int l.sum, st) := by
  simp only [bicall, seqOf, Option.bind_some, intsD_ints, Option.map_some]
theorem f_tupL {xs : List D} : bicall .tuple m [.lst xs] st = some (.tup xs, st) := nd rfl
theorem f_tupT {xs : List D} : bicall .tuple m [.tup xs] st = some (.tup xs, st) := nd rfl
theorem f_tupR {r : Nat} {xs : List D} (h : st[r]? = some (.lst xs)) : bicall .tuple m [.ref r] st = some (.tup xs, st) := by simp only [bicall, seqOf, h, Option.map_some]
theorem f_lstL {xs : List D} : bicall .list false [.lst xs] st = some (.lst xs, st) := nd rfl
theorem f_lstT {xs : List D} : bicall .list false [.tup xs] st = some (.lst xs, st) := nd rfl
theorem f_lstTm {xs : List D} : bicall .list true [.tup xs] st = some (.ref st.length, st ++ [.lst xs]) := nd rfl
theorem f_lstLm {xs : List D} : bicall .list true [.lst xs] st = some (.ref st.length, st ++ [.lst xs]) := nd rfl
theorem f_lstR {r : Nat} {xs : List D} (h : st[r]? = some (.lst xs)) : bicall .list m [.ref r] st = some (newL m xs st) := by simp only [bicall, seqOf, h, Option.map_some]
theorem newL_F {xs : List D} : newL false xs st = (.lst xs, st) := nd rfl
theorem newL_T {xs : List D} : newL true xs st = (.ref st.length, st ++ [.lst xs]) := nd rfl
theorem m_app {r : Nat} {xs : List D} {d : D} (h : st[r]? = some (.lst xs)) : wR (bmcall .append m (.ref r) [d] st) Q = (xs.length < lim ∧ Q .non (st.set r (.lst (xs ++ [d])))) := by
  simp only [bmcall, h]
  by_cases h2 : xs.length < lim <;> simp [h2, wR]
theorem m_extL {r : Nat} {xs ys : List D} {d : D} (h : st[r]? = some (.lst xs)) (h2 : seqOf st d = some ys) : wR (bmcall .extend m (.ref r) [d] st) Q = (xs.length + ys.length ≤ lim ∧ Q .non (st.set r (.lst (xs ++ ys)))) := by
  simp only [bmcall, h, h2, Option.bind_some]
  by_cases h2 : xs.length + ys.length ≤ lim <;> simp [h2, wR]
theorem m_ins {r : Nat} {xs : List D} {k : Int} {d : D} (h : st[r]? = some (.lst xs)) : wR (bmcall .insert m (.ref r) [.int k, d] st) Q = ((xs.length < lim ∧ 0 ≤ k ∧ k < 1000000) ∧ Q .non (st.set r (.lst (xs.take k.toNat ++ [d] ++ xs.drop k.toNat)))) := by
  simp only [bmcall, h]
  by_cases h1 : xs.length < lim <;> by_cases h2 : 0 ≤ k <;> by_cases h3 : k < 1000000 <;> simp [h1, h2, h3, wR]
theorem m_pop {r : Nat} {xs : List D} (h : st[r]? = some (.lst xs)) : wR (bmcall .pop m (.ref r) [] st) Q = wO xs.getLast? (fun d => Q d (st.set r (.lst xs.dropLast))) := by
  simp only [bmcall, h, List.getLast?_eq_getElem?]
  cases xs[xs.length - 1]? <;> rfl
theorem m_popI {r : Nat} {xs : List D} {k : Int} (h : st[r]? = some (.lst xs)) (h0 : 0 ≤ k) : wR (bmcall .pop m (.ref r) [.int k] st) Q = wO xs[k.toNat]? (fun d => Q d (st.set r (.lst (xs.eraseIdx k.toNat)))) := by
  simp only [bmcall, h, ixN, h0, if_true]
  by_cases h2 : k < xs.length
  · rw [if_pos h2]
    simp only [Option.bind_some]
    cases xs[k.toNat]? <;> rfl
  · rw [if_neg h2, List.getElem?_eq_none (by omega)]; rfl
theorem m_rev {r : Nat} {xs : List D} (h : st[r]? = some (.lst xs)) : bmcall .reverse m (.ref r) [] st = some (.non, st.set r (.lst xs.reverse)) := by
  simp only [bmcall, h]
/-! ### slices -/
theorem cut_ii {xs : List D} {i j : Int} (h : 0 ≤ i) (h2 : 0 ≤ j) : cut xs (.int i) (.int j) = some ((xs.drop i.toNat).take (j.toNat - i.toNat)) := by
  simp only [cut, sIx, show ¬ i < 0 by omega, show ¬ j < 0 by omega, if_false]
  congr 1
  by_cases h3 : i.toNat ≤ xs.length
  · rw [Nat.min_eq_left h3]
    by_cases h4 : j.toNat ≤ xs.length
    · rw [Nat.min_eq_left h4]
    · rw [Nat.min_eq_right (by omega), List.take_of_length_le (by simp), List.take_of_length_le (by simp; omega)]
  · rw [Nat.min_eq_right (show xs.length ≤ i.toNat by omega), List.drop_of_length_le (Nat.le_refl _), List.drop_of_length_le (show xs.length ≤ i.toNat by omega)]; simp
theorem cut_in {xs : List D} {i : Int} (h : 0 ≤ i) : cut xs (.int i) .non = some (xs.drop i.toNat) := by
  simp only [cut, sIx, show ¬ i < 0 by omega, if_false]
  congr 1
  by_cases h3 : i.toNat ≤ xs.length
  · rw [Nat.min_eq_left h3, List.take_of_length_le (by simp)]
  · rw [Nat.min_eq_right (show xs.length ≤ i.toNat by omega), List.drop_of_length_le (show xs.length ≤ i.toNat by omega), List.drop_of_length_le (Nat.le_refl _)]; simp
theorem cut_ni {xs : List D} {j : Int} (h : 0 ≤ j) : cut xs .non (.int j) = some (xs.take j.toNat) := by
  simp only [cut, sIx, show ¬ j < 0 by omega, if_false]
  congr 1
  simp only [List.drop_zero, Nat.sub_zero]
  by_cases h4 : j.toNat ≤ xs.length
  · rw [Nat.min_eq_left h4]
  · rw [Nat.min_eq_right (by omega), List.take_of_length_le (Nat.le_refl _), List.take_of_length_le (show xs.length ≤ j.toNat by omega)]
theorem cut_nm {xs : List D} : cut xs .non (.int (-1)) = some xs.dropLast := by
  simp only [cut, sIx]
  congr 1
  simp only [List.drop_zero, Nat.sub_zero, List.dropLast_eq_take]
  congr 1
  simp; omega
theorem sl_tup {xs : List D} {lo hi : D} : slice m (.tup xs) lo hi st = (cut xs lo hi).map fun ys => (.tup ys, st) := nd rfl
theorem sl_lst {xs : List D} {lo hi : D} : slice m (.lst xs) lo hi st = (cut xs lo hi).map fun ys => newL m ys st := nd rfl
theorem sl_ref {r : Nat} {xs : List D} {lo hi : D} (h : st[r]? = some (.lst xs)) : slice m (.ref r) lo hi st = (cut xs lo hi).map fun ys => newL m ys st := by
  simp only [slice, lstOf, h]
theorem po_n {d : D} : partOk (.cst .non) d = true := nd rfl
theorem po_i {e : IE} {i : Int} : partOk e (.int i) = true := by
  cases e <;> first | rfl | (rename_i d; cases d <;> rfl)
/-! ### walks -/
/-- what a turn of a walk leaves -/
def loopQ (I : Env → Sto → Prop) (Q : Out → Prop) [Tag I] [Tag Q] : Out → Prop
  | .nx e s => I e s
  | .ct e s => I e s
  | .bk e s => Q (.nx e s)
  | .rt d s => Q (.rt d s)
theorem loopQ_nx {I : Env → Sto → Prop} {Q : Out → Prop} {e : Env} {s : Sto} : loopQ I Q (.nx e s) = I e s := nd rfl
theorem loopQ_ct {I : Env → Sto → Prop} {Q : Out → Prop} {e : Env} {s : Sto} : loopQ I Q (.ct e s) = I e s := nd rfl
theorem loopQ_bk {I : Env → Sto → Prop} {Q : Out → Prop} {e : Env} {s : Sto} : loopQ I Q (.bk e s) = Q (.nx e s) := nd rfl
theorem loopQ_rt {I : Env → Sto → Prop} {Q : Out → Prop} {d : D} {s : Sto} : loopQ I Q (.rt d s) = Q (.rt d s) := nd rfl
theorem wF_inv {t : Tg} {b : List IS} {src : Src} {xs : List D} {env : Env} {st : Sto} {Q : Out → Prop} (I : Nat → Env → Sto → Prop) (h0 : I 0 env st)
    (step : ∀ (i : Nat) (x : D) (env : Env) (st : Sto), xs[i]? = some x → I i env st → wA P C t x env st (fun e s => wSs P C b e s (loopQ (I (i + 1)) Q)))
    (fin : ∀ env st, I xs.length env st → Q (.nx env st)) (hc : ∀ i env st, I i env st → chk st src = true := by exact fun _ _ _ _ => rfl) : wF P C t b src xs env st Q := by
  have gen : ∀ (ys : List D) (i : Nat) (env : Env) (st : Sto), xs.drop i = ys → i + ys.length = xs.length → I i env st → wF P C t b src ys env st Q := by
    intro ys
    induction ys with
    | nil =>
      intro i env st hd hl hI
      have : i = xs.length := by simpa using hl
      subst this
      simp only [wF, forL, hc _ _ _ hI, if_true, wOut]
      exact fin _ _ hI
    | cons y ys ih =>
      intro i env st hd hl hI
      have hx : xs[i]? = some y := by
        have := congrArg (·[0]?) hd
        simpa using this
      have hs := step i y env st hx hI
      have hd2 : xs.drop (i + 1) = ys := by
        have := congrArg List.tail hd
        simpa [List.tail_drop] using this
      have hl2 : i + 1 + ys.length = xs.length := by simp only [List.length_cons] at hl; omega
      simp only [wF, forL, hc _ _ _ hI, Bool.not_true, Bool.false_eq_true, if_false]
      unfold wA at hs
      cases ha : asgT P C t y env st with
      | none => rw [ha] at hs; exact hs.elim
      | some p =>
        rw [ha] at hs
        simp only [wEn] at hs
        unfold wSs at hs
        obtain ⟨e1, s1⟩ := p
        simp only
        cases hb : exSs P C b e1 s1 with
        | none => rw [hb] at hs; exact hs.elim
        | some o =>
          rw [hb] at hs
          simp only [wOut] at hs
          cases o with
          | nx e s => exact ih (i + 1) e s hd2 hl2 hs
          | ct e s => exact ih (i + 1) e s hd2 hl2 hs
          | bk e s => exact hs
          | rt d s => exact hs
  exact gen xs 0 env st (by simp) (by simp) h0
/-- a comprehension without a test, by what its items are -/
theorem wC_get {t : Tg} {e : IE} {src : Src} {xs : List D} {env : Env} {st : Sto} {Q : List D → Sto → Prop} (ys : List D) (hc : chk st src = true) (hl : ys.length = xs.length)
    (step : ∀ (i : Nat) (x : D), xs[i]? = some x → wA P C t x env st (fun e1 s1 => wE P C e e1 s1 (fun d s => ys[i]? = some d ∧ s = st))) (h : Q ys st) : wC P C t [] e src xs env st Q := by
  have gen : ∀ (zs ws : List D), zs.length = ws.length → (∀ (i : Nat) (x : D), zs[i]? = some x → wA P C t x env st (fun e1 s1 => wE P C e e1 s1 (fun d s => ws[i]? = some d ∧ s = st))) →
      compL (fun d env st => asgT P C t d env st) (fun env st => evTs P C [] env st) (fun env st => evE P C e env st) src env zs st = some (ws, st) := by
    intro zs
    induction zs with
    | nil => intro ws hl _; have : ws = [] := List.eq_nil_of_length_eq_zero (by simpa using hl.symm); subst this; simp [compL, hc]
    | cons z zs ih =>
      intro ws hl hs
      cases ws with
      | nil => simp at hl
      | cons w ws =>
        have h1 := hs 0 z rfl
        unfold wA at h1
        cases ha : asgT P C t z env st with
        | none => rw [ha] at h1; exact h1.elim
        | some p =>
          rw [ha] at h1
          simp only [wEn] at h1
          unfold wE at h1
          cases hb : evE P C e p.1 p.2 with
          | none => rw [hb] at h1; exact h1.elim
          | some q =>
            rw [hb] at h1
            simp only [wR, List.getElem?_cons_zero, Option.some.injEq] at h1
            have := ih ws (by simpa using hl) fun i x hx => by simpa using hs (i + 1) x (by simpa using hx)
            obtain ⟨h2, h3⟩ := h1
            obtain ⟨e1, s1⟩ := p
            obtain ⟨d, s⟩ := q
            simp only at h2 h3 hb
            subst h2; subst h3
            have ht0 : evTs P C [] e1 s1 = some (true, s1) := rfl
            simp only [compL, hc, Bool.not_true, Bool.false_eq_true, if_false, ha, ht0, hb, this]
  unfold wC
  rw [gen xs ys hl.symm step]
  exact h
/-- .. by the mapped list -/
theorem wC_map {α : Type} {t : Tg} {e : IE} {src : Src} {xs : List D} {env : Env} {st : Sto} {Q : List D → Sto → Prop} (l : List α) (f g : α → D) (hx : xs = l.map f) (hc : chk st src = true)
    (step : ∀ a ∈ l, wA P C t (f a) env st (fun e1 s1 => wE P C e e1 s1 (fun d s => d = g a ∧ s = st))) (h : Q (l.map g) st) : wC P C t [] e src xs env st Q := by
  subst hx
  refine wC_get (l.map g) hc (by simp) (fun i x hx => ?_) h
  rw [List.getElem?_map] at hx
  obtain ⟨a, ha, rfl⟩ := Option.map_eq_some_iff.mp hx
  have := step a (List.mem_of_getElem? ha)
  rw [List.getElem?_map, ha]
  have e : (fun d s => d = g a ∧ s = st) = (fun d s => Option.map g (some a) = some d ∧ s = st) := by
    funext d s; simp [eq_comm]
  rw [e] at this
  exact this
/-- .. all of whose items are true -/
theorem wC_true {t : Tg} {e : IE} {src : Src} {xs : List D} {env : Env} {st : Sto} {Q : List D → Sto → Prop} (hc : chk st src = true)
    (step : ∀ (i : Nat) (x : D), xs[i]? = some x → wA P C t x env st (fun e1 s1 => wE P C e e1 s1 (fun d s => d = .bl true ∧ s = st))) (h : Q (trues xs.length) st) : wC P C t [] e src xs env st Q := by
  refine wC_get _ hc (by simp [trues]) (fun i x hx => ?_) h
  have h1 := step i x hx
  have h2 : (trues xs.length)[i]? = some (.bl true) := by
    have := (List.getElem?_eq_some_iff.mp hx).1
    rw [trues, List.getElem?_replicate, if_pos this]
  rw [h2]
  have e : (fun (d : D) (s : Sto) => d = .bl true ∧ s = st) = (fun d s => some (D.bl true) = some d ∧ s = st) := by
    funext d s; simp [eq_comm]
  rw [e] at h1
  exact h1
/-- .. with a test -/
theorem wC_filt {α : Type} {t : Tg} {c : Ts} {cs : List Ts} {e : IE} {src : Src} {xs : List D} {env : Env} {st : Sto} {Q : List D → Sto → Prop} (l : List α) (f : α → D) (p : α → Bool) (g : α → D) (hx : xs = l.map f) (hc : chk st src = true)
    (step : ∀ a ∈ l, wA P C t (f a) env st (fun e1 s1 => wT P C c e1 s1 (fun b s => b = p a ∧ s = st ∧ (p a = true → wE P C e e1 s (fun d s => d = g a ∧ s = st))))) (h : Q ((l.filter p).map g) st) : wC P C t (c :: cs) e src xs env st Q := by
  subst hx
  have gen : ∀ (l : List α), (∀ a ∈ l, wA P C t (f a) env st (fun e1 s1 => wT P C c e1 s1 (fun b s => b = p a ∧ s = st ∧ (p a = true → wE P C e e1 s (fun d s => d = g a ∧ s = st))))) →
      compL (fun d env st => asgT P C t d env st) (fun env st => evTs P C (c :: cs) env st) (fun env st => evE P C e env st) src env (l.map f) st = some ((l.filter p).map g, st) := by
    intro l
    induction l with
    | nil => intro _; simp [compL, hc]
    | cons z zs ih =>
      intro hs
      have h1 := hs z (List.mem_cons_self ..)
      have ih := ih fun a ha => hs a (List.mem_cons_of_mem _ ha)
      unfold wA at h1
      cases ha : asgT P C t (f z) env st with
      | none => rw [ha] at h1; exact h1.elim
      | some q =>
        rw [ha] at h1
        simp only [wEn] at h1
        unfold wT at h1
        cases ht : evT P C c q.1 q.2 with
        | none => rw [ht] at h1; exact h1.elim
        | some r =>
          rw [ht] at h1
          obtain ⟨e1, s1⟩ := q
          obtain ⟨b, s2⟩ := r
          simp only [wTr] at h1 ht
          obtain ⟨hb, hs2, h1⟩ := h1
          subst hs2
          cases hp : p z with
          | false =>
            have ht0 : evTs P C (c :: cs) e1 s1 = evT P C c e1 s1 := rfl
            rw [hp] at hb
            subst hb
            simp only [List.map_cons, compL, hc, Bool.not_true, Bool.false_eq_true, if_false, ha, ht0, ht, ih, List.filter_cons, hp]
          | true =>
            have ht0 : evTs P C (c :: cs) e1 s1 = evT P C c e1 s1 := rfl
            rw [hp] at hb
            subst hb
            have h1 := h1 hp
            unfold wE at h1
            cases he : evE P C e e1 s2 with
            | none => rw [he] at h1; exact h1.elim
            | some r =>
              rw [he] at h1
              obtain ⟨d, s3⟩ := r
              simp only [wR] at h1
              obtain ⟨rfl, rfl⟩ := h1
              simp only [List.map_cons, compL, hc, Bool.not_true, Bool.false_eq_true, if_false, ha, ht0, ht, he, ih, List.filter_cons, hp, if_true]
  unfold wC
  rw [gen l step]
  exact h
/-- .. that may change the store: of what its items are is known R -/
theorem wC_inv {t : Tg} {e : IE} {src : Src} {xs : List D} {env : Env} {st : Sto} {Q : List D → Sto → Prop} (R : Nat → D → Prop) (I : Nat → Sto → Prop) (h0 : I 0 st)
    (step : ∀ (i : Nat) (x : D) (st : Sto), xs[i]? = some x → I i st → wA P C t x env st (fun e1 s1 => wE P C e e1 s1 (fun d s => R i d ∧ I (i + 1) s)))
    (fin : ∀ ys st, ys.length = xs.length → (∀ (i : Nat) (d : D), ys[i]? = some d → R i d) → I xs.length st → Q ys st) (hc : ∀ i st, I i st → chk st src = true := by exact fun _ _ _ => rfl) : wC P C t [] e src xs env st Q := by
  have gen : ∀ (zs : List D) (i : Nat) (st : Sto), xs.drop i = zs → i + zs.length = xs.length → I i st → ∃ ws st', compL (fun d env st => asgT P C t d env st) (fun env st => evTs P C [] env st) (fun env st => evE P C e env st) src env zs st = some (ws, st') ∧
      ws.length = zs.length ∧ (∀ (j : Nat) (d : D), ws[j]? = some d → R (i + j) d) ∧ I xs.length st' := by
    intro zs
    induction zs with
    | nil =>
      intro i st hd hl hI
      have : i = xs.length := by simpa using hl
      subst this
      exact ⟨[], st, by simp [compL, hc _ _ hI], rfl, by simp, hI⟩
    | cons z zs ih =>
      intro i st hd hl hI
      have hx : xs[i]? = some z := by
        have := congrArg (·[0]?) hd
        simpa using this
      have h1 := step i z st hx hI
      have hd2 : xs.drop (i + 1) = zs := by
        have := congrArg List.tail hd
        simpa [List.tail_drop] using this
      have hl2 : i + 1 + zs.length = xs.length := by simp only [List.length_cons] at hl; omega
      unfold wA at h1
      cases ha : asgT P C t z env st with
      | none => rw [ha] at h1; exact h1.elim
      | some p =>
        rw [ha] at h1
        simp only [wEn] at h1
        unfold wE at h1
        obtain ⟨e1, s1⟩ := p
        simp only at h1
        cases hb : evE P C e e1 s1 with
        | none => rw [hb] at h1; exact h1.elim
        | some q =>
          rw [hb] at h1
          obtain ⟨d, s2⟩ := q
          simp only [wR] at h1
          obtain ⟨ws, st', g1, g2, g3, g4⟩ := ih (i + 1) s2 hd2 hl2 h1.2
          have ht0 : evTs P C [] e1 s1 = some (true, s1) := rfl
          refine ⟨d :: ws, st', by simp only [compL, hc _ _ hI, Bool.not_true, Bool.false_eq_true, if_false, ha, ht0, hb, g1], by simp [g2], fun j d' hj => ?_, g4⟩
          cases j with
          | zero => simp only [List.getElem?_cons_zero, Option.some.injEq] at hj; subst hj; exact h1.1
          | succ j => have := g3 j d' (by simpa using hj); rwa [Nat.add_right_comm] at this
  obtain ⟨ws, st', g1, g2, g3, g4⟩ := gen xs 0 st (by simp) (by simp) h0
  unfold wC
  rw [g1]
  exact fin ws st' g2 (fun i d h => by simpa using g3 i d h) g4
/-- while, by a measure -/
theorem wW_inv {c : Ts} {b : List IS} {env : Env} {st : Sto} {Q : Out → Prop} (I : Nat → Env → Sto → Prop) {n : Nat} (hn : n < 1000000000) (h0 : I n env st)
    (step : ∀ k env st, I k env st → wT P C c env st (fun t s => if t = true then wSs P C b env s (loopQ (fun e s => ∃ j, j < k ∧ I j e s) Q) else Q (.nx env s))) : wW P C c b env st Q := by
  have gen : ∀ (f k : Nat) (env : Env) (st : Sto), k < f → I k env st → wOut (whlL (fun env st => evT P C c env st) (fun env st => exSs P C b env st) f env st) Q := by
    intro f
    induction f with
    | zero => intro k env st h _; omega
    | succ f ih =>
      intro k env st hk hI
      have h1 := step k env st hI
      unfold wT at h1
      simp only [whlL]
      cases ht : evT P C c env st with
      | none => rw [ht] at h1; exact h1.elim
      | some r =>
        rw [ht] at h1
        obtain ⟨t, s⟩ := r
        simp only [wTr] at h1
        cases t with
        | false => simpa [wOut] using h1
        | true =>
          simp only [if_true] at h1
          unfold wSs at h1
          cases hb : exSs P C b env s with
          | none => rw [hb] at h1; exact h1.elim
          | some o =>
            rw [hb] at h1
            simp only [wOut] at h1
            cases o with
            | nx e s => obtain ⟨j, hj, hI⟩ := h1; simp only [hb]; exact ih j e s (by omega) hI
            | ct e s => obtain ⟨j, hj, hI⟩ := h1; simp only [hb]; exact ih j e s (by omega) hI
            | bk e s => simp only [hb]; exact h1
            | rt d s => simp only [hb]; exact h1
  exact gen wfuel n env st hn h0
/-- a statement by what it leaves -/
theorem wSs_cut {s : IS} {ss : List IS} {env : Env} {st : Sto} {Q : Out → Prop} (M : Env → Sto → Prop) (h1 : wS P C s env st (fun o => ∃ e s', o = .nx e s' ∧ M e s')) (h2 : ∀ e s', M e s' → wSs P C ss e s' Q) : wSs P C (s :: ss) env st Q := by
  rw [wSs_cons]
  unfold wS at h1 ⊢
  cases h : exS P C s env st with
  | none => rw [h] at h1; exact h1.elim
  | some o =>
    rw [h] at h1
    obtain ⟨e, s', rfl, hm⟩ := h1
    exact h2 e s' hm
theorem wR_mono {r : Rv} {Q Q' : D → Sto → Prop} (h : wR r Q) (k : ∀ d s, Q d s → Q' d s) : wR r Q' := by
  cases r with
  | none => exact h.elim
  | some p => exact k _ _ h
theorem wO_mono {α : Type} {r : Option α} {Q Q' : α → Prop} (h : wO r Q) (k : ∀ d, Q d → Q' d) : wO r Q' := by
  cases r with
  | none => exact h.elim
  | some p => exact k _ h
theorem wE_cut {e : IE} {env : Env} {st : Sto} {Q Q' : D → Sto → Prop} (h : wE P C e env st Q) (k : ∀ d s, Q d s → Q' d s) : wE P C e env st Q' := wR_mono h k
/-! ### calls -/
variable {fns : Nat → Option Fn} {k f : Nat} {F : Fn} {ds : List D}
theorem call_w {P : Pg} {st : Sto} {Q : D → Sto → Prop} {np ns : Nat} {body : List IS} (h : fns f = some ⟨np, ns, body⟩) (hl : ds.length = np) : wR (callN P fns (k + 1) f ds st) Q = wSs P (callN P fns k) body (ds.map some ++ List.replicate (ns - np) none) st (finQ Q) := by
  simp only [callN, h, runFn, hl, if_true]
  unfold wSs
  cases exSs P (callN P fns k) body (ds.map some ++ List.replicate (ns - np) none) st with
  | none => rfl
  | some o => cases o <;> rfl
/-- what a pure call comes to -/
@[irreducible] def PW (C : Call) (f : Nat) (es : List D) (R : D → Prop) : Prop := wR (C f es []) (fun v s => ∃ w, deref s v = some w ∧ w.noRef = true ∧ R w)
theorem noRefL_all : ∀ {xs : List D}, noRefL xs = xs.all D.noRef
  | [] => rfl
  | x :: xs => by simp only [noRefL, List.all_cons, noRefL_all]
theorem deref_plain {d : D} (h : d.noRef = true) : deref st d = some d := by
  unfold deref; rw [if_pos h]
theorem mapM_deref : ∀ {ds : List D}, ds.all D.noRef = true → ds.mapM (deref st) = some ds
  | [], _ => rfl
  | d :: ds, h => by
    simp only [List.all_cons, Bool.and_eq_true] at h
    simp [List.mapM_cons, deref_plain h.1, mapM_deref h.2]
theorem PW.use {R : D → Prop} {Q : D → Prop} (h : PW C f ds R) (hn : ds.all D.noRef = true) (k : ∀ v, v.noRef = true → R v → Q v) : wO (pcall C f ds st) Q := by
  unfold PW at h
  unfold pcall
  rw [mapM_deref hn]
  simp only [Option.bind_eq_bind, Option.bind_some]
  cases hc : C f ds [] with
  | none => rw [hc] at h; exact h.elim
  | some p =>
    rw [hc] at h
    obtain ⟨v, s⟩ := p
    obtain ⟨w, h1, h2, h3⟩ := h
    simp only [Option.bind_some, h1, hn, Bool.true_or, if_true]
    exact k w h2 h3
theorem PW.eq {v : D} (h : PW C f ds (fun w => w = v)) (hn : ds.all D.noRef = true) : pcall C f ds st = some v := by
  have := h.use (st := st) (Q := fun w => pcall C f ds st = some w → pcall C f ds st = some v) hn fun w _ e => by rw [e]; exact id
  cases hc : pcall C f ds st with
  | none => rw [hc] at this; exact this.elim
  | some w => rw [hc] at this; exact this rfl
/-! ### draws -/
structure Lt where
  a : Int
  b : Int
  c : Nat
def Lt.ob (L : Lt) : Ob := .lst [.int L.a, .int L.b, .int L.c]
/-- what a drawing call comes to: L0 numbers were drawn at most, N are -/
def DW (C : Call) (f : Nat) (es : List D) (n0 N : Nat) (R : D → Prop) : Prop := ∀ L : Lt, L.c ≤ n0 → wR (C f (.ref 0 :: es) [L.ob]) (fun v s => v.noRef = true ∧ R v ∧ ∃ (L' : Lt) (g : Sto), s = L'.ob :: g ∧ L'.c ≤ L.c + N)
theorem noRef_ne {e : D} {r : Nat} (h : e.noRef = true) : e ≠ .ref r := fun z => by subst z; simp [D.noRef] at h
theorem DW.use {R : D → Prop} {Q : D → Sto → Prop} {es : List D} {n0 N r : Nat} {L : Lt} (h : DW C f es n0 N R) (hs : st[r]? = some L.ob) (hL : L.c ≤ n0) (k : ∀ v (L' : Lt), v.noRef = true → R v → L'.c ≤ L.c + N → Q v (st.set r L'.ob)) (hn : es.all D.noRef = true := by rfl) : wR (dcall C f (.ref r :: es) st) Q := by
  have h := h L hL
  unfold dcall
  simp only [hs, Lt.ob]
  have hall : (es.all fun e => !decide (e = .ref r)) = true := by
    refine List.all_eq_true.mpr fun e he => ?_
    have := noRef_ne (r := r) (List.all_eq_true.mp hn e he)
    simpa using this
  simp only [List.all_cons, List.all_nil, D.plain, Bool.and_self, hall, if_true, mapM_deref hn]
  unfold Lt.ob at h
  cases hc : C f (.ref 0 :: es) [.lst [.int L.a, .int L.b, .int L.c]] with
  | none => rw [hc] at h; exact h.elim
  | some p =>
    rw [hc] at h
    obtain ⟨v, s⟩ := p
    obtain ⟨h1, h2, L', g, rfl, h3⟩ := h
    have hv : (decide (v = .ref 0)) = false := by simpa using noRef_ne h1
    simp only [List.getElem?_cons_zero, deref_plain h1, List.all_cons, List.all_nil, D.plain, Bool.and_self, hv, Bool.not_false, hn, Bool.true_or, if_true, wR]
    exact k v L' h1 h2 h3
/-- what a call comes to that tells a new list -/
@[irreducible] def FW (C : Call) (f : Nat) (es : List D) (R : List D → Prop) : Prop := wR (C f es []) (fun v s => ∃ n xs, v = .ref n ∧ s[n]? = some (.lst xs) ∧ xs.all D.noRef = true ∧ R xs)
theorem FW.use {R : List D → Prop} {Q : D → Sto → Prop} (h : FW C f ds R) (k : ∀ xs, xs.all D.noRef = true → R xs → Q (.ref st.length) (st ++ [.lst xs])) (hn : ds.all D.noRef = true := by rfl) : wR (fcall C f ds st) Q := by
  unfold FW at h
  unfold fcall
  rw [mapM_deref hn]
  simp only
  cases hc : C f ds [] with
  | none => rw [hc] at h; exact h.elim
  | some p =>
    rw [hc] at h
    obtain ⟨v, s⟩ := p
    obtain ⟨n, xs, rfl, h1, h2, h3⟩ := h
    simp only [h1, noRefL_all, h2, hn, Bool.true_or, Bool.and_self, if_true, wR]
    exact k xs h2 h3
/-- an item of a list, whichever -/
theorem ixc {xs : List D} {k : Int} {F : D → Prop} (h1 : k < xs.length) (h0 : 0 ≤ k) (h : ∀ x ∈ xs, F x) : wO xs[k.toNat]? F := by
  rw [List.getElem?_eq_getElem (by omega)]
  exact h _ (List.getElem_mem _)
theorem ixm {α : Type} {g : α → D} {l : List α} {k : Int} {F : D → Prop} (h0 : 0 ≤ k) (h1 : k < l.length) (h : ∀ x, l[k.toNat]? = some x → F (g x)) : wO (l.map g)[k.toNat]? F := by
  have hlt : k.toNat < l.length := by omega
  rw [List.getElem?_map, List.getElem?_eq_getElem hlt]
  exact h _ (List.getElem?_eq_getElem hlt)
end
end Pm

namespace Pm
/-- 0: is_number -/
def f_is_number_k01 : Fn := ⟨2, 2, [(.ret (.and (.isi (.var 0) [.int]) (.and (.not (.isi (.var 0) [.bool])) (.cmp .ge (.var 0) (.var 1)))))]⟩
/-- 5: _law_mix -/
def f_L_mix : Fn := ⟨2, 3, [(.asg (.nm 2) (.bin .mod false (.bin .mul false (.bin .add false (.bin .add false (.bin .mod false (.var 0) (.cst (.int (2147483629)))) (.bin .mul false (.bin .mul false (.var 1) (.var 1)) (.cst (.int (7919))))) (.cst (.int (11)))) (.cst (.int (48271)))) (.cst (.int (2147483647))))),
  (.ret (.bin .mod false (.bin .mul false (.var 2) (.var 2)) (.cst (.int (1999999973)))))]⟩
/-- 6: _law_left -/
def f_L_left : Fn := ⟨2, 3, [(.asg (.nm 2) (.ife (.val (.cmp .lt (.var 1) (.bi .len false [(.var 0)]))) (.idx (.var 0) (.var 1)) (.cst (.int (0))))),
  (.ret (.lst true [(.bin .mul false (.bi .abs false [(.var 2)]) (.bi .int false [(.cmp .ge (.bi .abs false [(.var 2)]) (.bin .pow false (.cst (.int (10))) (.cst (.int (18)))))])), (.bin .add false (.var 2) (.bin .mul false (.cst (.int (1000003))) (.var 1))), (.cst (.int (0)))]))]⟩
/-- 7: _law_pick -/
def f_L_pick_k01 : Fn := ⟨2, 3, [(.asg (.sub (.var 0) (.cst (.int (2)))) (.bin .add false (.idx (.var 0) (.cst (.int (2)))) (.cst (.int (1))))),
  (.ife (.val (.cmp .gt (.idx (.var 0) (.cst (.int (0)))) (.cst (.int (0))))) [(.asg (.nm 2) (.bin .mod false (.idx (.var 0) (.cst (.int (0)))) (.var 1))), (.asg (.sub (.var 0) (.cst (.int (0)))) (.bin .fdiv false (.idx (.var 0) (.cst (.int (0)))) (.var 1))), (.ret (.var 2))] []),
  (.ret (.bin .mod false (.bin .fdiv false (.call 5 0 [(.call 5 0 [(.idx (.var 0) (.cst (.int (1)))), (.idx (.var 0) (.cst (.int (2))))]), (.bin .add false (.idx (.var 0) (.cst (.int (2)))) (.cst (.int (64))))]) (.cst (.int (64)))) (.var 1)))]⟩
/-- 27: _law_same -/
def f_L_same_k02 : Fn := ⟨2, 4, [(.ife (.val (.isi (.var 1) [.list, .tuple])) [(.ife (.or (.val (.cmp .ne (.isi (.var 0) [.list]) (.isi (.var 1) [.list]))) (.val (.cmp .ne (.isi (.var 0) [.tuple]) (.isi (.var 1) [.tuple])))) [(.ret (.cst (.bl false)))] []), (.ret (.and (.cmp .eq (.bi .len false [(.var 0)]) (.bi .len false [(.var 1)])) (.bi .all false [(.comp false [2, 3] (.tup [(.nm 2), (.nm 3)]) (.zip (.var 0) (.var 1)) [] (.call 27 0 [(.var 2), (.var 3)]))])))] []),
  (.ife (.or (.val (.cmp .is (.var 1) (.cst (.non)))) (.val (.isi (.var 1) [.str]))) [(.ret (.and (.cmp .eq (.var 0) (.var 1)) (.cmp .eq (.isi (.var 0) [.str]) (.isi (.var 1) [.str]))))] []),
  (.ife (.val (.isi (.var 1) [.bool])) [(.ret (.and (.isi (.var 0) [.bool]) (.cmp .eq (.var 0) (.var 1))))] []),
  (.ret (.and (.isi (.var 0) [.int]) (.and (.not (.isi (.var 0) [.bool])) (.cmp .eq (.var 0) (.var 1)))))]⟩
/-- 52: is_change_row -/
def f_is_change_row_k07 : Fn := ⟨2, 3, [(.ife (.or (.not (.val (.isi (.var 1) [.tuple]))) (.or (.val (.cmp .ne (.bi .len false [(.var 1)]) (.cst (.int (3))))) (.not (.val (.bi .all false [(.comp false [2] (.nm 2) (.val (.var 1)) [] (.call 0 0 [(.var 2), (.cst (.int (0)))]))]))))) [(.ret (.cst (.bl false)))] []),
  (.ret (.and (.cmp .lt (.idx (.var 1) (.cst (.int (0)))) (.var 0)) (.and (.cmp .lt (.idx (.var 1) (.cst (.int (1)))) (.var 0)) (.and (.cmp .ne (.idx (.var 1) (.cst (.int (0)))) (.idx (.var 1) (.cst (.int (1))))) (.cmp .gt (.idx (.var 1) (.cst (.int (2)))) (.cst (.int (0))))))))]⟩
/-- 53: is_stock -/
def f_is_stock_k07 : Fn := ⟨1, 8, [(.ife (.or (.not (.val (.isi (.var 0) [.tuple]))) (.or (.val (.cmp .ne (.bi .len false [(.var 0)]) (.cst (.int (2))))) (.not (.val (.bi .all false [(.comp false [1] (.nm 1) (.val (.var 0)) [] (.isi (.var 1) [.tuple]))]))))) [(.ret (.cst (.bl false)))] []),
  (.asg (.tup [(.nm 2), (.nm 3)]) (.var 0)),
  (.ife (.not (.val (.bi .all false [(.comp false [4] (.nm 4) (.val (.var 2)) [] (.call 0 0 [(.var 4), (.cst (.int (1)))]))]))) [(.ret (.cst (.bl false)))] []),
  (.ife (.not (.val (.bi .all false [(.comp false [5] (.nm 5) (.val (.var 3)) [] (.call 52 0 [(.bi .len false [(.var 2)]), (.var 5)]))]))) [(.ret (.cst (.bl false)))] []),
  (.ret (.bi .all false [(.comp false [6, 7] (.tup [(.nm 6), (.nm 7)]) (.zip (.var 3) (.slc false (.var 3) (.cst (.int (1))) (.cst (.non)))) [] (.cmp .lt (.slc false (.var 6) (.cst (.non)) (.cst (.int (2)))) (.slc false (.var 7) (.cst (.non)) (.cst (.int (2))))))]))]⟩
/-- 57: _law_size -/
def f_L_size_k07 : Fn := ⟨2, 3, [(.asg (.nm 2) (.call 7 2 [(.var 0), (.cst (.int (4)))])),
  (.ife (.and (.val (.cmp .eq (.var 2) (.cst (.int (3))))) (.val (.cmp .eq (.var 1) (.cst (.int (0)))))) [(.ret (.bin .add false (.cst (.int (1))) (.call 7 2 [(.var 0), (.bin .sub false (.bin .pow false (.cst (.int (10))) (.cst (.int (9)))) (.cst (.int (20))))])))] []),
  (.ret (.bin .add false (.cst (.int (1))) (.call 7 2 [(.var 0), (.idx (.lst false [(.cst (.int (9))), (.cst (.int (9))), (.cst (.int (40))), (.cst (.int (3)))]) (.var 2))])))]⟩
/-- 66: sizes_of -/
def f_sizes_of : Fn := ⟨1, 4, [(.ret (.bi .dictT false [(.comp false [1, 2, 3] (.tup [(.nm 1), (.nm 2), (.nm 3)]) (.val (.idx (.var 0) (.cst (.int (1))))) [] (.tup [(.tup [(.var 1), (.var 2)]), (.var 3)]))]))]⟩
/-- 67: is_kept_so -/
def f_is_kept_so_k08 : Fn := ⟨4, 4, [(.ife (.val (.cmp .is (.var 3) (.cst (.non)))) [(.ret (.cst (.bl true)))] []),
  (.ret (.and (.call 0 0 [(.var 3), (.cst (.int (0)))]) (.and (.cmp .lt (.var 3) (.var 1)) (.cmp .in_ (.tup [(.var 3), (.var 2)]) (.var 0)))))]⟩
/-- 68: comes_home -/
def f_comes_home : Fn := ⟨2, 4, [(.asg (.nm 2) (.var 1)),
  (.for_ (.nm 3) (.rng [(.bi .len false [(.var 0)])]) [(.ife (.val (.cmp .isn (.var 2) (.cst (.non)))) [(.asg (.nm 2) (.idx (.var 0) (.var 2)))] [])]),
  (.ret (.cmp .is (.var 2) (.cst (.non))))]⟩
/-- 69: is_laying -/
def f_is_laying_k08 : Fn := ⟨2, 6, [(.asg (.nm 2) (.bi .len false [(.idx (.var 0) (.cst (.int (0))))])),
  (.ife (.or (.not (.val (.isi (.var 1) [.tuple]))) (.val (.cmp .ne (.bi .len false [(.var 1)]) (.var 2)))) [(.ret (.cst (.bl false)))] []),
  (.asg (.nm 3) (.call 66 0 [(.var 0)])),
  (.ife (.not (.val (.bi .all false [(.comp false [4, 5] (.tup [(.nm 4), (.nm 5)]) (.enm (.var 1)) [] (.call 67 0 [(.var 3), (.var 2), (.var 4), (.var 5)]))]))) [(.ret (.cst (.bl false)))] []),
  (.ret (.bi .all false [(.comp false [4] (.nm 4) (.rng [(.var 2)]) [] (.call 68 0 [(.var 1), (.var 4)]))]))]⟩
/-- 80: taken_by -/
def f_taken_by : Fn := ⟨4, 4, [(.ret (.ife (.val (.cmp .is (.var 3) (.cst (.non)))) (.idx (.idx (.var 0) (.cst (.int (0)))) (.var 2)) (.idx (.var 1) (.tup [(.var 3), (.var 2)]))))]⟩
/-- 81: room -/
def f_room : Fn := ⟨2, 5, [(.asg (.nm 2) (.call 66 0 [(.var 0)])),
  (.ret (.bi .sum false [(.comp false [3, 4] (.tup [(.nm 3), (.nm 4)]) (.enm (.var 1)) [] (.call 80 0 [(.var 0), (.var 2), (.var 3), (.var 4)]))]))]⟩
/-- 82: way -/
def f_way : Fn := ⟨2, 3, [(.asg (.nm 2) (.lst true [(.var 1)])),
  (.whl (.val (.cmp .isn (.idx (.var 0) (.idx (.var 2) (.neg (.cst (.int (1)))))) (.cst (.non)))) [(.expr (.bm .append false (.var 2) [(.idx (.var 0) (.idx (.var 2) (.neg (.cst (.int (1))))))]))]),
  (.ret (.trev (.var 2)))]⟩
/-- 83: deep -/
def f_deep : Fn := ⟨2, 2, [(.ret (.bin .sub false (.bi .len false [(.call 82 0 [(.var 0), (.var 1)])]) (.cst (.int (1)))))]⟩
/-- 84: reads -/
def f_reads : Fn := ⟨2, 6, [(.asg (.nm 2) (.call 66 0 [(.var 0)])),
  (.asg (.nm 3) (.lst true [])),
  (.for_ (.nm 4) (.rng [(.bi .len false [(.var 1)])]) [(.expr (.bm .append false (.var 3) [(.bi .sum false [(.comp false [5] (.nm 5) (.val (.call 82 0 [(.var 1), (.var 4)])) [] (.call 80 0 [(.var 0), (.var 2), (.var 5), (.idx (.var 1) (.var 5))]))])]))]),
  (.ret (.bi .tuple false [(.var 3)]))]⟩
/-- 86: row_laying -/
def f_row_laying : Fn := ⟨2, 3, [(.ret (.bi .tuple false [(.comp false [2] (.nm 2) (.rng [(.bi .len false [(.idx (.var 0) (.cst (.int (0))))])]) [] (.ife (.val (.cmp .in_ (.var 2) (.var 1))) (.cst (.non)) (.bin .sub false (.var 2) (.cst (.int (1))))))]))]⟩
/-- 204: row_stock -/
def f_row_stock : Fn := ⟨1, 5, [(.asg (.tup [(.nm 1), (.nm 2)]) (.var 0)),
  (.ret (.tup [(.bi .tuple false [(.var 1)]), (.bi .tuple false [(.comp false [3, 4] (.tup [(.nm 3), (.nm 4)]) (.enm (.var 2)) [] (.tup [(.var 3), (.bin .add false (.var 3) (.cst (.int (1)))), (.var 4)]))])]))]⟩
/-- 205: _law_row -/
def f_L_row_k29 : Fn := ⟨2, 6, [(.asg (.nm 2) (.ife (.val (.cmp .gt (.call 7 2 [(.var 0), (.cst (.int (8)))]) (.cst (.int (0))))) (.bin .add false (.cst (.int (1))) (.call 7 2 [(.var 0), (.cst (.int (7)))])) (.bin .add false (.cst (.int (8))) (.call 7 2 [(.var 0), (.bin .sub false (.var 1) (.cst (.int (7))))])))),
  (.asg (.nm 3) (.call 7 2 [(.var 0), (.cst (.int (4)))])),
  (.asg (.nm 4) (.bi .tuple false [(.comp false [5] (.nm 5) (.rng [(.var 2)]) [] (.bin .add false (.call 57 2 [(.var 0), (.var 3)]) (.idx (.lst false [(.cst (.int (0))), (.cst (.int (9)))]) (.call 7 2 [(.var 0), (.cst (.int (2)))]))))])),
  (.ret (.tup [(.var 4), (.bi .tuple false [(.comp false [5] (.nm 5) (.rng [(.bin .sub false (.var 2) (.cst (.int (1))))]) [] (.call 57 2 [(.var 0), (.var 3)]))])]))]⟩
/-- 206: _law_kept -/
def f_L_kept : Fn := ⟨2, 4, [(.asg (.nm 2) (.bin .add false (.cst (.int (1))) (.call 7 2 [(.var 0), (.cst (.int (4)))]))),
  (.ret (.bi .tuple false [(.comp false [3] (.nm 3) (.rng [(.var 1)]) [(.or (.val (.cmp .eq (.var 3) (.cst (.int (0))))) (.val (.cmp .eq (.call 7 2 [(.var 0), (.var 2)]) (.cst (.int (0))))))] (.var 3))]))]⟩
/-- 208: row_room -/
def f_row_room : Fn := ⟨2, 5, [(.asg (.tup [(.nm 2), (.nm 3)]) (.var 0)),
  (.ret (.bi .sum false [(.comp false [4] (.nm 4) (.rng [(.bi .len false [(.var 2)])]) [] (.ife (.val (.cmp .in_ (.var 4) (.var 1))) (.idx (.var 2) (.var 4)) (.idx (.var 3) (.bin .sub false (.var 4) (.cst (.int (1)))))))]))]⟩
/-- 209: row_reads -/
def f_row_reads : Fn := ⟨2, 7, [(.asg (.tup [(.nm 2), (.nm 3)]) (.var 0)),
  (.asg (.nm 4) (.lst true [])),
  (.for_ (.tup [(.nm 5), (.nm 6)]) (.enm (.var 2)) [(.expr (.bm .append false (.var 4) [(.ife (.val (.cmp .in_ (.var 5) (.var 1))) (.var 6) (.bin .add false (.idx (.var 4) (.neg (.cst (.int (1))))) (.idx (.var 3) (.bin .sub false (.var 5) (.cst (.int (1)))))))]))]),
  (.ret (.bi .tuple false [(.var 4)]))]⟩
/-- 210: row_deep -/
def f_row_deep : Fn := ⟨2, 5, [(.asg (.nm 2) (.bin .add false (.bi .list false [(.slc false (.var 1) (.cst (.int (1))) (.cst (.non)))]) (.lst false [(.bi .len false [(.idx (.var 0) (.cst (.int (0))))])]))),
  (.ret (.bi .max false [(.comp false [3, 4] (.tup [(.nm 3), (.nm 4)]) (.zip (.var 1) (.var 2)) [] (.bin .sub false (.bin .sub false (.var 4) (.var 3)) (.cst (.int (1)))))]))]⟩
/-- 211: _law_stretch -/
def f_L_stretch : Fn := ⟨3, 3, [(.ret (.bin .add false (.idx (.idx (.var 0) (.cst (.int (0)))) (.var 1)) (.bi .sum false [(.slc false (.idx (.var 0) (.cst (.int (1)))) (.var 1) (.bin .sub false (.var 2) (.cst (.int (1)))))])))]⟩
/-- 212: _law_row_room -/
def f_L_row_room : Fn := ⟨2, 5, [(.asg (.nm 2) (.bin .add false (.bi .list false [(.slc false (.var 1) (.cst (.int (1))) (.cst (.non)))]) (.lst false [(.bi .len false [(.idx (.var 0) (.cst (.int (0))))])]))),
  (.ret (.bi .sum false [(.comp false [3, 4] (.tup [(.nm 3), (.nm 4)]) (.zip (.var 1) (.var 2)) [] (.call 211 0 [(.var 0), (.var 3), (.var 4)]))]))]⟩
/-- 214: _law_row_reads -/
def f_L_row_reads : Fn := ⟨2, 7, [(.asg (.nm 2) (.bin .add false (.bi .list false [(.slc false (.var 1) (.cst (.int (1))) (.cst (.non)))]) (.lst false [(.bi .len false [(.idx (.var 0) (.cst (.int (0))))])]))),
  (.asg (.nm 3) (.lst false [])),
  (.for_ (.tup [(.nm 4), (.nm 5)]) (.zip (.var 1) (.var 2)) [(.asg (.nm 3) (.bin .add false (.var 3) (.comp false [6] (.nm 6) (.rng [(.var 4), (.var 5)]) [] (.call 211 0 [(.var 0), (.var 4), (.bin .add false (.var 6) (.cst (.int (1))))]))))]),
  (.ret (.bi .tuple false [(.var 3)]))]⟩
/-- 217: is_within -/
def f_is_within_k31 : Fn := ⟨2, 2, [(.ret (.or (.cmp .is (.var 1) (.cst (.non))) (.cmp .le (.var 0) (.var 1))))]⟩
/-- 218: stretches_on -/
def f_stretches_on_k31 : Fn := ⟨4, 9, [(.asg (.tup [(.nm 4), (.nm 5)]) (.var 0)),
  (.asg (.nm 6) (.lst true [])),
  (.asg (.nm 7) (.idx (.var 4) (.var 1))),
  (.asg (.nm 8) (.var 1)),
  (.whl (.and (.val (.cmp .lt (.var 8) (.bi .len false [(.var 4)]))) (.and (.val (.call 217 0 [(.bin .sub false (.var 8) (.var 1)), (.var 2)])) (.val (.call 217 0 [(.var 7), (.var 3)])))) [(.expr (.bm .append false (.var 6) [(.tup [(.bin .add false (.var 8) (.cst (.int (1)))), (.var 7)])])), (.ife (.val (.cmp .lt (.var 8) (.bi .len false [(.var 5)]))) [(.aug 7 .add (.idx (.var 5) (.var 8)))] []), (.aug 8 .add (.cst (.int (1))))]),
  (.ret (.var 6))]⟩
/-- 219: best_from -/
def f_best_from_k31 : Fn := ⟨3, 9, [(.asg (.nm 3) (.bi .len false [(.idx (.var 0) (.cst (.int (0))))])),
  (.asg (.nm 4) (.bin .add true (.bin .mul true (.lst true [(.cst (.non))]) (.var 3)) (.lst false [(.tup [(.cst (.int (0))), (.tup [])])]))),
  (.for_ (.nm 5) (.rng [(.bin .sub false (.var 3) (.cst (.int (1)))), (.neg (.cst (.int (1)))), (.neg (.cst (.int (1))))]) [(.asg (.nm 6) (.lst true [])), (.for_ (.tup [(.nm 7), (.nm 8)]) (.val (.call 218 0 [(.var 0), (.var 5), (.var 1), (.var 2)])) [(.ife (.val (.cmp .isn (.idx (.var 4) (.var 7)) (.cst (.non)))) [(.expr (.bm .append false (.var 6) [(.tup [(.bin .add false (.var 8) (.idx (.idx (.var 4) (.var 7)) (.cst (.int (0))))), (.bin .add false (.tup [(.var 5)]) (.idx (.idx (.var 4) (.var 7)) (.cst (.int (1)))))])]))] [])]), (.ife (.val (.cmp .gt (.bi .len false [(.var 6)]) (.cst (.int (0))))) [(.asg (.sub (.var 4) (.var 5)) (.bi .min false [(.var 6)]))] [])]),
  (.ret (.idx (.var 4) (.cst (.int (0)))))]⟩
/-- 220: within_deep -/
def f_within_deep_k31 : Fn := ⟨2, 2, [(.ret (.call 219 0 [(.var 0), (.var 1), (.cst (.non))]))]⟩
/-- 221: _law_may -/
def f_L_may : Fn := ⟨4, 4, [(.ife (.and (.val (.cmp .isn (.idx (.var 3) (.cst (.int (0)))) (.cst (.non)))) (.val (.cmp .gt (.bin .sub false (.bin .sub false (.var 2) (.var 1)) (.cst (.int (1)))) (.idx (.var 3) (.cst (.int (0))))))) [(.ret (.cst (.bl false)))] []),
  (.ret (.or (.cmp .is (.idx (.var 3) (.cst (.int (1)))) (.cst (.non))) (.cmp .le (.call 211 0 [(.var 0), (.var 1), (.var 2)]) (.idx (.var 3) (.cst (.int (1)))))))]⟩
/-- 222: _law_ends -/
def f_L_ends : Fn := ⟨4, 6, [(.asg (.nm 4) (.comp false [5] (.nm 5) (.rng [(.bin .add false (.var 2) (.cst (.int (1)))), (.bin .add false (.bi .len false [(.idx (.var 0) (.cst (.int (0))))]) (.cst (.int (1))))]) [(.val (.cmp .isn (.idx (.var 1) (.var 5)) (.cst (.non))))] (.var 5))),
  (.ret (.comp true [5] (.nm 5) (.val (.var 4)) [(.val (.call 221 0 [(.var 0), (.var 2), (.var 5), (.var 3)]))] (.var 5)))]⟩
/-- 223: _law_best -/
def f_L_best : Fn := ⟨2, 9, [(.asg (.nm 2) (.bi .len false [(.idx (.var 0) (.cst (.int (0))))])),
  (.asg (.nm 3) (.bin .add true (.bin .mul true (.lst true [(.cst (.non))]) (.var 2)) (.lst false [(.cst (.int (0)))]))),
  (.for_ (.nm 4) (.rng [(.bin .sub false (.var 2) (.cst (.int (1)))), (.neg (.cst (.int (1)))), (.neg (.cst (.int (1))))]) [(.asg (.nm 5) (.comp false [6] (.nm 6) (.val (.call 222 3 [(.var 0), (.var 3), (.var 4), (.var 1)])) [] (.bin .add false (.call 211 0 [(.var 0), (.var 4), (.var 6)]) (.idx (.var 3) (.var 6))))), (.ife (.val (.cmp .ne (.var 5) (.lst false []))) [(.asg (.sub (.var 3) (.var 4)) (.bi .min false [(.var 5)]))] [])]),
  (.ife (.val (.cmp .is (.idx (.var 3) (.cst (.int (0)))) (.cst (.non)))) [(.ret (.cst (.non)))] []),
  (.asg (.nm 7) (.lst true [(.cst (.int (0)))])),
  (.whl (.val (.cmp .lt (.idx (.var 7) (.neg (.cst (.int (1))))) (.var 2))) [(.asg (.nm 8) (.idx (.var 7) (.neg (.cst (.int (1)))))), (.asg (.nm 5) (.call 222 3 [(.var 0), (.var 3), (.var 8), (.var 1)])), (.asg (.nm 5) (.comp false [6] (.nm 6) (.val (.var 5)) [(.val (.cmp .eq (.bin .add false (.call 211 0 [(.var 0), (.var 8), (.var 6)]) (.idx (.var 3) (.var 6))) (.idx (.var 3) (.var 8))))] (.var 6))), (.expr (.bm .append false (.var 7) [(.idx (.lst false [(.idx (.var 5) (.cst (.int (0)))), (.var 2)]) (.bi .int false [(.cmp .eq (.idx (.var 5) (.neg (.cst (.int (1))))) (.var 2))]))]))]),
  (.ret (.tup [(.idx (.var 3) (.cst (.int (0)))), (.bi .tuple false [(.slc false (.var 7) (.cst (.non)) (.neg (.cst (.int (1)))))])]))]⟩
/-- 224: _law_all_kept -/
def f_L_all_kept : Fn := ⟨1, 4, [(.asg (.nm 1) (.lst false [(.tup [(.cst (.int (0)))])])),
  (.for_ (.nm 2) (.rng [(.cst (.int (1))), (.var 0)]) [(.asg (.nm 1) (.bin .add false (.var 1) (.comp false [3] (.nm 3) (.val (.var 1)) [] (.bin .add false (.var 3) (.tup [(.var 2)])))))]),
  (.ret (.var 1))]⟩
/-- 225: _law_of_all -/
def f_L_of_all_k31 : Fn := ⟨2, 8, [(.asg (.nm 2) (.lst true [])),
  (.for_ (.nm 3) (.val (.call 224 0 [(.bi .len false [(.idx (.var 0) (.cst (.int (0))))])])) [(.asg (.nm 4) (.bin .add false (.bi .list false [(.slc false (.var 3) (.cst (.int (1))) (.cst (.non)))]) (.lst false [(.bi .len false [(.idx (.var 0) (.cst (.int (0))))])]))), (.asg (.nm 5) (.lzip false (.var 3) (.var 4))), (.ife (.val (.bi .all false [(.comp false [6, 7] (.tup [(.nm 6), (.nm 7)]) (.val (.var 5)) [] (.cmp .le (.bin .sub false (.bin .sub false (.var 7) (.var 6)) (.cst (.int (1)))) (.var 1)))])) [(.expr (.bm .append false (.var 2) [(.tup [(.bi .sum false [(.comp false [6, 7] (.tup [(.nm 6), (.nm 7)]) (.val (.var 5)) [] (.call 211 0 [(.var 0), (.var 6), (.var 7)]))]), (.var 3)])]))] [])]),
  (.ret (.bi .min false [(.var 2)]))]⟩
/-- 226: _law_long -/
def f_L_long_k31 : Fn := ⟨0, 2, [(.asg (.nm 0) (.tup [(.bin .mul false (.tup [(.bin .pow false (.cst (.int (10))) (.cst (.int (9))))]) (.cst (.int (30)))), (.bin .mul false (.tup [(.cst (.int (1)))]) (.cst (.int (29))))])),
  (.asg (.nm 1) (.lst false [(.call 220 0 [(.var 0), (.cst (.int (29)))]), (.call 220 0 [(.var 0), (.cst (.int (28)))])])),
  (.ret (.call 27 0 [(.var 1), (.lst false [(.tup [(.bin .add false (.bin .pow false (.cst (.int (10))) (.cst (.int (9)))) (.cst (.int (29)))), (.tup [(.cst (.int (0)))])]), (.tup [(.bin .add false (.bin .mul false (.cst (.int (2))) (.bin .pow false (.cst (.int (10))) (.cst (.int (9))))) (.cst (.int (28)))), (.tup [(.cst (.int (0))), (.cst (.int (1)))])])])]))]⟩
/-- 227: law -/
def f_law_k31 : Fn := ⟨1, 10, [(.for_ (.nm 1) (.rng [(.bin .add false (.cst (.int (1))) (.bi .min false [(.cst (.int (4))), (.bi .len false [(.var 0)])]))]) [(.asg (.nm 2) (.call 6 3 [(.var 0), (.var 1)])), (.asg (.nm 3) (.call 205 2 [(.var 2), (.cst (.int (30)))])), (.asg (.nm 4) (.bi .len false [(.idx (.var 3) (.cst (.int (0))))])), (.asg (.nm 5) (.bi .str false [(.var 3)])), (.asg (.nm 6) (.cst (.non))), (.for_ (.nm 7) (.val (.bi .sorted false [(.lst false [(.cst (.int (0))), (.cst (.int (1))), (.cst (.int (2))), (.call 7 2 [(.var 2), (.bin .add false (.var 4) (.cst (.int (1))))]), (.bin .sub false (.var 4) (.cst (.int (1)))), (.bin .add false (.var 4) (.cst (.int (5))))])])) [(.asg (.nm 8) (.call 223 0 [(.var 3), (.tup [(.var 7), (.cst (.non))])])), (.for_ (.nm 9) (.rng [(.cst (.int (2)))]) [(.ife (.not (.val (.call 27 0 [(.call 220 0 [(.var 3), (.var 7)]), (.var 8)]))) [(.ret (.cst (.bl false)))] [])]), (.ife (.and (.val (.cmp .lt (.var 4) (.cst (.int (9))))) (.val (.cmp .ne (.call 225 0 [(.var 3), (.var 7)]) (.var 8)))) [(.ret (.cst (.bl false)))] []), (.ife (.and (.val (.cmp .isn (.var 6) (.cst (.non)))) (.val (.cmp .gt (.idx (.var 8) (.cst (.int (0)))) (.var 6)))) [(.ret (.cst (.bl false)))] []), (.asg (.nm 6) (.idx (.var 8) (.cst (.int (0)))))]), (.ife (.val (.cmp .ne (.bi .str false [(.var 3)]) (.var 5))) [(.ret (.cst (.bl false)))] [])]),
  (.ret (.call 226 0 []))]⟩
/-- 228: within_reads -/
def f_within_reads_k32 : Fn := ⟨2, 2, [(.ret (.call 219 0 [(.var 0), (.cst (.non)), (.var 1)]))]⟩
/-- 229: _law_bounds -/
def f_L_bounds_k32 : Fn := ⟨2, 8, [(.asg (.nm 2) (.bi .len false [(.idx (.var 1) (.cst (.int (0))))])),
  (.asg (.nm 3) (.lst true [(.bin .sub false (.bi .min false [(.idx (.var 1) (.cst (.int (0))))]) (.cst (.int (1)))), (.bi .max false [(.idx (.var 1) (.cst (.int (0))))]), (.bin .add false (.bi .sum false [(.idx (.var 1) (.cst (.int (0))))]) (.bi .sum false [(.idx (.var 1) (.cst (.int (1))))]))])),
  (.for_ (.nm 4) (.rng [(.cst (.int (4)))]) [(.asg (.nm 5) (.call 7 2 [(.var 0), (.var 2)])), (.asg (.nm 6) (.bin .add false (.bin .add false (.var 5) (.cst (.int (1)))) (.call 7 2 [(.var 0), (.bin .sub false (.var 2) (.var 5))]))), (.expr (.bm .append false (.var 3) [(.bin .sub false (.bin .add false (.call 211 0 [(.var 1), (.var 5), (.var 6)]) (.call 7 2 [(.var 0), (.cst (.int (3)))])) (.cst (.int (1))))]))]),
  (.ret (.bi .sorted false [(.comp false [7] (.nm 7) (.val (.var 3)) [] (.bi .max false [(.cst (.int (0))), (.var 7)]))]))]⟩
/-- 230: _law_of_all -/
def f_L_of_all_k32 : Fn := ⟨2, 8, [(.asg (.nm 2) (.lst true [])),
  (.for_ (.nm 3) (.val (.call 224 0 [(.bi .len false [(.idx (.var 0) (.cst (.int (0))))])])) [(.asg (.nm 4) (.bin .add false (.bi .list false [(.slc false (.var 3) (.cst (.int (1))) (.cst (.non)))]) (.lst false [(.bi .len false [(.idx (.var 0) (.cst (.int (0))))])]))), (.asg (.nm 5) (.comp false [6, 7] (.tup [(.nm 6), (.nm 7)]) (.zip (.var 3) (.var 4)) [] (.call 211 0 [(.var 0), (.var 6), (.var 7)]))), (.ife (.val (.cmp .le (.bi .max false [(.var 5)]) (.var 1))) [(.expr (.bm .append false (.var 2) [(.tup [(.bi .sum false [(.var 5)]), (.var 3)])]))] [])]),
  (.ret (.ife (.val (.cmp .ne (.var 2) (.lst false []))) (.bi .min false [(.var 2)]) (.cst (.non))))]⟩
/-- 233: deep_for -/
def f_deep_for_k33 : Fn := ⟨2, 4, [(.for_ (.nm 2) (.rng [(.bi .len false [(.idx (.var 0) (.cst (.int (0))))])]) [(.asg (.nm 3) (.call 220 0 [(.var 0), (.var 2)])), (.ife (.val (.cmp .le (.idx (.var 3) (.cst (.int (0)))) (.var 1))) [(.ret (.bin .add false (.tup [(.var 2)]) (.var 3)))] [])]),
  (.ret (.cst (.non)))]⟩
/-- 234: _law_due -/
def f_L_due_k33 : Fn := ⟨2, 5, [(.for_ (.tup [(.nm 2), (.tup [(.nm 3), (.nm 4)])]) (.enm (.var 0)) [(.ife (.val (.cmp .le (.var 3) (.var 1))) [(.ret (.tup [(.var 2), (.var 3), (.var 4)]))] [])]),
  (.ret (.cst (.non)))]⟩
/-- 235: _law_long -/
def f_L_long_k33 : Fn := ⟨0, 2, [(.asg (.nm 0) (.tup [(.bin .mul false (.tup [(.bin .pow false (.cst (.int (10))) (.cst (.int (9))))]) (.cst (.int (30)))), (.bin .mul false (.tup [(.cst (.int (1)))]) (.cst (.int (29))))])),
  (.asg (.nm 1) (.lst false [(.call 233 0 [(.var 0), (.bin .add false (.bin .pow false (.cst (.int (10))) (.cst (.int (9)))) (.cst (.int (29))))]), (.call 233 0 [(.var 0), (.bin .add false (.bin .mul false (.cst (.int (2))) (.bin .pow false (.cst (.int (10))) (.cst (.int (9))))) (.cst (.int (28))))])])),
  (.ret (.call 27 0 [(.var 1), (.lst false [(.tup [(.cst (.int (29))), (.bin .add false (.bin .pow false (.cst (.int (10))) (.cst (.int (9)))) (.cst (.int (29)))), (.tup [(.cst (.int (0)))])]), (.tup [(.cst (.int (14))), (.bin .add false (.bin .mul false (.cst (.int (2))) (.bin .pow false (.cst (.int (10))) (.cst (.int (9))))) (.cst (.int (28)))), (.tup [(.cst (.int (0))), (.cst (.int (15)))])])])]))]⟩
def fnc0 : List (Option Fn) := [some f_is_number_k01, none, none, none, none, some f_L_mix, some f_L_left, some f_L_pick_k01, none, none, none, none, none, none, none, none, none, none, none, none, none, none, none, none, none, none, none, some f_L_same_k02, none, none, none, none]
def fnc1 : List (Option Fn) := [none, none, none, none, none, none, none, none, none, none, none, none, none, none, none, none, none, none, none, none, some f_is_change_row_k07, some f_is_stock_k07, none, none, none, some f_L_size_k07, none, none, none, none, none, none]
def fnc2 : List (Option Fn) := [none, none, some f_sizes_of, some f_is_kept_so_k08, some f_comes_home, some f_is_laying_k08, none, none, none, none, none, none, none, none, none, none, some f_taken_by, some f_room, some f_way, some f_deep, some f_reads, none, some f_row_laying, none, none, none, none, none, none, none, none, none]
def fnc3 : List (Option Fn) := [none, none, none, none, none, none, none, none, none, none, none, none, none, none, none, none, none, none, none, none, none, none, none, none, none, none, none, none, none, none, none, none]
def fnc4 : List (Option Fn) := [none, none, none, none, none, none, none, none, none, none, none, none, none, none, none, none, none, none, none, none, none, none, none, none, none, none, none, none, none, none, none, none]
def fnc5 : List (Option Fn) := [none, none, none, none, none, none, none, none, none, none, none, none, none, none, none, none, none, none, none, none, none, none, none, none, none, none, none, none, none, none, none, none]
def fnc6 : List (Option Fn) := [none, none, none, none, none, none, none, none, none, none, none, none, some f_row_stock, some f_L_row_k29, some f_L_kept, none, some f_row_room, some f_row_reads, some f_row_deep, some f_L_stretch, some f_L_row_room, none, some f_L_row_reads, none, none, some f_is_within_k31, some f_stretches_on_k31, some f_best_from_k31, some f_within_deep_k31, some f_L_may, some f_L_ends, some f_L_best]
def fnc7 : List (Option Fn) := [some f_L_all_kept, some f_L_of_all_k31, some f_L_long_k31, some f_law_k31, some f_within_reads_k32, some f_L_bounds_k32, some f_L_of_all_k32, none, none, some f_deep_for_k33, some f_L_due_k33, some f_L_long_k33]
def fnch : List (List (Option Fn)) := [fnc0, fnc1, fnc2, fnc3, fnc4, fnc5, fnc6, fnc7]
def FNS (i : Nat) : Option Fn := match fnch[i / 32]? with
  | some l => match l[i % 32]? with
    | some r => r
    | none => none
  | none => none
theorem a_is_number_k01 : FNS 0 = some f_is_number_k01 := rfl
theorem a_L_mix : FNS 5 = some f_L_mix := rfl
theorem a_L_left : FNS 6 = some f_L_left := rfl
theorem a_L_pick_k01 : FNS 7 = some f_L_pick_k01 := rfl
theorem a_L_same_k02 : FNS 27 = some f_L_same_k02 := rfl
theorem a_is_change_row_k07 : FNS 52 = some f_is_change_row_k07 := rfl
theorem a_is_stock_k07 : FNS 53 = some f_is_stock_k07 := rfl
theorem a_L_size_k07 : FNS 57 = some f_L_size_k07 := rfl
theorem a_sizes_of : FNS 66 = some f_sizes_of := rfl
theorem a_is_kept_so_k08 : FNS 67 = some f_is_kept_so_k08 := rfl
theorem a_comes_home : FNS 68 = some f_comes_home := rfl
theorem a_is_laying_k08 : FNS 69 = some f_is_laying_k08 := rfl
theorem a_taken_by : FNS 80 = some f_taken_by := rfl
theorem a_room : FNS 81 = some f_room := rfl
theorem a_way : FNS 82 = some f_way := rfl
theorem a_deep : FNS 83 = some f_deep := rfl
theorem a_reads : FNS 84 = some f_reads := rfl
theorem a_row_laying : FNS 86 = some f_row_laying := rfl
theorem a_row_stock : FNS 204 = some f_row_stock := rfl
theorem a_L_row_k29 : FNS 205 = some f_L_row_k29 := rfl
theorem a_L_kept : FNS 206 = some f_L_kept := rfl
theorem a_row_room : FNS 208 = some f_row_room := rfl
theorem a_row_reads : FNS 209 = some f_row_reads := rfl
theorem a_row_deep : FNS 210 = some f_row_deep := rfl
theorem a_L_stretch : FNS 211 = some f_L_stretch := rfl
theorem a_L_row_room : FNS 212 = some f_L_row_room := rfl
theorem a_L_row_reads : FNS 214 = some f_L_row_reads := rfl
theorem a_is_within_k31 : FNS 217 = some f_is_within_k31 := rfl
theorem a_stretches_on_k31 : FNS 218 = some f_stretches_on_k31 := rfl
theorem a_best_from_k31 : FNS 219 = some f_best_from_k31 := rfl
theorem a_within_deep_k31 : FNS 220 = some f_within_deep_k31 := rfl
theorem a_L_may : FNS 221 = some f_L_may := rfl
theorem a_L_ends : FNS 222 = some f_L_ends := rfl
theorem a_L_best : FNS 223 = some f_L_best := rfl
theorem a_L_all_kept : FNS 224 = some f_L_all_kept := rfl
theorem a_L_of_all_k31 : FNS 225 = some f_L_of_all_k31 := rfl
theorem a_L_long_k31 : FNS 226 = some f_L_long_k31 := rfl
theorem a_law_k31 : FNS 227 = some f_law_k31 := rfl
theorem a_within_reads_k32 : FNS 228 = some f_within_reads_k32 := rfl
theorem a_L_bounds_k32 : FNS 229 = some f_L_bounds_k32 := rfl
theorem a_L_of_all_k32 : FNS 230 = some f_L_of_all_k32 := rfl
theorem a_deep_for_k33 : FNS 233 = some f_deep_for_k33 := rfl
theorem a_L_due_k33 : FNS 234 = some f_L_due_k33 := rfl
theorem a_L_long_k33 : FNS 235 = some f_L_long_k33 := rfl
end Pm
/-! Pm, part R: the stepping words; draws that the laws share. -/
namespace Pm
open PySem (Str PyData)
theorem natN {n : Nat} : ((0 : Int) ≤ (n : Int)) = True := eq_true (Int.natCast_nonneg n)
def pwA := And.intro @wE_cst (And.intro @wE_var (And.intro @wE_tup (And.intro @wE_lstF (And.intro @wE_lstT (And.intro @wE_dct0F (And.intro @wE_dct0T (And.intro @wE_bin (And.intro @wE_neg (And.intro @wE_not (And.intro @wE_and (And.intro @wE_or (And.intro @wE_cmp (And.intro @wE_cmp2 (And.intro @wE_ife (And.intro @wE_idx (And.intro @wE_slc (And.intro @wE_rev (And.intro @wE_rngL (And.intro @wE_trev (And.intro @wE_lzip (And.intro @wE_dget (And.intro @q_tup (And.intro @q_lst (And.intro @q_refO (And.intro @qO_lst (And.intro @qO_dct (And.intro @qO_fdc (And.intro @dc_dct (And.intro @dc_ref (And.intro @dcO_dct (And.intro @dcO_fdc (And.intro @ixO_fdc (And.intro @wE_call0 (And.intro @wE_call1 (And.intro @wE_call2 (And.intro @wE_call3 (And.intro @wE_bm (And.intro @wE_bi (And.intro @wE_isi (And.intro @wE_comp (And.intro @wEs_nil (And.intro @wEs_cons (And.intro @wT_val (And.intro @wT_not (And.intro @wT_and (And.intro @wT_or (And.intro @wTs_nil (And.intro @wTs_cons (And.intro @wIt_val (And.intro @wIt_rng (And.intro @wIt_enm (And.intro @wIt_zip (And.intro @wIt_rev (And.intro @wIt_revr (And.intro @wA_nm (And.intro @wA_tup (And.intro @wAs_nil (And.intro @wAs_cons (And.intro @wA_sub (And.intro @wSs_nil (And.intro @wSs_cons (And.intro @wS_asg (And.intro @wS_par (And.intro @wS_aug (And.intro @wS_augS (And.intro @wS_expr (And.intro @wS_ret (And.intro @wS_ife (And.intro @wS_for (And.intro @wS_whl (And.intro @wS_pass (And.intro @wS_brk (And.intro @wS_cnt (And.intro @kSs_nx (And.intro @kSs_rt (And.intro @kSs_bk (And.intro @kSs_ct (And.intro @finQ_nx (And.intro @finQ_rt (And.intro @loopQ_nx (And.intro @loopQ_ct (And.intro @loopQ_bk (And.intro @loopQ_rt (And.intro @wR_some (And.intro @wO_some (And.intro @wV_some (And.intro @wO_map (And.intro @wO_bind (And.intro @wR_map (And.intro @wR_bind (And.intro @wI_int (And.intro @wB_bl (And.intro @b_addI (And.intro @b_subI (And.intro @b_mulI (And.intro @b_fdivI (And.intro @b_modI (And.intro @b_powI (And.intro @b_addT (And.intro @b_addL (And.intro @b_mulL (And.intro @b_mulLm (And.intro @b_addLm (And.intro @b_mulR (And.intro @b_addRL (And.intro @b_addLR (And.intro @b_addRR (And.intro @b_mulT (And.intro @a_addI (And.intro @a_subI (And.intro @c_ltI (And.intro @c_gtI (And.intro @c_leI (And.intro @c_geI (And.intro @c_eqI (And.intro @c_neI (And.intro @c_eqS (And.intro @c_neS (And.intro @c_isN (And.intro @c_isnN (And.intro @c_isB (And.intro @c_isnB (And.intro @c_in (And.intro @c_nin (And.intro @c_eqB (And.intro @c_neB (And.intro @dN_int (And.intro @dN_tup (And.intro @dN_lst (And.intro @dN_non (And.intro @dN_bl (And.intro @dN_str (And.intro @t_bl (And.intro @t_int (And.intro @t_non (And.intro @t_tup (And.intro @t_lst (And.intro @s_tup (And.intro @s_lst (And.intro @l_lst (And.intro @o_tup (And.intro @o_lst (And.intro @sl_tup (And.intro @sl_lst (And.intro @po_n (And.intro @po_i (And.intro @f_lenT (And.intro @f_lenL (And.intro @f_lenD (And.intro @f_abs (And.intro @f_intI (And.intro @f_intB (And.intro @f_min2 (And.intro @f_max2 (And.intro @f_tupL (And.intro @f_tupT (And.intro @f_lstL (And.intro @f_lstT (And.intro @f_lstTm (And.intro @f_lstLm (And.intro @newL_F (And.intro @newL_T (And.intro @f_trues (And.intro @i_tup (And.intro @i_lst (And.intro @i_ref (And.intro @i_dct (And.intro @ixO_lst (And.intro @ixO_dct (And.intro @si_ref (And.intro @siO_lst (And.intro @siO_dct (And.intro @wO_ixN (And.intro @s_refO (And.intro @l_refO (And.intro @sqO_lst (And.intro @o_refO (And.intro @scO_lst (And.intro @rk_ref (And.intro @rkO_lst (And.intro @rkO_dct (And.intro @f_lenO (And.intro @lnO_lst (And.intro @lnO_dct (And.intro @f_tupO (And.intro @f_lstO (And.intro @t_refO (And.intro @tuO_lst (And.intro @sl_refO (And.intro @m_appO (And.intro @m_extO (And.intro @m_insO (And.intro @m_popO (And.intro @m_popIO (And.intro @m_revO (And.intro @wOb_lst (And.intro @decide_true (And.intro @decide_false (And.intro @Bool.or_false (And.intro @Bool.or_true (And.intro @Bool.false_or (And.intro @Bool.true_or (And.intro @Bool.and_true (And.intro @Bool.true_and (And.intro @Bool.and_false (And.intro @Bool.false_and (And.intro @Bool.not_true (And.intro @Bool.not_false (And.intro @Bool.not_not (And.intro @Bool.false_eq_true (And.intro @Bool.true_eq_false (And.intro @decide_eq_true_eq (And.intro @Bool.not_eq_true' (And.intro @decide_eq_false_iff_not (And.intro @true_and (And.intro @and_true (And.intro @Nat.zero_add (And.intro @Nat.add_zero (And.intro @Int.cast_ofNat_Int (And.intro @Int.toNat_natCast (And.intro @natN (And.intro @or_true (And.intro @true_or (True.intro))))))))))))))))))))))))))))))))))))))))))))))))))))))))))))))))))))))))))))))))))))))))))))))))))))))))))))))))))))))))))))))))))))))))))))))))))))))))))))))))))))))))))))))))))))))))))))))))))))))))))))))))))))))))))))))))
def pg0 : Pg := ⟨fun _ _ => none, fun _ => none⟩
def mixI (cell k : Int) : Int := (cell % 2147483629 + k * k * 7919 + 11) * 48271 % 2147483647 * ((cell % 2147483629 + k * k * 7919 + 11) * 48271 % 2147483647) % 1999999973
theorem mix_eq {k : Nat} {cell n : Int} {st : Sto} (h1 : n.natAbs < 18446744073709551616) : pcall (callN pg0 FNS (k + 1)) 5 [.int cell, .int n] st = some (.int (mixI cell n)) := by
  refine PW.eq ?_ rfl
  unfold PW
  rw [call_w a_L_mix rfl]
  simp (failIfUnchanged := false) (dsimp := false) only [pwA, ixL, setAll, wRev, wipe, isiOk, isTy, List.any_cons, List.any_nil, reduceCtorEq, if_true, if_false, List.getElem?_cons_zero, List.getElem?_cons_succ, List.getElem?_nil, List.set_cons_zero, List.set_cons_succ, List.length_cons, List.length_nil, List.map_cons, List.map_nil, List.cons_append, List.nil_append, List.replicate_succ, List.replicate_zero, Nat.reduceAdd, Nat.reduceSub, Nat.reduceMul, Nat.reduceLT, Nat.reduceLeDiff, Nat.reduceEqDiff, Int.reduceNeg, Int.reduceLT, Int.reduceLE, Int.reduceToNat, Int.reduceAdd, Int.reduceSub, Int.reduceMul, Int.reducePow, Int.reduceAbs, ↓reduceIte, ge_iff_le, gt_iff_lt, f_L_mix]
  exact ⟨.inl h1, .inl (by omega), _, deref_plain rfl, rfl, rfl⟩
theorem pick_w {k r : Nat} {m : Int} {st : Sto} {L : Lt} {Q : D → Sto → Prop} (hs : st[r]? = some L.ob) (hc : L.c < 1000000000000) (h0 : 0 < m) (h1 : m < 1073741824)
    (hq : ∀ (d : Int) (L' : Lt), 0 ≤ d → d < m → L'.c ≤ L.c + 1 → Q (.int d) (st.set r L'.ob)) : wR (dcall (callN pg0 FNS (k + 2)) 7 [.ref r, .int m] st) Q := by
  refine DW.use (n0 := 1000000000000) (N := 1) (R := fun v => ∃ d, v = .int d ∧ 0 ≤ d ∧ d < m) ?_ hs (by omega) ?_
  · intro L hL
    rw [call_w a_L_pick_k01 rfl]
    simp (failIfUnchanged := false) (dsimp := false) only [pwA, ixL, setAll, wRev, wipe, isiOk, isTy, List.any_cons, List.any_nil, reduceCtorEq, if_true, if_false, List.getElem?_cons_zero, List.getElem?_cons_succ, List.getElem?_nil, List.set_cons_zero, List.set_cons_succ, List.length_cons, List.length_nil, List.map_cons, List.map_nil, List.cons_append, List.nil_append, List.replicate_succ, List.replicate_zero, Nat.reduceAdd, Nat.reduceSub, Nat.reduceMul, Nat.reduceLT, Nat.reduceLeDiff, Nat.reduceEqDiff, Int.reduceNeg, Int.reduceLT, Int.reduceLE, Int.reduceToNat, Int.reduceAdd, Int.reduceSub, Int.reduceMul, Int.reducePow, Int.reduceAbs, ↓reduceIte, ge_iff_le, gt_iff_lt, f_L_pick_k01, Lt.ob]
    split
    · exact ⟨h0, ⟨h0, h1⟩, rfl, ⟨_, rfl, Int.emod_nonneg _ (by omega), Int.emod_lt_of_pos _ h0⟩, ⟨L.a / m, L.b, L.c + 1⟩, [], rfl, Nat.le_refl _⟩
    · simp (failIfUnchanged := false) (dsimp := false) only [pwA, ixL, setAll, wRev, wipe, isiOk, isTy, List.any_cons, List.any_nil, reduceCtorEq, if_true, if_false, List.getElem?_cons_zero, List.getElem?_cons_succ, List.getElem?_nil, List.set_cons_zero, List.set_cons_succ, List.length_cons, List.length_nil, List.map_cons, List.map_nil, List.cons_append, List.nil_append, List.replicate_succ, List.replicate_zero, Nat.reduceAdd, Nat.reduceSub, Nat.reduceMul, Nat.reduceLT, Nat.reduceLeDiff, Nat.reduceEqDiff, Int.reduceNeg, Int.reduceLT, Int.reduceLE, Int.reduceToNat, Int.reduceAdd, Int.reduceSub, Int.reduceMul, Int.reducePow, Int.reduceAbs, ↓reduceIte, ge_iff_le, gt_iff_lt, mix_eq (show ((L.c : Int) + 1).natAbs < 18446744073709551616 by omega), mix_eq (show ((L.c : Int) + 1 + 64).natAbs < 18446744073709551616 by omega)]
      exact ⟨h0, rfl, ⟨_, rfl, Int.emod_nonneg _ (by omega), Int.emod_lt_of_pos _ h0⟩, ⟨L.a, L.b, L.c + 1⟩, [], rfl, Nat.le_refl _⟩
  · rintro v L' _ ⟨d, rfl, hd0, hd1⟩ hL
    exact hq d L' hd0 hd1 hL
theorem left_w {k : Nat} {xs : List Int} {n : Int} {st : Sto} {Q : D → Sto → Prop} (h0 : 0 ≤ n) (hq : ∀ L : Lt, L.c = 0 → Q (.ref st.length) (st ++ [L.ob])) : wR (fcall (callN pg0 FNS (k + 1)) 6 [.lst (xs.map D.int), .int n] st) Q := by
  refine FW.use (R := fun ys => ∃ L : Lt, L.c = 0 ∧ ys = [.int L.a, .int L.b, .int L.c]) ?_ ?_ ?_
  · unfold FW
    rw [call_w a_L_left rfl]
    simp (failIfUnchanged := false) (dsimp := false) only [pwA, ixL, setAll, wRev, wipe, isiOk, isTy, List.any_cons, List.any_nil, reduceCtorEq, if_true, if_false, List.getElem?_cons_zero, List.getElem?_cons_succ, List.getElem?_nil, List.set_cons_zero, List.set_cons_succ, List.length_cons, List.length_nil, List.map_cons, List.map_nil, List.cons_append, List.nil_append, List.replicate_succ, List.replicate_zero, Nat.reduceAdd, Nat.reduceSub, Nat.reduceMul, Nat.reduceLT, Nat.reduceLeDiff, Nat.reduceEqDiff, Int.reduceNeg, Int.reduceLT, Int.reduceLE, Int.reduceToNat, Int.reduceAdd, Int.reduceSub, Int.reduceMul, Int.reducePow, Int.reduceAbs, ↓reduceIte, ge_iff_le, gt_iff_lt, f_L_left]
    split
    · rename_i h
      have hlt : n.toNat < xs.length := by simp at h; omega
      simp (failIfUnchanged := false) (dsimp := false) only [pwA, ixL, setAll, wRev, wipe, isiOk, isTy, List.any_cons, List.any_nil, reduceCtorEq, if_true, if_false, List.getElem?_cons_zero, List.getElem?_cons_succ, List.getElem?_nil, List.set_cons_zero, List.set_cons_succ, List.length_cons, List.length_nil, List.map_cons, List.map_nil, List.cons_append, List.nil_append, List.replicate_succ, List.replicate_zero, Nat.reduceAdd, Nat.reduceSub, Nat.reduceMul, Nat.reduceLT, Nat.reduceLeDiff, Nat.reduceEqDiff, Int.reduceNeg, Int.reduceLT, Int.reduceLE, Int.reduceToNat, Int.reduceAdd, Int.reduceSub, Int.reduceMul, Int.reducePow, Int.reduceAbs, ↓reduceIte, ge_iff_le, gt_iff_lt, h0, List.getElem?_map, List.getElem?_eq_getElem hlt, Option.map_some]
      exact ⟨.inr (by split <;> split <;> decide), 0, _, rfl, rfl, rfl, ⟨_, _, 0⟩, rfl, rfl⟩
    · exact ⟨0, _, rfl, rfl, rfl, ⟨_, _, 0⟩, rfl, rfl⟩
  · rintro ys _ ⟨L, hc, rfl⟩
    exact hq L hc
  · simp [D.noRef, noRefL_all]
def SizeR (v : D) : Prop := ∃ i : Int, v = .int i ∧ 1 ≤ i ∧ i < 1000000000
theorem size_w {k r : Nat} {g : Int} {st : Sto} {L : Lt} {Q : D → Sto → Prop} (hs : st[r]? = some L.ob) (hc : L.c < 100000000000)
    (hq : ∀ (d : Int) (L' : Lt), 1 ≤ d → d < 1000000000 → L'.c ≤ L.c + 2 → Q (.int d) (st.set r L'.ob)) : wR (dcall (callN pg0 FNS (k + 3)) 57 [.ref r, .int g] st) Q := by
  refine DW.use (n0 := 100000000000) (N := 2) (R := fun v => ∃ d, v = .int d ∧ 1 ≤ d ∧ d < 1000000000) ?_ hs (by omega) ?_
  · intro L hL
    rw [call_w a_L_size_k07 rfl]
    simp (failIfUnchanged := false) (dsimp := false) only [pwA, ixL, setAll, wRev, wipe, isiOk, isTy, List.any_cons, List.any_nil, reduceCtorEq, if_true, if_false, List.getElem?_cons_zero, List.getElem?_cons_succ, List.getElem?_nil, List.set_cons_zero, List.set_cons_succ, List.length_cons, List.length_nil, List.map_cons, List.map_nil, List.cons_append, List.nil_append, List.replicate_succ, List.replicate_zero, Nat.reduceAdd, Nat.reduceSub, Nat.reduceMul, Nat.reduceLT, Nat.reduceLeDiff, Nat.reduceEqDiff, Int.reduceNeg, Int.reduceLT, Int.reduceLE, Int.reduceToNat, Int.reduceAdd, Int.reduceSub, Int.reduceMul, Int.reducePow, Int.reduceAbs, ↓reduceIte, ge_iff_le, gt_iff_lt, f_L_size_k07]
    refine pick_w rfl (by omega) (by decide) (by decide) fun d L1 h0 h1 hl => ?_
    simp (failIfUnchanged := false) (dsimp := false) only [pwA, ixL, setAll, wRev, wipe, isiOk, isTy, List.any_cons, List.any_nil, reduceCtorEq, if_true, if_false, List.getElem?_cons_zero, List.getElem?_cons_succ, List.getElem?_nil, List.set_cons_zero, List.set_cons_succ, List.length_cons, List.length_nil, List.map_cons, List.map_nil, List.cons_append, List.nil_append, List.replicate_succ, List.replicate_zero, Nat.reduceAdd, Nat.reduceSub, Nat.reduceMul, Nat.reduceLT, Nat.reduceLeDiff, Nat.reduceEqDiff, Int.reduceNeg, Int.reduceLT, Int.reduceLE, Int.reduceToNat, Int.reduceAdd, Int.reduceSub, Int.reduceMul, Int.reducePow, Int.reduceAbs, ↓reduceIte, ge_iff_le, gt_iff_lt]
    have fin : ∀ m : Int, 0 < m → m < 999999999 → wR (dcall (callN pg0 FNS (k + 2)) 7 [D.ref 0, .int m] [L1.ob]) (fun y s' => wR (binop Bop.add false (D.int 1) y s') fun v s =>
          v.noRef = true ∧ (∃ d, v = D.int d ∧ 1 ≤ d ∧ d < 1000000000) ∧ ∃ (L' : Lt) (g : Sto), s = L'.ob :: g ∧ L'.c ≤ L.c + 2) := fun m m0 m1 => by
      refine pick_w rfl (by omega) m0 (by omega) fun d2 L2 h0 h1 hl => ?_
      simp (failIfUnchanged := false) (dsimp := false) only [pwA, ixL, setAll, wRev, wipe, isiOk, isTy, List.any_cons, List.any_nil, reduceCtorEq, if_true, if_false, List.getElem?_cons_zero, List.getElem?_cons_succ, List.getElem?_nil, List.set_cons_zero, List.set_cons_succ, List.length_cons, List.length_nil, List.map_cons, List.map_nil, List.cons_append, List.nil_append, List.replicate_succ, List.replicate_zero, Nat.reduceAdd, Nat.reduceSub, Nat.reduceMul, Nat.reduceLT, Nat.reduceLeDiff, Nat.reduceEqDiff, Int.reduceNeg, Int.reduceLT, Int.reduceLE, Int.reduceToNat, Int.reduceAdd, Int.reduceSub, Int.reduceMul, Int.reducePow, Int.reduceAbs, ↓reduceIte, ge_iff_le, gt_iff_lt]
      exact ⟨rfl, ⟨_, rfl, by omega, by omega⟩, L2, _, rfl, by omega⟩
    have fin2 : wO [D.int 9, D.int 9, D.int 40, D.int 3][d.toNat]? (fun d => wR (dcall (callN pg0 FNS (k + 2)) 7 [D.ref 0, d] [L1.ob]) (fun y s' => wR (binop Bop.add false (D.int 1) y s') fun v s =>
          v.noRef = true ∧ (∃ d, v = D.int d ∧ 1 ≤ d ∧ d < 1000000000) ∧ ∃ (L' : Lt) (g : Sto), s = L'.ob :: g ∧ L'.c ≤ L.c + 2)) := by
      refine ixc (by simp; omega) h0 fun x hx => ?_
      simp only [List.mem_cons, List.not_mem_nil, or_false] at hx
      rcases hx with rfl | rfl | rfl | rfl <;> exact fin _ (by decide) (by decide)
    simp (failIfUnchanged := false) (dsimp := false) only [pwA, ixL, setAll, wRev, wipe, isiOk, isTy, List.any_cons, List.any_nil, reduceCtorEq, if_true, if_false, List.getElem?_cons_zero, List.getElem?_cons_succ, List.getElem?_nil, List.set_cons_zero, List.set_cons_succ, List.length_cons, List.length_nil, List.map_cons, List.map_nil, List.cons_append, List.nil_append, List.replicate_succ, List.replicate_zero, Nat.reduceAdd, Nat.reduceSub, Nat.reduceMul, Nat.reduceLT, Nat.reduceLeDiff, Nat.reduceEqDiff, Int.reduceNeg, Int.reduceLT, Int.reduceLE, Int.reduceToNat, Int.reduceAdd, Int.reduceSub, Int.reduceMul, Int.reducePow, Int.reduceAbs, ↓reduceIte, ge_iff_le, gt_iff_lt, h0]
    split
    · split
      · exact fin _ (by decide) (by decide)
      · exact fin2
    · exact fin2
  · rintro v L' _ ⟨d, rfl, hd0, hd1⟩ hL
    exact hq d L' hd0 hd1 hL
/-- items that are numbers -/
theorem ints_of {R : Int → Prop} : ∀ {ys : List D}, (∀ (i : Nat) (d : D), ys[i]? = some d → ∃ j : Int, d = .int j ∧ R j) → ∃ ns : List Int, ys = ns.map D.int ∧ ∀ x ∈ ns, R x
  | [], _ => ⟨[], rfl, by simp⟩
  | y :: ys, h => by
    obtain ⟨j, rfl, hj⟩ := h 0 y rfl
    obtain ⟨ns, rfl, hn⟩ := ints_of (ys := ys) fun i d hd => h (i + 1) d (by simpa using hd)
    exact ⟨j :: ns, rfl, by simpa using ⟨hj, hn⟩⟩
/-- a row, its sizes whole, its steps -/
def rowD (ws ss : List Int) : D := .tup [.tup (ws.map D.int), .tup (ss.map D.int)]
structure RowOk (n : Nat) (ws ss : List Int) : Prop where
  l1 : 1 ≤ ws.length
  l2 : ws.length ≤ n
  ls : ss.length + 1 = ws.length
  w : ∀ x ∈ ws, 1 ≤ x ∧ x < 2000000000
  s : ∀ x ∈ ss, 1 ≤ x ∧ x < 2000000000
theorem row_w {k r : Nat} {n : Int} {st : Sto} {L : Lt} {Q : D → Sto → Prop} (hn0 : 8 ≤ n) (hn1 : n ≤ 100) (hs : st[r]? = some L.ob) (hc : L.c < 10000000000)
    (hq : ∀ (ws ss : List Int) (L' : Lt), RowOk n.toNat ws ss → L'.c ≤ L.c + 1000 → Q (rowD ws ss) (st.set r L'.ob)) : wR (dcall (callN pg0 FNS (k + 4)) 205 [.ref r, .int n] st) Q := by
  refine DW.use (n0 := 10000000000) (N := 1000) (R := fun v => ∃ ws ss, v = rowD ws ss ∧ RowOk n.toNat ws ss) ?_ hs (by omega) ?_
  · intro L hL
    rw [call_w a_L_row_k29 rfl]
    simp only [List.map_cons, List.map_nil, Nat.reduceSub, List.replicate_succ, List.replicate_zero, List.cons_append, List.nil_append]
    refine wSs_cut (fun e s => ∃ (m : Int) (L1 : Lt), e = [some (.ref 0), some (.int n), some (.int m), none, none, none] ∧ s = [L1.ob] ∧ 1 ≤ m ∧ m ≤ n ∧ L1.c ≤ L.c + 2) ?_ ?_
    · simp (failIfUnchanged := false) (dsimp := false) only [pwA, ixL, setAll, wRev, wipe, isiOk, isTy, List.any_cons, List.any_nil, reduceCtorEq, if_true, if_false, List.getElem?_cons_zero, List.getElem?_cons_succ, List.getElem?_nil, List.set_cons_zero, List.set_cons_succ, List.length_cons, List.length_nil, List.map_cons, List.map_nil, List.cons_append, List.nil_append, List.replicate_succ, List.replicate_zero, Nat.reduceAdd, Nat.reduceSub, Nat.reduceMul, Nat.reduceLT, Nat.reduceLeDiff, Nat.reduceEqDiff, Int.reduceNeg, Int.reduceLT, Int.reduceLE, Int.reduceToNat, Int.reduceAdd, Int.reduceSub, Int.reduceMul, Int.reducePow, Int.reduceAbs, ↓reduceIte, ge_iff_le, gt_iff_lt]
      refine pick_w rfl (by omega) (by omega) (by omega) fun d L1 d0 d1 c1 => ?_
      simp (failIfUnchanged := false) (dsimp := false) only [pwA, ixL, setAll, wRev, wipe, isiOk, isTy, List.any_cons, List.any_nil, reduceCtorEq, if_true, if_false, List.getElem?_cons_zero, List.getElem?_cons_succ, List.getElem?_nil, List.set_cons_zero, List.set_cons_succ, List.length_cons, List.length_nil, List.map_cons, List.map_nil, List.cons_append, List.nil_append, List.replicate_succ, List.replicate_zero, Nat.reduceAdd, Nat.reduceSub, Nat.reduceMul, Nat.reduceLT, Nat.reduceLeDiff, Nat.reduceEqDiff, Int.reduceNeg, Int.reduceLT, Int.reduceLE, Int.reduceToNat, Int.reduceAdd, Int.reduceSub, Int.reduceMul, Int.reducePow, Int.reduceAbs, ↓reduceIte, ge_iff_le, gt_iff_lt]
      split
      · refine pick_w rfl (by omega) (by omega) (by omega) fun d L2 d0 d1 c2 => ?_
        simp (failIfUnchanged := false) (dsimp := false) only [pwA, ixL, setAll, wRev, wipe, isiOk, isTy, List.any_cons, List.any_nil, reduceCtorEq, if_true, if_false, List.getElem?_cons_zero, List.getElem?_cons_succ, List.getElem?_nil, List.set_cons_zero, List.set_cons_succ, List.length_cons, List.length_nil, List.map_cons, List.map_nil, List.cons_append, List.nil_append, List.replicate_succ, List.replicate_zero, Nat.reduceAdd, Nat.reduceSub, Nat.reduceMul, Nat.reduceLT, Nat.reduceLeDiff, Nat.reduceEqDiff, Int.reduceNeg, Int.reduceLT, Int.reduceLE, Int.reduceToNat, Int.reduceAdd, Int.reduceSub, Int.reduceMul, Int.reducePow, Int.reduceAbs, ↓reduceIte, ge_iff_le, gt_iff_lt]
        exact ⟨_, _, rfl, 1 + d, L2, rfl, rfl, by omega, by omega, by omega⟩
      · refine pick_w rfl (by omega) (by omega) (by omega) fun d L2 d0 d1 c2 => ?_
        simp (failIfUnchanged := false) (dsimp := false) only [pwA, ixL, setAll, wRev, wipe, isiOk, isTy, List.any_cons, List.any_nil, reduceCtorEq, if_true, if_false, List.getElem?_cons_zero, List.getElem?_cons_succ, List.getElem?_nil, List.set_cons_zero, List.set_cons_succ, List.length_cons, List.length_nil, List.map_cons, List.map_nil, List.cons_append, List.nil_append, List.replicate_succ, List.replicate_zero, Nat.reduceAdd, Nat.reduceSub, Nat.reduceMul, Nat.reduceLT, Nat.reduceLeDiff, Nat.reduceEqDiff, Int.reduceNeg, Int.reduceLT, Int.reduceLE, Int.reduceToNat, Int.reduceAdd, Int.reduceSub, Int.reduceMul, Int.reducePow, Int.reduceAbs, ↓reduceIte, ge_iff_le, gt_iff_lt]
        exact ⟨_, _, rfl, 8 + d, L2, rfl, rfl, by omega, by omega, by omega⟩
    · rintro _ _ ⟨m, L1, rfl, rfl, m1, m2, c1⟩
      simp (failIfUnchanged := false) (dsimp := false) only [pwA, ixL, setAll, wRev, wipe, isiOk, isTy, List.any_cons, List.any_nil, reduceCtorEq, if_true, if_false, List.getElem?_cons_zero, List.getElem?_cons_succ, List.getElem?_nil, List.set_cons_zero, List.set_cons_succ, List.length_cons, List.length_nil, List.map_cons, List.map_nil, List.cons_append, List.nil_append, List.replicate_succ, List.replicate_zero, Nat.reduceAdd, Nat.reduceSub, Nat.reduceMul, Nat.reduceLT, Nat.reduceLeDiff, Nat.reduceEqDiff, Int.reduceNeg, Int.reduceLT, Int.reduceLE, Int.reduceToNat, Int.reduceAdd, Int.reduceSub, Int.reduceMul, Int.reducePow, Int.reduceAbs, ↓reduceIte, ge_iff_le, gt_iff_lt]
      refine pick_w rfl (by omega) (by omega) (by omega) fun g L2 d0 d1 c2 => ?_
      simp (failIfUnchanged := false) (dsimp := false) only [pwA, ixL, setAll, wRev, wipe, isiOk, isTy, List.any_cons, List.any_nil, reduceCtorEq, if_true, if_false, List.getElem?_cons_zero, List.getElem?_cons_succ, List.getElem?_nil, List.set_cons_zero, List.set_cons_succ, List.length_cons, List.length_nil, List.map_cons, List.map_nil, List.cons_append, List.nil_append, List.replicate_succ, List.replicate_zero, Nat.reduceAdd, Nat.reduceSub, Nat.reduceMul, Nat.reduceLT, Nat.reduceLeDiff, Nat.reduceEqDiff, Int.reduceNeg, Int.reduceLT, Int.reduceLE, Int.reduceToNat, Int.reduceAdd, Int.reduceSub, Int.reduceMul, Int.reducePow, Int.reduceAbs, ↓reduceIte, ge_iff_le, gt_iff_lt, rng1 (show (-1000000 : Int) ≤ m by omega) (show m ≤ 1000000 by omega), rangeL_lenQ]
      refine ⟨by unfold lim; omega, wC_inv (fun _ d => ∃ i : Int, d = .int i ∧ 1 ≤ i ∧ i < 2000000000) (fun i s => ∃ L' : Lt, s = [L'.ob] ∧ L'.c ≤ L2.c + 3 * i) ⟨L2, rfl, by omega⟩ ?_ ?_⟩
      · rintro i x _ hx ⟨L3, rfl, c3⟩
        have hi : i < m.toNat := by have := (List.getElem?_eq_some_iff.mp hx).1; rwa [rangeL_lenQ] at this
        simp (failIfUnchanged := false) (dsimp := false) only [pwA, ixL, setAll, wRev, wipe, isiOk, isTy, List.any_cons, List.any_nil, reduceCtorEq, if_true, if_false, List.getElem?_cons_zero, List.getElem?_cons_succ, List.getElem?_nil, List.set_cons_zero, List.set_cons_succ, List.length_cons, List.length_nil, List.map_cons, List.map_nil, List.cons_append, List.nil_append, List.replicate_succ, List.replicate_zero, Nat.reduceAdd, Nat.reduceSub, Nat.reduceMul, Nat.reduceLT, Nat.reduceLeDiff, Nat.reduceEqDiff, Int.reduceNeg, Int.reduceLT, Int.reduceLE, Int.reduceToNat, Int.reduceAdd, Int.reduceSub, Int.reduceMul, Int.reducePow, Int.reduceAbs, ↓reduceIte, ge_iff_le, gt_iff_lt]
        refine size_w rfl (by omega) fun d L4 d0 d1 c4 => ?_
        simp (failIfUnchanged := false) (dsimp := false) only [pwA, ixL, setAll, wRev, wipe, isiOk, isTy, List.any_cons, List.any_nil, reduceCtorEq, if_true, if_false, List.getElem?_cons_zero, List.getElem?_cons_succ, List.getElem?_nil, List.set_cons_zero, List.set_cons_succ, List.length_cons, List.length_nil, List.map_cons, List.map_nil, List.cons_append, List.nil_append, List.replicate_succ, List.replicate_zero, Nat.reduceAdd, Nat.reduceSub, Nat.reduceMul, Nat.reduceLT, Nat.reduceLeDiff, Nat.reduceEqDiff, Int.reduceNeg, Int.reduceLT, Int.reduceLE, Int.reduceToNat, Int.reduceAdd, Int.reduceSub, Int.reduceMul, Int.reducePow, Int.reduceAbs, ↓reduceIte, ge_iff_le, gt_iff_lt]
        refine pick_w rfl (by omega) (by omega) (by omega) fun d2 L5 h0 h1 c5 => ?_
        simp (failIfUnchanged := false) (dsimp := false) only [pwA, ixL, setAll, wRev, wipe, isiOk, isTy, List.any_cons, List.any_nil, reduceCtorEq, if_true, if_false, List.getElem?_cons_zero, List.getElem?_cons_succ, List.getElem?_nil, List.set_cons_zero, List.set_cons_succ, List.length_cons, List.length_nil, List.map_cons, List.map_nil, List.cons_append, List.nil_append, List.replicate_succ, List.replicate_zero, Nat.reduceAdd, Nat.reduceSub, Nat.reduceMul, Nat.reduceLT, Nat.reduceLeDiff, Nat.reduceEqDiff, Int.reduceNeg, Int.reduceLT, Int.reduceLE, Int.reduceToNat, Int.reduceAdd, Int.reduceSub, Int.reduceMul, Int.reducePow, Int.reduceAbs, ↓reduceIte, ge_iff_le, gt_iff_lt, h0]
        refine ixc (by simp; omega) h0 fun y hy => ?_
        simp only [List.mem_cons, List.not_mem_nil, or_false] at hy
        rcases hy with rfl | rfl <;> simp (failIfUnchanged := false) (dsimp := false) only [pwA, ixL, setAll, wRev, wipe, isiOk, isTy, List.any_cons, List.any_nil, reduceCtorEq, if_true, if_false, List.getElem?_cons_zero, List.getElem?_cons_succ, List.getElem?_nil, List.set_cons_zero, List.set_cons_succ, List.length_cons, List.length_nil, List.map_cons, List.map_nil, List.cons_append, List.nil_append, List.replicate_succ, List.replicate_zero, Nat.reduceAdd, Nat.reduceSub, Nat.reduceMul, Nat.reduceLT, Nat.reduceLeDiff, Nat.reduceEqDiff, Int.reduceNeg, Int.reduceLT, Int.reduceLE, Int.reduceToNat, Int.reduceAdd, Int.reduceSub, Int.reduceMul, Int.reducePow, Int.reduceAbs, ↓reduceIte, ge_iff_le, gt_iff_lt] <;> exact ⟨⟨_, rfl, by omega, by omega⟩, L5, rfl, by omega⟩
      · rintro ws _ hl hw ⟨L3, rfl, c3⟩
        rw [rangeL_lenQ] at hl c3
        simp (failIfUnchanged := false) (dsimp := false) only [pwA, ixL, setAll, wRev, wipe, isiOk, isTy, List.any_cons, List.any_nil, reduceCtorEq, if_true, if_false, List.getElem?_cons_zero, List.getElem?_cons_succ, List.getElem?_nil, List.set_cons_zero, List.set_cons_succ, List.length_cons, List.length_nil, List.map_cons, List.map_nil, List.cons_append, List.nil_append, List.replicate_succ, List.replicate_zero, Nat.reduceAdd, Nat.reduceSub, Nat.reduceMul, Nat.reduceLT, Nat.reduceLeDiff, Nat.reduceEqDiff, Int.reduceNeg, Int.reduceLT, Int.reduceLE, Int.reduceToNat, Int.reduceAdd, Int.reduceSub, Int.reduceMul, Int.reducePow, Int.reduceAbs, ↓reduceIte, ge_iff_le, gt_iff_lt, rng1 (show (-1000000 : Int) ≤ m - 1 by omega) (show m - 1 ≤ 1000000 by omega), rangeL_lenQ]
        refine ⟨by unfold lim; omega, wC_inv (fun _ d => ∃ i : Int, d = .int i ∧ 1 ≤ i ∧ i < 2000000000) (fun i s => ∃ L' : Lt, s = [L'.ob] ∧ L'.c ≤ L3.c + 3 * i) ⟨L3, rfl, by omega⟩ ?_ ?_⟩
        · rintro i x _ hx ⟨L4, rfl, c4⟩
          have hi : i < (m - 1).toNat := by have := (List.getElem?_eq_some_iff.mp hx).1; rwa [rangeL_lenQ] at this
          simp (failIfUnchanged := false) (dsimp := false) only [pwA, ixL, setAll, wRev, wipe, isiOk, isTy, List.any_cons, List.any_nil, reduceCtorEq, if_true, if_false, List.getElem?_cons_zero, List.getElem?_cons_succ, List.getElem?_nil, List.set_cons_zero, List.set_cons_succ, List.length_cons, List.length_nil, List.map_cons, List.map_nil, List.cons_append, List.nil_append, List.replicate_succ, List.replicate_zero, Nat.reduceAdd, Nat.reduceSub, Nat.reduceMul, Nat.reduceLT, Nat.reduceLeDiff, Nat.reduceEqDiff, Int.reduceNeg, Int.reduceLT, Int.reduceLE, Int.reduceToNat, Int.reduceAdd, Int.reduceSub, Int.reduceMul, Int.reducePow, Int.reduceAbs, ↓reduceIte, ge_iff_le, gt_iff_lt]
          refine size_w rfl (by omega) fun d L5 d0 d1 c5 => ?_
          simp (failIfUnchanged := false) (dsimp := false) only [pwA, ixL, setAll, wRev, wipe, isiOk, isTy, List.any_cons, List.any_nil, reduceCtorEq, if_true, if_false, List.getElem?_cons_zero, List.getElem?_cons_succ, List.getElem?_nil, List.set_cons_zero, List.set_cons_succ, List.length_cons, List.length_nil, List.map_cons, List.map_nil, List.cons_append, List.nil_append, List.replicate_succ, List.replicate_zero, Nat.reduceAdd, Nat.reduceSub, Nat.reduceMul, Nat.reduceLT, Nat.reduceLeDiff, Nat.reduceEqDiff, Int.reduceNeg, Int.reduceLT, Int.reduceLE, Int.reduceToNat, Int.reduceAdd, Int.reduceSub, Int.reduceMul, Int.reducePow, Int.reduceAbs, ↓reduceIte, ge_iff_le, gt_iff_lt]
          exact ⟨⟨_, rfl, by omega, by omega⟩, L5, rfl, by omega⟩
        · rintro ss _ hl2 hs2 ⟨L4, rfl, c4⟩
          rw [rangeL_lenQ] at hl2 c4
          obtain ⟨w, rfl, hw2⟩ := ints_of hw
          obtain ⟨z, rfl, hz2⟩ := ints_of hs2
          rw [List.length_map] at hl hl2
          exact ⟨by simp [D.noRef, noRefL_all], ⟨w, z, rfl, by omega, by omega, by omega, hw2, hz2⟩, L4, [], rfl, by omega⟩
  · rintro v L' _ ⟨ws, ss, rfl, h⟩ hL
    exact hq ws ss L' h hL
end Pm

/-! Pm, part D: data of bounded size, its text. -/
namespace Pm
open PySem (Str PyData)
/-- plain data: so deep, so large at most -/
structure Sz (m w : Nat) (d : D) : Prop where
  nr : d.noRef = true
  fl : d.flat = true
  cl : d.py.canLay0 = true
  dp : d.py.depth ≤ m
  wt : d.py.weight ≤ w
  sh : d.py.showable = true
  lv : d.py.leavesShort 30 = true
theorem Sz.mono {m w m' w' : Nat} {d : D} (h : Sz m w d) (hm : m ≤ m') (hw : w ≤ w') : Sz m' w' d := ⟨h.nr, h.fl, h.cl, Nat.le_trans h.dp hm, Nat.le_trans h.wt hw, h.sh, h.lv⟩
theorem Sz.int {i : Int} (h : i.natAbs < 10 ^ 25) : Sz 0 84 (.int i) := by
  have hl : i.natAbs.log2 < 84 := by
    by_cases h0 : i.natAbs = 0
    · rw [h0]; decide
    · exact (Nat.log2_lt h0).mpr (Nat.lt_trans h (by decide))
  refine ⟨rfl, rfl, rfl, Nat.le_refl _, ?_, ?_, ?_⟩
  · show (if i == 0 then 0 else i.natAbs.log2 + 1) ≤ 84
    split <;> omega
  · show decide (i.natAbs.log2 < 1920) = true
    exact decide_eq_true (by omega)
  · show decide ((PyData.shown (.int i)).length ≤ 30) = true
    have e := PySem.int_text_length_le10 (k := 25) (by decide) h
    refine decide_eq_true ?_
    show (Str.ofString (toString i)).length ≤ 30
    rw [PySem.ofString_length]
    omega
theorem Sz.bl (b : Bool) : Sz 0 0 (.bl b) := ⟨rfl, rfl, rfl, Nat.le_refl _, Nat.le_refl _, rfl, rfl⟩
theorem Sz.non : Sz 0 0 .non := ⟨rfl, rfl, rfl, Nat.le_refl _, Nat.le_refl _, rfl, rfl⟩
theorem Sz.str {s : Str} {n : Nat} (h1 : s.cps.all (· < 0x110000) = true) (h2 : s.cps.size ≤ n) (h3 : (s.cps.toList.all fun c => decide (c < 16 ^ 8)) = true) : Sz 0 n (.str s) := ⟨rfl, rfl, h1, Nat.le_refl _, h2, rfl, h3⟩
theorem Sz.lists {m w : Nat} : ∀ {xs : List D}, (∀ x ∈ xs, Sz m w x) → noRefL xs = true ∧ flatL xs = true ∧ PyData.canLayAll0 (pyL xs) = true ∧ PyData.depthAll (pyL xs) ≤ m ∧ PyData.weightAll (pyL xs) ≤ xs.length * (w + 1) ∧ PyData.showableAll (pyL xs) = true ∧ PyData.leavesShortAll 30 (pyL xs) = true
  | [], _ => ⟨rfl, rfl, rfl, Nat.zero_le _, Nat.zero_le _, rfl, rfl⟩
  | x :: xs, h => by
    have h0 := h x (List.mem_cons_self ..)
    obtain ⟨h1, h2, h3, h4, h5, h6, h7⟩ := Sz.lists fun y hy => h y (List.mem_cons_of_mem _ hy)
    refine ⟨by simp only [noRefL, h0.nr, h1, Bool.and_self], by simp only [flatL, h0.fl, h2, Bool.and_self], by simp only [pyL, PyData.canLayAll0, h0.cl, h3, Bool.and_self], ?_, ?_, by simp only [pyL, PyData.showableAll, h0.sh, h6, Bool.and_self], by simp only [pyL, PyData.leavesShortAll, h0.lv, h7, Bool.and_self]⟩
    · show max x.py.depth (PyData.depthAll (pyL xs)) ≤ m
      exact Nat.max_le.mpr ⟨h0.dp, h4⟩
    · show x.py.weight + 1 + PyData.weightAll (pyL xs) ≤ (xs.length + 1) * (w + 1)
      have := h0.wt
      rw [Nat.succ_mul]
      omega
theorem Sz.tup {m w W : Nat} {xs : List D} (h : ∀ x ∈ xs, Sz m w x) (hW : xs.length * (w + 1) ≤ W) : Sz (m + 1) W (.tup xs) := by
  obtain ⟨h1, h2, h3, h4, h5, h6, h7⟩ := Sz.lists h
  exact ⟨h1, h2, h3, Nat.add_le_add_right h4 1, Nat.le_trans h5 hW, h6, h7⟩
theorem Sz.lst {m w W : Nat} {xs : List D} (h : ∀ x ∈ xs, Sz m w x) (hW : xs.length * (w + 1) ≤ W) : Sz (m + 1) W (.lst xs) := by
  obtain ⟨h1, h2, h3, h4, h5, h6, h7⟩ := Sz.lists h
  exact ⟨h1, h2, h3, Nat.add_le_add_right h4 1, Nat.le_trans h5 hW, h6, h7⟩
theorem Sz.parts {m w : Nat} : ∀ {xs : List D}, noRefL xs = true → flatL xs = true → PyData.canLayAll0 (pyL xs) = true → PyData.depthAll (pyL xs) ≤ m → PyData.weightAll (pyL xs) ≤ w → PyData.showableAll (pyL xs) = true → PyData.leavesShortAll 30 (pyL xs) = true → xs.length ≤ w ∧ ∀ x ∈ xs, Sz m w x
  | [], _, _, _, _, _, _, _ => ⟨Nat.zero_le _, by simp⟩
  | x :: xs, h1, h2, h3, h4, h5, h6, h7 => by
    simp only [noRefL, Bool.and_eq_true] at h1
    simp only [flatL, Bool.and_eq_true] at h2
    simp only [pyL, PyData.canLayAll0, Bool.and_eq_true] at h3
    have h4 : max x.py.depth (PyData.depthAll (pyL xs)) ≤ m := h4
    have h5 : x.py.weight + 1 + PyData.weightAll (pyL xs) ≤ w := h5
    simp only [pyL, PyData.showableAll, Bool.and_eq_true] at h6
    simp only [pyL, PyData.leavesShortAll, Bool.and_eq_true] at h7
    obtain ⟨l1, l2⟩ := Sz.parts (m := m) (w := w - 1) h1.2 h2.2 h3.2 (by omega) (by omega) h6.2 h7.2
    refine ⟨by rw [List.length_cons]; omega, fun y hy => ?_⟩
    rcases List.mem_cons.mp hy with rfl | hy
    · exact ⟨h1.1, h2.1, h3.1, by omega, by omega, h6.1, h7.1⟩
    · exact (l2 y hy).mono (Nat.le_refl _) (by omega)
theorem Sz.inT {m w : Nat} {xs : List D} (h : Sz m w (.tup xs)) : xs.length ≤ w ∧ ∀ x ∈ xs, Sz m w x :=
  Sz.parts h.nr h.fl h.cl (Nat.le_trans (Nat.le_succ _) h.dp) h.wt h.sh h.lv
theorem Sz.inL {m w : Nat} {xs : List D} (h : Sz m w (.lst xs)) : xs.length ≤ w ∧ ∀ x ∈ xs, Sz m w x :=
  Sz.parts h.nr h.fl h.cl (Nat.le_trans (Nat.le_succ _) h.dp) h.wt h.sh h.lv
theorem Sz.ok {m w : Nat} {d : D} (h : Sz m w d) (hm : m ≤ 64) : d.ok = true := by
  unfold D.ok PySem.SeqAt.shaped
  rw [h.fl, h.cl, decide_eq_true (Nat.le_trans h.dp hm)]
  rfl
theorem Sz.strD {m w : Nat} {d : D} {st : Sto} (h : Sz m w d) (hm : m ≤ 64) (hw : w ≤ 30000) (hp : d.plain = false) : Pm.strD st d = some (.str d.py.shown, st) := by
  have hs := PyData.shown_le 30 (by decide) d.py h.lv
  have hl : d.py.shown.length ≤ lim := by
    have := h.wt
    unfold lim
    omega
  have key : (if d.plain then none else (deref st d).bind fun e => if e.ok && e.py.showable && e.py.shown.length ≤ lim then some (D.str e.py.shown, st) else none) = some (D.str d.py.shown, st) := by
    rw [if_neg (by rw [hp]; decide)]
    simp only [deref, h.nr, if_true, Option.bind_some, h.ok hm, h.sh, Bool.and_self, Bool.true_and, decide_eq_true hl]
  cases d <;> first | exact key | simp [D.plain] at hp
theorem Sz.bistr {m w : Nat} {d : D} {st : Sto} {q : Bool} (h : Sz m w d) (hm : m ≤ 64) (hw : w ≤ 30000) : ∃ t, ∀ st, bicall .str q [d] st = some (.str t, st) := by
  by_cases hp : d.plain = true
  · cases d with
    | non => exact ⟨_, fun _ => rfl⟩
    | bl b => exact ⟨_, fun _ => rfl⟩
    | str x => exact ⟨_, fun _ => rfl⟩
    | int i =>
      have hs : i.natAbs.log2 < 1920 := of_decide_eq_true h.sh
      exact ⟨_, fun st => by show (if i.natAbs.log2 < 1920 then _ else _) = _; rw [if_pos hs]⟩
    | _ => simp [D.plain] at hp
  · refine ⟨d.py.shown, fun st => ?_⟩
    have e := h.strD (st := st) hm hw (by simpa using hp)
    cases d <;> first | exact e | simp [D.plain] at hp
/-- data of equal parts is told the same by == -/
theorem eqvAll_refl : ∀ {xs : List D}, (∀ x ∈ xs, PyData.eqv x.py x.py = true) → PyData.eqvAll (pyL xs) (pyL xs) = true
  | [], _ => rfl
  | x :: xs, h => by
    simp only [pyL, PyData.eqvAll, h x (List.mem_cons_self ..), eqvAll_refl fun y hy => h y (List.mem_cons_of_mem _ hy), Bool.and_self]
/-- plain data: so deep at most, told the same as itself by == -/
structure Pd (m : Nat) (d : D) : Prop where
  nr : d.noRef = true
  fl : d.flat = true
  cl : d.py.canLay0 = true
  dp : d.py.depth ≤ m
  eq : PyData.eqv d.py d.py = true
theorem Pd.mono {m m' : Nat} {d : D} (h : Pd m d) (hm : m ≤ m') : Pd m' d := ⟨h.nr, h.fl, h.cl, Nat.le_trans h.dp hm, h.eq⟩
theorem Pd.int (i : Int) : Pd 0 (.int i) := ⟨rfl, rfl, rfl, Nat.le_refl _, by simp [D.py, PyData.eqv]⟩
theorem Pd.bl (b : Bool) : Pd 0 (.bl b) := ⟨rfl, rfl, rfl, Nat.le_refl _, by cases b <;> rfl⟩
theorem Pd.non : Pd 0 .non := ⟨rfl, rfl, rfl, Nat.le_refl _, rfl⟩
theorem Pd.lists {m : Nat} : ∀ {xs : List D}, (∀ x ∈ xs, Pd m x) → noRefL xs = true ∧ flatL xs = true ∧ PyData.canLayAll0 (pyL xs) = true ∧ PyData.depthAll (pyL xs) ≤ m
  | [], _ => ⟨rfl, rfl, rfl, Nat.zero_le _⟩
  | x :: xs, h => by
    have h0 := h x (List.mem_cons_self ..)
    obtain ⟨h1, h2, h3, h4⟩ := Pd.lists fun y hy => h y (List.mem_cons_of_mem _ hy)
    refine ⟨by simp only [noRefL, h0.nr, h1, Bool.and_self], by simp only [flatL, h0.fl, h2, Bool.and_self], by simp only [pyL, PyData.canLayAll0, h0.cl, h3, Bool.and_self], ?_⟩
    show max x.py.depth (PyData.depthAll (pyL xs)) ≤ m
    exact Nat.max_le.mpr ⟨h0.dp, h4⟩
theorem Pd.tup {m : Nat} {xs : List D} (h : ∀ x ∈ xs, Pd m x) : Pd (m + 1) (.tup xs) := by
  obtain ⟨h1, h2, h3, h4⟩ := Pd.lists h
  exact ⟨h1, h2, h3, Nat.add_le_add_right h4 1, eqvAll_refl fun x hx => (h x hx).eq⟩
theorem Pd.lst {m : Nat} {xs : List D} (h : ∀ x ∈ xs, Pd m x) : Pd (m + 1) (.lst xs) := by
  obtain ⟨h1, h2, h3, h4⟩ := Pd.lists h
  exact ⟨h1, h2, h3, Nat.add_le_add_right h4 1, eqvAll_refl fun x hx => (h x hx).eq⟩
theorem Pd.ints {α : Type} (l : List α) (f : α → Int) : Pd 1 (.tup (l.map fun a => .int (f a))) := Pd.tup fun x hx => by
  obtain ⟨a, _, rfl⟩ := List.mem_map.mp hx
  exact Pd.int _
theorem Pd.ok {m : Nat} {d : D} (h : Pd m d) (hm : m ≤ 64) : d.ok = true := by
  unfold D.ok PySem.SeqAt.shaped
  rw [h.fl, h.cl, decide_eq_true (Nat.le_trans h.dp hm)]
  rfl
theorem Pd.ceq {m : Nat} {d : D} {st : Sto} (h : Pd m d) (hm : m ≤ 64) : cmpop .eq st d d = some true := by
  have e : (deref st d).bind (fun a => (deref st d).bind fun b => eqD a b) = some true := by
    simp only [deref_plain h.nr, Option.bind_some, eqD, h.ok hm, h.eq, Bool.and_self, if_true]
  cases d <;> first | exact e | (show some (_ == _) = some true; simp)
theorem Pd.cne {m : Nat} {d : D} {st : Sto} (h : Pd m d) (hm : m ≤ 64) : cmpop .ne st d d = some false := by
  have e : (deref st d).bind (fun a => (deref st d).bind fun b => (eqD a b).map (!·)) = some false := by
    simp only [deref_plain h.nr, Option.bind_some, eqD, h.ok hm, h.eq, Bool.and_self, if_true, Option.map_some, Bool.not_true]
  cases d <;> first | exact e | (show some (!(_ == _)) = some false; simp)
end Pm

/-! Pm, part S: the laws' own comparison; texts of data. -/
namespace Pm
open PySem (Str PyData)
/-- data that is told the same as itself, so deep -/
def smB : Nat → D → Bool
  | 0, .lst _ => false
  | 0, .tup _ => false
  | n + 1, .lst xs => xs.length < lim && xs.all (smB n)
  | n + 1, .tup xs => xs.length < lim && xs.all (smB n)
  | _, .str s => (D.str s).ok
  | _, .int _ => true
  | _, .bl _ => true
  | _, .non => true
  | _, _ => false
theorem smB_noRef : ∀ (n : Nat) (d : D), smB n d = true → d.noRef = true
  | 0, d, h => by cases d <;> simp [smB] at h <;> rfl
  | n + 1, d, h => by
    cases d <;> simp only [smB, Bool.and_eq_true, List.all_eq_true] at h <;> first
      | rfl
      | (simp only [D.noRef, noRefL_all]; exact List.all_eq_true.mpr fun x hx => smB_noRef n x (h.2 x hx))
      | simp at h
theorem c_eqN {st : Sto} : cmpop .eq st .non .non = some true := rfl
theorem same_eq : ∀ (n : Nat) (d : D) (k : Nat) (st : Sto), smB n d = true → pcall (callN pg0 FNS (k + n + 1)) 27 [d, d] st = some (.bl true)
  | n, d, k, st, h => by
    have hr := smB_noRef n d h
    refine PW.eq ?_ (by simp [hr])
    unfold PW
    rw [call_w a_L_same_k02 rfl]
    cases d with
    | int i => simp (failIfUnchanged := false) (dsimp := false) only [pwA, ixL, setAll, wRev, wipe, isiOk, isTy, List.any_cons, List.any_nil, reduceCtorEq, if_true, if_false, List.getElem?_cons_zero, List.getElem?_cons_succ, List.getElem?_nil, List.set_cons_zero, List.set_cons_succ, List.length_cons, List.length_nil, List.map_cons, List.map_nil, List.cons_append, List.nil_append, List.replicate_succ, List.replicate_zero, Nat.reduceAdd, Nat.reduceSub, Nat.reduceMul, Nat.reduceLT, Nat.reduceLeDiff, Nat.reduceEqDiff, Int.reduceNeg, Int.reduceLT, Int.reduceLE, Int.reduceToNat, Int.reduceAdd, Int.reduceSub, Int.reduceMul, Int.reducePow, Int.reduceAbs, ↓reduceIte, ge_iff_le, gt_iff_lt, f_L_same_k02, deref_plain, D.noRef, BEq.rfl]; exact ⟨_, deref_plain rfl, rfl, rfl⟩
    | bl i => simp (failIfUnchanged := false) (dsimp := false) only [pwA, ixL, setAll, wRev, wipe, isiOk, isTy, List.any_cons, List.any_nil, reduceCtorEq, if_true, if_false, List.getElem?_cons_zero, List.getElem?_cons_succ, List.getElem?_nil, List.set_cons_zero, List.set_cons_succ, List.length_cons, List.length_nil, List.map_cons, List.map_nil, List.cons_append, List.nil_append, List.replicate_succ, List.replicate_zero, Nat.reduceAdd, Nat.reduceSub, Nat.reduceMul, Nat.reduceLT, Nat.reduceLeDiff, Nat.reduceEqDiff, Int.reduceNeg, Int.reduceLT, Int.reduceLE, Int.reduceToNat, Int.reduceAdd, Int.reduceSub, Int.reduceMul, Int.reducePow, Int.reduceAbs, ↓reduceIte, ge_iff_le, gt_iff_lt, f_L_same_k02, BEq.rfl]; exact ⟨_, deref_plain rfl, rfl, rfl⟩
    | str i => simp (failIfUnchanged := false) (dsimp := false) only [pwA, ixL, setAll, wRev, wipe, isiOk, isTy, List.any_cons, List.any_nil, reduceCtorEq, if_true, if_false, List.getElem?_cons_zero, List.getElem?_cons_succ, List.getElem?_nil, List.set_cons_zero, List.set_cons_succ, List.length_cons, List.length_nil, List.map_cons, List.map_nil, List.cons_append, List.nil_append, List.replicate_succ, List.replicate_zero, Nat.reduceAdd, Nat.reduceSub, Nat.reduceMul, Nat.reduceLT, Nat.reduceLeDiff, Nat.reduceEqDiff, Int.reduceNeg, Int.reduceLT, Int.reduceLE, Int.reduceToNat, Int.reduceAdd, Int.reduceSub, Int.reduceMul, Int.reducePow, Int.reduceAbs, ↓reduceIte, ge_iff_le, gt_iff_lt, f_L_same_k02, BEq.rfl]; exact ⟨_, deref_plain rfl, rfl, rfl⟩
    | non => simp (failIfUnchanged := false) (dsimp := false) only [pwA, ixL, setAll, wRev, wipe, isiOk, isTy, List.any_cons, List.any_nil, reduceCtorEq, if_true, if_false, List.getElem?_cons_zero, List.getElem?_cons_succ, List.getElem?_nil, List.set_cons_zero, List.set_cons_succ, List.length_cons, List.length_nil, List.map_cons, List.map_nil, List.cons_append, List.nil_append, List.replicate_succ, List.replicate_zero, Nat.reduceAdd, Nat.reduceSub, Nat.reduceMul, Nat.reduceLT, Nat.reduceLeDiff, Nat.reduceEqDiff, Int.reduceNeg, Int.reduceLT, Int.reduceLE, Int.reduceToNat, Int.reduceAdd, Int.reduceSub, Int.reduceMul, Int.reducePow, Int.reduceAbs, ↓reduceIte, ge_iff_le, gt_iff_lt, f_L_same_k02, BEq.rfl, c_eqN]; exact ⟨_, deref_plain rfl, rfl, rfl⟩
    | ref r => simp [D.noRef] at hr
    | dct t ks vs => cases n <;> simp [smB] at h
    | lst xs =>
      cases n with
      | zero => simp [smB] at h
      | succ n =>
        simp only [smB, Bool.and_eq_true, decide_eq_true_eq, List.all_eq_true] at h
        simp (failIfUnchanged := false) (dsimp := false) only [pwA, ixL, setAll, wRev, wipe, isiOk, isTy, List.any_cons, List.any_nil, reduceCtorEq, if_true, if_false, List.getElem?_cons_zero, List.getElem?_cons_succ, List.getElem?_nil, List.set_cons_zero, List.set_cons_succ, List.length_cons, List.length_nil, List.map_cons, List.map_nil, List.cons_append, List.nil_append, List.replicate_succ, List.replicate_zero, Nat.reduceAdd, Nat.reduceSub, Nat.reduceMul, Nat.reduceLT, Nat.reduceLeDiff, Nat.reduceEqDiff, Int.reduceNeg, Int.reduceLT, Int.reduceLE, Int.reduceToNat, Int.reduceAdd, Int.reduceSub, Int.reduceMul, Int.reducePow, Int.reduceAbs, ↓reduceIte, ge_iff_le, gt_iff_lt, f_L_same_k02, BEq.rfl, zipL_lenQ, Nat.min_self]
        refine ⟨h.1, wC_get (List.replicate xs.length (.bl true)) rfl (by simp [zipL_lenQ]) (fun i x hx => ?_) ?_⟩
        · obtain ⟨y, z, h1, h2, rfl⟩ := zipL_getQ.mp hx
          rw [h1] at h2; cases h2
          have := same_eq n y k [] (h.2 y (List.mem_of_getElem? h1))
          simp (failIfUnchanged := false) (dsimp := false) only [pwA, ixL, setAll, wRev, wipe, isiOk, isTy, List.any_cons, List.any_nil, reduceCtorEq, if_true, if_false, List.getElem?_cons_zero, List.getElem?_cons_succ, List.getElem?_nil, List.set_cons_zero, List.set_cons_succ, List.length_cons, List.length_nil, List.map_cons, List.map_nil, List.cons_append, List.nil_append, List.replicate_succ, List.replicate_zero, Nat.reduceAdd, Nat.reduceSub, Nat.reduceMul, Nat.reduceLT, Nat.reduceLeDiff, Nat.reduceEqDiff, Int.reduceNeg, Int.reduceLT, Int.reduceLE, Int.reduceToNat, Int.reduceAdd, Int.reduceSub, Int.reduceMul, Int.reducePow, Int.reduceAbs, ↓reduceIte, ge_iff_le, gt_iff_lt, show k + (n + 1) = k + n + 1 by omega, this]
          rw [List.getElem?_replicate, if_pos (List.getElem?_eq_some_iff.mp h1).1]
        · have e : List.replicate xs.length (D.bl true) = (List.replicate xs.length true).map D.bl := by simp
          simp (failIfUnchanged := false) (dsimp := false) only [pwA, ixL, setAll, wRev, wipe, isiOk, isTy, List.any_cons, List.any_nil, reduceCtorEq, if_true, if_false, List.getElem?_cons_zero, List.getElem?_cons_succ, List.getElem?_nil, List.set_cons_zero, List.set_cons_succ, List.length_cons, List.length_nil, List.map_cons, List.map_nil, List.cons_append, List.nil_append, List.replicate_succ, List.replicate_zero, Nat.reduceAdd, Nat.reduceSub, Nat.reduceMul, Nat.reduceLT, Nat.reduceLeDiff, Nat.reduceEqDiff, Int.reduceNeg, Int.reduceLT, Int.reduceLE, Int.reduceToNat, Int.reduceAdd, Int.reduceSub, Int.reduceMul, Int.reducePow, Int.reduceAbs, ↓reduceIte, ge_iff_le, gt_iff_lt, e, f_allB]
          exact ⟨_, deref_plain rfl, rfl, by simp⟩
    | tup xs =>
      cases n with
      | zero => simp [smB] at h
      | succ n =>
        simp only [smB, Bool.and_eq_true, decide_eq_true_eq, List.all_eq_true] at h
        simp (failIfUnchanged := false) (dsimp := false) only [pwA, ixL, setAll, wRev, wipe, isiOk, isTy, List.any_cons, List.any_nil, reduceCtorEq, if_true, if_false, List.getElem?_cons_zero, List.getElem?_cons_succ, List.getElem?_nil, List.set_cons_zero, List.set_cons_succ, List.length_cons, List.length_nil, List.map_cons, List.map_nil, List.cons_append, List.nil_append, List.replicate_succ, List.replicate_zero, Nat.reduceAdd, Nat.reduceSub, Nat.reduceMul, Nat.reduceLT, Nat.reduceLeDiff, Nat.reduceEqDiff, Int.reduceNeg, Int.reduceLT, Int.reduceLE, Int.reduceToNat, Int.reduceAdd, Int.reduceSub, Int.reduceMul, Int.reducePow, Int.reduceAbs, ↓reduceIte, ge_iff_le, gt_iff_lt, f_L_same_k02, BEq.rfl, zipL_lenQ, Nat.min_self]
        refine ⟨h.1, wC_get (List.replicate xs.length (.bl true)) rfl (by simp [zipL_lenQ]) (fun i x hx => ?_) ?_⟩
        · obtain ⟨y, z, h1, h2, rfl⟩ := zipL_getQ.mp hx
          rw [h1] at h2; cases h2
          have := same_eq n y k [] (h.2 y (List.mem_of_getElem? h1))
          simp (failIfUnchanged := false) (dsimp := false) only [pwA, ixL, setAll, wRev, wipe, isiOk, isTy, List.any_cons, List.any_nil, reduceCtorEq, if_true, if_false, List.getElem?_cons_zero, List.getElem?_cons_succ, List.getElem?_nil, List.set_cons_zero, List.set_cons_succ, List.length_cons, List.length_nil, List.map_cons, List.map_nil, List.cons_append, List.nil_append, List.replicate_succ, List.replicate_zero, Nat.reduceAdd, Nat.reduceSub, Nat.reduceMul, Nat.reduceLT, Nat.reduceLeDiff, Nat.reduceEqDiff, Int.reduceNeg, Int.reduceLT, Int.reduceLE, Int.reduceToNat, Int.reduceAdd, Int.reduceSub, Int.reduceMul, Int.reducePow, Int.reduceAbs, ↓reduceIte, ge_iff_le, gt_iff_lt, show k + (n + 1) = k + n + 1 by omega, this]
          rw [List.getElem?_replicate, if_pos (List.getElem?_eq_some_iff.mp h1).1]
        · have e : List.replicate xs.length (D.bl true) = (List.replicate xs.length true).map D.bl := by simp
          simp (failIfUnchanged := false) (dsimp := false) only [pwA, ixL, setAll, wRev, wipe, isiOk, isTy, List.any_cons, List.any_nil, reduceCtorEq, if_true, if_false, List.getElem?_cons_zero, List.getElem?_cons_succ, List.getElem?_nil, List.set_cons_zero, List.set_cons_succ, List.length_cons, List.length_nil, List.map_cons, List.map_nil, List.cons_append, List.nil_append, List.replicate_succ, List.replicate_zero, Nat.reduceAdd, Nat.reduceSub, Nat.reduceMul, Nat.reduceLT, Nat.reduceLeDiff, Nat.reduceEqDiff, Int.reduceNeg, Int.reduceLT, Int.reduceLE, Int.reduceToNat, Int.reduceAdd, Int.reduceSub, Int.reduceMul, Int.reducePow, Int.reduceAbs, ↓reduceIte, ge_iff_le, gt_iff_lt, e, f_allB]
          exact ⟨_, deref_plain rfl, rfl, by simp⟩
end Pm

/-! Pm, part T: stocks and layings. -/
namespace Pm
open PySem (Str PyData)
/-- a number, so great at least -/
def numB (n : Int) : D → Bool
  | .int i => decide (n ≤ i)
  | _ => false
theorem num_eq {k : Nat} {d : D} {n : Int} {st : Sto} (hd : d.noRef = true) : pcall (callN pg0 FNS (k + 1)) 0 [d, .int n] st = some (.bl (numB n d)) := by
  refine PW.eq ?_ (by simp [hd, D.noRef])
  unfold PW
  rw [call_w a_is_number_k01 rfl]
  cases d with
  | ref r => simp [D.noRef] at hd
  | int i => simp (failIfUnchanged := false) (dsimp := false) only [pwA, ixL, setAll, wRev, wipe, isiOk, isTy, List.any_cons, List.any_nil, reduceCtorEq, if_true, if_false, List.getElem?_cons_zero, List.getElem?_cons_succ, List.getElem?_nil, List.set_cons_zero, List.set_cons_succ, List.length_cons, List.length_nil, List.map_cons, List.map_nil, List.cons_append, List.nil_append, List.replicate_succ, List.replicate_zero, Nat.reduceAdd, Nat.reduceSub, Nat.reduceMul, Nat.reduceLT, Nat.reduceLeDiff, Nat.reduceEqDiff, Int.reduceNeg, Int.reduceLT, Int.reduceLE, Int.reduceToNat, Int.reduceAdd, Int.reduceSub, Int.reduceMul, Int.reducePow, Int.reduceAbs, ↓reduceIte, ge_iff_le, gt_iff_lt, f_is_number_k01, numB]; exact ⟨_, deref_plain rfl, rfl, rfl⟩
  | bl i => simp (failIfUnchanged := false) (dsimp := false) only [pwA, ixL, setAll, wRev, wipe, isiOk, isTy, List.any_cons, List.any_nil, reduceCtorEq, if_true, if_false, List.getElem?_cons_zero, List.getElem?_cons_succ, List.getElem?_nil, List.set_cons_zero, List.set_cons_succ, List.length_cons, List.length_nil, List.map_cons, List.map_nil, List.cons_append, List.nil_append, List.replicate_succ, List.replicate_zero, Nat.reduceAdd, Nat.reduceSub, Nat.reduceMul, Nat.reduceLT, Nat.reduceLeDiff, Nat.reduceEqDiff, Int.reduceNeg, Int.reduceLT, Int.reduceLE, Int.reduceToNat, Int.reduceAdd, Int.reduceSub, Int.reduceMul, Int.reducePow, Int.reduceAbs, ↓reduceIte, ge_iff_le, gt_iff_lt, f_is_number_k01, numB]; exact ⟨_, deref_plain rfl, rfl, rfl⟩
  | _ => simp (failIfUnchanged := false) (dsimp := false) only [pwA, ixL, setAll, wRev, wipe, isiOk, isTy, List.any_cons, List.any_nil, reduceCtorEq, if_true, if_false, List.getElem?_cons_zero, List.getElem?_cons_succ, List.getElem?_nil, List.set_cons_zero, List.set_cons_succ, List.length_cons, List.length_nil, List.map_cons, List.map_nil, List.cons_append, List.nil_append, List.replicate_succ, List.replicate_zero, Nat.reduceAdd, Nat.reduceSub, Nat.reduceMul, Nat.reduceLT, Nat.reduceLeDiff, Nat.reduceEqDiff, Int.reduceNeg, Int.reduceLT, Int.reduceLE, Int.reduceToNat, Int.reduceAdd, Int.reduceSub, Int.reduceMul, Int.reducePow, Int.reduceAbs, ↓reduceIte, ge_iff_le, gt_iff_lt, f_is_number_k01, numB]; exact ⟨_, deref_plain rfl, rfl, rfl⟩
theorem num_int {k : Nat} {i n : Int} {st : Sto} : pcall (callN pg0 FNS (k + 1)) 0 [.int i, .int n] st = some (.bl (decide (n ≤ i))) := num_eq rfl
/-- the changes of a stock -/
abbrev Chg := Int × Int × Int
def chD (c : Chg) : D := .tup [.int c.1, .int c.2.1, .int c.2.2]
def keyDQ (c : Chg) : D := .tup [.int c.1, .int c.2.1]
def stockD (ws : List Int) (cs : List Chg) : D := .tup [.tup (ws.map .int), .tup (cs.map chD)]
def ChOk (m : Nat) (c : Chg) : Prop := 0 ≤ c.1 ∧ c.1 < m ∧ 0 ≤ c.2.1 ∧ c.2.1 < m ∧ c.1 ≠ c.2.1 ∧ 1 ≤ c.2.2
def lt2 (c d : Chg) : Prop := c.1 < d.1 ∨ (c.1 = d.1 ∧ c.2.1 < d.2.1)
structure StockOk (ws : List Int) (cs : List Chg) : Prop where
  l : ws.length ≤ 1000
  lc : cs.length ≤ 100000
  w : ∀ x ∈ ws, 1 ≤ x
  c : ∀ x ∈ cs, ChOk ws.length x
  s : cs.Pairwise lt2
theorem stock_noRef {ws : List Int} {cs : List Chg} : (stockD ws cs).noRef = true := by simp [stockD, chD, D.noRef, noRefL_all]
theorem chD_noRef {c : Chg} : (chD c).noRef = true := rfl
theorem row_ok {k : Nat} {m : Nat} {c : Chg} {st : Sto} (h : ChOk m c) : pcall (callN pg0 FNS (k + 2)) 52 [.int m, chD c] st = some (.bl true) := by
  refine PW.eq ?_ rfl
  unfold PW
  rw [call_w a_is_change_row_k07 rfl]
  obtain ⟨h1, h2, h3, h4, h5, h6⟩ := h
  simp (failIfUnchanged := false) (dsimp := false) only [pwA, ixL, setAll, wRev, wipe, isiOk, isTy, List.any_cons, List.any_nil, reduceCtorEq, if_true, if_false, List.getElem?_cons_zero, List.getElem?_cons_succ, List.getElem?_nil, List.set_cons_zero, List.set_cons_succ, List.length_cons, List.length_nil, List.map_cons, List.map_nil, List.cons_append, List.nil_append, List.replicate_succ, List.replicate_zero, Nat.reduceAdd, Nat.reduceSub, Nat.reduceMul, Nat.reduceLT, Nat.reduceLeDiff, Nat.reduceEqDiff, Int.reduceNeg, Int.reduceLT, Int.reduceLE, Int.reduceToNat, Int.reduceAdd, Int.reduceSub, Int.reduceMul, Int.reducePow, Int.reduceAbs, ↓reduceIte, ge_iff_le, gt_iff_lt, f_is_change_row_k07, chD]
  refine ⟨by decide, wC_true rfl (fun i x hx => ?_) ?_⟩
  · have : ∃ j : Int, x = .int j ∧ 0 ≤ j := by
      have := List.mem_of_getElem? hx
      simp at this
      rcases this with rfl | rfl | rfl
      · exact ⟨_, rfl, h1⟩
      · exact ⟨_, rfl, h3⟩
      · exact ⟨_, rfl, by omega⟩
    obtain ⟨j, rfl, hj⟩ := this
    simp (failIfUnchanged := false) (dsimp := false) only [pwA, ixL, setAll, wRev, wipe, isiOk, isTy, List.any_cons, List.any_nil, reduceCtorEq, if_true, if_false, List.getElem?_cons_zero, List.getElem?_cons_succ, List.getElem?_nil, List.set_cons_zero, List.set_cons_succ, List.length_cons, List.length_nil, List.map_cons, List.map_nil, List.cons_append, List.nil_append, List.replicate_succ, List.replicate_zero, Nat.reduceAdd, Nat.reduceSub, Nat.reduceMul, Nat.reduceLT, Nat.reduceLeDiff, Nat.reduceEqDiff, Int.reduceNeg, Int.reduceLT, Int.reduceLE, Int.reduceToNat, Int.reduceAdd, Int.reduceSub, Int.reduceMul, Int.reducePow, Int.reduceAbs, ↓reduceIte, ge_iff_le, gt_iff_lt, num_int, hj]
  · simp (failIfUnchanged := false) (dsimp := false) only [pwA, ixL, setAll, wRev, wipe, isiOk, isTy, List.any_cons, List.any_nil, reduceCtorEq, if_true, if_false, List.getElem?_cons_zero, List.getElem?_cons_succ, List.getElem?_nil, List.set_cons_zero, List.set_cons_succ, List.length_cons, List.length_nil, List.map_cons, List.map_nil, List.cons_append, List.nil_append, List.replicate_succ, List.replicate_zero, Nat.reduceAdd, Nat.reduceSub, Nat.reduceMul, Nat.reduceLT, Nat.reduceLeDiff, Nat.reduceEqDiff, Int.reduceNeg, Int.reduceLT, Int.reduceLE, Int.reduceToNat, Int.reduceAdd, Int.reduceSub, Int.reduceMul, Int.reducePow, Int.reduceAbs, ↓reduceIte, ge_iff_le, gt_iff_lt, h2, h4, h5, show (0 : Int) < c.2.2 by omega]
    exact ⟨_, deref_plain rfl, rfl, rfl⟩
theorem lt2_ltD {c d : Chg} (h : lt2 c d) : ltL [.int c.1, .int c.2.1] [.int d.1, .int d.2.1] = some true := by
  unfold lt2 at h
  simp only [ltL, ltD, D.py, PyData.eqv]
  rcases h with h | ⟨h, h2⟩
  · rw [if_neg (by simp; omega)]; simp [h]
  · rw [if_pos (by simp [h]), if_neg (by simp; omega)]; simp [h2]
theorem ok2 {i j : Int} : (D.tup [.int i, .int j]).ok = true := rfl
theorem c_lt2 {c d : Chg} {st : Sto} (h : lt2 c d) : cmpop .lt st (.tup [.int c.1, .int c.2.1]) (.tup [.int d.1, .int d.2.1]) = some true := by
  simp only [cmpop, ok2, Bool.and_self, if_true, lt2_ltD h]
theorem stock_ok {k : Nat} {ws : List Int} {cs : List Chg} {st : Sto} (h : StockOk ws cs) : pcall (callN pg0 FNS (k + 3)) 53 [stockD ws cs] st = some (.bl true) := by
  refine PW.eq ?_ (by simp [stock_noRef])
  unfold PW
  have hl := h.l; have hlc := h.lc
  rw [call_w a_is_stock_k07 rfl]
  simp (failIfUnchanged := false) (dsimp := false) only [pwA, ixL, setAll, wRev, wipe, isiOk, isTy, List.any_cons, List.any_nil, reduceCtorEq, if_true, if_false, List.getElem?_cons_zero, List.getElem?_cons_succ, List.getElem?_nil, List.set_cons_zero, List.set_cons_succ, List.length_cons, List.length_nil, List.map_cons, List.map_nil, List.cons_append, List.nil_append, List.replicate_succ, List.replicate_zero, Nat.reduceAdd, Nat.reduceSub, Nat.reduceMul, Nat.reduceLT, Nat.reduceLeDiff, Nat.reduceEqDiff, Int.reduceNeg, Int.reduceLT, Int.reduceLE, Int.reduceToNat, Int.reduceAdd, Int.reduceSub, Int.reduceMul, Int.reducePow, Int.reduceAbs, ↓reduceIte, ge_iff_le, gt_iff_lt, f_is_stock_k07, stockD]
  refine ⟨by decide, wC_true rfl (fun i x hx => ?_) ?_⟩
  · have := List.mem_of_getElem? hx
    simp at this
    rcases this with rfl | rfl <;> simp (failIfUnchanged := false) (dsimp := false) only [pwA, ixL, setAll, wRev, wipe, isiOk, isTy, List.any_cons, List.any_nil, reduceCtorEq, if_true, if_false, List.getElem?_cons_zero, List.getElem?_cons_succ, List.getElem?_nil, List.set_cons_zero, List.set_cons_succ, List.length_cons, List.length_nil, List.map_cons, List.map_nil, List.cons_append, List.nil_append, List.replicate_succ, List.replicate_zero, Nat.reduceAdd, Nat.reduceSub, Nat.reduceMul, Nat.reduceLT, Nat.reduceLeDiff, Nat.reduceEqDiff, Int.reduceNeg, Int.reduceLT, Int.reduceLE, Int.reduceToNat, Int.reduceAdd, Int.reduceSub, Int.reduceMul, Int.reducePow, Int.reduceAbs, ↓reduceIte, ge_iff_le, gt_iff_lt]
  simp (failIfUnchanged := false) (dsimp := false) only [pwA, ixL, setAll, wRev, wipe, isiOk, isTy, List.any_cons, List.any_nil, reduceCtorEq, if_true, if_false, List.getElem?_cons_zero, List.getElem?_cons_succ, List.getElem?_nil, List.set_cons_zero, List.set_cons_succ, List.length_cons, List.length_nil, List.map_cons, List.map_nil, List.cons_append, List.nil_append, List.replicate_succ, List.replicate_zero, Nat.reduceAdd, Nat.reduceSub, Nat.reduceMul, Nat.reduceLT, Nat.reduceLeDiff, Nat.reduceEqDiff, Int.reduceNeg, Int.reduceLT, Int.reduceLE, Int.reduceToNat, Int.reduceAdd, Int.reduceSub, Int.reduceMul, Int.reducePow, Int.reduceAbs, ↓reduceIte, ge_iff_le, gt_iff_lt, List.length_map]
  refine ⟨by unfold lim; omega, wC_true rfl (fun i x hx => ?_) ?_⟩
  · obtain ⟨w, hw, rfl⟩ := List.mem_map.mp (List.mem_of_getElem? hx)
    simp (failIfUnchanged := false) (dsimp := false) only [pwA, ixL, setAll, wRev, wipe, isiOk, isTy, List.any_cons, List.any_nil, reduceCtorEq, if_true, if_false, List.getElem?_cons_zero, List.getElem?_cons_succ, List.getElem?_nil, List.set_cons_zero, List.set_cons_succ, List.length_cons, List.length_nil, List.map_cons, List.map_nil, List.cons_append, List.nil_append, List.replicate_succ, List.replicate_zero, Nat.reduceAdd, Nat.reduceSub, Nat.reduceMul, Nat.reduceLT, Nat.reduceLeDiff, Nat.reduceEqDiff, Int.reduceNeg, Int.reduceLT, Int.reduceLE, Int.reduceToNat, Int.reduceAdd, Int.reduceSub, Int.reduceMul, Int.reducePow, Int.reduceAbs, ↓reduceIte, ge_iff_le, gt_iff_lt, num_int, h.w w hw]
  simp (failIfUnchanged := false) (dsimp := false) only [pwA, ixL, setAll, wRev, wipe, isiOk, isTy, List.any_cons, List.any_nil, reduceCtorEq, if_true, if_false, List.getElem?_cons_zero, List.getElem?_cons_succ, List.getElem?_nil, List.set_cons_zero, List.set_cons_succ, List.length_cons, List.length_nil, List.map_cons, List.map_nil, List.cons_append, List.nil_append, List.replicate_succ, List.replicate_zero, Nat.reduceAdd, Nat.reduceSub, Nat.reduceMul, Nat.reduceLT, Nat.reduceLeDiff, Nat.reduceEqDiff, Int.reduceNeg, Int.reduceLT, Int.reduceLE, Int.reduceToNat, Int.reduceAdd, Int.reduceSub, Int.reduceMul, Int.reducePow, Int.reduceAbs, ↓reduceIte, ge_iff_le, gt_iff_lt, List.length_map]
  refine ⟨by unfold lim; omega, wC_true rfl (fun i x hx => ?_) ?_⟩
  · obtain ⟨c, hc, rfl⟩ := List.mem_map.mp (List.mem_of_getElem? hx)
    simp (failIfUnchanged := false) (dsimp := false) only [pwA, ixL, setAll, wRev, wipe, isiOk, isTy, List.any_cons, List.any_nil, reduceCtorEq, if_true, if_false, List.getElem?_cons_zero, List.getElem?_cons_succ, List.getElem?_nil, List.set_cons_zero, List.set_cons_succ, List.length_cons, List.length_nil, List.map_cons, List.map_nil, List.cons_append, List.nil_append, List.replicate_succ, List.replicate_zero, Nat.reduceAdd, Nat.reduceSub, Nat.reduceMul, Nat.reduceLT, Nat.reduceLeDiff, Nat.reduceEqDiff, Int.reduceNeg, Int.reduceLT, Int.reduceLE, Int.reduceToNat, Int.reduceAdd, Int.reduceSub, Int.reduceMul, Int.reducePow, Int.reduceAbs, ↓reduceIte, ge_iff_le, gt_iff_lt, List.length_map, row_ok (h.c c hc)]
  simp (failIfUnchanged := false) (dsimp := false) only [pwA, ixL, setAll, wRev, wipe, isiOk, isTy, List.any_cons, List.any_nil, reduceCtorEq, if_true, if_false, List.getElem?_cons_zero, List.getElem?_cons_succ, List.getElem?_nil, List.set_cons_zero, List.set_cons_succ, List.length_cons, List.length_nil, List.map_cons, List.map_nil, List.cons_append, List.nil_append, List.replicate_succ, List.replicate_zero, Nat.reduceAdd, Nat.reduceSub, Nat.reduceMul, Nat.reduceLT, Nat.reduceLeDiff, Nat.reduceEqDiff, Int.reduceNeg, Int.reduceLT, Int.reduceLE, Int.reduceToNat, Int.reduceAdd, Int.reduceSub, Int.reduceMul, Int.reducePow, Int.reduceAbs, ↓reduceIte, ge_iff_le, gt_iff_lt, cut_in (show (0 : Int) ≤ 1 by decide), zipL_lenQ, List.length_map, List.length_drop]
  refine ⟨by unfold lim; omega, wC_true rfl (fun i x hx => ?_) ?_⟩
  · obtain ⟨x, y, h1, h2, rfl⟩ := zipL_getQ.mp hx
    rw [List.getElem?_drop] at h2
    rw [List.getElem?_map] at h1 h2
    obtain ⟨c, g1, rfl⟩ := Option.map_eq_some_iff.mp h1
    obtain ⟨d, g2, rfl⟩ := Option.map_eq_some_iff.mp h2
    have hlt : lt2 c d := by
      obtain ⟨a1, rfl⟩ := List.getElem?_eq_some_iff.mp g1
      obtain ⟨a2, rfl⟩ := List.getElem?_eq_some_iff.mp g2
      exact List.pairwise_iff_getElem.mp h.s _ _ a1 a2 (by omega)
    simp (failIfUnchanged := false) (dsimp := false) only [pwA, ixL, setAll, wRev, wipe, isiOk, isTy, List.any_cons, List.any_nil, reduceCtorEq, if_true, if_false, List.getElem?_cons_zero, List.getElem?_cons_succ, List.getElem?_nil, List.set_cons_zero, List.set_cons_succ, List.length_cons, List.length_nil, List.map_cons, List.map_nil, List.cons_append, List.nil_append, List.replicate_succ, List.replicate_zero, Nat.reduceAdd, Nat.reduceSub, Nat.reduceMul, Nat.reduceLT, Nat.reduceLeDiff, Nat.reduceEqDiff, Int.reduceNeg, Int.reduceLT, Int.reduceLE, Int.reduceToNat, Int.reduceAdd, Int.reduceSub, Int.reduceMul, Int.reducePow, Int.reduceAbs, ↓reduceIte, ge_iff_le, gt_iff_lt, chD, cut_ni (show (0 : Int) ≤ 2 by decide), List.take_succ_cons, List.take_zero, c_lt2 hlt]
  simp (failIfUnchanged := false) (dsimp := false) only [pwA, ixL, setAll, wRev, wipe, isiOk, isTy, List.any_cons, List.any_nil, reduceCtorEq, if_true, if_false, List.getElem?_cons_zero, List.getElem?_cons_succ, List.getElem?_nil, List.set_cons_zero, List.set_cons_succ, List.length_cons, List.length_nil, List.map_cons, List.map_nil, List.cons_append, List.nil_append, List.replicate_succ, List.replicate_zero, Nat.reduceAdd, Nat.reduceSub, Nat.reduceMul, Nat.reduceLT, Nat.reduceLeDiff, Nat.reduceEqDiff, Int.reduceNeg, Int.reduceLT, Int.reduceLE, Int.reduceToNat, Int.reduceAdd, Int.reduceSub, Int.reduceMul, Int.reducePow, Int.reduceAbs, ↓reduceIte, ge_iff_le, gt_iff_lt]
  exact ⟨_, deref_plain rfl, rfl, rfl⟩
/-! ### layings -/
/-- what a laying says of the makes -/
def onD : Option Int → D
  | some j => .int j
  | none => .non
def layD (l : List (Option Int)) : D := .tup (l.map onD)
theorem onD_none : onD none = .non := rfl
theorem onD_some {j : Int} : onD (some j) = .int j := rfl
theorem onD_noRef {o : Option Int} : (onD o).noRef = true := by cases o <;> rfl
theorem lay_noRef {l : List (Option Int)} : (layD l).noRef = true := by
  simp only [layD, D.noRef, noRefL_all, List.all_map, List.all_eq_true]
  exact fun x _ => onD_noRef
theorem keq2 {a b c d : Int} : keq (.tup [.int a, .int b]) (.tup [.int c, .int d]) = (a == c && b == d) := by
  simp [keq, keqL]
/-- the size of a change -/
def szOf (cs : List Chg) (a b : Int) : Option Int := (cs.find? fun c => c.1 == a && c.2.1 == b).map fun c => c.2.2
theorem look_sz {cs : List Chg} {a b : Int} : look (.tup [.int a, .int b]) (cs.map keyDQ) (cs.map fun c => .int c.2.2) = (szOf cs a b).map D.int := by
  induction cs with
  | nil => rfl
  | cons c cs ih =>
    simp only [List.map_cons, look, keyDQ, keq2, szOf, List.find?_cons] at ih ⊢
    cases h : (c.1 == a && c.2.1 == b)
    · simp only [Bool.false_eq_true, if_false]; exact ih
    · simp
theorem put_new {k v : D} {ks vs : List D} (h : look k ks vs = none) : put k v ks vs = (ks ++ [k], vs ++ [v]) := by
  simp [put, h]
theorem putAll_sz {cs : List Chg} : ∀ (pre : List Chg), (pre ++ cs).Pairwise lt2 → putAll (cs.map fun c => (keyDQ c, D.int c.2.2)) (pre.map keyDQ, pre.map fun c => .int c.2.2) = ((pre ++ cs).map keyDQ, (pre ++ cs).map fun c => .int c.2.2) := by
  induction cs with
  | nil => intro pre _; simp [putAll]
  | cons c cs ih =>
    intro pre h
    have hn : look (keyDQ c) (pre.map keyDQ) (pre.map fun c => .int c.2.2) = none := by
      unfold keyDQ
      rw [show (pre.map fun c : Chg => D.tup [.int c.1, .int c.2.1]) = pre.map keyDQ from rfl, look_sz]
      have : szOf pre c.1 c.2.1 = none := by
        unfold szOf
        rw [List.find?_eq_none.mpr]; rfl
        intro d hd
        have := (List.pairwise_append.mp h).2.2 d hd c (List.mem_cons_self ..)
        unfold lt2 at this
        simp; omega
      rw [this]; rfl
    simp only [List.map_cons, putAll]
    rw [put_new hn]
    have := ih (pre ++ [c]) (by simpa using h)
    simpa using this
theorem pairs_map {α : Type} {l : List α} {f g : α → D} : pairs (l.map fun a => .tup [f a, g a]) = some (l.map fun a => (f a, g a)) := by
  induction l with
  | nil => rfl
  | cons a l ih => simp [pairs, ih]
def sizesD (cs : List Chg) : D := .dct true (cs.map keyDQ) (cs.map fun c => .int c.2.2)
theorem sizes_noRef {cs : List Chg} : (sizesD cs).noRef = true := by simp [sizesD, keyDQ, D.noRef, noRefL_all]
theorem f_dictT {α : Type} {l : List α} {f g : α → D} {st : Sto} (h : ∀ a ∈ l, (f a).isKey true = true) : bicall .dictT false [.lst (l.map fun a => .tup [f a, g a])] st = some (.dct true (putAll (l.map fun a => (f a, g a)) ([], [])).1 (putAll (l.map fun a => (f a, g a)) ([], [])).2, st) := by
  simp only [bicall, lstOf, Option.bind_some, pairs_map]
  rw [if_pos]
  · rfl
  · simp only [List.all_map, List.all_eq_true]
    exact h
theorem sizes_eq {k : Nat} {ws : List Int} {cs : List Chg} {st : Sto} (h : cs.Pairwise lt2) (hl : cs.length ≤ 100000) : pcall (callN pg0 FNS (k + 1)) 66 [stockD ws cs] st = some (sizesD cs) := by
  refine PW.eq ?_ (by simp [stock_noRef])
  unfold PW
  rw [call_w a_sizes_of rfl]
  simp (failIfUnchanged := false) (dsimp := false) only [pwA, ixL, setAll, wRev, wipe, isiOk, isTy, List.any_cons, List.any_nil, reduceCtorEq, if_true, if_false, List.getElem?_cons_zero, List.getElem?_cons_succ, List.getElem?_nil, List.set_cons_zero, List.set_cons_succ, List.length_cons, List.length_nil, List.map_cons, List.map_nil, List.cons_append, List.nil_append, List.replicate_succ, List.replicate_zero, Nat.reduceAdd, Nat.reduceSub, Nat.reduceMul, Nat.reduceLT, Nat.reduceLeDiff, Nat.reduceEqDiff, Int.reduceNeg, Int.reduceLT, Int.reduceLE, Int.reduceToNat, Int.reduceAdd, Int.reduceSub, Int.reduceMul, Int.reducePow, Int.reduceAbs, ↓reduceIte, ge_iff_le, gt_iff_lt, f_sizes_of, stockD, List.length_map]
  refine ⟨by unfold lim; omega, wC_map cs chD (fun c => .tup [keyDQ c, .int c.2.2]) rfl rfl (fun c hc => ?_) ?_⟩
  · simp (failIfUnchanged := false) (dsimp := false) only [pwA, ixL, setAll, wRev, wipe, isiOk, isTy, List.any_cons, List.any_nil, reduceCtorEq, if_true, if_false, List.getElem?_cons_zero, List.getElem?_cons_succ, List.getElem?_nil, List.set_cons_zero, List.set_cons_succ, List.length_cons, List.length_nil, List.map_cons, List.map_nil, List.cons_append, List.nil_append, List.replicate_succ, List.replicate_zero, Nat.reduceAdd, Nat.reduceSub, Nat.reduceMul, Nat.reduceLT, Nat.reduceLeDiff, Nat.reduceEqDiff, Int.reduceNeg, Int.reduceLT, Int.reduceLE, Int.reduceToNat, Int.reduceAdd, Int.reduceSub, Int.reduceMul, Int.reducePow, Int.reduceAbs, ↓reduceIte, ge_iff_le, gt_iff_lt, chD, keyDQ]
  · simp (failIfUnchanged := false) (dsimp := false) only [pwA, ixL, setAll, wRev, wipe, isiOk, isTy, List.any_cons, List.any_nil, reduceCtorEq, if_true, if_false, List.getElem?_cons_zero, List.getElem?_cons_succ, List.getElem?_nil, List.set_cons_zero, List.set_cons_succ, List.length_cons, List.length_nil, List.map_cons, List.map_nil, List.cons_append, List.nil_append, List.replicate_succ, List.replicate_zero, Nat.reduceAdd, Nat.reduceSub, Nat.reduceMul, Nat.reduceLT, Nat.reduceLeDiff, Nat.reduceEqDiff, Int.reduceNeg, Int.reduceLT, Int.reduceLE, Int.reduceToNat, Int.reduceAdd, Int.reduceSub, Int.reduceMul, Int.reducePow, Int.reduceAbs, ↓reduceIte, ge_iff_le, gt_iff_lt, f_dictT (fun c _ => show (keyDQ c).isKey true = true from rfl)]
    have := putAll_sz (cs := cs) [] (by simpa using h)
    simp only [List.map_nil, List.nil_append] at this
    rw [this]
    exact ⟨_, deref_plain sizes_noRef, sizes_noRef, rfl⟩
/-- one of it is kept so -/
def keptB (m : Int) (cs : List Chg) (make : Int) : Option Int → Bool
  | none => true
  | some j => decide (0 ≤ j) && decide (j < m) && (szOf cs j make).isSome
theorem kept_eq {k : Nat} {m make : Int} {cs : List Chg} {o : Option Int} {st : Sto} : pcall (callN pg0 FNS (k + 2)) 67 [sizesD cs, .int m, .int make, onD o] st = some (.bl (keptB m cs make o)) := by
  refine PW.eq ?_ (by simp [sizes_noRef, onD_noRef, D.noRef])
  unfold PW
  rw [call_w a_is_kept_so_k08 rfl]
  cases o with
  | none => simp (failIfUnchanged := false) (dsimp := false) only [pwA, ixL, setAll, wRev, wipe, isiOk, isTy, List.any_cons, List.any_nil, reduceCtorEq, if_true, if_false, List.getElem?_cons_zero, List.getElem?_cons_succ, List.getElem?_nil, List.set_cons_zero, List.set_cons_succ, List.length_cons, List.length_nil, List.map_cons, List.map_nil, List.cons_append, List.nil_append, List.replicate_succ, List.replicate_zero, Nat.reduceAdd, Nat.reduceSub, Nat.reduceMul, Nat.reduceLT, Nat.reduceLeDiff, Nat.reduceEqDiff, Int.reduceNeg, Int.reduceLT, Int.reduceLE, Int.reduceToNat, Int.reduceAdd, Int.reduceSub, Int.reduceMul, Int.reducePow, Int.reduceAbs, ↓reduceIte, ge_iff_le, gt_iff_lt, f_is_kept_so_k08, onD, keptB]; exact ⟨_, deref_plain rfl, rfl, rfl⟩
  | some j =>
    have e : inD [] (.tup [.int j, .int make]) (sizesD cs) = some (szOf cs j make).isSome := by
      simp only [sizesD, inD, dctOf, D.isKey, D.scal, List.all_cons, List.all_nil, look_sz, Option.isSome_map, Bool.and_self, if_true]
    by_cases h1 : 0 ≤ j
    · by_cases h2 : j < m
      · simp (failIfUnchanged := false) (dsimp := false) only [pwA, ixL, setAll, wRev, wipe, isiOk, isTy, List.any_cons, List.any_nil, reduceCtorEq, if_true, if_false, List.getElem?_cons_zero, List.getElem?_cons_succ, List.getElem?_nil, List.set_cons_zero, List.set_cons_succ, List.length_cons, List.length_nil, List.map_cons, List.map_nil, List.cons_append, List.nil_append, List.replicate_succ, List.replicate_zero, Nat.reduceAdd, Nat.reduceSub, Nat.reduceMul, Nat.reduceLT, Nat.reduceLeDiff, Nat.reduceEqDiff, Int.reduceNeg, Int.reduceLT, Int.reduceLE, Int.reduceToNat, Int.reduceAdd, Int.reduceSub, Int.reduceMul, Int.reducePow, Int.reduceAbs, ↓reduceIte, ge_iff_le, gt_iff_lt, f_is_kept_so_k08, onD, keptB, num_int, h1, h2, e]; exact ⟨_, deref_plain rfl, rfl, rfl⟩
      · simp (failIfUnchanged := false) (dsimp := false) only [pwA, ixL, setAll, wRev, wipe, isiOk, isTy, List.any_cons, List.any_nil, reduceCtorEq, if_true, if_false, List.getElem?_cons_zero, List.getElem?_cons_succ, List.getElem?_nil, List.set_cons_zero, List.set_cons_succ, List.length_cons, List.length_nil, List.map_cons, List.map_nil, List.cons_append, List.nil_append, List.replicate_succ, List.replicate_zero, Nat.reduceAdd, Nat.reduceSub, Nat.reduceMul, Nat.reduceLT, Nat.reduceLeDiff, Nat.reduceEqDiff, Int.reduceNeg, Int.reduceLT, Int.reduceLE, Int.reduceToNat, Int.reduceAdd, Int.reduceSub, Int.reduceMul, Int.reducePow, Int.reduceAbs, ↓reduceIte, ge_iff_le, gt_iff_lt, f_is_kept_so_k08, onD, keptB, num_int, h1, h2]; exact ⟨_, deref_plain rfl, rfl, rfl⟩
    · simp (failIfUnchanged := false) (dsimp := false) only [pwA, ixL, setAll, wRev, wipe, isiOk, isTy, List.any_cons, List.any_nil, reduceCtorEq, if_true, if_false, List.getElem?_cons_zero, List.getElem?_cons_succ, List.getElem?_nil, List.set_cons_zero, List.set_cons_succ, List.length_cons, List.length_nil, List.map_cons, List.map_nil, List.cons_append, List.nil_append, List.replicate_succ, List.replicate_zero, Nat.reduceAdd, Nat.reduceSub, Nat.reduceMul, Nat.reduceLT, Nat.reduceLeDiff, Nat.reduceEqDiff, Int.reduceNeg, Int.reduceLT, Int.reduceLE, Int.reduceToNat, Int.reduceAdd, Int.reduceSub, Int.reduceMul, Int.reducePow, Int.reduceAbs, ↓reduceIte, ge_iff_le, gt_iff_lt, f_is_kept_so_k08, onD, keptB, num_int, h1]; exact ⟨_, deref_plain rfl, rfl, rfl⟩
structure LayOk (m : Nat) (cs : List Chg) (l : List (Option Int)) : Prop where
  len : l.length = m
  s : ∀ (i : Nat) (j : Int), l[i]? = some (some j) → 0 ≤ j ∧ j < m ∧ (szOf cs j i).isSome = true
  h : ∃ rank : Nat → Nat, (∀ i, i < m → rank i < m) ∧ ∀ (i : Nat) (j : Int), l[i]? = some (some j) → rank j.toNat < rank i
theorem home_eq {k : Nat} {m make : Nat} {cs : List Chg} {l : List (Option Int)} {st : Sto} (h : LayOk m cs l) (hm : make < m) (hl : m ≤ 1000) : pcall (callN pg0 FNS (k + 1)) 68 [layD l, .int make] st = some (.bl true) := by
  refine PW.eq ?_ (by simp [lay_noRef, D.noRef])
  unfold PW
  obtain ⟨rank, hr1, hr2⟩ := h.h
  have hln := h.len
  rw [call_w a_comes_home rfl]
  simp (failIfUnchanged := false) (dsimp := false) only [pwA, ixL, setAll, wRev, wipe, isiOk, isTy, List.any_cons, List.any_nil, reduceCtorEq, if_true, if_false, List.getElem?_cons_zero, List.getElem?_cons_succ, List.getElem?_nil, List.set_cons_zero, List.set_cons_succ, List.length_cons, List.length_nil, List.map_cons, List.map_nil, List.cons_append, List.nil_append, List.replicate_succ, List.replicate_zero, Nat.reduceAdd, Nat.reduceSub, Nat.reduceMul, Nat.reduceLT, Nat.reduceLeDiff, Nat.reduceEqDiff, Int.reduceNeg, Int.reduceLT, Int.reduceLE, Int.reduceToNat, Int.reduceAdd, Int.reduceSub, Int.reduceMul, Int.reducePow, Int.reduceAbs, ↓reduceIte, ge_iff_le, gt_iff_lt, f_comes_home, layD, List.length_map, hln, rng1n (show m ≤ 1000000 by omega)]
  refine wF_inv (fun i e s => ∃ (o : Option Int) (x : Option D), e = [some (layD l), some (.int make), some (onD o), x] ∧ s = [] ∧ ∀ j, o = some j → 0 ≤ j ∧ j < m ∧ rank j.toNat + i < m) ⟨some (make : Int), none, rfl, rfl, fun j hj => by cases hj; have := hr1 make hm; simp; omega⟩ ?_ ?_
  · rintro i x _ _ hx ⟨o, y, rfl, rfl, ho⟩
    simp (failIfUnchanged := false) (dsimp := false) only [pwA, ixL, setAll, wRev, wipe, isiOk, isTy, List.any_cons, List.any_nil, reduceCtorEq, if_true, if_false, List.getElem?_cons_zero, List.getElem?_cons_succ, List.getElem?_nil, List.set_cons_zero, List.set_cons_succ, List.length_cons, List.length_nil, List.map_cons, List.map_nil, List.cons_append, List.nil_append, List.replicate_succ, List.replicate_zero, Nat.reduceAdd, Nat.reduceSub, Nat.reduceMul, Nat.reduceLT, Nat.reduceLeDiff, Nat.reduceEqDiff, Int.reduceNeg, Int.reduceLT, Int.reduceLE, Int.reduceToNat, Int.reduceAdd, Int.reduceSub, Int.reduceMul, Int.reducePow, Int.reduceAbs, ↓reduceIte, ge_iff_le, gt_iff_lt]
    cases o with
    | none => simp (failIfUnchanged := false) (dsimp := false) only [pwA, ixL, setAll, wRev, wipe, isiOk, isTy, List.any_cons, List.any_nil, reduceCtorEq, if_true, if_false, List.getElem?_cons_zero, List.getElem?_cons_succ, List.getElem?_nil, List.set_cons_zero, List.set_cons_succ, List.length_cons, List.length_nil, List.map_cons, List.map_nil, List.cons_append, List.nil_append, List.replicate_succ, List.replicate_zero, Nat.reduceAdd, Nat.reduceSub, Nat.reduceMul, Nat.reduceLT, Nat.reduceLeDiff, Nat.reduceEqDiff, Int.reduceNeg, Int.reduceLT, Int.reduceLE, Int.reduceToNat, Int.reduceAdd, Int.reduceSub, Int.reduceMul, Int.reducePow, Int.reduceAbs, ↓reduceIte, ge_iff_le, gt_iff_lt, onD_none]; exact ⟨none, _, rfl, by simp⟩
    | some j =>
      have ⟨h1, h2, h3⟩ := ho j rfl
      have hlt : j.toNat < l.length := by omega
      simp (failIfUnchanged := false) (dsimp := false) only [pwA, ixL, setAll, wRev, wipe, isiOk, isTy, List.any_cons, List.any_nil, reduceCtorEq, if_true, if_false, List.getElem?_cons_zero, List.getElem?_cons_succ, List.getElem?_nil, List.set_cons_zero, List.set_cons_succ, List.length_cons, List.length_nil, List.map_cons, List.map_nil, List.cons_append, List.nil_append, List.replicate_succ, List.replicate_zero, Nat.reduceAdd, Nat.reduceSub, Nat.reduceMul, Nat.reduceLT, Nat.reduceLeDiff, Nat.reduceEqDiff, Int.reduceNeg, Int.reduceLT, Int.reduceLE, Int.reduceToNat, Int.reduceAdd, Int.reduceSub, Int.reduceMul, Int.reducePow, Int.reduceAbs, ↓reduceIte, ge_iff_le, gt_iff_lt, onD_some, layD, h1, List.getElem?_map, List.getElem?_eq_getElem hlt, Option.map_some]
      refine ⟨l[j.toNat], _, rfl, fun j2 hj2 => ?_⟩
      have g : l[j.toNat]? = some (some j2) := by rw [List.getElem?_eq_getElem hlt, hj2]
      have := h.s _ _ g
      have := hr2 _ _ g
      omega
  · rintro _ _ ⟨o, y, rfl, rfl, ho⟩
    rw [rangeL_lenQ] at ho
    cases o with
    | none => simp (failIfUnchanged := false) (dsimp := false) only [pwA, ixL, setAll, wRev, wipe, isiOk, isTy, List.any_cons, List.any_nil, reduceCtorEq, if_true, if_false, List.getElem?_cons_zero, List.getElem?_cons_succ, List.getElem?_nil, List.set_cons_zero, List.set_cons_succ, List.length_cons, List.length_nil, List.map_cons, List.map_nil, List.cons_append, List.nil_append, List.replicate_succ, List.replicate_zero, Nat.reduceAdd, Nat.reduceSub, Nat.reduceMul, Nat.reduceLT, Nat.reduceLeDiff, Nat.reduceEqDiff, Int.reduceNeg, Int.reduceLT, Int.reduceLE, Int.reduceToNat, Int.reduceAdd, Int.reduceSub, Int.reduceMul, Int.reducePow, Int.reduceAbs, ↓reduceIte, ge_iff_le, gt_iff_lt, onD_none]; exact ⟨_, deref_plain rfl, rfl, rfl⟩
    | some j => have := ho j rfl; omega
theorem lay_ok {k : Nat} {ws : List Int} {cs : List Chg} {l : List (Option Int)} {st : Sto} (h : StockOk ws cs) (h2 : LayOk ws.length cs l) : pcall (callN pg0 FNS (k + 3)) 69 [stockD ws cs, layD l] st = some (.bl true) := by
  refine PW.eq ?_ (by simp [lay_noRef, stock_noRef])
  unfold PW
  have hl := h.l; have hlc := h.lc; have hln := h2.len
  have e0 := sizes_eq (k := k + 1) (ws := ws) (st := []) h.s hlc
  rw [call_w a_is_laying_k08 rfl]
  unfold stockD at e0 ⊢
  simp (failIfUnchanged := false) (dsimp := false) only [pwA, ixL, setAll, wRev, wipe, isiOk, isTy, List.any_cons, List.any_nil, reduceCtorEq, if_true, if_false, List.getElem?_cons_zero, List.getElem?_cons_succ, List.getElem?_nil, List.set_cons_zero, List.set_cons_succ, List.length_cons, List.length_nil, List.map_cons, List.map_nil, List.cons_append, List.nil_append, List.replicate_succ, List.replicate_zero, Nat.reduceAdd, Nat.reduceSub, Nat.reduceMul, Nat.reduceLT, Nat.reduceLeDiff, Nat.reduceEqDiff, Int.reduceNeg, Int.reduceLT, Int.reduceLE, Int.reduceToNat, Int.reduceAdd, Int.reduceSub, Int.reduceMul, Int.reducePow, Int.reduceAbs, ↓reduceIte, ge_iff_le, gt_iff_lt, f_is_laying_k08, layD, e0, List.length_map, hln, enumL_lenQ]
  refine ⟨by unfold lim; omega, wC_true rfl (fun i x hx => ?_) ?_⟩
  · rw [enumL_getQ, Nat.zero_add, List.getElem?_map] at hx
    obtain ⟨y, hy, rfl⟩ := Option.map_eq_some_iff.mp hx
    obtain ⟨o, ho, rfl⟩ := Option.map_eq_some_iff.mp hy
    simp (failIfUnchanged := false) (dsimp := false) only [pwA, ixL, setAll, wRev, wipe, isiOk, isTy, List.any_cons, List.any_nil, reduceCtorEq, if_true, if_false, List.getElem?_cons_zero, List.getElem?_cons_succ, List.getElem?_nil, List.set_cons_zero, List.set_cons_succ, List.length_cons, List.length_nil, List.map_cons, List.map_nil, List.cons_append, List.nil_append, List.replicate_succ, List.replicate_zero, Nat.reduceAdd, Nat.reduceSub, Nat.reduceMul, Nat.reduceLT, Nat.reduceLeDiff, Nat.reduceEqDiff, Int.reduceNeg, Int.reduceLT, Int.reduceLE, Int.reduceToNat, Int.reduceAdd, Int.reduceSub, Int.reduceMul, Int.reducePow, Int.reduceAbs, ↓reduceIte, ge_iff_le, gt_iff_lt, kept_eq]
    have : keptB ws.length cs i o = true := by
      cases o with
      | none => rfl
      | some j => have := h2.s i j ho; simp [keptB, this.1, this.2.1, this.2.2]
    rw [this]
  simp (failIfUnchanged := false) (dsimp := false) only [pwA, ixL, setAll, wRev, wipe, isiOk, isTy, List.any_cons, List.any_nil, reduceCtorEq, if_true, if_false, List.getElem?_cons_zero, List.getElem?_cons_succ, List.getElem?_nil, List.set_cons_zero, List.set_cons_succ, List.length_cons, List.length_nil, List.map_cons, List.map_nil, List.cons_append, List.nil_append, List.replicate_succ, List.replicate_zero, Nat.reduceAdd, Nat.reduceSub, Nat.reduceMul, Nat.reduceLT, Nat.reduceLeDiff, Nat.reduceEqDiff, Int.reduceNeg, Int.reduceLT, Int.reduceLE, Int.reduceToNat, Int.reduceAdd, Int.reduceSub, Int.reduceMul, Int.reducePow, Int.reduceAbs, ↓reduceIte, ge_iff_le, gt_iff_lt, rng1n (show ws.length ≤ 1000000 by omega), rangeL_lenQ]
  refine ⟨by unfold lim; omega, wC_true rfl (fun i x hx => ?_) ?_⟩
  · rw [rangeL_getQ] at hx
    split at hx
    · rename_i hi
      have e1 := home_eq (k := k + 1) (st := []) h2 hi (by omega)
      unfold layD at e1
      cases hx
      simp (failIfUnchanged := false) (dsimp := false) only [pwA, ixL, setAll, wRev, wipe, isiOk, isTy, List.any_cons, List.any_nil, reduceCtorEq, if_true, if_false, List.getElem?_cons_zero, List.getElem?_cons_succ, List.getElem?_nil, List.set_cons_zero, List.set_cons_succ, List.length_cons, List.length_nil, List.map_cons, List.map_nil, List.cons_append, List.nil_append, List.replicate_succ, List.replicate_zero, Nat.reduceAdd, Nat.reduceSub, Nat.reduceMul, Nat.reduceLT, Nat.reduceLeDiff, Nat.reduceEqDiff, Int.reduceNeg, Int.reduceLT, Int.reduceLE, Int.reduceToNat, Int.reduceAdd, Int.reduceSub, Int.reduceMul, Int.reducePow, Int.reduceAbs, ↓reduceIte, ge_iff_le, gt_iff_lt, Int.mul_one, Int.zero_add, e1]
    · cases hx
  simp (failIfUnchanged := false) (dsimp := false) only [pwA, ixL, setAll, wRev, wipe, isiOk, isTy, List.any_cons, List.any_nil, reduceCtorEq, if_true, if_false, List.getElem?_cons_zero, List.getElem?_cons_succ, List.getElem?_nil, List.set_cons_zero, List.set_cons_succ, List.length_cons, List.length_nil, List.map_cons, List.map_nil, List.cons_append, List.nil_append, List.replicate_succ, List.replicate_zero, Nat.reduceAdd, Nat.reduceSub, Nat.reduceMul, Nat.reduceLT, Nat.reduceLeDiff, Nat.reduceEqDiff, Int.reduceNeg, Int.reduceLT, Int.reduceLE, Int.reduceToNat, Int.reduceAdd, Int.reduceSub, Int.reduceMul, Int.reducePow, Int.reduceAbs, ↓reduceIte, ge_iff_le, gt_iff_lt]
  exact ⟨_, deref_plain rfl, rfl, rfl⟩
end Pm

/-! Pm, part U: rows, their stocks and layings. -/
namespace Pm
open PySem (Str PyData)
theorem ex_of_wR {r : Rv} (h : wR r (fun v _ => v = .bl true)) : ∃ st, r = some (.bl true, st) := by
  cases r with
  | none => exact h.elim
  | some p => obtain ⟨v, s⟩ := p; exact ⟨s, by rw [show v = _ from h]⟩
/-- a comprehension with one test that may draw: some of it are left out -/
theorem wC_sub {P : Pg} {C : Call} {α : Type} {t : Tg} {c : Ts} {cs : List Ts} {e : IE} {src : Src} {xs : List D} {env : Env} {st : Sto} {Q : List D → Sto → Prop} (l : List α) (f g : α → D) (hx : xs = l.map f) (must : α → Prop) (I : Nat → Sto → Prop) (h0 : I 0 st)
    (step : ∀ (i : Nat) (a : α) (st : Sto), l[i]? = some a → I i st → wA P C t (f a) env st (fun e1 s1 => wT P C c e1 s1 (fun b s => (must a → b = true) ∧ (b = true → wE P C e e1 s (fun d s' => d = g a ∧ I (i + 1) s')) ∧ (b = false → I (i + 1) s))))
    (fin : ∀ (m : List α) st', m.Sublist l → (∀ a ∈ l, must a → a ∈ m) → I l.length st' → Q (m.map g) st') (hc : ∀ i st, I i st → chk st src = true := by exact fun _ _ _ => rfl) : wC P C t (c :: cs) e src xs env st Q := by
  subst hx
  have gen : ∀ (zs : List α) (i : Nat) (st : Sto), l.drop i = zs → i + zs.length = l.length → I i st → ∃ (m : List α) (st' : Sto), compL (fun d env st => asgT P C t d env st) (fun env st => evTs P C (c :: cs) env st) (fun env st => evE P C e env st) src env (zs.map f) st = some (m.map g, st') ∧
      m.Sublist zs ∧ (∀ a ∈ zs, must a → a ∈ m) ∧ I l.length st' := by
    intro zs
    induction zs with
    | nil =>
      intro i st hd hl hI
      have : i = l.length := by simpa using hl
      subst this
      exact ⟨[], st, by simp [compL, hc _ _ hI], List.Sublist.refl _, by simp, hI⟩
    | cons z zs ih =>
      intro i st hd hl hI
      have hx : l[i]? = some z := by
        have := congrArg (·[0]?) hd
        simpa using this
      have h1 := step i z st hx hI
      have hd2 : l.drop (i + 1) = zs := by
        have := congrArg List.tail hd
        simpa [List.tail_drop] using this
      have hl2 : i + 1 + zs.length = l.length := by simp only [List.length_cons] at hl; omega
      unfold wA at h1
      cases ha : asgT P C t (f z) env st with
      | none => rw [ha] at h1; exact h1.elim
      | some p =>
        rw [ha] at h1
        simp only [wEn] at h1
        unfold wT at h1
        obtain ⟨e1, s1⟩ := p
        simp only at h1
        cases ht : evT P C c e1 s1 with
        | none => rw [ht] at h1; exact h1.elim
        | some q =>
          rw [ht] at h1
          obtain ⟨b, s2⟩ := q
          simp only [wTr] at h1
          obtain ⟨hm, htr, hfa⟩ := h1
          have ht0 : evTs P C (c :: cs) e1 s1 = evT P C c e1 s1 := rfl
          cases b with
          | false =>
            obtain ⟨m, st', g1, g2, g3, g4⟩ := ih (i + 1) s2 hd2 hl2 (hfa rfl)
            refine ⟨m, st', by simp only [List.map_cons, compL, hc _ _ hI, Bool.not_true, Bool.false_eq_true, if_false, ha, ht0, ht, g1], g2.cons _, fun a h2 h3 => ?_, g4⟩
            rcases List.mem_cons.mp h2 with rfl | h2
            · exact absurd (hm h3) (by simp)
            · exact g3 a h2 h3
          | true =>
            have h1 := htr rfl
            unfold wE at h1
            cases he : evE P C e e1 s2 with
            | none => rw [he] at h1; exact h1.elim
            | some r =>
              rw [he] at h1
              obtain ⟨d, s3⟩ := r
              simp only [wR] at h1
              obtain ⟨rfl, hI2⟩ := h1
              obtain ⟨m, st', g1, g2, g3, g4⟩ := ih (i + 1) s3 hd2 hl2 hI2
              refine ⟨z :: m, st', by simp only [List.map_cons, compL, hc _ _ hI, Bool.not_true, Bool.false_eq_true, if_false, ha, ht0, ht, he, g1], g2.cons_cons _, fun a h2 h3 => ?_, g4⟩
              rcases List.mem_cons.mp h2 with rfl | h2
              · exact List.mem_cons_self ..
              · exact List.mem_cons_of_mem _ (g3 a h2 h3)
  obtain ⟨m, st', g1, g2, g3, g4⟩ := gen l 0 st (by simp) (by simp) h0
  unfold wC
  rw [g1]
  exact fin m st' g2 g3 g4
theorem rangeL_some {lo c : Int} {n i : Nat} {x : D} (h : (rangeL lo c n)[i]? = some x) : i < n ∧ x = .int (lo + (i : Int) * c) := by
  rw [rangeL_getQ] at h
  by_cases hi : i < n
  · rw [if_pos hi] at h; cases h; exact ⟨hi, rfl⟩
  · rw [if_neg hi] at h; cases h
theorem rangeL0_some {n i : Nat} {x : D} (h : (rangeL 0 1 n)[i]? = some x) : i < n ∧ x = .int (i : Int) := by
  obtain ⟨h1, rfl⟩ := rangeL_some h
  exact ⟨h1, by simp⟩
theorem rangeL1_some {lo : Int} {n i : Nat} {x : D} (h : (rangeL lo 1 n)[i]? = some x) : i < n ∧ x = .int (lo + i) := by
  obtain ⟨h1, rfl⟩ := rangeL_some h
  exact ⟨h1, by simp⟩
theorem take_get {α : Type} {l : List α} {j : Nat} {x : α} (h : l[j]? = some x) : l.take (j + 1) = l.take j ++ [x] := by
  rw [List.take_succ, h]; rfl
theorem at_end {st : Sto} {o : Ob} : (st ++ [o])[st.length]? = some o := by simp
theorem set_end {st : Sto} {o o' : Ob} : (st ++ [o]).set st.length o' = st ++ [o'] := by simp
/-- numbers as data -/
def natsD (l : List Nat) : D := .tup (l.map fun i : Nat => .int i)
theorem nats_noRef {l : List Nat} : (natsD l).noRef = true := by simp [natsD, D.noRef, noRefL_all]
structure KeptOk (n : Nat) (ks : List Nat) : Prop where
  s : ks.Sublist (List.range n)
  z : 0 ∈ ks
theorem KeptOk.lt {n : Nat} {ks : List Nat} (h : KeptOk n ks) : ∀ i ∈ ks, i < n := fun i hi => List.mem_range.mp (h.s.subset hi)
theorem KeptOk.len {n : Nat} {ks : List Nat} (h : KeptOk n ks) : ks.length ≤ n := by simpa using h.s.length_le
theorem kept_w {k r : Nat} {n : Nat} {st : Sto} {L : Lt} {Q : D → Sto → Prop} (hn0 : 1 ≤ n) (hn1 : n ≤ 100) (hs : st[r]? = some L.ob) (hc : L.c < 10000000000)
    (hq : ∀ (ks : List Nat) (L' : Lt), KeptOk n ks → L'.c ≤ L.c + 101 → Q (natsD ks) (st.set r L'.ob)) : wR (dcall (callN pg0 FNS (k + 3)) 206 [.ref r, .int n] st) Q := by
  refine DW.use (n0 := 10000000000) (N := 101) (R := fun v => ∃ ks, v = natsD ks ∧ KeptOk n ks) ?_ hs (by omega) ?_
  · intro L hL
    rw [call_w a_L_kept rfl]
    simp (failIfUnchanged := false) (dsimp := false) only [pwA, ixL, setAll, wRev, wipe, isiOk, isTy, List.any_cons, List.any_nil, reduceCtorEq, if_true, if_false, List.getElem?_cons_zero, List.getElem?_cons_succ, List.getElem?_nil, List.set_cons_zero, List.set_cons_succ, List.length_cons, List.length_nil, List.map_cons, List.map_nil, List.cons_append, List.nil_append, List.replicate_succ, List.replicate_zero, Nat.reduceAdd, Nat.reduceSub, Nat.reduceMul, Nat.reduceLT, Nat.reduceLeDiff, Nat.reduceEqDiff, Int.reduceNeg, Int.reduceLT, Int.reduceLE, Int.reduceToNat, Int.reduceAdd, Int.reduceSub, Int.reduceMul, Int.reducePow, Int.reduceAbs, ↓reduceIte, ge_iff_le, gt_iff_lt, f_L_kept]
    refine pick_w rfl (by omega) (by omega) (by omega) fun d L1 d0 d1 c1 => ?_
    simp (failIfUnchanged := false) (dsimp := false) only [pwA, ixL, setAll, wRev, wipe, isiOk, isTy, List.any_cons, List.any_nil, reduceCtorEq, if_true, if_false, List.getElem?_cons_zero, List.getElem?_cons_succ, List.getElem?_nil, List.set_cons_zero, List.set_cons_succ, List.length_cons, List.length_nil, List.map_cons, List.map_nil, List.cons_append, List.nil_append, List.replicate_succ, List.replicate_zero, Nat.reduceAdd, Nat.reduceSub, Nat.reduceMul, Nat.reduceLT, Nat.reduceLeDiff, Nat.reduceEqDiff, Int.reduceNeg, Int.reduceLT, Int.reduceLE, Int.reduceToNat, Int.reduceAdd, Int.reduceSub, Int.reduceMul, Int.reducePow, Int.reduceAbs, ↓reduceIte, ge_iff_le, gt_iff_lt, rng1n (show n ≤ 1000000 by omega), rangeL_lenQ]
    refine ⟨by unfold lim; omega, wC_sub (List.range n) (fun i => .int i) (fun i => .int i) rangeL_mapN (fun i => i = 0) (fun i s => ∃ L2 : Lt, s = [L2.ob] ∧ L2.c ≤ L1.c + i) ⟨L1, rfl, by omega⟩ ?_ ?_⟩
    · rintro i x _ hx ⟨L2, rfl, c2⟩
      have hi := (List.getElem?_eq_some_iff.mp hx).1
      rw [List.length_range] at hi
      simp (failIfUnchanged := false) (dsimp := false) only [pwA, ixL, setAll, wRev, wipe, isiOk, isTy, List.any_cons, List.any_nil, reduceCtorEq, if_true, if_false, List.getElem?_cons_zero, List.getElem?_cons_succ, List.getElem?_nil, List.set_cons_zero, List.set_cons_succ, List.length_cons, List.length_nil, List.map_cons, List.map_nil, List.cons_append, List.nil_append, List.replicate_succ, List.replicate_zero, Nat.reduceAdd, Nat.reduceSub, Nat.reduceMul, Nat.reduceLT, Nat.reduceLeDiff, Nat.reduceEqDiff, Int.reduceNeg, Int.reduceLT, Int.reduceLE, Int.reduceToNat, Int.reduceAdd, Int.reduceSub, Int.reduceMul, Int.reducePow, Int.reduceAbs, ↓reduceIte, ge_iff_le, gt_iff_lt]
      split
      · skip
        exact ⟨fun _ => trivial, fun _ => ⟨L2, rfl, by omega⟩, fun h => by simp at h⟩
      · rename_i h
        refine pick_w rfl (by omega) (by omega) (by omega) fun d L3 h0 h1 c5 => ?_
        simp (failIfUnchanged := false) (dsimp := false) only [pwA, ixL, setAll, wRev, wipe, isiOk, isTy, List.any_cons, List.any_nil, reduceCtorEq, if_true, if_false, List.getElem?_cons_zero, List.getElem?_cons_succ, List.getElem?_nil, List.set_cons_zero, List.set_cons_succ, List.length_cons, List.length_nil, List.map_cons, List.map_nil, List.cons_append, List.nil_append, List.replicate_succ, List.replicate_zero, Nat.reduceAdd, Nat.reduceSub, Nat.reduceMul, Nat.reduceLT, Nat.reduceLeDiff, Nat.reduceEqDiff, Int.reduceNeg, Int.reduceLT, Int.reduceLE, Int.reduceToNat, Int.reduceAdd, Int.reduceSub, Int.reduceMul, Int.reducePow, Int.reduceAbs, ↓reduceIte, ge_iff_le, gt_iff_lt]
        exact ⟨fun h2 => by simp at h; omega, fun _ => ⟨L3, rfl, by omega⟩, fun _ => ⟨L3, rfl, by omega⟩⟩
    · rintro m _ h1 h2 ⟨L2, rfl, c2⟩
      rw [List.length_range] at c2
      exact ⟨nats_noRef, ⟨m, rfl, h1, h2 0 (List.mem_range.mpr (by omega)) rfl⟩, L2, [], rfl, by omega⟩
  · rintro v L' _ ⟨ks, rfl, h⟩ hL
    exact hq ks L' h hL
/-- the changes from each make of a row to the next one -/
def rowCs (ss : List Int) : List Chg := ss.mapIdx fun i s => ((i : Int), (i : Int) + 1, s)
theorem rowCs_get {ss : List Int} {i : Nat} : (rowCs ss)[i]? = (ss[i]?).map fun s => ((i : Int), (i : Int) + 1, s) := by
  simp [rowCs, List.getElem?_mapIdx]
theorem rowCs_len {ss : List Int} : (rowCs ss).length = ss.length := by simp [rowCs]
theorem rowD_noRef {ws ss : List Int} : (rowD ws ss).noRef = true := by simp [rowD, D.noRef, noRefL_all]
theorem row_stockOk {n : Nat} {ws ss : List Int} (h : RowOk n ws ss) (hn : n ≤ 100) : StockOk ws (rowCs ss) := by
  have h1 := h.l1; have h2 := h.l2; have h3 := h.ls
  refine ⟨by omega, by rw [rowCs_len]; omega, fun x hx => (h.w x hx).1, fun c hc => ?_, ?_⟩
  · obtain ⟨i, hi⟩ := List.mem_iff_getElem?.mp hc
    rw [rowCs_get] at hi
    obtain ⟨s, hs, rfl⟩ := Option.map_eq_some_iff.mp hi
    have hlt := (List.getElem?_eq_some_iff.mp hs).1
    have := h.s s (List.mem_of_getElem? hs)
    unfold ChOk
    simp only
    omega
  · rw [List.pairwise_iff_getElem]
    intro i j hi hj hij
    simp only [rowCs, List.getElem_mapIdx, lt2]
    omega
theorem row_stock_eq {k : Nat} {ws ss : List Int} {st : Sto} (hl : ss.length ≤ 1000) : pcall (callN pg0 FNS (k + 1)) 204 [rowD ws ss] st = some (stockD ws (rowCs ss)) := by
  refine PW.eq ?_ (by simp [rowD_noRef])
  unfold PW
  rw [call_w a_row_stock rfl]
  simp (failIfUnchanged := false) (dsimp := false) only [pwA, ixL, setAll, wRev, wipe, isiOk, isTy, List.any_cons, List.any_nil, reduceCtorEq, if_true, if_false, List.getElem?_cons_zero, List.getElem?_cons_succ, List.getElem?_nil, List.set_cons_zero, List.set_cons_succ, List.length_cons, List.length_nil, List.map_cons, List.map_nil, List.cons_append, List.nil_append, List.replicate_succ, List.replicate_zero, Nat.reduceAdd, Nat.reduceSub, Nat.reduceMul, Nat.reduceLT, Nat.reduceLeDiff, Nat.reduceEqDiff, Int.reduceNeg, Int.reduceLT, Int.reduceLE, Int.reduceToNat, Int.reduceAdd, Int.reduceSub, Int.reduceMul, Int.reducePow, Int.reduceAbs, ↓reduceIte, ge_iff_le, gt_iff_lt, f_row_stock, rowD, enumL_lenQ, List.length_map]
  refine ⟨by unfold lim; omega, wC_get ((rowCs ss).map chD) rfl (by simp [rowCs_len, enumL_lenQ]) (fun i x hx => ?_) ?_⟩
  · rw [enumL_getQ, Nat.zero_add, List.getElem?_map, Option.map_map] at hx
    obtain ⟨s, hs, rfl⟩ := Option.map_eq_some_iff.mp hx
    simp (failIfUnchanged := false) (dsimp := false) only [pwA, ixL, setAll, wRev, wipe, isiOk, isTy, List.any_cons, List.any_nil, reduceCtorEq, if_true, if_false, List.getElem?_cons_zero, List.getElem?_cons_succ, List.getElem?_nil, List.set_cons_zero, List.set_cons_succ, List.length_cons, List.length_nil, List.map_cons, List.map_nil, List.cons_append, List.nil_append, List.replicate_succ, List.replicate_zero, Nat.reduceAdd, Nat.reduceSub, Nat.reduceMul, Nat.reduceLT, Nat.reduceLeDiff, Nat.reduceEqDiff, Int.reduceNeg, Int.reduceLT, Int.reduceLE, Int.reduceToNat, Int.reduceAdd, Int.reduceSub, Int.reduceMul, Int.reducePow, Int.reduceAbs, ↓reduceIte, ge_iff_le, gt_iff_lt, Function.comp]
    rw [List.getElem?_map, rowCs_get, hs]
    rfl
  · skip
    exact ⟨_, deref_plain stock_noRef, stock_noRef, rfl⟩
theorem in_ints {i : Int} {l : List Int} {st : Sto} : inD st (.int i) (.tup (l.map D.int)) = some (l.contains i) := by
  simp only [inD, dctOf, seqOf, D.plain, List.all_map, Bool.true_and]
  rw [if_pos (by simp [D.plain])]
  congr 1
  rw [List.any_map]
  induction l with
  | nil => rfl
  | cons a l ih =>
    simp only [List.any_cons, List.contains_cons, ih, Function.comp, D.py, PyData.eqv]
    congr 1
    rw [Bool.eq_iff_iff, beq_iff_eq, beq_iff_eq]; exact eq_comm
theorem in_nats {i : Nat} {l : List Nat} {st : Sto} : inD st (.int i) (natsD l) = some (decide (i ∈ l)) := by
  have := in_ints (i := i) (l := l.map fun j : Nat => (j : Int)) (st := st)
  rw [List.map_map] at this
  unfold natsD
  rw [show (fun i : Nat => D.int i) = D.int ∘ (fun j : Nat => (j : Int)) from rfl, this]
  congr 1
  rw [Bool.eq_iff_iff, List.contains_iff_mem, List.mem_map, decide_eq_true_eq]
  exact ⟨fun ⟨a, h, e⟩ => by have : a = i := by omega
                             exact this ▸ h, fun h => ⟨i, h, rfl⟩⟩
/-- the laying of a row -/
def layL (n : Nat) (ks : List Nat) : List (Option Int) := (List.range n).map fun i : Nat => if i ∈ ks then none else some ((i : Int) - 1)
theorem layL_get {n : Nat} {ks : List Nat} {i : Nat} : (layL n ks)[i]? = if i < n then some (if i ∈ ks then none else some ((i : Int) - 1)) else none := by
  unfold layL
  rw [List.getElem?_map]
  by_cases h : i < n <;> simp [h]
theorem row_laying_eq {k : Nat} {ws ss : List Int} {ks : List Nat} {st : Sto} (hl : ws.length ≤ 1000) : pcall (callN pg0 FNS (k + 1)) 86 [rowD ws ss, natsD ks] st = some (layD (layL ws.length ks)) := by
  refine PW.eq ?_ (by simp [rowD_noRef, nats_noRef])
  unfold PW
  rw [call_w a_row_laying rfl]
  simp (failIfUnchanged := false) (dsimp := false) only [pwA, ixL, setAll, wRev, wipe, isiOk, isTy, List.any_cons, List.any_nil, reduceCtorEq, if_true, if_false, List.getElem?_cons_zero, List.getElem?_cons_succ, List.getElem?_nil, List.set_cons_zero, List.set_cons_succ, List.length_cons, List.length_nil, List.map_cons, List.map_nil, List.cons_append, List.nil_append, List.replicate_succ, List.replicate_zero, Nat.reduceAdd, Nat.reduceSub, Nat.reduceMul, Nat.reduceLT, Nat.reduceLeDiff, Nat.reduceEqDiff, Int.reduceNeg, Int.reduceLT, Int.reduceLE, Int.reduceToNat, Int.reduceAdd, Int.reduceSub, Int.reduceMul, Int.reducePow, Int.reduceAbs, ↓reduceIte, ge_iff_le, gt_iff_lt, f_row_laying, rowD, List.length_map, rng1n (show ws.length ≤ 1000000 by omega), rangeL_lenQ]
  refine ⟨by unfold lim; omega, wC_map (List.range ws.length) (fun i => .int i) (fun i => onD (if i ∈ ks then none else some ((i : Int) - 1))) rangeL_mapN rfl (fun i hi => ?_) ?_⟩
  · simp (failIfUnchanged := false) (dsimp := false) only [pwA, ixL, setAll, wRev, wipe, isiOk, isTy, List.any_cons, List.any_nil, reduceCtorEq, if_true, if_false, List.getElem?_cons_zero, List.getElem?_cons_succ, List.getElem?_nil, List.set_cons_zero, List.set_cons_succ, List.length_cons, List.length_nil, List.map_cons, List.map_nil, List.cons_append, List.nil_append, List.replicate_succ, List.replicate_zero, Nat.reduceAdd, Nat.reduceSub, Nat.reduceMul, Nat.reduceLT, Nat.reduceLeDiff, Nat.reduceEqDiff, Int.reduceNeg, Int.reduceLT, Int.reduceLE, Int.reduceToNat, Int.reduceAdd, Int.reduceSub, Int.reduceMul, Int.reducePow, Int.reduceAbs, ↓reduceIte, ge_iff_le, gt_iff_lt, in_nats]
    by_cases h : i ∈ ks
    · simp (failIfUnchanged := false) (dsimp := false) only [pwA, ixL, setAll, wRev, wipe, isiOk, isTy, List.any_cons, List.any_nil, reduceCtorEq, if_true, if_false, List.getElem?_cons_zero, List.getElem?_cons_succ, List.getElem?_nil, List.set_cons_zero, List.set_cons_succ, List.length_cons, List.length_nil, List.map_cons, List.map_nil, List.cons_append, List.nil_append, List.replicate_succ, List.replicate_zero, Nat.reduceAdd, Nat.reduceSub, Nat.reduceMul, Nat.reduceLT, Nat.reduceLeDiff, Nat.reduceEqDiff, Int.reduceNeg, Int.reduceLT, Int.reduceLE, Int.reduceToNat, Int.reduceAdd, Int.reduceSub, Int.reduceMul, Int.reducePow, Int.reduceAbs, ↓reduceIte, ge_iff_le, gt_iff_lt, h, onD_none]
    · simp (failIfUnchanged := false) (dsimp := false) only [pwA, ixL, setAll, wRev, wipe, isiOk, isTy, List.any_cons, List.any_nil, reduceCtorEq, if_true, if_false, List.getElem?_cons_zero, List.getElem?_cons_succ, List.getElem?_nil, List.set_cons_zero, List.set_cons_succ, List.length_cons, List.length_nil, List.map_cons, List.map_nil, List.cons_append, List.nil_append, List.replicate_succ, List.replicate_zero, Nat.reduceAdd, Nat.reduceSub, Nat.reduceMul, Nat.reduceLT, Nat.reduceLeDiff, Nat.reduceEqDiff, Int.reduceNeg, Int.reduceLT, Int.reduceLE, Int.reduceToNat, Int.reduceAdd, Int.reduceSub, Int.reduceMul, Int.reducePow, Int.reduceAbs, ↓reduceIte, ge_iff_le, gt_iff_lt, h, onD_some]
  · skip
    refine ⟨_, deref_plain ?_, ?_, ?_⟩
    · have := lay_noRef (l := layL ws.length ks)
      rw [layD, layL, List.map_map] at this
      exact this
    · have := lay_noRef (l := layL ws.length ks)
      rw [layD, layL, List.map_map] at this
      exact this
    · rw [layD, layL, List.map_map]; rfl
theorem szOf_row {ss : List Int} {i : Nat} (h : i < ss.length) : szOf (rowCs ss) (i : Int) ((i : Int) + 1) = some ss[i] := by
  have hm : ((i : Int), (i : Int) + 1, ss[i]) ∈ rowCs ss := List.mem_iff_getElem?.mpr ⟨i, by rw [rowCs_get, List.getElem?_eq_getElem h]; rfl⟩
  unfold szOf
  cases hf : (rowCs ss).find? fun c => c.1 == (i : Int) && c.2.1 == (i : Int) + 1 with
  | none => exact absurd (List.find?_eq_none.mp hf _ hm) (by simp)
  | some c =>
    have h1 := List.find?_some hf
    obtain ⟨j, hj⟩ := List.mem_iff_getElem?.mp (List.mem_of_find?_eq_some hf)
    rw [rowCs_get] at hj
    obtain ⟨s, hs, rfl⟩ := Option.map_eq_some_iff.mp hj
    simp at h1
    have : j = i := by omega
    subst this
    rw [List.getElem?_eq_getElem h] at hs
    cases hs; rfl
theorem row_layOk {n : Nat} {ws ss : List Int} {ks : List Nat} (h : RowOk n ws ss) (hk : 0 ∈ ks) : LayOk ws.length (rowCs ss) (layL ws.length ks) := by
  have h1 := h.l1; have h3 := h.ls
  have key : ∀ (i : Nat) (j : Int), (layL ws.length ks)[i]? = some (some j) → i < ws.length ∧ 1 ≤ i ∧ j = i - 1 := by
    intro i j hij
    rw [layL_get] at hij
    split at hij
    · rename_i hi
      refine ⟨hi, ?_, ?_⟩
      · rcases Nat.eq_zero_or_pos i with rfl | h; · simp [hk] at hij
        exact h
      · by_cases h : i ∈ ks
        · simp [h] at hij
        · simp [h] at hij; exact hij.symm
    · cases hij
  refine ⟨by simp [layL], fun i j hij => ?_, id, fun i hi => hi, fun i j hij => ?_⟩
  · obtain ⟨a, b, rfl⟩ := key i j hij
    refine ⟨by omega, by omega, ?_⟩
    have := szOf_row (ss := ss) (i := i - 1) (by omega)
    have e : ((i - 1 : Nat) : Int) = (i : Int) - 1 := by omega
    rw [e, show (i : Int) - 1 + 1 = i by omega] at this
    rw [this]; rfl
  · obtain ⟨a, b, rfl⟩ := key i j hij
    show ((i : Int) - 1).toNat < i
    omega
theorem Sz.ints {W : Nat} {l : List Int} (h : ∀ x ∈ l, x.natAbs < 10 ^ 25) (hW : l.length * 85 ≤ W) : Sz 1 W (.tup (l.map .int)) := by
  refine Sz.tup (w := 84) (fun x hx => ?_) (by simpa using hW)
  obtain ⟨i, hi, rfl⟩ := List.mem_map.mp hx
  exact Sz.int (h i hi)
theorem Sz.nats {W : Nat} {l : List Nat} (h : ∀ x ∈ l, x < 1000000) (hW : l.length * 85 ≤ W) : Sz 1 W (natsD l) := by
  refine Sz.tup (w := 84) (fun x hx => ?_) (by simpa using hW)
  obtain ⟨i, hi, rfl⟩ := List.mem_map.mp hx
  have := h i hi
  exact Sz.int (by omega)
theorem Sz.row {n : Nat} {ws ss : List Int} (h : RowOk n ws ss) (hn : n ≤ 40) : Sz 2 7000 (rowD ws ss) := by
  have := h.l2; have := h.ls
  refine Sz.tup (w := 3400) (fun x hx => ?_) (by simp)
  simp only [List.mem_cons, List.not_mem_nil, or_false] at hx
  rcases hx with rfl | rfl
  · exact Sz.ints (fun x hx => by have := h.w x hx; omega) (by omega)
  · exact Sz.ints (fun x hx => by have := h.s x hx; omega) (by omega)
theorem Sz.rowKept {n : Nat} {ws ss : List Int} {ks : List Nat} (h : RowOk n ws ss) (hn : n ≤ 40) (hk : ks.length ≤ 40) (hk2 : ∀ x ∈ ks, x < 1000000) : Sz 3 14010 (.lst [rowD ws ss, natsD ks]) := by
  refine Sz.lst (w := 7000) (fun x hx => ?_) (by simp)
  simp only [List.mem_cons, List.not_mem_nil, or_false] at hx
  rcases hx with rfl | rfl
  · exact Sz.row h hn
  · exact (Sz.nats hk2 (W := 7000) (by omega)).mono (by omega) (by omega)
end Pm

/-! Pm, part V: what stocks, layings and rows take; what there is to read. -/
namespace Pm
open PySem (Str PyData)
theorem gD {l : List Int} {i : Nat} (h : i < l.length) : l[i]? = some (l.getD i 0) := by
  simp [List.getD, h]
theorem foldl_maxQ {l : List Int} : ∀ (a : Int), (l.foldl max a = a ∨ l.foldl max a ∈ l) ∧ a ≤ l.foldl max a ∧ ∀ x ∈ l, x ≤ l.foldl max a := by
  induction l with
  | nil => intro a; simp
  | cons b l ih =>
    intro a
    simp only [List.foldl_cons]
    obtain ⟨h1, h2, h3⟩ := ih (max a b)
    refine ⟨?_, by omega, fun x hx => ?_⟩
    · rcases h1 with h1 | h1
      · rw [h1]
        by_cases h : a ≤ b
        · exact .inr (by rw [Int.max_eq_right h]; exact List.mem_cons_self ..)
        · exact .inl (Int.max_eq_left (by omega))
      · exact .inr (List.mem_cons_of_mem _ h1)
    · rcases List.mem_cons.mp hx with rfl | hx
      · omega
      · exact h3 x hx
def maxI (l : List Int) : Int := match l with
  | [] => 0
  | a :: l => l.foldl max a
theorem maxI_mem {l : List Int} (h : l ≠ []) : maxI l ∈ l := by
  cases l with
  | nil => exact absurd rfl h
  | cons a l =>
    rcases (foldl_maxQ (l := l) a).1 with h | h
    · show l.foldl max a ∈ a :: l
      rw [h]; exact List.mem_cons_self ..
    · exact List.mem_cons_of_mem _ h
theorem maxI_le {l : List Int} : ∀ x ∈ l, x ≤ maxI l := by
  cases l with
  | nil => simp
  | cons a l =>
    intro x hx
    rcases List.mem_cons.mp hx with rfl | hx
    · exact (foldl_maxQ (l := l) x).2.1
    · exact (foldl_maxQ (l := l) a).2.2 x hx
theorem maxI_eq {l r : List Int} (h1 : l ≠ []) (h2 : r ≠ []) (a : ∀ x ∈ l, ∃ y ∈ r, x ≤ y) (b : ∀ x ∈ r, ∃ y ∈ l, x ≤ y) : maxI l = maxI r := by
  obtain ⟨y, hy, h⟩ := a _ (maxI_mem h1)
  obtain ⟨z, hz, g⟩ := b _ (maxI_mem h2)
  have := maxI_le y hy
  have := maxI_le z hz
  omega
theorem f_maxL {l : List Int} {m : Bool} {st : Sto} (h : l ≠ []) : bicall .max m [.lst (l.map D.int)] st = some (.int (maxI l), st) := by
  cases l with
  | nil => exact absurd rfl h
  | cons a l => simp only [bicall, seqOf, Option.bind_some, intsD_ints]; rfl
theorem zipL_map {α β : Type} {l : List α} {r : List β} {f : α → D} {g : β → D} : zipL (l.map f) (r.map g) = (l.zip r).map fun p => .tup [f p.1, g p.2] := by
  induction l generalizing r with
  | nil => rfl
  | cons a l ih => cases r with
    | nil => rfl
    | cons b r => simp [zipL, ih]
/-! ### stocks -/
def tkn (ws : List Int) (cs : List Chg) (i : Nat) : Option Int → Int
  | none => ws.getD i 0
  | some j => (szOf cs j i).getD 0
theorem taken_eq {k : Nat} {ws : List Int} {cs : List Chg} {i : Nat} {o : Option Int} {st : Sto} (hi : i < ws.length) (ho : ∀ j, o = some j → (szOf cs j i).isSome = true) : pcall (callN pg0 FNS (k + 1)) 80 [stockD ws cs, sizesD cs, .int i, onD o] st = some (.int (tkn ws cs i o)) := by
  refine PW.eq ?_ (by simp [stock_noRef, sizes_noRef, onD_noRef, D.noRef])
  unfold PW
  rw [call_w a_taken_by rfl]
  cases o with
  | none =>
    simp (failIfUnchanged := false) (dsimp := false) only [pwA, ixL, setAll, wRev, wipe, isiOk, isTy, List.any_cons, List.any_nil, reduceCtorEq, if_true, if_false, List.getElem?_cons_zero, List.getElem?_cons_succ, List.getElem?_nil, List.set_cons_zero, List.set_cons_succ, List.length_cons, List.length_nil, List.map_cons, List.map_nil, List.cons_append, List.nil_append, List.replicate_succ, List.replicate_zero, Nat.reduceAdd, Nat.reduceSub, Nat.reduceMul, Nat.reduceLT, Nat.reduceLeDiff, Nat.reduceEqDiff, Int.reduceNeg, Int.reduceLT, Int.reduceLE, Int.reduceToNat, Int.reduceAdd, Int.reduceSub, Int.reduceMul, Int.reducePow, Int.reduceAbs, ↓reduceIte, ge_iff_le, gt_iff_lt, f_taken_by, stockD, onD_none, List.getElem?_map, gD hi, Option.map_some]
    exact ⟨_, deref_plain rfl, rfl, rfl⟩
  | some j =>
    obtain ⟨z, hz⟩ := Option.isSome_iff_exists.mp (ho j rfl)
    simp (failIfUnchanged := false) (dsimp := false) only [pwA, ixL, setAll, wRev, wipe, isiOk, isTy, List.any_cons, List.any_nil, reduceCtorEq, if_true, if_false, List.getElem?_cons_zero, List.getElem?_cons_succ, List.getElem?_nil, List.set_cons_zero, List.set_cons_succ, List.length_cons, List.length_nil, List.map_cons, List.map_nil, List.cons_append, List.nil_append, List.replicate_succ, List.replicate_zero, Nat.reduceAdd, Nat.reduceSub, Nat.reduceMul, Nat.reduceLT, Nat.reduceLeDiff, Nat.reduceEqDiff, Int.reduceNeg, Int.reduceLT, Int.reduceLE, Int.reduceToNat, Int.reduceAdd, Int.reduceSub, Int.reduceMul, Int.reducePow, Int.reduceAbs, ↓reduceIte, ge_iff_le, gt_iff_lt, f_taken_by, sizesD, onD_some, D.isKey, D.scal, List.all_cons, List.all_nil, Bool.and_self, look_sz, hz, Option.map_some]
    exact ⟨_, deref_plain rfl, rfl, by simp [tkn, hz]⟩
/-- the makes from the whole one on -/
def wayF (l : List (Option Int)) : Nat → Nat → List Nat
  | 0, i => [i]
  | f + 1, i => match l[i]? with
    | some (some j) => wayF l f j.toNat ++ [i]
    | _ => [i]
theorem LayOk.wayF_stable {m : Nat} {cs : List Chg} {l : List (Option Int)} {rank : Nat → Nat} (h : ∀ (i : Nat) (j : Int), l[i]? = some (some j) → rank j.toNat < rank i) : ∀ (f i : Nat), rank i < f → wayF l (f + 1) i = wayF l f i
  | 0, i, h => absurd h (by omega)
  | f + 1, i, hr => by
    show (match l[i]? with
      | some (some j) => wayF l (f + 1) j.toNat ++ [i]
      | _ => [i]) = _
    rw [wayF]
    cases hi : l[i]? with
    | none => rfl
    | some o =>
      cases o with
      | none => rfl
      | some j =>
        have := h i j hi
        simp only
        rw [LayOk.wayF_stable h f j.toNat (by omega)]
        all_goals first | exact m | exact cs
def wayOf (l : List (Option Int)) (i : Nat) : List Nat := wayF l l.length i
theorem wayOf_eq {m : Nat} {cs : List Chg} {l : List (Option Int)} (h : LayOk m cs l) {i : Nat} (hi : i < m) : wayOf l i = match l[i]? with
    | some (some j) => wayOf l j.toNat ++ [i]
    | _ => [i] := by
  obtain ⟨rank, h1, h2⟩ := h.h
  unfold wayOf
  have hr := h1 i hi
  have hl := h.len
  obtain ⟨f, hf⟩ : ∃ f, l.length = f + 1 := ⟨l.length - 1, by omega⟩
  rw [hf]
  show (match l[i]? with
      | some (some j) => wayF l f j.toNat ++ [i]
      | _ => [i]) = _
  cases hi : l[i]? with
  | none => rfl
  | some o =>
    cases o with
    | none => rfl
    | some j =>
      have := h2 i j hi
      simp only
      rw [LayOk.wayF_stable (m := m) (cs := cs) h2 f j.toNat (by omega)]
theorem way_lt {m : Nat} {cs : List Chg} {l : List (Option Int)} (h : LayOk m cs l) {i : Nat} (hi : i < m) : ∀ x ∈ wayOf l i, x < m := by
  obtain ⟨rank, h1, h2⟩ := h.h
  have gen : ∀ (n i : Nat), rank i < n → i < m → ∀ x ∈ wayOf l i, x < m := by
    intro n
    induction n with
    | zero => intro i h; omega
    | succ n ih =>
      intro i hr hi x hx
      rw [wayOf_eq h hi] at hx
      cases ho : l[i]? with
      | none => simp [ho] at hx; omega
      | some o =>
        cases o with
        | none => simp [ho] at hx; omega
        | some j =>
          simp only [ho, List.mem_append, List.mem_singleton] at hx
          rcases hx with hx | rfl
          · have := h.s i j ho
            exact ih j.toNat (by have := h2 i j ho; omega) (by omega) x hx
          · exact hi
  exact gen _ i (Nat.lt_succ_self _) hi
theorem way_len {m : Nat} {cs : List Chg} {l : List (Option Int)} (h : LayOk m cs l) {i : Nat} (hi : i < m) : 1 ≤ (wayOf l i).length ∧ (wayOf l i).length ≤ m := by
  obtain ⟨rank, h1, h2⟩ := h.h
  have gen : ∀ (n i : Nat), rank i < n → i < m → 1 ≤ (wayOf l i).length ∧ (wayOf l i).length ≤ rank i + 1 := by
    intro n
    induction n with
    | zero => intro i h; omega
    | succ n ih =>
      intro i hr hi
      rw [wayOf_eq h hi]
      cases ho : l[i]? with
      | none => simp
      | some o =>
        cases o with
        | none => simp
        | some j =>
          have := h.s i j ho
          have := h2 i j ho
          have := ih j.toNat (by omega) (by omega)
          simp only [List.length_append, List.length_singleton]
          omega
  have := gen _ i (Nat.lt_succ_self _) hi
  have := h1 i hi
  omega
theorem natsL_last {pre : List Nat} {h : Nat} : ((pre ++ [h]).map fun i : Nat => D.int i).getLast? = some (.int h) := by simp
theorem way_eq {k : Nat} {m i : Nat} {cs : List Chg} {l : List (Option Int)} {st : Sto} (h : LayOk m cs l) (hi : i < m) (hm : m ≤ 1000) : pcall (callN pg0 FNS (k + 1)) 82 [layD l, .int i] st = some (natsD (wayOf l i)) := by
  refine PW.eq ?_ (by simp [lay_noRef, D.noRef])
  unfold PW
  have ⟨rank, h1, h2⟩ := h.h
  have hln := h.len
  rw [call_w a_way rfl]
  simp (failIfUnchanged := false) (dsimp := false) only [pwA, ixL, setAll, wRev, wipe, isiOk, isTy, List.any_cons, List.any_nil, reduceCtorEq, if_true, if_false, List.getElem?_cons_zero, List.getElem?_cons_succ, List.getElem?_nil, List.set_cons_zero, List.set_cons_succ, List.length_cons, List.length_nil, List.map_cons, List.map_nil, List.cons_append, List.nil_append, List.replicate_succ, List.replicate_zero, Nat.reduceAdd, Nat.reduceSub, Nat.reduceMul, Nat.reduceLT, Nat.reduceLeDiff, Nat.reduceEqDiff, Int.reduceNeg, Int.reduceLT, Int.reduceLE, Int.reduceToNat, Int.reduceAdd, Int.reduceSub, Int.reduceMul, Int.reducePow, Int.reduceAbs, ↓reduceIte, ge_iff_le, gt_iff_lt, f_way]
  refine wW_inv (n := rank i) (fun n e s => ∃ (pre : List Nat) (x : Nat), e = [some (layD l), some (.int i), some (.ref 0)] ∧ s = [.lst ((pre ++ [x]).map fun i : Nat => D.int i)] ∧ x < m ∧ rank x = n ∧ wayOf l i = wayOf l x ++ pre.reverse ∧ rank x + pre.length ≤ rank i) (by have := h1 i hi; omega) ⟨[], i, rfl, rfl, hi, rfl, by simp, by simp⟩ ?_
  rintro n _ _ ⟨pre, x, rfl, rfl, hx, rfl, hw, hr⟩
  have hlt : x < l.length := by omega
  have hlen : (((pre ++ [x]).map fun i : Nat => D.int i)).length < lim := by have := h1 i hi; simp only [List.length_map, List.length_append, List.length_singleton]; unfold lim; omega
  have e0 : (l.map onD)[x]? = some (onD l[x]) := by rw [List.getElem?_map, List.getElem?_eq_getElem hlt]; rfl
  have hc := wayOf_eq h hx
  have hg : l[x]? = some l[x] := List.getElem?_eq_getElem hlt
  rw [hg] at hc
  cases ho : l[x] with
  | none =>
    rw [ho] at e0 hc
    simp (failIfUnchanged := false) (dsimp := false) only [pwA, ixL, setAll, wRev, wipe, isiOk, isTy, List.any_cons, List.any_nil, reduceCtorEq, if_true, if_false, List.getElem?_cons_zero, List.getElem?_cons_succ, List.getElem?_nil, List.set_cons_zero, List.set_cons_succ, List.length_cons, List.length_nil, List.map_cons, List.map_nil, List.cons_append, List.nil_append, List.replicate_succ, List.replicate_zero, Nat.reduceAdd, Nat.reduceSub, Nat.reduceMul, Nat.reduceLT, Nat.reduceLeDiff, Nat.reduceEqDiff, Int.reduceNeg, Int.reduceLT, Int.reduceLE, Int.reduceToNat, Int.reduceAdd, Int.reduceSub, Int.reduceMul, Int.reducePow, Int.reduceAbs, ↓reduceIte, ge_iff_le, gt_iff_lt, natsL_last, layD, e0, onD_none]
    refine ⟨_, deref_plain ?_, ?_, ?_⟩
    · exact nats_noRef (l := (pre ++ [x]).reverse) |> fun h => by simpa [natsD] using h
    · exact nats_noRef (l := (pre ++ [x]).reverse) |> fun h => by simpa [natsD] using h
    · rw [hw, hc]; simp [natsD]
  | some j =>
    have hj := h.s x j (by rw [hg, ho])
    have hk := h2 x j (by rw [hg, ho])
    rw [ho] at e0 hc
    simp (failIfUnchanged := false) (dsimp := false) only [pwA, ixL, setAll, wRev, wipe, isiOk, isTy, List.any_cons, List.any_nil, reduceCtorEq, if_true, if_false, List.getElem?_cons_zero, List.getElem?_cons_succ, List.getElem?_nil, List.set_cons_zero, List.set_cons_succ, List.length_cons, List.length_nil, List.map_cons, List.map_nil, List.cons_append, List.nil_append, List.replicate_succ, List.replicate_zero, Nat.reduceAdd, Nat.reduceSub, Nat.reduceMul, Nat.reduceLT, Nat.reduceLeDiff, Nat.reduceEqDiff, Int.reduceNeg, Int.reduceLT, Int.reduceLE, Int.reduceToNat, Int.reduceAdd, Int.reduceSub, Int.reduceMul, Int.reducePow, Int.reduceAbs, ↓reduceIte, ge_iff_le, gt_iff_lt, natsL_last, layD, e0, onD_some, hlen, l_refO, sqO_lst]
    refine ⟨rank j.toNat, hk, pre ++ [x], j.toNat, ?_, by omega, rfl, ?_, ?_⟩
    · have : (j.toNat : Int) = j := by omega
      simp [this]
    · rw [hw, hc]; simp
    · simp; omega
theorem sum_nats {l : List Nat} {f : Nat → Int} {m : Bool} {st : Sto} : bicall .sum m [.lst (l.map fun i => .int (f i))] st = some (.int (l.map f).sum, st) := f_sumL
/-- what is laid of a stock -/
structure Laid (ws : List Int) (cs : List Chg) (l : List (Option Int)) : Prop where
  st : StockOk ws cs
  la : LayOk ws.length cs l
def szL (ws : List Int) (cs : List Chg) (l : List (Option Int)) (i : Nat) : Int := tkn ws cs i (l.getD i none)
def roomI (ws : List Int) (cs : List Chg) (l : List (Option Int)) : Int := ((List.range ws.length).map (szL ws cs l)).sum
def readI (ws : List Int) (cs : List Chg) (l : List (Option Int)) (i : Nat) : Int := ((wayOf l i).map (szL ws cs l)).sum
theorem lay_get {m i : Nat} {cs : List Chg} {l : List (Option Int)} (h : LayOk m cs l) (hi : i < m) : l[i]? = some (l.getD i none) ∧ ∀ j, l.getD i none = some j → (szOf cs j i).isSome = true := by
  have hlt : i < l.length := by rw [h.len]; exact hi
  have e : l[i]? = some (l.getD i none) := by simp [List.getD, hlt]
  exact ⟨e, fun j hj => (h.s i j (by rw [e, hj])).2.2⟩
theorem room_eq {k : Nat} {ws : List Int} {cs : List Chg} {l : List (Option Int)} {st : Sto} (h : Laid ws cs l) : pcall (callN pg0 FNS (k + 2)) 81 [stockD ws cs, layD l] st = some (.int (roomI ws cs l)) := by
  refine PW.eq ?_ (by simp [lay_noRef, stock_noRef])
  unfold PW
  have hl := h.st.l; have hlc := h.st.lc; have hln := h.la.len
  have e0 := sizes_eq (k := k) (ws := ws) (st := []) h.st.s hlc
  rw [call_w a_room rfl]
  simp (failIfUnchanged := false) (dsimp := false) only [pwA, ixL, setAll, wRev, wipe, isiOk, isTy, List.any_cons, List.any_nil, reduceCtorEq, if_true, if_false, List.getElem?_cons_zero, List.getElem?_cons_succ, List.getElem?_nil, List.set_cons_zero, List.set_cons_succ, List.length_cons, List.length_nil, List.map_cons, List.map_nil, List.cons_append, List.nil_append, List.replicate_succ, List.replicate_zero, Nat.reduceAdd, Nat.reduceSub, Nat.reduceMul, Nat.reduceLT, Nat.reduceLeDiff, Nat.reduceEqDiff, Int.reduceNeg, Int.reduceLT, Int.reduceLE, Int.reduceToNat, Int.reduceAdd, Int.reduceSub, Int.reduceMul, Int.reducePow, Int.reduceAbs, ↓reduceIte, ge_iff_le, gt_iff_lt, f_room, e0, layD, enumL_lenQ, List.length_map, hln]
  refine ⟨by unfold lim; omega, wC_get ((List.range ws.length).map fun i => .int (szL ws cs l i)) rfl (by simp [enumL_lenQ, hln]) (fun i x hx => ?_) ?_⟩
  · rw [enumL_getQ, Nat.zero_add, List.getElem?_map] at hx
    obtain ⟨y, hy, rfl⟩ := Option.map_eq_some_iff.mp hx
    obtain ⟨o, ho, rfl⟩ := Option.map_eq_some_iff.mp hy
    have hlt := (List.getElem?_eq_some_iff.mp ho).1
    have hi : i < ws.length := by omega
    obtain ⟨g1, g2⟩ := lay_get h.la hi
    rw [ho] at g1
    cases g1
    simp (failIfUnchanged := false) (dsimp := false) only [pwA, ixL, setAll, wRev, wipe, isiOk, isTy, List.any_cons, List.any_nil, reduceCtorEq, if_true, if_false, List.getElem?_cons_zero, List.getElem?_cons_succ, List.getElem?_nil, List.set_cons_zero, List.set_cons_succ, List.length_cons, List.length_nil, List.map_cons, List.map_nil, List.cons_append, List.nil_append, List.replicate_succ, List.replicate_zero, Nat.reduceAdd, Nat.reduceSub, Nat.reduceMul, Nat.reduceLT, Nat.reduceLeDiff, Nat.reduceEqDiff, Int.reduceNeg, Int.reduceLT, Int.reduceLE, Int.reduceToNat, Int.reduceAdd, Int.reduceSub, Int.reduceMul, Int.reducePow, Int.reduceAbs, ↓reduceIte, ge_iff_le, gt_iff_lt, taken_eq hi g2]
    simp [hi, szL]
  · simp (failIfUnchanged := false) (dsimp := false) only [pwA, ixL, setAll, wRev, wipe, isiOk, isTy, List.any_cons, List.any_nil, reduceCtorEq, if_true, if_false, List.getElem?_cons_zero, List.getElem?_cons_succ, List.getElem?_nil, List.set_cons_zero, List.set_cons_succ, List.length_cons, List.length_nil, List.map_cons, List.map_nil, List.cons_append, List.nil_append, List.replicate_succ, List.replicate_zero, Nat.reduceAdd, Nat.reduceSub, Nat.reduceMul, Nat.reduceLT, Nat.reduceLeDiff, Nat.reduceEqDiff, Int.reduceNeg, Int.reduceLT, Int.reduceLE, Int.reduceToNat, Int.reduceAdd, Int.reduceSub, Int.reduceMul, Int.reducePow, Int.reduceAbs, ↓reduceIte, ge_iff_le, gt_iff_lt, sum_nats]
    exact ⟨_, deref_plain rfl, rfl, rfl⟩
theorem reads_eq {k : Nat} {ws : List Int} {cs : List Chg} {l : List (Option Int)} {st : Sto} (h : Laid ws cs l) : pcall (callN pg0 FNS (k + 2)) 84 [stockD ws cs, layD l] st = some (.tup ((List.range ws.length).map fun i => .int (readI ws cs l i))) := by
  refine PW.eq ?_ (by simp [lay_noRef, stock_noRef])
  unfold PW
  have hl := h.st.l; have hlc := h.st.lc; have hln := h.la.len
  have e0 := fun st => sizes_eq (k := k) (ws := ws) (st := st) h.st.s hlc
  have e1 : ∀ i st, i < ws.length → pcall (callN pg0 FNS (k + 1)) 82 [layD l, .int i] st = some (natsD (wayOf l i)) := fun i st hi => way_eq h.la hi hl
  unfold layD at e1
  rw [call_w a_reads rfl]
  simp (failIfUnchanged := false) (dsimp := false) only [pwA, ixL, setAll, wRev, wipe, isiOk, isTy, List.any_cons, List.any_nil, reduceCtorEq, if_true, if_false, List.getElem?_cons_zero, List.getElem?_cons_succ, List.getElem?_nil, List.set_cons_zero, List.set_cons_succ, List.length_cons, List.length_nil, List.map_cons, List.map_nil, List.cons_append, List.nil_append, List.replicate_succ, List.replicate_zero, Nat.reduceAdd, Nat.reduceSub, Nat.reduceMul, Nat.reduceLT, Nat.reduceLeDiff, Nat.reduceEqDiff, Int.reduceNeg, Int.reduceLT, Int.reduceLE, Int.reduceToNat, Int.reduceAdd, Int.reduceSub, Int.reduceMul, Int.reducePow, Int.reduceAbs, ↓reduceIte, ge_iff_le, gt_iff_lt, f_reads, e0, layD, List.length_map, hln, rng1n (show ws.length ≤ 1000000 by omega)]
  refine wF_inv (fun i e s => ∃ x : Option D, ∃ y : Option D, e = [some (stockD ws cs), some (layD l), some (sizesD cs), some (.ref 0), x, y] ∧ s = [.lst ((List.range i).map fun i => .int (readI ws cs l i))]) ⟨_, _, rfl, rfl⟩ ?_ ?_
  · rintro i x _ _ hx ⟨p, q, rfl, rfl⟩
    obtain ⟨hi, rfl⟩ := rangeL0_some hx
    have hwl := way_len h.la hi
    have hwt := way_lt h.la hi
    simp (failIfUnchanged := false) (dsimp := false) only [pwA, ixL, setAll, wRev, wipe, isiOk, isTy, List.any_cons, List.any_nil, reduceCtorEq, if_true, if_false, List.getElem?_cons_zero, List.getElem?_cons_succ, List.getElem?_nil, List.set_cons_zero, List.set_cons_succ, List.length_cons, List.length_nil, List.map_cons, List.map_nil, List.cons_append, List.nil_append, List.replicate_succ, List.replicate_zero, Nat.reduceAdd, Nat.reduceSub, Nat.reduceMul, Nat.reduceLT, Nat.reduceLeDiff, Nat.reduceEqDiff, Int.reduceNeg, Int.reduceLT, Int.reduceLE, Int.reduceToNat, Int.reduceAdd, Int.reduceSub, Int.reduceMul, Int.reducePow, Int.reduceAbs, ↓reduceIte, ge_iff_le, gt_iff_lt, layD, e1 i _ hi, natsD, List.length_map]
    refine ⟨by unfold lim; omega, wC_map (wayOf l i) (fun i => .int i) (fun i => .int (szL ws cs l i)) rfl rfl (fun j hj => ?_) ?_⟩
    · have hjl := hwt j hj
      obtain ⟨g1, g2⟩ := lay_get h.la hjl
      have e2 := fun st => taken_eq (k := k) (ws := ws) (st := st) hjl g2
      simp (failIfUnchanged := false) (dsimp := false) only [pwA, ixL, setAll, wRev, wipe, isiOk, isTy, List.any_cons, List.any_nil, reduceCtorEq, if_true, if_false, List.getElem?_cons_zero, List.getElem?_cons_succ, List.getElem?_nil, List.set_cons_zero, List.set_cons_succ, List.length_cons, List.length_nil, List.map_cons, List.map_nil, List.cons_append, List.nil_append, List.replicate_succ, List.replicate_zero, Nat.reduceAdd, Nat.reduceSub, Nat.reduceMul, Nat.reduceLT, Nat.reduceLeDiff, Nat.reduceEqDiff, Int.reduceNeg, Int.reduceLT, Int.reduceLE, Int.reduceToNat, Int.reduceAdd, Int.reduceSub, Int.reduceMul, Int.reducePow, Int.reduceAbs, ↓reduceIte, ge_iff_le, gt_iff_lt, List.getElem?_map, g1, Option.map_some, e2]
      simp [szL]
    · simp (failIfUnchanged := false) (dsimp := false) only [pwA, ixL, setAll, wRev, wipe, isiOk, isTy, List.any_cons, List.any_nil, reduceCtorEq, if_true, if_false, List.getElem?_cons_zero, List.getElem?_cons_succ, List.getElem?_nil, List.set_cons_zero, List.set_cons_succ, List.length_cons, List.length_nil, List.map_cons, List.map_nil, List.cons_append, List.nil_append, List.replicate_succ, List.replicate_zero, Nat.reduceAdd, Nat.reduceSub, Nat.reduceMul, Nat.reduceLT, Nat.reduceLeDiff, Nat.reduceEqDiff, Int.reduceNeg, Int.reduceLT, Int.reduceLE, Int.reduceToNat, Int.reduceAdd, Int.reduceSub, Int.reduceMul, Int.reducePow, Int.reduceAbs, ↓reduceIte, ge_iff_le, gt_iff_lt, sum_nats, List.length_map, List.length_range]
      refine ⟨by unfold lim; omega, _, _, rfl, ?_⟩
      rw [List.range_succ, List.map_append]; rfl
  · rintro _ _ ⟨p, q, rfl, rfl⟩
    rw [rangeL_lenQ]
    simp (failIfUnchanged := false) (dsimp := false) only [pwA, ixL, setAll, wRev, wipe, isiOk, isTy, List.any_cons, List.any_nil, reduceCtorEq, if_true, if_false, List.getElem?_cons_zero, List.getElem?_cons_succ, List.getElem?_nil, List.set_cons_zero, List.set_cons_succ, List.length_cons, List.length_nil, List.map_cons, List.map_nil, List.cons_append, List.nil_append, List.replicate_succ, List.replicate_zero, Nat.reduceAdd, Nat.reduceSub, Nat.reduceMul, Nat.reduceLT, Nat.reduceLeDiff, Nat.reduceEqDiff, Int.reduceNeg, Int.reduceLT, Int.reduceLE, Int.reduceToNat, Int.reduceAdd, Int.reduceSub, Int.reduceMul, Int.reducePow, Int.reduceAbs, ↓reduceIte, ge_iff_le, gt_iff_lt, f_tupO, sqO_lst]
    have : (D.tup ((List.range ws.length).map fun i => .int (readI ws cs l i))).noRef = true := by simp [D.noRef, noRefL_all]
    exact ⟨_, deref_plain this, this, rfl⟩
theorem deep_eq {k i : Nat} {m : Nat} {cs : List Chg} {l : List (Option Int)} {st : Sto} (h : LayOk m cs l) (hi : i < m) (hm : m ≤ 1000) : pcall (callN pg0 FNS (k + 2)) 83 [layD l, .int i] st = some (.int ((wayOf l i).length - 1)) := by
  refine PW.eq ?_ (by simp [lay_noRef, D.noRef])
  unfold PW
  rw [call_w a_deep rfl]
  simp (failIfUnchanged := false) (dsimp := false) only [pwA, ixL, setAll, wRev, wipe, isiOk, isTy, List.any_cons, List.any_nil, reduceCtorEq, if_true, if_false, List.getElem?_cons_zero, List.getElem?_cons_succ, List.getElem?_nil, List.set_cons_zero, List.set_cons_succ, List.length_cons, List.length_nil, List.map_cons, List.map_nil, List.cons_append, List.nil_append, List.replicate_succ, List.replicate_zero, Nat.reduceAdd, Nat.reduceSub, Nat.reduceMul, Nat.reduceLT, Nat.reduceLeDiff, Nat.reduceEqDiff, Int.reduceNeg, Int.reduceLT, Int.reduceLE, Int.reduceToNat, Int.reduceAdd, Int.reduceSub, Int.reduceMul, Int.reducePow, Int.reduceAbs, ↓reduceIte, ge_iff_le, gt_iff_lt, f_deep, way_eq h hi hm, natsD, List.length_map]
  exact ⟨_, deref_plain rfl, rfl, rfl⟩
end Pm

/-! Pm, part X: what rows take. -/
namespace Pm
open PySem (Str PyData)
section
variable (ws ss : List Int) (ks : List Nat)
def szR : Nat → Int
  | 0 => ws.getD 0 0
  | i + 1 => if i + 1 ∈ ks then ws.getD (i + 1) 0 else ss.getD i 0
def readR : Nat → Int
  | 0 => ws.getD 0 0
  | i + 1 => if i + 1 ∈ ks then ws.getD (i + 1) 0 else readR i + ss.getD i 0
def depR : Nat → Nat
  | 0 => 0
  | i + 1 => if i + 1 ∈ ks then 0 else depR i + 1
end
/-- stretches: from a kept one up to ahead of the next -/
def segs (ks : List Nat) (n : Nat) : List (Nat × Nat) := ks.zip (ks.drop 1 ++ [n])
theorem segs_cons {a b n : Nat} {ks : List Nat} : segs (a :: b :: ks) n = (a, b) :: segs (b :: ks) n := rfl
theorem segs_one {a n : Nat} : segs [a] n = [(a, n)] := rfl
/-- what rises, below n -/
def Rise (n : Nat) (ks : List Nat) : Prop := ks.Pairwise (· < ·) ∧ ∀ k ∈ ks, k < n
theorem Rise.tail {n a : Nat} {ks : List Nat} (h : Rise n (a :: ks)) : Rise n ks := ⟨(List.pairwise_cons.mp h.1).2, fun k hk => h.2 k (List.mem_cons_of_mem _ hk)⟩
theorem KeptOk.rise {n : Nat} {ks : List Nat} (h : KeptOk n ks) : Rise n ks := ⟨List.Pairwise.sublist h.s List.pairwise_lt_range, h.lt⟩
theorem KeptOk.head {n : Nat} {ks : List Nat} (h : KeptOk n ks) : ∃ r, ks = 0 :: r := by
  cases ks with
  | nil => exact absurd h.z (by simp)
  | cons a r =>
    rcases List.mem_cons.mp h.z with h0 | h0
    · exact ⟨r, by rw [← h0]⟩
    · have := (List.pairwise_cons.mp h.rise.1).1 0 h0; omega
theorem segs_mem {n : Nat} : ∀ {ks : List Nat} {p : Nat × Nat}, Rise n ks → p ∈ segs ks n → p.1 < p.2 ∧ p.2 ≤ n ∧ p.1 ∈ ks ∧ ∀ i, p.1 < i → i < p.2 → i ∉ ks
  | [], p, _, h => by simp [segs] at h
  | [a], p, hr, h => by
    simp [segs_one] at h
    subst h
    exact ⟨hr.2 a (by simp), Nat.le_refl _, by simp, fun i h1 h2 => by simp; omega⟩
  | a :: b :: ks, p, hr, h => by
    rw [segs_cons] at h
    have hab : a < b := (List.pairwise_cons.mp hr.1).1 b (by simp)
    rcases List.mem_cons.mp h with rfl | h
    · refine ⟨hab, Nat.le_of_lt (hr.2 b (by simp)), by simp, fun i h1 h2 hi => ?_⟩
      rcases List.mem_cons.mp hi with rfl | hi
      · exact absurd h1 (Nat.lt_irrefl _)
      · rcases List.mem_cons.mp hi with rfl | hi
        · exact absurd h2 (Nat.lt_irrefl _)
        · have := (List.pairwise_cons.mp hr.tail.1).1 i hi; simp only at h2; omega
    · obtain ⟨h1, h2, h3, h4⟩ := segs_mem hr.tail h
      refine ⟨h1, h2, List.mem_cons_of_mem _ h3, fun i a1 a2 hi => ?_⟩
      rcases List.mem_cons.mp hi with rfl | hi
      · have := (List.pairwise_cons.mp hr.1).1 p.1 h3; omega
      · exact h4 i a1 a2 hi
theorem range'_app {a b c : Nat} (h : a ≤ b) (h2 : b ≤ c) : List.range' a (b - a) ++ List.range' b (c - b) = List.range' a (c - a) := by
  rw [show c - a = (b - a) + (c - b) by omega, ← List.range'_append_1, show a + (b - a) = b by omega]
theorem segs_flat {n : Nat} : ∀ {a : Nat} {ks : List Nat}, Rise n (a :: ks) → (segs (a :: ks) n).flatMap (fun p => List.range' p.1 (p.2 - p.1)) = List.range' a (n - a)
  | a, [], h => by simp [segs_one]
  | a, b :: ks, h => by
    have hab : a < b := (List.pairwise_cons.mp h.1).1 b (by simp)
    have hb : b < n := h.2 b (by simp)
    rw [segs_cons, List.flatMap_cons, segs_flat h.tail]
    exact range'_app (by omega) (by omega)
theorem segs_ne {n : Nat} {a : Nat} {ks : List Nat} : segs (a :: ks) n ≠ [] := by cases ks <;> simp [segs]
/-- each make stands in one -/
theorem segs_at {n i : Nat} {ks : List Nat} (h : KeptOk n ks) (hi : i < n) : ∃ p ∈ segs ks n, p.1 ≤ i ∧ i < p.2 := by
  obtain ⟨r, rfl⟩ := h.head
  have h2 := segs_flat h.rise
  have : i ∈ List.range' 0 (n - 0) := by simp [List.mem_range'_1]; omega
  rw [← h2, List.mem_flatMap] at this
  obtain ⟨p, hp, hm⟩ := this
  rw [List.mem_range'_1] at hm
  exact ⟨p, hp, hm.1, by omega⟩
/-- what there is to read from b on up to ahead of e -/
def strI (ws ss : List Int) (b e : Nat) : Int := ws.getD b 0 + ((ss.drop b).take (e - 1 - b)).sum
theorem sum_take_succ {l : List Int} {m : Nat} : (l.take (m + 1)).sum = (l.take m).sum + l.getD m 0 := by
  induction l generalizing m with
  | nil => simp
  | cons a l ih => cases m with
    | zero => simp
    | succ m => simp only [List.take_succ_cons, List.sum_cons, ih, List.getD_cons_succ]; omega
theorem strI_succ {ws ss : List Int} {b d : Nat} : strI ws ss b (b + d + 1 + 1) = strI ws ss b (b + d + 1) + ss.getD (b + d) 0 := by
  unfold strI
  rw [show b + d + 1 + 1 - 1 - b = d + 1 by omega, show b + d + 1 - 1 - b = d by omega, sum_take_succ]
  have : (ss.drop b).getD d 0 = ss.getD (b + d) 0 := by simp [List.getD, List.getElem?_drop]
  rw [this]; omega
theorem strI_one {ws ss : List Int} {b : Nat} : strI ws ss b (b + 1) = ws.getD b 0 := by simp [strI]
theorem readR_kept {ws ss : List Int} {ks : List Nat} {b : Nat} (h : b ∈ ks) : readR ws ss ks b = ws.getD b 0 := by
  cases b with
  | zero => rfl
  | succ b => simp [readR, h]
theorem szR_kept {ws ss : List Int} {ks : List Nat} {b : Nat} (h : b ∈ ks) : szR ws ss ks b = ws.getD b 0 := by
  cases b with
  | zero => rfl
  | succ b => simp [szR, h]
theorem depR_kept {ks : List Nat} {b : Nat} (h : b ∈ ks) : depR ks b = 0 := by
  cases b with
  | zero => rfl
  | succ b => simp [depR, h]
theorem seg_read {ws ss : List Int} {ks : List Nat} {b e : Nat} (h1 : b ∈ ks) (h2 : ∀ i, b < i → i < e → i ∉ ks) : ∀ d, b + d < e → readR ws ss ks (b + d) = strI ws ss b (b + d + 1) ∧ depR ks (b + d) = d
  | 0, _ => by rw [Nat.add_zero, readR_kept h1, strI_one, depR_kept h1]; exact ⟨rfl, rfl⟩
  | d + 1, h => by
    obtain ⟨g1, g2⟩ := seg_read (ws := ws) (ss := ss) h1 h2 d (by omega)
    have hn : b + d + 1 ∉ ks := h2 _ (by omega) (by omega)
    rw [← Nat.add_assoc]
    simp only [readR, depR, hn, if_false, g1, g2]
    exact ⟨strI_succ.symm, trivial⟩
theorem seg_room {ws ss : List Int} {ks : List Nat} {b e : Nat} (h1 : b ∈ ks) (h2 : ∀ i, b < i → i < e → i ∉ ks) : ∀ d, b + d < e → ((List.range' b (d + 1)).map (szR ws ss ks)).sum = strI ws ss b (b + d + 1)
  | 0, _ => by simp [List.range'_one, szR_kept h1, strI_one]
  | d + 1, h => by
    have g := seg_room (ws := ws) (ss := ss) h1 h2 d (by omega)
    have hn : b + d + 1 ∉ ks := h2 _ (by omega) (by omega)
    rw [show d + 1 + 1 = (d + 1) + 1 from rfl, List.range'_concat, List.map_append, List.sum_append, g]
    simp only [List.map_cons, List.map_nil, List.sum_cons, List.sum_nil, Nat.one_mul]
    rw [show b + (d + 1) = b + d + 1 by omega]
    simp only [szR, hn, if_false]
    rw [strI_succ]; omega
theorem sum_flatMap {α : Type} {l : List α} {f : α → List Int} : (l.flatMap f).sum = (l.map fun a => (f a).sum).sum := by
  induction l with
  | nil => rfl
  | cons a l ih => simp [List.flatMap_cons, List.sum_append, ih]
theorem segs_room {ws ss : List Int} {ks : List Nat} {n : Nat} (h : KeptOk n ks) : ((segs ks n).map fun p => strI ws ss p.1 p.2).sum = ((List.range n).map (szR ws ss ks)).sum := by
  obtain ⟨r, hr⟩ := h.head
  have h2 := segs_flat (hr ▸ h.rise)
  rw [← hr, Nat.sub_zero, ← List.range_eq_range'] at h2
  rw [← h2, List.map_flatMap, sum_flatMap]
  congr 1
  refine List.map_congr_left fun p hp => ?_
  obtain ⟨h1, h2, h3, h4⟩ := segs_mem h.rise hp
  have := seg_room (ws := ws) (ss := ss) h3 h4 (p.2 - p.1 - 1) (by omega)
  rw [show p.2 - p.1 - 1 + 1 = p.2 - p.1 by omega, show p.1 + (p.2 - p.1 - 1) + 1 = p.2 by omega] at this
  exact this.symm
theorem segs_reads {ws ss : List Int} {ks : List Nat} {n : Nat} (h : KeptOk n ks) : ((segs ks n).flatMap fun p => (List.range' p.1 (p.2 - p.1)).map fun m => strI ws ss p.1 (m + 1)) = (List.range n).map (readR ws ss ks) := by
  obtain ⟨r, hr⟩ := h.head
  have h2 := segs_flat (hr ▸ h.rise)
  rw [← hr, Nat.sub_zero, ← List.range_eq_range'] at h2
  rw [← h2, List.map_flatMap]
  have gen : ∀ l : List (Nat × Nat), (∀ p ∈ l, p ∈ segs ks n) → (l.flatMap fun p => (List.range' p.1 (p.2 - p.1)).map fun m => strI ws ss p.1 (m + 1)) = l.flatMap fun p => (List.range' p.1 (p.2 - p.1)).map (readR ws ss ks) := by
    intro l
    induction l with
    | nil => intro _; rfl
    | cons p l ih =>
      intro hl
      rw [List.flatMap_cons, List.flatMap_cons, ih fun q hq => hl q (List.mem_cons_of_mem _ hq)]
      congr 1
      refine List.map_congr_left fun m hm => ?_
      obtain ⟨h1, h2, h3, h4⟩ := segs_mem h.rise (hl p (List.mem_cons_self ..))
      rw [List.mem_range'_1] at hm
      have := (seg_read (ws := ws) (ss := ss) h3 h4 (m - p.1) (by omega)).1
      rw [show p.1 + (m - p.1) = m by omega] at this
      exact this.symm
  exact gen _ fun p hp => hp
theorem segs_deep {ks : List Nat} {n : Nat} (h : KeptOk n ks) : maxI ((segs ks n).map fun p => (p.2 : Int) - p.1 - 1) = maxI ((List.range n).map fun i => (depR ks i : Int)) := by
  obtain ⟨r, hr⟩ := h.head
  have hn : 0 < n := h.lt 0 h.z
  refine maxI_eq (by rw [hr]; simpa using segs_ne) (by simp; omega) (fun x hx => ?_) (fun x hx => ?_)
  · obtain ⟨p, hp, rfl⟩ := List.mem_map.mp hx
    obtain ⟨h1, h2, h3, h4⟩ := segs_mem h.rise hp
    refine ⟨_, List.mem_map.mpr ⟨p.2 - 1, List.mem_range.mpr (by omega), rfl⟩, ?_⟩
    have := (seg_read (ws := []) (ss := []) h3 h4 (p.2 - 1 - p.1) (by omega)).2
    rw [show p.1 + (p.2 - 1 - p.1) = p.2 - 1 by omega] at this
    rw [this]; omega
  · obtain ⟨i, hi, rfl⟩ := List.mem_map.mp hx
    obtain ⟨p, hp, a1, a2⟩ := segs_at h (List.mem_range.mp hi)
    obtain ⟨h1, h2, h3, h4⟩ := segs_mem h.rise hp
    refine ⟨_, List.mem_map.mpr ⟨p, hp, rfl⟩, ?_⟩
    have := (seg_read (ws := []) (ss := []) h3 h4 (i - p.1) (by omega)).2
    rw [show p.1 + (i - p.1) = i by omega] at this
    rw [this]; omega
/-! ### the program's functions of rows -/
theorem rk_idx {n : Nat} {ws ss : List Int} (h : RowOk n ws ss) {i : Nat} (hi : i + 1 < ws.length) : (ss.map D.int)[((((i + 1 : Nat) : Int) - 1)).toNat]? = some (.int (ss.getD i 0)) := by
  have := h.ls
  rw [List.getElem?_map, show (((i + 1 : Nat) : Int) - 1).toNat = i by omega, gD (by omega)]; rfl
theorem row_room_eq {k n : Nat} {ws ss : List Int} {ks : List Nat} {st : Sto} (h : RowOk n ws ss) (hn : n ≤ 1000) (hk : KeptOk ws.length ks) : pcall (callN pg0 FNS (k + 1)) 208 [rowD ws ss, natsD ks] st = some (.int ((List.range ws.length).map (szR ws ss ks)).sum) := by
  refine PW.eq ?_ (by simp [rowD_noRef, nats_noRef])
  unfold PW
  have := h.l2
  rw [call_w a_row_room rfl]
  simp (failIfUnchanged := false) (dsimp := false) only [pwA, ixL, setAll, wRev, wipe, isiOk, isTy, List.any_cons, List.any_nil, reduceCtorEq, if_true, if_false, List.getElem?_cons_zero, List.getElem?_cons_succ, List.getElem?_nil, List.set_cons_zero, List.set_cons_succ, List.length_cons, List.length_nil, List.map_cons, List.map_nil, List.cons_append, List.nil_append, List.replicate_succ, List.replicate_zero, Nat.reduceAdd, Nat.reduceSub, Nat.reduceMul, Nat.reduceLT, Nat.reduceLeDiff, Nat.reduceEqDiff, Int.reduceNeg, Int.reduceLT, Int.reduceLE, Int.reduceToNat, Int.reduceAdd, Int.reduceSub, Int.reduceMul, Int.reducePow, Int.reduceAbs, ↓reduceIte, ge_iff_le, gt_iff_lt, f_row_room, rowD, List.length_map, rng1n (show ws.length ≤ 1000000 by omega), rangeL_lenQ]
  refine ⟨by unfold lim; omega, wC_map (List.range ws.length) (fun i => .int i) (fun i => .int (szR ws ss ks i)) rangeL_mapN rfl (fun i hi => ?_) ?_⟩
  · have hi := List.mem_range.mp hi
    simp (failIfUnchanged := false) (dsimp := false) only [pwA, ixL, setAll, wRev, wipe, isiOk, isTy, List.any_cons, List.any_nil, reduceCtorEq, if_true, if_false, List.getElem?_cons_zero, List.getElem?_cons_succ, List.getElem?_nil, List.set_cons_zero, List.set_cons_succ, List.length_cons, List.length_nil, List.map_cons, List.map_nil, List.cons_append, List.nil_append, List.replicate_succ, List.replicate_zero, Nat.reduceAdd, Nat.reduceSub, Nat.reduceMul, Nat.reduceLT, Nat.reduceLeDiff, Nat.reduceEqDiff, Int.reduceNeg, Int.reduceLT, Int.reduceLE, Int.reduceToNat, Int.reduceAdd, Int.reduceSub, Int.reduceMul, Int.reducePow, Int.reduceAbs, ↓reduceIte, ge_iff_le, gt_iff_lt, in_nats]
    by_cases hin : i ∈ ks
    · simp (failIfUnchanged := false) (dsimp := false) only [pwA, ixL, setAll, wRev, wipe, isiOk, isTy, List.any_cons, List.any_nil, reduceCtorEq, if_true, if_false, List.getElem?_cons_zero, List.getElem?_cons_succ, List.getElem?_nil, List.set_cons_zero, List.set_cons_succ, List.length_cons, List.length_nil, List.map_cons, List.map_nil, List.cons_append, List.nil_append, List.replicate_succ, List.replicate_zero, Nat.reduceAdd, Nat.reduceSub, Nat.reduceMul, Nat.reduceLT, Nat.reduceLeDiff, Nat.reduceEqDiff, Int.reduceNeg, Int.reduceLT, Int.reduceLE, Int.reduceToNat, Int.reduceAdd, Int.reduceSub, Int.reduceMul, Int.reducePow, Int.reduceAbs, ↓reduceIte, ge_iff_le, gt_iff_lt, hin, List.getElem?_map, gD hi, Option.map_some]
      rw [szR_kept hin]
    · obtain ⟨i, rfl⟩ : ∃ j, i = j + 1 := ⟨i - 1, by have : i ≠ 0 := fun h0 => hin (h0 ▸ hk.z); omega⟩
      simp (failIfUnchanged := false) (dsimp := false) only [pwA, ixL, setAll, wRev, wipe, isiOk, isTy, List.any_cons, List.any_nil, reduceCtorEq, if_true, if_false, List.getElem?_cons_zero, List.getElem?_cons_succ, List.getElem?_nil, List.set_cons_zero, List.set_cons_succ, List.length_cons, List.length_nil, List.map_cons, List.map_nil, List.cons_append, List.nil_append, List.replicate_succ, List.replicate_zero, Nat.reduceAdd, Nat.reduceSub, Nat.reduceMul, Nat.reduceLT, Nat.reduceLeDiff, Nat.reduceEqDiff, Int.reduceNeg, Int.reduceLT, Int.reduceLE, Int.reduceToNat, Int.reduceAdd, Int.reduceSub, Int.reduceMul, Int.reducePow, Int.reduceAbs, ↓reduceIte, ge_iff_le, gt_iff_lt, hin, rk_idx h hi, show (0 : Int) ≤ ((i + 1 : Nat) : Int) - 1 by omega]
      simp only [szR, hin, if_false]
  · simp (failIfUnchanged := false) (dsimp := false) only [pwA, ixL, setAll, wRev, wipe, isiOk, isTy, List.any_cons, List.any_nil, reduceCtorEq, if_true, if_false, List.getElem?_cons_zero, List.getElem?_cons_succ, List.getElem?_nil, List.set_cons_zero, List.set_cons_succ, List.length_cons, List.length_nil, List.map_cons, List.map_nil, List.cons_append, List.nil_append, List.replicate_succ, List.replicate_zero, Nat.reduceAdd, Nat.reduceSub, Nat.reduceMul, Nat.reduceLT, Nat.reduceLeDiff, Nat.reduceEqDiff, Int.reduceNeg, Int.reduceLT, Int.reduceLE, Int.reduceToNat, Int.reduceAdd, Int.reduceSub, Int.reduceMul, Int.reducePow, Int.reduceAbs, ↓reduceIte, ge_iff_le, gt_iff_lt, sum_nats]
    exact ⟨_, deref_plain rfl, rfl, rfl⟩
theorem range_last {f : Nat → D} {i : Nat} : ((List.range (i + 1)).map f).getLast? = some (f i) := by
  rw [List.range_succ, List.map_append]; simp
theorem intsF_noRef {f : Nat → Int} {n : Nat} : (D.tup ((List.range n).map fun i => .int (f i))).noRef = true := by simp [D.noRef, noRefL_all]
theorem row_reads_eq {k n : Nat} {ws ss : List Int} {ks : List Nat} {st : Sto} (h : RowOk n ws ss) (hn : n ≤ 1000) (hk : KeptOk ws.length ks) : pcall (callN pg0 FNS (k + 1)) 209 [rowD ws ss, natsD ks] st = some (.tup ((List.range ws.length).map fun i => .int (readR ws ss ks i))) := by
  refine PW.eq ?_ (by simp [rowD_noRef, nats_noRef])
  unfold PW
  have := h.l2
  rw [call_w a_row_reads rfl]
  simp (failIfUnchanged := false) (dsimp := false) only [pwA, ixL, setAll, wRev, wipe, isiOk, isTy, List.any_cons, List.any_nil, reduceCtorEq, if_true, if_false, List.getElem?_cons_zero, List.getElem?_cons_succ, List.getElem?_nil, List.set_cons_zero, List.set_cons_succ, List.length_cons, List.length_nil, List.map_cons, List.map_nil, List.cons_append, List.nil_append, List.replicate_succ, List.replicate_zero, Nat.reduceAdd, Nat.reduceSub, Nat.reduceMul, Nat.reduceLT, Nat.reduceLeDiff, Nat.reduceEqDiff, Int.reduceNeg, Int.reduceLT, Int.reduceLE, Int.reduceToNat, Int.reduceAdd, Int.reduceSub, Int.reduceMul, Int.reducePow, Int.reduceAbs, ↓reduceIte, ge_iff_le, gt_iff_lt, f_row_reads, rowD]
  refine wF_inv (fun i e s => ∃ x y : Option D, e = [some (rowD ws ss), some (natsD ks), some (.tup (ws.map .int)), some (.tup (ss.map .int)), some (.ref 0), x, y] ∧ s = [.lst ((List.range i).map fun i => .int (readR ws ss ks i))]) ⟨_, _, rfl, rfl⟩ ?_ ?_
  · rintro i x _ _ hx ⟨p, q, rfl, rfl⟩
    rw [enumL_getQ, Nat.zero_add, List.getElem?_map, Option.map_map] at hx
    obtain ⟨w, hw, rfl⟩ := Option.map_eq_some_iff.mp hx
    have hi := (List.getElem?_eq_some_iff.mp hw).1
    rw [gD hi] at hw
    cases hw
    have hln : ((List.range i).map fun i => D.int (readR ws ss ks i)).length < lim := by simp; unfold lim; omega
    by_cases hin : i ∈ ks
    · simp (failIfUnchanged := false) (dsimp := false) only [pwA, ixL, setAll, wRev, wipe, isiOk, isTy, List.any_cons, List.any_nil, reduceCtorEq, if_true, if_false, List.getElem?_cons_zero, List.getElem?_cons_succ, List.getElem?_nil, List.set_cons_zero, List.set_cons_succ, List.length_cons, List.length_nil, List.map_cons, List.map_nil, List.cons_append, List.nil_append, List.replicate_succ, List.replicate_zero, Nat.reduceAdd, Nat.reduceSub, Nat.reduceMul, Nat.reduceLT, Nat.reduceLeDiff, Nat.reduceEqDiff, Int.reduceNeg, Int.reduceLT, Int.reduceLE, Int.reduceToNat, Int.reduceAdd, Int.reduceSub, Int.reduceMul, Int.reducePow, Int.reduceAbs, ↓reduceIte, ge_iff_le, gt_iff_lt, Function.comp, in_nats, hin, hln]
      refine ⟨_, _, rfl, ?_⟩
      rw [List.range_succ, List.map_append, List.map_cons, List.map_nil, readR_kept hin]
    · obtain ⟨i, rfl⟩ : ∃ j, i = j + 1 := ⟨i - 1, by have : i ≠ 0 := fun h0 => hin (h0 ▸ hk.z); omega⟩
      simp (failIfUnchanged := false) (dsimp := false) only [pwA, ixL, setAll, wRev, wipe, isiOk, isTy, List.any_cons, List.any_nil, reduceCtorEq, if_true, if_false, List.getElem?_cons_zero, List.getElem?_cons_succ, List.getElem?_nil, List.set_cons_zero, List.set_cons_succ, List.length_cons, List.length_nil, List.map_cons, List.map_nil, List.cons_append, List.nil_append, List.replicate_succ, List.replicate_zero, Nat.reduceAdd, Nat.reduceSub, Nat.reduceMul, Nat.reduceLT, Nat.reduceLeDiff, Nat.reduceEqDiff, Int.reduceNeg, Int.reduceLT, Int.reduceLE, Int.reduceToNat, Int.reduceAdd, Int.reduceSub, Int.reduceMul, Int.reducePow, Int.reduceAbs, ↓reduceIte, ge_iff_le, gt_iff_lt, Function.comp, in_nats, hin, hln, range_last, rk_idx h hi, show (0 : Int) ≤ ((i + 1 : Nat) : Int) - 1 by omega]
      refine ⟨_, _, rfl, ?_⟩
      rw [List.range_succ (n := i + 1), List.map_append, List.map_cons, List.map_nil]
      simp only [readR, hin, if_false]
  · rintro _ _ ⟨p, q, rfl, rfl⟩
    rw [enumL_lenQ, List.length_map]
    simp (failIfUnchanged := false) (dsimp := false) only [pwA, ixL, setAll, wRev, wipe, isiOk, isTy, List.any_cons, List.any_nil, reduceCtorEq, if_true, if_false, List.getElem?_cons_zero, List.getElem?_cons_succ, List.getElem?_nil, List.set_cons_zero, List.set_cons_succ, List.length_cons, List.length_nil, List.map_cons, List.map_nil, List.cons_append, List.nil_append, List.replicate_succ, List.replicate_zero, Nat.reduceAdd, Nat.reduceSub, Nat.reduceMul, Nat.reduceLT, Nat.reduceLeDiff, Nat.reduceEqDiff, Int.reduceNeg, Int.reduceLT, Int.reduceLE, Int.reduceToNat, Int.reduceAdd, Int.reduceSub, Int.reduceMul, Int.reducePow, Int.reduceAbs, ↓reduceIte, ge_iff_le, gt_iff_lt, f_tupO, sqO_lst]
    exact ⟨_, deref_plain intsF_noRef, intsF_noRef, rfl⟩
theorem ends_zip {n : Nat} {ks : List Nat} : zipL (ks.map fun i : Nat => D.int i) ((ks.map fun i : Nat => D.int i).drop 1 ++ [.int n]) = (segs ks n).map fun p => .tup [.int p.1, .int p.2] := by
  have : (ks.map fun i : Nat => D.int i).drop 1 ++ [.int n] = (ks.drop 1 ++ [n]).map fun i : Nat => D.int i := by simp
  rw [this, zipL_map]; rfl
theorem segs_len {n : Nat} {ks : List Nat} : (segs ks n).length ≤ ks.length := by simp [segs]; omega
theorem row_deep_eq {k n : Nat} {ws ss : List Int} {ks : List Nat} {st : Sto} (h : RowOk n ws ss) (hn : n ≤ 1000) (hk : KeptOk ws.length ks) : pcall (callN pg0 FNS (k + 1)) 210 [rowD ws ss, natsD ks] st = some (.int (maxI ((segs ks ws.length).map fun p => (p.2 : Int) - p.1 - 1))) := by
  refine PW.eq ?_ (by simp [rowD_noRef, nats_noRef])
  unfold PW
  have := h.l2; have := hk.len; have := segs_len (n := ws.length) (ks := ks)
  obtain ⟨r, hr⟩ := hk.head
  rw [call_w a_row_deep rfl]
  simp (failIfUnchanged := false) (dsimp := false) only [pwA, ixL, setAll, wRev, wipe, isiOk, isTy, List.any_cons, List.any_nil, reduceCtorEq, if_true, if_false, List.getElem?_cons_zero, List.getElem?_cons_succ, List.getElem?_nil, List.set_cons_zero, List.set_cons_succ, List.length_cons, List.length_nil, List.map_cons, List.map_nil, List.cons_append, List.nil_append, List.replicate_succ, List.replicate_zero, Nat.reduceAdd, Nat.reduceSub, Nat.reduceMul, Nat.reduceLT, Nat.reduceLeDiff, Nat.reduceEqDiff, Int.reduceNeg, Int.reduceLT, Int.reduceLE, Int.reduceToNat, Int.reduceAdd, Int.reduceSub, Int.reduceMul, Int.reducePow, Int.reduceAbs, ↓reduceIte, ge_iff_le, gt_iff_lt, f_row_deep, rowD, natsD, List.length_map, cut_in (show (0 : Int) ≤ 1 by decide), List.length_drop, ends_zip]
  refine ⟨by unfold lim; omega, by unfold lim; omega, wC_map (segs ks ws.length) (fun p => .tup [.int p.1, .int p.2]) (fun p => .int ((p.2 : Int) - p.1 - 1)) rfl rfl (fun i hi => ?_) ?_⟩
  · simp (failIfUnchanged := false) (dsimp := false) only [pwA, ixL, setAll, wRev, wipe, isiOk, isTy, List.any_cons, List.any_nil, reduceCtorEq, if_true, if_false, List.getElem?_cons_zero, List.getElem?_cons_succ, List.getElem?_nil, List.set_cons_zero, List.set_cons_succ, List.length_cons, List.length_nil, List.map_cons, List.map_nil, List.cons_append, List.nil_append, List.replicate_succ, List.replicate_zero, Nat.reduceAdd, Nat.reduceSub, Nat.reduceMul, Nat.reduceLT, Nat.reduceLeDiff, Nat.reduceEqDiff, Int.reduceNeg, Int.reduceLT, Int.reduceLE, Int.reduceToNat, Int.reduceAdd, Int.reduceSub, Int.reduceMul, Int.reducePow, Int.reduceAbs, ↓reduceIte, ge_iff_le, gt_iff_lt]
  · have e : (segs ks ws.length).map (fun p => D.int ((p.2 : Int) - p.1 - 1)) = ((segs ks ws.length).map fun p => (p.2 : Int) - p.1 - 1).map D.int := by rw [List.map_map]; rfl
    rw [e]
    simp (failIfUnchanged := false) (dsimp := false) only [pwA, ixL, setAll, wRev, wipe, isiOk, isTy, List.any_cons, List.any_nil, reduceCtorEq, if_true, if_false, List.getElem?_cons_zero, List.getElem?_cons_succ, List.getElem?_nil, List.set_cons_zero, List.set_cons_succ, List.length_cons, List.length_nil, List.map_cons, List.map_nil, List.cons_append, List.nil_append, List.replicate_succ, List.replicate_zero, Nat.reduceAdd, Nat.reduceSub, Nat.reduceMul, Nat.reduceLT, Nat.reduceLeDiff, Nat.reduceEqDiff, Int.reduceNeg, Int.reduceLT, Int.reduceLE, Int.reduceToNat, Int.reduceAdd, Int.reduceSub, Int.reduceMul, Int.reducePow, Int.reduceAbs, ↓reduceIte, ge_iff_le, gt_iff_lt, f_maxL (l := (segs ks ws.length).map fun p => (p.2 : Int) - p.1 - 1) (by rw [hr]; simpa using segs_ne)]
    exact ⟨_, deref_plain rfl, rfl, rfl⟩
/-! ### the law's own -/
theorem stretch_eq {k n b e : Nat} {ws ss : List Int} {st : Sto} (h : RowOk n ws ss) (hb : b < ws.length) (he : b < e) : pcall (callN pg0 FNS (k + 1)) 211 [rowD ws ss, .int b, .int e] st = some (.int (strI ws ss b e)) := by
  refine PW.eq ?_ (by simp [rowD_noRef, D.noRef])
  unfold PW
  rw [call_w a_L_stretch rfl]
  simp (failIfUnchanged := false) (dsimp := false) only [pwA, ixL, setAll, wRev, wipe, isiOk, isTy, List.any_cons, List.any_nil, reduceCtorEq, if_true, if_false, List.getElem?_cons_zero, List.getElem?_cons_succ, List.getElem?_nil, List.set_cons_zero, List.set_cons_succ, List.length_cons, List.length_nil, List.map_cons, List.map_nil, List.cons_append, List.nil_append, List.replicate_succ, List.replicate_zero, Nat.reduceAdd, Nat.reduceSub, Nat.reduceMul, Nat.reduceLT, Nat.reduceLeDiff, Nat.reduceEqDiff, Int.reduceNeg, Int.reduceLT, Int.reduceLE, Int.reduceToNat, Int.reduceAdd, Int.reduceSub, Int.reduceMul, Int.reducePow, Int.reduceAbs, ↓reduceIte, ge_iff_le, gt_iff_lt, f_L_stretch, rowD, List.getElem?_map, gD hb, Option.map_some, cut_ii (show (0 : Int) ≤ (b : Int) by omega) (show (0 : Int) ≤ (e : Int) - 1 by omega), show ((e : Int) - 1).toNat = e - 1 by omega, ← List.map_drop, ← List.map_take, f_sumT]
  exact ⟨_, deref_plain rfl, rfl, rfl⟩
theorem l_room_eq {k n : Nat} {ws ss : List Int} {ks : List Nat} {st : Sto} (h : RowOk n ws ss) (hn : n ≤ 1000) (hk : KeptOk ws.length ks) : pcall (callN pg0 FNS (k + 2)) 212 [rowD ws ss, natsD ks] st = some (.int ((List.range ws.length).map (szR ws ss ks)).sum) := by
  refine PW.eq ?_ (by simp [rowD_noRef, nats_noRef])
  unfold PW
  have := h.l2; have := hk.len; have := segs_len (n := ws.length) (ks := ks)
  have e0 := fun (b e : Nat) st => stretch_eq (k := k) (b := b) (e := e) (st := st) h
  unfold rowD at e0
  rw [call_w a_L_row_room rfl]
  simp (failIfUnchanged := false) (dsimp := false) only [pwA, ixL, setAll, wRev, wipe, isiOk, isTy, List.any_cons, List.any_nil, reduceCtorEq, if_true, if_false, List.getElem?_cons_zero, List.getElem?_cons_succ, List.getElem?_nil, List.set_cons_zero, List.set_cons_succ, List.length_cons, List.length_nil, List.map_cons, List.map_nil, List.cons_append, List.nil_append, List.replicate_succ, List.replicate_zero, Nat.reduceAdd, Nat.reduceSub, Nat.reduceMul, Nat.reduceLT, Nat.reduceLeDiff, Nat.reduceEqDiff, Int.reduceNeg, Int.reduceLT, Int.reduceLE, Int.reduceToNat, Int.reduceAdd, Int.reduceSub, Int.reduceMul, Int.reducePow, Int.reduceAbs, ↓reduceIte, ge_iff_le, gt_iff_lt, f_L_row_room, rowD, natsD, List.length_map, cut_in (show (0 : Int) ≤ 1 by decide), List.length_drop, ends_zip]
  refine ⟨by unfold lim; omega, by unfold lim; omega, wC_map (segs ks ws.length) (fun p => .tup [.int p.1, .int p.2]) (fun p => .int (strI ws ss p.1 p.2)) rfl rfl (fun p hp => ?_) ?_⟩
  · obtain ⟨h1, h2, h3, h4⟩ := segs_mem hk.rise hp
    simp (failIfUnchanged := false) (dsimp := false) only [pwA, ixL, setAll, wRev, wipe, isiOk, isTy, List.any_cons, List.any_nil, reduceCtorEq, if_true, if_false, List.getElem?_cons_zero, List.getElem?_cons_succ, List.getElem?_nil, List.set_cons_zero, List.set_cons_succ, List.length_cons, List.length_nil, List.map_cons, List.map_nil, List.cons_append, List.nil_append, List.replicate_succ, List.replicate_zero, Nat.reduceAdd, Nat.reduceSub, Nat.reduceMul, Nat.reduceLT, Nat.reduceLeDiff, Nat.reduceEqDiff, Int.reduceNeg, Int.reduceLT, Int.reduceLE, Int.reduceToNat, Int.reduceAdd, Int.reduceSub, Int.reduceMul, Int.reducePow, Int.reduceAbs, ↓reduceIte, ge_iff_le, gt_iff_lt, e0 p.1 p.2 _ (by omega) h1]
  · simp (failIfUnchanged := false) (dsimp := false) only [pwA, ixL, setAll, wRev, wipe, isiOk, isTy, List.any_cons, List.any_nil, reduceCtorEq, if_true, if_false, List.getElem?_cons_zero, List.getElem?_cons_succ, List.getElem?_nil, List.set_cons_zero, List.set_cons_succ, List.length_cons, List.length_nil, List.map_cons, List.map_nil, List.cons_append, List.nil_append, List.replicate_succ, List.replicate_zero, Nat.reduceAdd, Nat.reduceSub, Nat.reduceMul, Nat.reduceLT, Nat.reduceLeDiff, Nat.reduceEqDiff, Int.reduceNeg, Int.reduceLT, Int.reduceLE, Int.reduceToNat, Int.reduceAdd, Int.reduceSub, Int.reduceMul, Int.reducePow, Int.reduceAbs, ↓reduceIte, ge_iff_le, gt_iff_lt, f_sumL, segs_room hk]
    exact ⟨_, deref_plain rfl, rfl, rfl⟩
theorem l_reads_eq {k n : Nat} {ws ss : List Int} {ks : List Nat} {st : Sto} (h : RowOk n ws ss) (hn : n ≤ 1000) (hk : KeptOk ws.length ks) : pcall (callN pg0 FNS (k + 2)) 214 [rowD ws ss, natsD ks] st = some (.tup ((List.range ws.length).map fun i => .int (readR ws ss ks i))) := by
  refine PW.eq ?_ (by simp [rowD_noRef, nats_noRef])
  unfold PW
  have := h.l2; have := hk.len; have := segs_len (n := ws.length) (ks := ks)
  have e0 := fun (b e : Nat) st => stretch_eq (k := k) (b := b) (e := e) (st := st) h
  unfold rowD at e0
  rw [call_w a_L_row_reads rfl]
  simp (failIfUnchanged := false) (dsimp := false) only [pwA, ixL, setAll, wRev, wipe, isiOk, isTy, List.any_cons, List.any_nil, reduceCtorEq, if_true, if_false, List.getElem?_cons_zero, List.getElem?_cons_succ, List.getElem?_nil, List.set_cons_zero, List.set_cons_succ, List.length_cons, List.length_nil, List.map_cons, List.map_nil, List.cons_append, List.nil_append, List.replicate_succ, List.replicate_zero, Nat.reduceAdd, Nat.reduceSub, Nat.reduceMul, Nat.reduceLT, Nat.reduceLeDiff, Nat.reduceEqDiff, Int.reduceNeg, Int.reduceLT, Int.reduceLE, Int.reduceToNat, Int.reduceAdd, Int.reduceSub, Int.reduceMul, Int.reducePow, Int.reduceAbs, ↓reduceIte, ge_iff_le, gt_iff_lt, f_L_row_reads, rowD, natsD, List.length_map, cut_in (show (0 : Int) ≤ 1 by decide), List.length_drop, ends_zip]
  refine ⟨by unfold lim; omega, wF_inv (fun i e s => ∃ o x y z : Option D, e = [some (rowD ws ss), some (natsD ks), o, some (.lst ((((segs ks ws.length).take i).flatMap fun p => (List.range' p.1 (p.2 - p.1)).map fun m => strI ws ss p.1 (m + 1)).map D.int)), x, y, z]) ⟨_, _, _, _, rfl⟩ ?_ ?_⟩
  · rintro i x _ st hx ⟨o, p, q, r, rfl⟩
    rw [List.getElem?_map] at hx
    obtain ⟨p, hp, rfl⟩ := Option.map_eq_some_iff.mp hx
    have hpm := List.mem_of_getElem? hp
    obtain ⟨h1, h2, h3, h4⟩ := segs_mem hk.rise hpm
    have hfl : (((segs ks ws.length).take i).flatMap fun p => (List.range' p.1 (p.2 - p.1)).map fun m => strI ws ss p.1 (m + 1)).length + (p.2 - p.1) ≤ ws.length := by
      have e := congrArg List.length (segs_reads (ws := ws) (ss := ss) hk)
      rw [← List.take_append_drop (i + 1) (segs ks ws.length), take_get hp, List.flatMap_append, List.flatMap_append, List.length_append, List.length_append, List.length_map, List.length_range] at e
      simp only [List.flatMap_cons, List.flatMap_nil, List.append_nil, List.length_map, List.length_range'] at e
      omega
    simp (failIfUnchanged := false) (dsimp := false) only [pwA, ixL, setAll, wRev, wipe, isiOk, isTy, List.any_cons, List.any_nil, reduceCtorEq, if_true, if_false, List.getElem?_cons_zero, List.getElem?_cons_succ, List.getElem?_nil, List.set_cons_zero, List.set_cons_succ, List.length_cons, List.length_nil, List.map_cons, List.map_nil, List.cons_append, List.nil_append, List.replicate_succ, List.replicate_zero, Nat.reduceAdd, Nat.reduceSub, Nat.reduceMul, Nat.reduceLT, Nat.reduceLeDiff, Nat.reduceEqDiff, Int.reduceNeg, Int.reduceLT, Int.reduceLE, Int.reduceToNat, Int.reduceAdd, Int.reduceSub, Int.reduceMul, Int.reducePow, Int.reduceAbs, ↓reduceIte, ge_iff_le, gt_iff_lt, rng2 (show (-1000000 : Int) ≤ (p.1 : Int) by omega) (show (p.1 : Int) ≤ 1000000 by omega) (show (-1000000 : Int) ≤ (p.2 : Int) by omega) (show (p.2 : Int) ≤ 1000000 by omega), rangeL_lenQ, rowD]
    refine ⟨by unfold lim; omega, wC_get ((List.range' p.1 (p.2 - p.1)).map fun m => D.int (strI ws ss p.1 (m + 1))) rfl (by simp [rangeL_lenQ]) (fun j x hx => ?_) ?_⟩
    · obtain ⟨hj, rfl⟩ := rangeL1_some hx
      have := e0 p.1 (p.1 + j + 1) st (by omega) (by omega)
      rw [show ((p.1 + j + 1 : Nat) : Int) = (p.1 : Int) + j + 1 by omega] at this
      simp (failIfUnchanged := false) (dsimp := false) only [pwA, ixL, setAll, wRev, wipe, isiOk, isTy, List.any_cons, List.any_nil, reduceCtorEq, if_true, if_false, List.getElem?_cons_zero, List.getElem?_cons_succ, List.getElem?_nil, List.set_cons_zero, List.set_cons_succ, List.length_cons, List.length_nil, List.map_cons, List.map_nil, List.cons_append, List.nil_append, List.replicate_succ, List.replicate_zero, Nat.reduceAdd, Nat.reduceSub, Nat.reduceMul, Nat.reduceLT, Nat.reduceLeDiff, Nat.reduceEqDiff, Int.reduceNeg, Int.reduceLT, Int.reduceLE, Int.reduceToNat, Int.reduceAdd, Int.reduceSub, Int.reduceMul, Int.reducePow, Int.reduceAbs, ↓reduceIte, ge_iff_le, gt_iff_lt, this]
      simp [show j < p.2 - p.1 by omega]
    · simp (failIfUnchanged := false) (dsimp := false) only [pwA, ixL, setAll, wRev, wipe, isiOk, isTy, List.any_cons, List.any_nil, reduceCtorEq, if_true, if_false, List.getElem?_cons_zero, List.getElem?_cons_succ, List.getElem?_nil, List.set_cons_zero, List.set_cons_succ, List.length_cons, List.length_nil, List.map_cons, List.map_nil, List.cons_append, List.nil_append, List.replicate_succ, List.replicate_zero, Nat.reduceAdd, Nat.reduceSub, Nat.reduceMul, Nat.reduceLT, Nat.reduceLeDiff, Nat.reduceEqDiff, Int.reduceNeg, Int.reduceLT, Int.reduceLE, Int.reduceToNat, Int.reduceAdd, Int.reduceSub, Int.reduceMul, Int.reducePow, Int.reduceAbs, ↓reduceIte, ge_iff_le, gt_iff_lt, List.length_map, List.length_range']
      have e : (((segs ks ws.length).take (i + 1)).flatMap fun p => (List.range' p.1 (p.2 - p.1)).map fun m => strI ws ss p.1 (m + 1)).map D.int = (((segs ks ws.length).take i).flatMap fun p => (List.range' p.1 (p.2 - p.1)).map fun m => strI ws ss p.1 (m + 1)).map D.int ++ (List.range' p.1 (p.2 - p.1)).map fun m => D.int (strI ws ss p.1 (m + 1)) := by
        rw [take_get hp, List.flatMap_append, List.map_append]
        simp [List.map_map]
      rw [e]
      exact ⟨by unfold lim; omega, _, _, _, _, rfl⟩
  · rintro _ st ⟨o, p, q, r, rfl⟩
    rw [List.length_map, List.take_length, segs_reads hk]
    simp (failIfUnchanged := false) (dsimp := false) only [pwA, ixL, setAll, wRev, wipe, isiOk, isTy, List.any_cons, List.any_nil, reduceCtorEq, if_true, if_false, List.getElem?_cons_zero, List.getElem?_cons_succ, List.getElem?_nil, List.set_cons_zero, List.set_cons_succ, List.length_cons, List.length_nil, List.map_cons, List.map_nil, List.cons_append, List.nil_append, List.replicate_succ, List.replicate_zero, Nat.reduceAdd, Nat.reduceSub, Nat.reduceMul, Nat.reduceLT, Nat.reduceLeDiff, Nat.reduceEqDiff, Int.reduceNeg, Int.reduceLT, Int.reduceLE, Int.reduceToNat, Int.reduceAdd, Int.reduceSub, Int.reduceMul, Int.reducePow, Int.reduceAbs, ↓reduceIte, ge_iff_le, gt_iff_lt, List.map_map]
    have : ((List.range ws.length).map (D.int ∘ readR ws ss ks)) = (List.range ws.length).map fun i => .int (readR ws ss ks i) := rfl
    rw [this]
    exact ⟨_, deref_plain intsF_noRef, intsF_noRef, rfl⟩
/-! ### the stock and the laying of a row -/
theorem row_laid {n : Nat} {ws ss : List Int} {ks : List Nat} (h : RowOk n ws ss) (hn : n ≤ 100) (hk : KeptOk ws.length ks) : Laid ws (rowCs ss) (layL ws.length ks) := ⟨row_stockOk h hn, row_layOk h hk.z⟩
theorem layL_getD {n i : Nat} {ks : List Nat} (h : i < n) : (layL n ks).getD i none = if i ∈ ks then none else some ((i : Int) - 1) := by
  have := layL_get (n := n) (ks := ks) (i := i)
  rw [if_pos h] at this
  simp [List.getD, this]
theorem szL_row {n : Nat} {ws ss : List Int} {ks : List Nat} (h : RowOk n ws ss) (hk : KeptOk ws.length ks) {i : Nat} (hi : i < ws.length) : szL ws (rowCs ss) (layL ws.length ks) i = szR ws ss ks i := by
  unfold szL
  rw [layL_getD hi]
  have := h.ls
  by_cases hin : i ∈ ks
  · rw [if_pos hin, szR_kept hin]; rfl
  · rw [if_neg hin]
    obtain ⟨i, rfl⟩ : ∃ j, i = j + 1 := ⟨i - 1, by have : i ≠ 0 := fun h0 => hin (h0 ▸ hk.z); omega⟩
    have e := szOf_row (ss := ss) (i := i) (by omega)
    simp only [tkn, szR, hin, if_false]
    rw [show ((i + 1 : Nat) : Int) - 1 = (i : Int) by omega, show ((i + 1 : Nat) : Int) = (i : Int) + 1 by omega, e]
    simp [List.getD, show i < ss.length by omega]
theorem roomI_row {n : Nat} {ws ss : List Int} {ks : List Nat} (h : RowOk n ws ss) (hk : KeptOk ws.length ks) : roomI ws (rowCs ss) (layL ws.length ks) = ((List.range ws.length).map (szR ws ss ks)).sum := by
  unfold roomI
  congr 1
  exact List.map_congr_left fun i hi => szL_row h hk (List.mem_range.mp hi)
theorem way_row {n : Nat} {ws ss : List Int} {ks : List Nat} (h : RowOk n ws ss) (hk : KeptOk ws.length ks) : ∀ i, i < ws.length → (wayOf (layL ws.length ks) i).length = depR ks i + 1 ∧ readI ws (rowCs ss) (layL ws.length ks) i = readR ws ss ks i
  | 0, hi => by
    have e := wayOf_eq (row_layOk h hk.z) hi
    rw [layL_get, if_pos hi, if_pos hk.z] at e
    simp only at e
    have := szL_row h hk hi
    unfold readI
    rw [e]
    refine ⟨rfl, ?_⟩
    simp only [List.map_cons, List.map_nil, List.sum_cons, List.sum_nil, this]
    simp [readR, szR]
  | i + 1, hi => by
    have e := wayOf_eq (row_layOk h hk.z) hi
    rw [layL_get, if_pos hi] at e
    have hz := szL_row h hk hi
    obtain ⟨g1, g2⟩ := way_row h hk i (by omega)
    by_cases hin : i + 1 ∈ ks
    · rw [if_pos hin] at e
      simp only at e
      unfold readI
      rw [e]
      simp only [List.map_cons, List.map_nil, List.sum_cons, List.sum_nil, hz, depR, readR, szR, hin, if_true, List.length_cons, List.length_nil]
      exact ⟨trivial, by omega⟩
    · rw [if_neg hin] at e
      simp only at e
      rw [show ((((i + 1 : Nat) : Int)) - 1).toNat = i by omega] at e
      unfold readI at g2 ⊢
      rw [e]
      simp only [List.map_append, List.map_cons, List.map_nil, List.sum_append, List.sum_cons, List.sum_nil, hz, g2, depR, readR, szR, hin, if_false, List.length_append, g1, List.length_cons, List.length_nil]
      exact ⟨trivial, by omega⟩
end Pm

/-! Pm, part Y: the best of many ways, plain. -/
namespace Pm
open PySem (Str PyData)
/-- as tuples rise -/
def ltN : List Nat → List Nat → Bool
  | [], [] => false
  | [], _ :: _ => true
  | _ :: _, [] => false
  | a :: p, b :: q => if a = b then ltN p q else decide (a < b)
theorem ltN_irrefl : ∀ p, ltN p p = false
  | [] => rfl
  | a :: p => by simp [ltN, ltN_irrefl p]
theorem ltN_tri : ∀ p q, ltN p q = true ∨ p = q ∨ ltN q p = true
  | [], [] => .inr (.inl rfl)
  | [], _ :: _ => .inl rfl
  | _ :: _, [] => .inr (.inr rfl)
  | a :: p, b :: q => by
    simp only [ltN]
    by_cases h : a = b
    · subst h
      rcases ltN_tri p q with h | h | h
      · exact .inl (by simpa using h)
      · exact .inr (.inl (by rw [h]))
      · exact .inr (.inr (by simpa using h))
    · rcases Nat.lt_or_gt_of_ne h with h2 | h2
      · exact .inl (by simp [h, h2])
      · exact .inr (.inr (by simp [Ne.symm h, h2]))
theorem ltN_trans : ∀ p q r, ltN p q = true → ltN q r = true → ltN p r = true
  | [], q, [], h1, h2 => by cases q <;> simp [ltN] at h1 h2
  | [], _, _ :: _, _, _ => rfl
  | a :: p, [], r, h1, _ => by simp [ltN] at h1
  | a :: p, b :: q, [], _, h2 => by simp [ltN] at h2
  | a :: p, b :: q, c :: r, h1, h2 => by
    simp only [ltN] at h1 h2 ⊢
    by_cases hab : a = b
    · subst hab
      by_cases hac : a = c
      · subst hac
        simp only [if_true] at h1 h2 ⊢
        exact ltN_trans p q r h1 h2
      · rw [if_neg hac] at h2 ⊢; exact h2
    · rw [if_neg hab] at h1
      by_cases hbc : b = c
      · subst hbc; rw [if_neg hab]; exact h1
      · rw [if_neg hbc] at h2
        have h1 := of_decide_eq_true h1
        have h2 := of_decide_eq_true h2
        rw [if_neg (by omega)]; exact decide_eq_true (by omega)
abbrev Pt := Int × List Nat
def ltPQ (a b : Pt) : Bool := decide (a.1 < b.1) || (decide (a.1 = b.1) && ltN a.2 b.2)
def leP (a b : Pt) : Prop := ltPQ b a = false
theorem ltP_tri (a b : Pt) : ltPQ a b = true ∨ a = b ∨ ltPQ b a = true := by
  obtain ⟨a1, a2⟩ := a; obtain ⟨b1, b2⟩ := b
  simp only [ltPQ]
  rcases Int.lt_trichotomy a1 b1 with h | h | h
  · exact .inl (by simp [h])
  · subst h
    rcases ltN_tri a2 b2 with h | h | h
    · exact .inl (by simp [h])
    · exact .inr (.inl (by rw [h]))
    · exact .inr (.inr (by simp [h]))
  · exact .inr (.inr (by simp [h]))
theorem ltP_trans {a b c : Pt} (h1 : ltPQ a b = true) (h2 : ltPQ b c = true) : ltPQ a c = true := by
  simp only [ltPQ, Bool.or_eq_true, decide_eq_true_eq, Bool.and_eq_true] at *
  rcases h1 with h1 | ⟨h1, h3⟩ <;> rcases h2 with h2 | ⟨h2, h4⟩
  · exact .inl (by omega)
  · exact .inl (by omega)
  · exact .inl (by omega)
  · exact .inr ⟨by omega, ltN_trans _ _ _ h3 h4⟩
theorem ltP_irrefl (a : Pt) : ltPQ a a = false := by simp [ltPQ, ltN_irrefl]
theorem leP_refl (a : Pt) : leP a a := ltP_irrefl a
theorem leP_antisymm {a b : Pt} (h1 : leP a b) (h2 : leP b a) : a = b := by
  rcases ltP_tri a b with h | h | h
  · rw [h2] at h; cases h
  · exact h
  · rw [h1] at h; cases h
theorem leP_trans {a b c : Pt} (h1 : leP a b) (h2 : leP b c) : leP a c := by
  unfold leP at *
  cases h : ltPQ c a with
  | false => rfl
  | true =>
    rcases ltP_tri a b with g | g | g
    · rw [ltP_trans h g] at h2; exact h2
    · subst g; rw [h] at h2; exact h2
    · rw [h1] at g; cases g
theorem leP_of_lt {a b : Pt} (h : ltPQ a b = true) : leP a b := by
  unfold leP
  cases g : ltPQ b a with
  | false => rfl
  | true => have := ltP_trans h g; rw [ltP_irrefl] at this; cases this
theorem leP_fst {a b : Pt} (h : leP a b) : a.1 ≤ b.1 := by
  unfold leP ltPQ at h
  simp at h
  omega
/-- the first least one -/
def minP (x : Pt) (l : List Pt) : Pt := l.foldl (fun a y => if ltPQ y a = true then y else a) x
theorem minP_spec : ∀ (l : List Pt) (x : Pt), (minP x l = x ∨ minP x l ∈ l) ∧ leP (minP x l) x ∧ ∀ y ∈ l, leP (minP x l) y
  | [], x => ⟨.inl rfl, leP_refl x, by simp⟩
  | a :: l, x => by
    have e : minP x (a :: l) = minP (if ltPQ a x = true then a else x) l := rfl
    rw [e]
    obtain ⟨h1, h2, h3⟩ := minP_spec l (if ltPQ a x = true then a else x)
    by_cases h : ltPQ a x = true
    · rw [if_pos h] at h1 h2 h3 ⊢
      refine ⟨.inr ?_, leP_trans h2 (leP_of_lt h), fun y hy => ?_⟩
      · rcases h1 with h1 | h1
        · rw [h1]; exact List.mem_cons_self ..
        · exact List.mem_cons_of_mem _ h1
      · rcases List.mem_cons.mp hy with rfl | hy
        · exact h2
        · exact h3 y hy
    · rw [if_neg h] at h1 h2 h3 ⊢
      refine ⟨?_, h2, fun y hy => ?_⟩
      · rcases h1 with h1 | h1
        · exact .inl h1
        · exact .inr (List.mem_cons_of_mem _ h1)
      · rcases List.mem_cons.mp hy with rfl | hy
        · exact leP_trans h2 (by simpa [leP] using h)
        · exact h3 y hy
/-! ### ways from place to place, n the last one -/
section
variable (E : Nat → Nat → Option Int) (n : Nat)
inductive Vp : Nat → List Nat → Int → Prop
  | nil : Vp n [] 0
  | cons {b e : Nat} {p : List Nat} {c d : Int} : b < e → e ≤ n → E b e = some c → Vp e p d → Vp b (b :: p) (c + d)
def IsBest (b : Nat) : Option Pt → Prop
  | none => ∀ p c, ¬ Vp E n b p c
  | some (c, p) => Vp E n b p c ∧ ∀ q d, Vp E n b q d → leP (c, p) (d, q)
end
section
variable {E : Nat → Nat → Option Int} {n : Nat}
theorem Vp.le {b : Nat} {p : List Nat} {c : Int} (h : Vp E n b p c) : b ≤ n := by cases h <;> omega
theorem Vp.at_end {p : List Nat} {c : Int} (h : Vp E n n p c) : p = [] ∧ c = 0 := by
  cases h with
  | nil => exact ⟨rfl, rfl⟩
  | cons h1 h2 => omega
theorem Vp.head {b : Nat} {p : List Nat} {c : Int} (h : Vp E n b p c) : (b = n ∧ p = []) ∨ (b < n ∧ ∃ r, p = b :: r) := by
  cases h with
  | nil => exact .inl ⟨rfl, rfl⟩
  | cons h1 h2 => exact .inr ⟨by omega, _, rfl⟩
theorem IsBest.uniq {b : Nat} : ∀ {r r' : Option Pt}, IsBest E n b r → IsBest E n b r' → r = r'
  | none, none, _, _ => rfl
  | none, some (c, p), h, h' => absurd h'.1 (h p c)
  | some (c, p), none, h, h' => absurd h.1 (h' p c)
  | some (c, p), some (d, q), h, h' => by rw [leP_antisymm (h.2 q d h'.1) (h'.2 p c h.1)]
theorem IsBest.at_end : IsBest E n n (some (0, [])) := ⟨.nil, fun q d h => by obtain ⟨rfl, rfl⟩ := h.at_end; exact leP_refl _⟩
/-- the ways on from b, by the best behind -/
def cands (E : Nat → Nat → Option Int) (n b : Nat) (B : Nat → Option Pt) : List Pt := (List.range' (b + 1) (n - b)).filterMap fun e => match E b e, B e with
  | some c, some (d, p) => some (c + d, b :: p)
  | _, _ => none
theorem cands_mem {b : Nat} {B : Nat → Option Pt} {x : Pt} : x ∈ cands E n b B ↔ ∃ e c d p, b < e ∧ e ≤ n ∧ E b e = some c ∧ B e = some (d, p) ∧ x = (c + d, b :: p) := by
  unfold cands
  rw [List.mem_filterMap]
  constructor
  · rintro ⟨e, he, h⟩
    rw [List.mem_range'_1] at he
    cases h1 : E b e with
    | none => simp [h1] at h
    | some c =>
      cases h2 : B e with
      | none => simp [h1, h2] at h
      | some q =>
        obtain ⟨d, p⟩ := q
        simp only [h1, h2, Option.some.injEq] at h
        exact ⟨e, c, d, p, by omega, by omega, h1, h2, h.symm⟩
  · rintro ⟨e, c, d, p, h1, h2, h3, h4, rfl⟩
    exact ⟨e, by rw [List.mem_range'_1]; omega, by simp [h3, h4]⟩
theorem step_le {b : Nat} {p q : List Nat} {c d d' : Int} (h : leP (d, p) (d', q)) : leP (c + d, b :: p) (c + d', b :: q) := by
  unfold leP ltPQ at h ⊢
  simp [ltN] at h ⊢
  refine ⟨by omega, fun h2 => h.2 (by omega)⟩
def minO : List Pt → Option Pt
  | [] => none
  | x :: l => some (minP x l)
theorem minO_best {b : Nat} {B : Nat → Option Pt} (hb : b < n) (hB : ∀ e, b < e → e ≤ n → IsBest E n e (B e)) : IsBest E n b (minO (cands E n b B)) := by
  have key : ∀ q d, Vp E n b q d → ∃ x ∈ cands E n b B, leP x (d, q) := by
    intro q d h
    cases h with
    | nil => omega
    | @cons _ e p c d h1 h2 h3 h4 =>
      have := hB e h1 h2
      cases hr : B e with
      | none => rw [hr] at this; exact absurd h4 (this _ _)
      | some r =>
        obtain ⟨d0, p0⟩ := r
        rw [hr] at this
        exact ⟨(c + d0, b :: p0), cands_mem.mpr ⟨e, c, d0, p0, h1, h2, h3, hr, rfl⟩, step_le (this.2 _ _ h4)⟩
  have val : ∀ x ∈ cands E n b B, Vp E n b x.2 x.1 := by
    intro x hx
    obtain ⟨e, c, d, p, h1, h2, h3, h4, rfl⟩ := cands_mem.mp hx
    have := hB e h1 h2
    rw [h4] at this
    exact .cons h1 h2 h3 this.1
  cases hc : cands E n b B with
  | nil =>
    intro p c h
    obtain ⟨x, hx, _⟩ := key p c h
    rw [hc] at hx; cases hx
  | cons x l =>
    obtain ⟨h1, h2, h3⟩ := minP_spec l x
    have hm : minP x l ∈ cands E n b B := by
      rw [hc]
      rcases h1 with h1 | h1
      · rw [h1]; exact List.mem_cons_self ..
      · exact List.mem_cons_of_mem _ h1
    refine ⟨val _ hm, fun q d h => ?_⟩
    obtain ⟨y, hy, hle⟩ := key q d h
    rw [hc] at hy
    rcases List.mem_cons.mp hy with rfl | hy
    · exact leP_trans h2 hle
    · exact leP_trans (h3 y hy) hle
theorem best_ex : ∀ (k b : Nat), b ≤ n → n - b ≤ k → ∃ r, IsBest E n b r
  | 0, b, h1, h2 => by
    have : b = n := by omega
    subst this
    exact ⟨_, IsBest.at_end⟩
  | k + 1, b, h1, h2 => by
    by_cases hb : b = n
    · subst hb; exact ⟨_, IsBest.at_end⟩
    · have h : ∀ e, ∃ r, b < e → e ≤ n → IsBest E n e r := fun e => by
        by_cases h3 : b < e ∧ e ≤ n
        · obtain ⟨r, hr⟩ := best_ex k e h3.2 (by omega)
          exact ⟨r, fun _ _ => hr⟩
        · exact ⟨none, fun a b => absurd ⟨a, b⟩ h3⟩
      refine ⟨_, minO_best (B := fun e => Classical.choose (h e)) (by omega) fun e a b => Classical.choose_spec (h e) a b⟩
end
open Classical in
/-- the best way from a place on -/
noncomputable def best (E : Nat → Nat → Option Int) (n b : Nat) : Option Pt := if h : ∃ r, IsBest E n b r then Classical.choose h else none
section
variable {E : Nat → Nat → Option Int} {n : Nat}
theorem best_is {b : Nat} (h : b ≤ n) : IsBest E n b (best E n b) := by
  have hx := best_ex (E := E) (n - b) b h (Nat.le_refl _)
  unfold best
  rw [dif_pos hx]
  exact Classical.choose_spec hx
theorem best_eq {b : Nat} {r : Option Pt} (h : b ≤ n) (hr : IsBest E n b r) : best E n b = r := (best_is h).uniq hr
theorem best_end : best E n n = some (0, []) := best_eq (Nat.le_refl _) IsBest.at_end
theorem best_step {b : Nat} (h : b < n) : best E n b = minO (cands E n b (best E n)) := best_eq (Nat.le_of_lt h) (minO_best h fun e _ he => best_is he)
/-- the rooms alone -/
def sumsR (E : Nat → Nat → Option Int) (n b : Nat) (R : Nat → Option Int) : List Int := (List.range' (b + 1) (n - b)).filterMap fun e => match E b e, R e with
  | some c, some d => some (c + d)
  | _, _ => none
theorem sums_cands {b : Nat} : sumsR E n b (fun e => (best E n e).map (·.1)) = (cands E n b (best E n)).map (·.1) := by
  unfold sumsR cands
  rw [List.map_filterMap]
  congr 1; funext e
  cases E b e with
  | none => rfl
  | some c =>
    show (match some c, (best E n e).map (·.1) with
      | some c, some d => some (c + d)
      | _, _ => none) = _
    cases best E n e <;> rfl
theorem foldl_minQ : ∀ (l : List Int) (a : Int), (l.foldl min a = a ∨ l.foldl min a ∈ l) ∧ l.foldl min a ≤ a ∧ ∀ x ∈ l, l.foldl min a ≤ x
  | [], a => ⟨.inl rfl, Int.le_refl _, by simp⟩
  | b :: l, a => by
    obtain ⟨h1, h2, h3⟩ := foldl_minQ l (min a b)
    simp only [List.foldl_cons]
    refine ⟨?_, by omega, fun x hx => ?_⟩
    · rcases h1 with h1 | h1
      · rw [h1]
        by_cases h : a ≤ b
        · exact .inl (Int.min_eq_left h)
        · exact .inr (by rw [Int.min_eq_right (by omega)]; exact List.mem_cons_self ..)
      · exact .inr (List.mem_cons_of_mem _ h1)
    · rcases List.mem_cons.mp hx with rfl | hx
      · omega
      · exact h3 x hx
def minI : List Int → Option Int
  | [] => none
  | x :: l => some (l.foldl min x)
theorem minI_cands (l : List Pt) : minI (l.map (·.1)) = (minO l).map (·.1) := by
  cases l with
  | nil => rfl
  | cons x l =>
    obtain ⟨h1, h2, h3⟩ := minP_spec l x
    obtain ⟨g1, g2, g3⟩ := foldl_minQ (l.map (·.1)) x.1
    simp only [List.map_cons, minI, minO, Option.map_some, Option.some.injEq]
    have a : (minP x l).1 ≤ (l.map (·.1)).foldl min x.1 := by
      rcases g1 with g1 | g1
      · rw [g1]; exact leP_fst h2
      · obtain ⟨y, hy, hye⟩ := List.mem_map.mp g1
        rw [← hye]; exact leP_fst (h3 y hy)
    have b : (l.map (·.1)).foldl min x.1 ≤ (minP x l).1 := by
      rcases h1 with h1 | h1
      · rw [h1]; exact g2
      · exact g3 _ (List.mem_map.mpr ⟨_, h1, rfl⟩)
    omega
theorem rooms_step {b : Nat} (h : b < n) : (best E n b).map (·.1) = minI (sumsR E n b fun e => (best E n e).map (·.1)) := by
  rw [sums_cands, minI_cands, ← best_step h]
/-- where the best way may go on to -/
def nexts (E : Nat → Nat → Option Int) (n b : Nat) (R : Nat → Option Int) : List Nat := (List.range' (b + 1) (n - b)).filter fun e => match E b e, R e, R b with
  | some c, some d, some s => decide (c + d = s)
  | _, _, _ => false
theorem nexts_mem {b e : Nat} {R : Nat → Option Int} : e ∈ nexts E n b R ↔ b < e ∧ e ≤ n ∧ ∃ c d, E b e = some c ∧ R e = some d ∧ R b = some (c + d) := by
  unfold nexts
  rw [List.mem_filter, List.mem_range'_1]
  constructor
  · rintro ⟨h1, h2⟩
    cases h3 : E b e with
    | none => simp [h3] at h2
    | some c => cases h4 : R e with
      | none => simp [h3, h4] at h2
      | some d => cases h5 : R b with
        | none => simp [h3, h4, h5] at h2
        | some s =>
          simp [h3, h4, h5] at h2
          exact ⟨by omega, by omega, c, d, rfl, rfl, by rw [h2]⟩
  · rintro ⟨h1, h2, c, d, h3, h4, h5⟩
    exact ⟨by omega, by simp [h3, h4, h5]⟩
/-- the law's own going on is the best way's -/
theorem next_best {b : Nat} {c : Int} {p : List Nat} (hb : b < n) (h : best E n b = some (c, p)) :
    ∃ e d q, (if n ∈ nexts E n b (fun e => (best E n e).map (·.1)) then e = n else (nexts E n b (fun e => (best E n e).map (·.1))).head? = some e) ∧ e ∈ nexts E n b (fun e => (best E n e).map (·.1)) ∧ best E n e = some (d, q) ∧ p = b :: q := by
  have hI := best_is (E := E) (Nat.le_of_lt hb)
  rw [h] at hI
  obtain ⟨hv, hm⟩ := hI
  cases hv with
  | nil => omega
  | @cons _ e p c d h1 h2 h3 h4 =>
    have hIe := best_is (E := E) h2
    cases hr : best E n e with
    | none => rw [hr] at hIe; exact absurd h4 (hIe _ _)
    | some r =>
      obtain ⟨d0, p0⟩ := r
      rw [hr] at hIe
      have e1 := hm _ _ (.cons h1 h2 h3 hIe.1)
      have e2 := step_le (b := b) (c := c) (hIe.2 _ _ h4)
      have e3 := leP_antisymm e1 e2
      simp only [Prod.mk.injEq, List.cons.injEq, true_and] at e3
      obtain ⟨e4, rfl⟩ := e3
      have : d = d0 := by omega
      subst this
      have hmem : e ∈ nexts E n b (fun e => (best E n e).map (·.1)) := nexts_mem.mpr ⟨h1, h2, c, d, h3, by simp [hr], by simp [h]⟩
      refine ⟨e, d, p, ?_, hmem, hr, rfl⟩
      by_cases hn : n ∈ nexts E n b (fun e => (best E n e).map (·.1))
      · rw [if_pos hn]
        obtain ⟨_, _, c', d', g3, g4, g5⟩ := nexts_mem.mp hn
        rw [best_end] at g4
        simp [h] at g4 g5
        have hv : Vp E n b [b] (c' + 0) := .cons hb (Nat.le_refl _) g3 .nil
        have := hm _ _ hv
        have hp : p = [] := by
          cases p with
          | nil => rfl
          | cons x p =>
            exfalso
            unfold leP ltPQ at this
            simp [ltN] at this
            omega
        subst hp
        rcases h4.head with ⟨h, _⟩ | ⟨_, r, h⟩
        · exact h
        · cases h
      · rw [if_neg hn]
        have hne : e ≠ n := fun h => hn (h ▸ hmem)
        cases hl : nexts E n b (fun e => (best E n e).map (·.1)) with
        | nil => rw [hl] at hmem; cases hmem
        | cons f l =>
          rw [List.head?_cons]
          have hf : f ∈ nexts E n b (fun e => (best E n e).map (·.1)) := by rw [hl]; exact List.mem_cons_self ..
          obtain ⟨f1, f2, c', d', g3, g4, g5⟩ := nexts_mem.mp hf
          have hfe : f ≤ e := by
            have hs : (nexts E n b (fun e => (best E n e).map (·.1))).Pairwise (· < ·) := List.Pairwise.filter _ (List.pairwise_lt_range' ..)
            rw [hl] at hs hmem
            rcases List.mem_cons.mp hmem with rfl | hm
            · exact Nat.le_refl _
            · exact Nat.le_of_lt ((List.pairwise_cons.mp hs).1 e hm)
          have hIf := best_is (E := E) f2
          cases hrf : best E n f with
          | none => simp [hrf] at g4
          | some r =>
            obtain ⟨df, pf⟩ := r
            rw [hrf] at hIf
            simp [hrf] at g4
            subst g4
            simp [h] at g5
            have hle := hm _ _ (.cons f1 f2 g3 hIf.1)
            rcases h4.head with ⟨h, _⟩ | ⟨_, r, rfl⟩
            · exact absurd h hne
            rcases hIf.1.head with ⟨h, _⟩ | ⟨_, r2, rfl⟩
            · exact absurd (h ▸ hf) hn
            unfold leP ltPQ at hle
            simp [ltN] at hle
            by_cases he : f = e
            · rw [he]
            · exfalso
              have := hle.2 (by omega)
              rw [if_neg he] at this
              omega
end
end Pm

/-! Pm, part Z: the best makes of a row to be kept whole. -/
namespace Pm
open PySem (Str PyData)
def withinB (x : Int) : Option Int → Bool
  | none => true
  | some m => decide (x ≤ m)
theorem within_eq {k : Nat} {x : Int} {o : Option Int} {st : Sto} : pcall (callN pg0 FNS (k + 1)) 217 [.int x, onD o] st = some (.bl (withinB x o)) := by
  refine PW.eq ?_ (by simp [onD_noRef, D.noRef])
  unfold PW
  rw [call_w a_is_within_k31 rfl]
  cases o with
  | none => simp (failIfUnchanged := false) (dsimp := false) only [pwA, ixL, setAll, wRev, wipe, isiOk, isTy, List.any_cons, List.any_nil, reduceCtorEq, if_true, if_false, List.getElem?_cons_zero, List.getElem?_cons_succ, List.getElem?_nil, List.set_cons_zero, List.set_cons_succ, List.length_cons, List.length_nil, List.map_cons, List.map_nil, List.cons_append, List.nil_append, List.replicate_succ, List.replicate_zero, Nat.reduceAdd, Nat.reduceSub, Nat.reduceMul, Nat.reduceLT, Nat.reduceLeDiff, Nat.reduceEqDiff, Int.reduceNeg, Int.reduceLT, Int.reduceLE, Int.reduceToNat, Int.reduceAdd, Int.reduceSub, Int.reduceMul, Int.reducePow, Int.reduceAbs, ↓reduceIte, ge_iff_le, gt_iff_lt, onD_none]; exact ⟨_, deref_plain rfl, rfl, rfl⟩
  | some m => simp (failIfUnchanged := false) (dsimp := false) only [pwA, ixL, setAll, wRev, wipe, isiOk, isTy, List.any_cons, List.any_nil, reduceCtorEq, if_true, if_false, List.getElem?_cons_zero, List.getElem?_cons_succ, List.getElem?_nil, List.set_cons_zero, List.set_cons_succ, List.length_cons, List.length_nil, List.map_cons, List.map_nil, List.cons_append, List.nil_append, List.replicate_succ, List.replicate_zero, Nat.reduceAdd, Nat.reduceSub, Nat.reduceMul, Nat.reduceLT, Nat.reduceLeDiff, Nat.reduceEqDiff, Int.reduceNeg, Int.reduceLT, Int.reduceLE, Int.reduceToNat, Int.reduceAdd, Int.reduceSub, Int.reduceMul, Int.reducePow, Int.reduceAbs, ↓reduceIte, ge_iff_le, gt_iff_lt, onD_some]; exact ⟨_, deref_plain rfl, rfl, rfl⟩
section
variable (ws ss : List Int) (md mr : Option Int)
def okE (b e : Nat) : Bool := withinB ((e : Int) - b - 1) md && withinB (strI ws ss b e) mr
def edg (b e : Nat) : Option Int := if okE ws ss md mr b e then some (strI ws ss b e) else none
end
theorem withinB_mono {x y : Int} {o : Option Int} (h : x ≤ y) (h2 : withinB y o = true) : withinB x o = true := by
  cases o with
  | none => rfl
  | some m => simp [withinB] at h2 ⊢; omega
theorem getD_nn {ss : List Int} (h : ∀ x ∈ ss, 1 ≤ x ∧ x < 2000000000) (i : Nat) : 0 ≤ ss.getD i 0 ∧ ss.getD i 0 < 2000000000 := by
  by_cases hi : i < ss.length
  · have := h ss[i] (List.getElem_mem hi)
    simp [List.getD, hi]; omega
  · simp [List.getD, List.getElem?_eq_none (Nat.le_of_not_lt hi)]
theorem strI_mono {ws ss : List Int} (h : ∀ x ∈ ss, 1 ≤ x ∧ x < 2000000000) {b e : Nat} (hb : b < e) : ∀ d, strI ws ss b e ≤ strI ws ss b (e + d)
  | 0 => Int.le_refl _
  | d + 1 => by
    have h1 := strI_mono (ws := ws) h hb d
    have h2 := strI_succ (ws := ws) (ss := ss) (b := b) (d := e + d - b - 1)
    rw [show b + (e + d - b - 1) + 1 = e + d by omega] at h2
    have := (getD_nn h (b + (e + d - b - 1))).1
    rw [← Nat.add_assoc]; omega
theorem okE_mono {ws ss : List Int} {md mr : Option Int} (h : ∀ x ∈ ss, 1 ≤ x ∧ x < 2000000000) {b e f : Nat} (hb : b < e) (hf : e ≤ f) (ho : okE ws ss md mr b f = true) : okE ws ss md mr b e = true := by
  unfold okE at ho ⊢
  rw [Bool.and_eq_true] at ho ⊢
  have := strI_mono (ws := ws) h hb (f - e)
  rw [show e + (f - e) = f by omega] at this
  exact ⟨withinB_mono (by omega) ho.1, withinB_mono this ho.2⟩
theorem ok_filter {ws ss : List Int} {md mr : Option Int} (h : ∀ x ∈ ss, 1 ≤ x ∧ x < 2000000000) {N b d : Nat} (hd : d ≤ N - b) (h1 : ∀ e, b < e → e ≤ b + d → okE ws ss md mr b e = true) (h2 : d = N - b ∨ okE ws ss md mr b (b + d + 1) = false) : (List.range' (b + 1) (N - b)).filter (okE ws ss md mr b) = List.range' (b + 1) d := by
  have e : List.range' (b + 1) (N - b) = List.range' (b + 1) d ++ List.range' (b + 1 + d) (N - b - d) := by
    rw [List.range'_append_1]; congr 1; omega
  rw [e, List.filter_append, List.filter_eq_self.mpr, List.filter_eq_nil_iff.mpr, List.append_nil]
  · intro f hf
    rw [List.mem_range'_1] at hf
    rcases h2 with h2 | h2
    · omega
    · intro h3
      have := okE_mono h (e := b + d + 1) (by omega) (by omega) h3
      rw [h2] at this; cases this
  · intro f hf
    rw [List.mem_range'_1] at hf
    exact h1 f (by omega) (by omega)
theorem deref_lst {st : Sto} {r : Nat} {xs : List D} (h : st[r]? = some (.lst xs)) (hn : noRefL xs = true) : deref st (.ref r) = some (.lst xs) := by
  simp only [deref, D.noRef, Bool.false_eq_true, if_false, h, hn, if_true]
def ssD (ws ss : List Int) (md mr : Option Int) (N b : Nat) : List D := ((List.range' (b + 1) (N - b)).filter (okE ws ss md mr b)).map fun e : Nat => .tup [.int (e : Int), .int (strI ws ss b e)]
theorem stretches_eq {k n b : Nat} {ws ss : List Int} {md mr : Option Int} {st : Sto} (h : RowOk n ws ss) (hn : n ≤ 100) (hb : b < ws.length) : pcall (callN pg0 FNS (k + 2)) 218 [rowD ws ss, .int b, onD md, onD mr] st = some (.lst (ssD ws ss md mr ws.length b)) := by
  refine PW.eq ?_ (by simp [rowD_noRef, onD_noRef, D.noRef])
  unfold PW
  have hw2 := h.l2; have hls := h.ls
  rw [call_w a_stretches_on_k31 rfl]
  simp (failIfUnchanged := false) (dsimp := false) only [pwA, ixL, setAll, wRev, wipe, isiOk, isTy, List.any_cons, List.any_nil, reduceCtorEq, if_true, if_false, List.getElem?_cons_zero, List.getElem?_cons_succ, List.getElem?_nil, List.set_cons_zero, List.set_cons_succ, List.length_cons, List.length_nil, List.map_cons, List.map_nil, List.cons_append, List.nil_append, List.replicate_succ, List.replicate_zero, Nat.reduceAdd, Nat.reduceSub, Nat.reduceMul, Nat.reduceLT, Nat.reduceLeDiff, Nat.reduceEqDiff, Int.reduceNeg, Int.reduceLT, Int.reduceLE, Int.reduceToNat, Int.reduceAdd, Int.reduceSub, Int.reduceMul, Int.reducePow, Int.reduceAbs, ↓reduceIte, ge_iff_le, gt_iff_lt, rowD, List.getElem?_map, gD hb, Option.map_some]
  refine wW_inv (n := ws.length - b) (fun q e s => ∃ (d : Nat) (z : Int), e = [some (rowD ws ss), some (.int b), some (onD md), some (onD mr), some (.tup (ws.map .int)), some (.tup (ss.map .int)), some (.ref 0), some (.int z), some (.int (b + d : Nat))] ∧
      s = [.lst ((List.range' (b + 1) d).map fun e : Nat => .tup [.int (e : Int), .int (strI ws ss b e)])] ∧ b + d + q = ws.length ∧ (b + d < ws.length → z = strI ws ss b (b + d + 1)) ∧ ∀ e, b < e → e ≤ b + d → okE ws ss md mr b e = true) (by omega) ⟨0, ws.getD b 0, rfl, rfl, by omega, fun _ => strI_one.symm, fun e h1 h2 => by omega⟩ ?_
  rintro q _ _ ⟨d, z, rfl, rfl, h1, h2, h3⟩
  have fin : (d = ws.length - b ∨ okE ws ss md mr b (b + d + 1) = false) → ∃ w, deref [.lst ((List.range' (b + 1) d).map fun e : Nat => .tup [.int (e : Int), .int (strI ws ss b e)])] (.ref 0) = some w ∧ w.noRef = true ∧ w = .lst (ssD ws ss md mr ws.length b) := fun h4 => by
    have hr : (noRefL ((List.range' (b + 1) d).map fun e : Nat => D.tup [.int (e : Int), .int (strI ws ss b e)])) = true := by simp [noRefL_all, D.noRef]
    refine ⟨_, deref_lst rfl hr, ?_, ?_⟩
    · simpa only [D.noRef] using hr
    · unfold ssD
      rw [ok_filter h.s (d := d) (by omega) h3 h4]
  by_cases hlt : b + d < ws.length
  · have hz := h2 hlt
    subst hz
    have e1 : ((b + d : Nat) : Int) - b = ((b + d + 1 : Nat) : Int) - b - 1 := by omega
    have hlt2 : ((b + d : Nat) : Int) < (ws.length : Int) := by omega
    by_cases ha : withinB (((b + d : Nat) : Int) - b) md = true
    · by_cases hb2 : withinB (strI ws ss b (b + d + 1)) mr = true
      · have hok : okE ws ss md mr b (b + d + 1) = true := by unfold okE; rw [← e1, ha, hb2]; rfl
        have hok2 : ∀ e, b < e → e ≤ b + (d + 1) → okE ws ss md mr b e = true := fun e he1 he2 => by
          by_cases he : e = b + d + 1
          · rw [he]; exact hok
          · exact h3 e he1 (by omega)
        have happ : ((List.range' (b + 1) d).map fun e : Nat => D.tup [.int (e : Int), .int (strI ws ss b e)]) ++ [.tup [.int (((b + d : Nat) : Int) + 1), .int (strI ws ss b (b + d + 1))]] = (List.range' (b + 1) (d + 1)).map fun e : Nat => D.tup [.int (e : Int), .int (strI ws ss b e)] := by
          rw [List.range'_concat, List.map_append]
          simp only [Nat.one_mul, List.map_cons, List.map_nil]
          rw [show b + 1 + d = b + d + 1 by omega, show ((b + d + 1 : Nat) : Int) = ((b + d : Nat) : Int) + 1 by omega]
        have hln : ((List.range' (b + 1) d).map fun e : Nat => D.tup [.int (e : Int), .int (strI ws ss b e)]).length < lim := by simp; unfold lim; omega
        have hc : ((b + (d + 1) : Nat) : Int) = ((b + d : Nat) : Int) + 1 := by omega
        simp (failIfUnchanged := false) (dsimp := false) only [pwA, ixL, setAll, wRev, wipe, isiOk, isTy, List.any_cons, List.any_nil, reduceCtorEq, if_true, if_false, List.getElem?_cons_zero, List.getElem?_cons_succ, List.getElem?_nil, List.set_cons_zero, List.set_cons_succ, List.length_cons, List.length_nil, List.map_cons, List.map_nil, List.cons_append, List.nil_append, List.replicate_succ, List.replicate_zero, Nat.reduceAdd, Nat.reduceSub, Nat.reduceMul, Nat.reduceLT, Nat.reduceLeDiff, Nat.reduceEqDiff, Int.reduceNeg, Int.reduceLT, Int.reduceLE, Int.reduceToNat, Int.reduceAdd, Int.reduceSub, Int.reduceMul, Int.reducePow, Int.reduceAbs, ↓reduceIte, ge_iff_le, gt_iff_lt, List.length_map, hlt2, within_eq, ha, hb2, rowD, hln, happ]
        by_cases hs : b + d < ss.length
        · have hs2 : ((b + d : Nat) : Int) < (ss.length : Int) := by omega
          simp (failIfUnchanged := false) (dsimp := false) only [pwA, ixL, setAll, wRev, wipe, isiOk, isTy, List.any_cons, List.any_nil, reduceCtorEq, if_true, if_false, List.getElem?_cons_zero, List.getElem?_cons_succ, List.getElem?_nil, List.set_cons_zero, List.set_cons_succ, List.length_cons, List.length_nil, List.map_cons, List.map_nil, List.cons_append, List.nil_append, List.replicate_succ, List.replicate_zero, Nat.reduceAdd, Nat.reduceSub, Nat.reduceMul, Nat.reduceLT, Nat.reduceLeDiff, Nat.reduceEqDiff, Int.reduceNeg, Int.reduceLT, Int.reduceLE, Int.reduceToNat, Int.reduceAdd, Int.reduceSub, Int.reduceMul, Int.reducePow, Int.reduceAbs, ↓reduceIte, ge_iff_le, gt_iff_lt, List.length_map, hs2, List.getElem?_map, gD hs, Option.map_some]
          rw [← hc]
          exact ⟨by rw [List.length_range']; unfold lim; omega, q - 1, by omega, d + 1, _, rfl, rfl, by omega, fun _ => strI_succ.symm, hok2⟩
        · have hs2 : ¬ ((b + d : Nat) : Int) < (ss.length : Int) := by omega
          simp (failIfUnchanged := false) (dsimp := false) only [pwA, ixL, setAll, wRev, wipe, isiOk, isTy, List.any_cons, List.any_nil, reduceCtorEq, if_true, if_false, List.getElem?_cons_zero, List.getElem?_cons_succ, List.getElem?_nil, List.set_cons_zero, List.set_cons_succ, List.length_cons, List.length_nil, List.map_cons, List.map_nil, List.cons_append, List.nil_append, List.replicate_succ, List.replicate_zero, Nat.reduceAdd, Nat.reduceSub, Nat.reduceMul, Nat.reduceLT, Nat.reduceLeDiff, Nat.reduceEqDiff, Int.reduceNeg, Int.reduceLT, Int.reduceLE, Int.reduceToNat, Int.reduceAdd, Int.reduceSub, Int.reduceMul, Int.reducePow, Int.reduceAbs, ↓reduceIte, ge_iff_le, gt_iff_lt, List.length_map, hs2]
          rw [← hc]
          exact ⟨by rw [List.length_range']; unfold lim; omega, q - 1, by omega, d + 1, _, rfl, rfl, by omega, fun hh => by omega, hok2⟩
      · rw [Bool.not_eq_true] at hb2
        simp (failIfUnchanged := false) (dsimp := false) only [pwA, ixL, setAll, wRev, wipe, isiOk, isTy, List.any_cons, List.any_nil, reduceCtorEq, if_true, if_false, List.getElem?_cons_zero, List.getElem?_cons_succ, List.getElem?_nil, List.set_cons_zero, List.set_cons_succ, List.length_cons, List.length_nil, List.map_cons, List.map_nil, List.cons_append, List.nil_append, List.replicate_succ, List.replicate_zero, Nat.reduceAdd, Nat.reduceSub, Nat.reduceMul, Nat.reduceLT, Nat.reduceLeDiff, Nat.reduceEqDiff, Int.reduceNeg, Int.reduceLT, Int.reduceLE, Int.reduceToNat, Int.reduceAdd, Int.reduceSub, Int.reduceMul, Int.reducePow, Int.reduceAbs, ↓reduceIte, ge_iff_le, gt_iff_lt, List.length_map, hlt2, within_eq, ha, hb2]
        exact fin (.inr (by unfold okE; rw [hb2, Bool.and_false]))
    · rw [Bool.not_eq_true] at ha
      simp (failIfUnchanged := false) (dsimp := false) only [pwA, ixL, setAll, wRev, wipe, isiOk, isTy, List.any_cons, List.any_nil, reduceCtorEq, if_true, if_false, List.getElem?_cons_zero, List.getElem?_cons_succ, List.getElem?_nil, List.set_cons_zero, List.set_cons_succ, List.length_cons, List.length_nil, List.map_cons, List.map_nil, List.cons_append, List.nil_append, List.replicate_succ, List.replicate_zero, Nat.reduceAdd, Nat.reduceSub, Nat.reduceMul, Nat.reduceLT, Nat.reduceLeDiff, Nat.reduceEqDiff, Int.reduceNeg, Int.reduceLT, Int.reduceLE, Int.reduceToNat, Int.reduceAdd, Int.reduceSub, Int.reduceMul, Int.reducePow, Int.reduceAbs, ↓reduceIte, ge_iff_le, gt_iff_lt, List.length_map, hlt2, within_eq, ha]
      exact fin (.inr (by unfold okE; rw [← e1, ha, Bool.false_and]))
  · have hlt2 : ¬ ((b + d : Nat) : Int) < (ws.length : Int) := by omega
    simp (failIfUnchanged := false) (dsimp := false) only [pwA, ixL, setAll, wRev, wipe, isiOk, isTy, List.any_cons, List.any_nil, reduceCtorEq, if_true, if_false, List.getElem?_cons_zero, List.getElem?_cons_succ, List.getElem?_nil, List.set_cons_zero, List.set_cons_succ, List.length_cons, List.length_nil, List.map_cons, List.map_nil, List.cons_append, List.nil_append, List.replicate_succ, List.replicate_zero, Nat.reduceAdd, Nat.reduceSub, Nat.reduceMul, Nat.reduceLT, Nat.reduceLeDiff, Nat.reduceEqDiff, Int.reduceNeg, Int.reduceLT, Int.reduceLE, Int.reduceToNat, Int.reduceAdd, Int.reduceSub, Int.reduceMul, Int.reducePow, Int.reduceAbs, ↓reduceIte, ge_iff_le, gt_iff_lt, List.length_map, hlt2]
    exact fin (.inl (by omega))
/-! ### pairs of room and kept -/
def prD (p : Pt) : D := .tup [.int p.1, natsD p.2]
def encB : Option Pt → D
  | none => .non
  | some p => prD p
theorem prD_noRef {p : Pt} : (prD p).noRef = true := by
  have := nats_noRef (l := p.2)
  simp [prD, D.noRef, noRefL_all, this]
theorem encB_noRef {o : Option Pt} : (encB o).noRef = true := by
  cases o with
  | none => rfl
  | some p => exact prD_noRef
theorem eqv_nats : ∀ {p q : List Nat}, PyData.eqvAll (pyL (p.map fun i : Nat => D.int i)) (pyL (q.map fun i : Nat => D.int i)) = decide (p = q)
  | [], [] => rfl
  | [], _ :: _ => rfl
  | _ :: _, [] => rfl
  | a :: p, b :: q => by
    simp only [List.map_cons, pyL, PyData.eqvAll, D.py, PyData.eqv, eqv_nats]
    rw [Bool.eq_iff_iff]
    simp
    intro _
    omega
theorem ltL_nats : ∀ {p q : List Nat}, ltL (p.map fun i : Nat => D.int i) (q.map fun i : Nat => D.int i) = some (ltN p q)
  | [], [] => rfl
  | [], _ :: _ => rfl
  | _ :: _, [] => rfl
  | a :: p, b :: q => by
    simp only [List.map_cons, ltL, ltN, D.py, PyData.eqv, ltD]
    by_cases h : a = b
    · subst h; simp [ltL_nats]
    · rw [if_neg (by simp; omega), if_neg h]
      congr 1
      rw [Bool.eq_iff_iff]; simp
theorem ltD_pr {a b : Pt} : ltD (prD a) (prD b) = some (ltPQ a b) := by
  obtain ⟨a1, a2⟩ := a; obtain ⟨b1, b2⟩ := b
  simp only [prD, ltD, ltL, D.py, PyData.eqv, natsD]
  by_cases h : a1 = b1
  · subst h
    rw [if_pos (by simp)]
    rw [eqv_nats, ltL_nats]
    by_cases h2 : a2 = b2
    · subst h2; simp [ltPQ, ltN_irrefl]
    · rw [if_neg (by simpa using h2)]; simp [ltPQ]
  · rw [if_neg (by simpa using h)]
    simp [ltPQ, h]
theorem pr_pd {p : Pt} : Pd 2 (prD p) := Pd.tup fun x hx => by
  simp only [List.mem_cons, List.not_mem_nil, or_false] at hx
  rcases hx with rfl | rfl
  · exact (Pd.int _).mono (by omega)
  · exact Pd.ints p.2 (fun i : Nat => (i : Int))
theorem enc_pd {o : Option Pt} : Pd 2 (encB o) := by
  cases o with
  | none => exact Pd.non.mono (by omega)
  | some p => exact pr_pd
theorem minT_pr : ∀ {l : List Pt} {x : Pt}, minT (prD x) (l.map prD) = prD (minP x l)
  | [], x => rfl
  | a :: l, x => by
    have e : minT (prD x) ((a :: l).map prD) = minT (if (ltD (prD a) (prD x)).getD false = true then prD a else prD x) (l.map prD) := rfl
    rw [e, ltD_pr]
    have e2 : minP x (a :: l) = minP (if ltPQ a x = true then a else x) l := rfl
    rw [e2]
    by_cases h : ltPQ a x = true
    · simp only [Option.getD_some, h, if_true]; exact minT_pr
    · simp only [Option.getD_some, h]; exact minT_pr
theorem minD_pr {d : D} {x : Pt} {l : List Pt} {st : Sto} (h : seqOf st d = some ((x :: l).map prD)) (h2 : lstOf st d = some ((x :: l).map prD)) : minD st d = some (prD (minP x l)) := by
  have hok : (D.lst ((x :: l).map prD)).ok = true := (Pd.lst (m := 2) fun y hy => by
    obtain ⟨p, _, rfl⟩ := List.mem_map.mp hy
    exact pr_pd).ok (by decide)
  have hcmp : cmpA ((x :: l).map prD) = true := by
    simp only [cmpA, List.all_eq_true, List.all_map, Function.comp]
    intro a _ b hb
    rw [ltD_pr]; rfl
  have hin : intsD ((x :: l).map prD) = none := rfl
  simp only [minD, h, Option.bind_some, hin, h2]
  simp only [List.map_cons] at hok hcmp ⊢
  rw [if_pos (by rw [hok, hcmp]; rfl), minT_pr]
theorem f_minPR {r : Nat} {l : List Pt} {m : Bool} {st : Sto} {p : Pt} (h : st[r]? = some (.lst (l.map prD))) (hp : minO l = some p) : bicall .min m [.ref r] st = some (prD p, st) := by
  cases l with
  | nil => cases hp
  | cons x l =>
    cases hp
    simp only [bicall]
    rw [minD_pr (x := x) (l := l) (by simp only [seqOf, h]) (by simp only [lstOf, h])]; rfl
theorem Vp.len {E : Nat → Nat → Option Int} {n b : Nat} {p : List Nat} {c : Int} (h : Vp E n b p c) : p.length ≤ n - b := by
  induction h with
  | nil => simp
  | cons h1 h2 _ _ ih => simp only [List.length_cons]; omega
theorem cands_edg {ws ss : List Int} {md mr : Option Int} {n b : Nat} {B : Nat → Option Pt} : cands (edg ws ss md mr) n b B = ((List.range' (b + 1) (n - b)).filter (okE ws ss md mr b)).filterMap fun e => (B e).map fun q => (strI ws ss b e + q.1, b :: q.2) := by
  unfold cands
  generalize List.range' (b + 1) (n - b) = l
  induction l with
  | nil => rfl
  | cons e l ih =>
    rw [List.filterMap_cons, List.filter_cons]
    unfold edg at ih ⊢
    cases h : okE ws ss md mr b e with
    | false => simp only [Bool.false_eq_true, if_false]; exact ih
    | true =>
      simp only [if_true, List.filterMap_cons]
      rw [← ih]
      cases B e <;> rfl
section
variable (E : Nat → Nat → Option Int) (n : Nat)
noncomputable def tabL (i : Nat) : List D := (List.range (n + 1)).map fun e => if n - i ≤ e then encB (best E n e) else .non
end
theorem tabL_len {E : Nat → Nat → Option Int} {n i : Nat} : (tabL E n i).length = n + 1 := by simp [tabL]
theorem tabL_get {E : Nat → Nat → Option Int} {n i e : Nat} (he : e ≤ n) (h : n - i ≤ e) : (tabL E n i)[e]? = some (encB (best E n e)) := by
  unfold tabL
  rw [List.getElem?_map, List.getElem?_range (by omega), Option.map_some, if_pos h]
theorem tabL_zero {E : Nat → Nat → Option Int} {n : Nat} : (List.replicate n [D.non]).flatten ++ [.tup [.int 0, .tup []]] = tabL E n 0 := by
  have e : (List.replicate n [D.non]).flatten = List.replicate n D.non := by
    induction n with
    | zero => rfl
    | succ n ih => simp [List.replicate_succ, ih]
  rw [e]
  unfold tabL
  rw [List.range_succ, List.map_append]
  congr 1
  · apply List.ext_getElem?
    intro i
    rw [List.getElem?_map, List.getElem?_replicate]
    by_cases h : i < n
    · rw [if_pos h, List.getElem?_range h, Option.map_some, if_neg (by omega)]
    · rw [if_neg h, List.getElem?_eq_none (by simpa using h)]; rfl
  · simp only [List.map_cons, List.map_nil, Nat.sub_zero, Nat.le_refl, if_true, best_end]
    rfl
theorem tabL_set {E : Nat → Nat → Option Int} {n i : Nat} (h : i < n) : (tabL E n i).set (n - 1 - i) (encB (best E n (n - 1 - i))) = tabL E n (i + 1) := by
  apply List.ext_getElem?
  intro e
  rw [List.getElem?_set]
  by_cases h1 : n - 1 - i = e
  · subst h1
    rw [if_pos rfl, if_pos (by rw [tabL_len]; omega), tabL_get (by omega) (by omega)]
  · rw [if_neg h1]
    unfold tabL
    rw [List.getElem?_map, List.getElem?_map]
    by_cases h2 : e < n + 1
    · rw [List.getElem?_range h2, Option.map_some, Option.map_some]
      by_cases h3 : n - i ≤ e
      · rw [if_pos h3, if_pos (by omega)]
      · rw [if_neg h3, if_neg (by omega)]
    · rw [List.getElem?_eq_none (by simpa using h2)]; rfl
theorem tabL_none {E : Nat → Nat → Option Int} {n i : Nat} (h : i < n) (hb : best E n (n - 1 - i) = none) : tabL E n i = tabL E n (i + 1) := by
  unfold tabL
  refine List.map_congr_left fun e he => ?_
  by_cases h1 : e = n - 1 - i
  · subst h1
    rw [if_neg (by omega), if_pos (by omega), hb]; rfl
  · by_cases h3 : n - i ≤ e
    · rw [if_pos h3, if_pos (by omega)]
    · rw [if_neg h3, if_neg (by omega)]
theorem best_from_eq {k n : Nat} {ws ss : List Int} {md mr : Option Int} {st : Sto} (h : RowOk n ws ss) (hn : n ≤ 100) : pcall (callN pg0 FNS (k + 3)) 219 [rowD ws ss, onD md, onD mr] st = some (encB (best (edg ws ss md mr) ws.length 0)) := by
  refine PW.eq ?_ (by simp [rowD_noRef, onD_noRef, D.noRef])
  unfold PW
  have hw1 := h.l1; have hw2 := h.l2; have hls := h.ls
  have e0 : ∀ (b : Nat) st, b < ws.length → pcall (callN pg0 FNS (k + 2)) 218 [rowD ws ss, .int b, onD md, onD mr] st = some (.lst (ssD ws ss md mr ws.length b)) := fun b st hb => stretches_eq h hn hb
  unfold rowD at e0
  generalize hE : edg ws ss md mr = E
  rw [call_w a_best_from_k31 rfl]
  simp (failIfUnchanged := false) (dsimp := false) only [pwA, ixL, setAll, wRev, wipe, isiOk, isTy, List.any_cons, List.any_nil, reduceCtorEq, if_true, if_false, List.getElem?_cons_zero, List.getElem?_cons_succ, List.getElem?_nil, List.set_cons_zero, List.set_cons_succ, List.length_cons, List.length_nil, List.map_cons, List.map_nil, List.cons_append, List.nil_append, List.replicate_succ, List.replicate_zero, Nat.reduceAdd, Nat.reduceSub, Nat.reduceMul, Nat.reduceLT, Nat.reduceLeDiff, Nat.reduceEqDiff, Int.reduceNeg, Int.reduceLT, Int.reduceLE, Int.reduceToNat, Int.reduceAdd, Int.reduceSub, Int.reduceMul, Int.reducePow, Int.reduceAbs, ↓reduceIte, ge_iff_le, gt_iff_lt, rowD, List.length_map, tabL_zero (E := E), l_refO, sqO_lst, rng3 (show (-1000000 : Int) ≤ (ws.length : Int) - 1 by omega) (show (ws.length : Int) - 1 ≤ 1000000 by omega) (show (-1000000 : Int) ≤ -1 by omega) (show (-1 : Int) ≤ 1000000 by omega), show ((ws.length : Int) - 1 - -1).toNat = ws.length by omega]
  have hfl : (List.replicate ws.length [D.non]).flatten.length = ws.length := by simp
  refine ⟨⟨by unfold lim; omega, by omega, by omega⟩, by rw [hfl]; unfold lim; omega, wF_inv (fun i e s => ∃ (o5 o6 o7 o8 : Option D) (a b : Ob) (g : Sto), e = [some (rowD ws ss), some (onD md), some (onD mr), some (.int ws.length), some (.ref 2), o5, o6, o7, o8] ∧ s = a :: b :: .lst (tabL E ws.length i) :: g) ⟨_, _, _, _, _, _, _, rfl, rfl⟩ ?_ ?_⟩
  · rintro i x _ _ hx ⟨o5, o6, o7, o8, a, b, g, rfl, rfl⟩
    obtain ⟨hi, rfl⟩ := rangeL_some hx
    have hb : (ws.length : Int) - 1 + (i : Int) * -1 = ((ws.length - 1 - i : Nat) : Int) := by omega
    rw [hb]
    generalize hbb : ws.length - 1 - i = p at *
    have hp : p < ws.length := by omega
    simp (failIfUnchanged := false) (dsimp := false) only [pwA, ixL, setAll, wRev, wipe, isiOk, isTy, List.any_cons, List.any_nil, reduceCtorEq, if_true, if_false, List.getElem?_cons_zero, List.getElem?_cons_succ, List.getElem?_nil, List.set_cons_zero, List.set_cons_succ, List.length_cons, List.length_nil, List.map_cons, List.map_nil, List.cons_append, List.nil_append, List.replicate_succ, List.replicate_zero, Nat.reduceAdd, Nat.reduceSub, Nat.reduceMul, Nat.reduceLT, Nat.reduceLeDiff, Nat.reduceEqDiff, Int.reduceNeg, Int.reduceLT, Int.reduceLE, Int.reduceToNat, Int.reduceAdd, Int.reduceSub, Int.reduceMul, Int.reducePow, Int.reduceAbs, ↓reduceIte, ge_iff_le, gt_iff_lt, rowD, e0 p _ hp, ssD]
    refine wF_inv (fun j e s => ∃ o7 o8 : Option D, e = [some (rowD ws ss), some (onD md), some (onD mr), some (.int ws.length), some (.ref 2), some (.int p), some (.ref (g.length + 1 + 1 + 1)), o7, o8] ∧
        s = a :: b :: .lst (tabL E ws.length i) :: (g ++ [.lst (((((List.range' (p + 1) (ws.length - p)).filter (okE ws ss md mr p)).take j).filterMap fun e => (best E ws.length e).map fun q => (strI ws ss p e + q.1, p :: q.2)).map prD)])) ⟨_, _, rfl, rfl⟩ ?_ ?_
    · rintro j x _ _ hx ⟨o7, o8, rfl, rfl⟩
      rw [List.getElem?_map] at hx
      obtain ⟨e, he, rfl⟩ := Option.map_eq_some_iff.mp hx
      have hem := (List.mem_filter.mp (List.mem_of_getElem? he)).1
      rw [List.mem_range'_1] at hem
      have hlt : j < ws.length - p := by
        have h1 := (List.getElem?_eq_some_iff.mp he).1
        have h2 := List.length_filter_le (okE ws ss md mr p) (List.range' (p + 1) (ws.length - p))
        rw [List.length_range'] at h2; omega
      have hg := tabL_get (E := E) (n := ws.length) (i := i) (e := e) (by omega) (by omega)
      have hln : ((((((List.range' (p + 1) (ws.length - p)).filter (okE ws ss md mr p)).take j).filterMap fun e => (best E ws.length e).map fun q => (strI ws ss p e + q.1, p :: q.2)).map prD)).length < lim := by
        rw [List.length_map]
        have h1 := List.length_filterMap_le (fun e => (best E ws.length e).map fun q => (strI ws ss p e + q.1, p :: q.2)) (((List.range' (p + 1) (ws.length - p)).filter (okE ws ss md mr p)).take j)
        rw [List.length_take] at h1
        unfold lim; omega
      have hbi := best_is (E := E) (n := ws.length) (b := e) (by omega)
      cases hr : best E ws.length e with
      | none =>
        rw [hr] at hg
        simp (failIfUnchanged := false) (dsimp := false) only [pwA, ixL, setAll, wRev, wipe, isiOk, isTy, List.any_cons, List.any_nil, reduceCtorEq, if_true, if_false, List.getElem?_cons_zero, List.getElem?_cons_succ, List.getElem?_nil, List.set_cons_zero, List.set_cons_succ, List.length_cons, List.length_nil, List.map_cons, List.map_nil, List.cons_append, List.nil_append, List.replicate_succ, List.replicate_zero, Nat.reduceAdd, Nat.reduceSub, Nat.reduceMul, Nat.reduceLT, Nat.reduceLeDiff, Nat.reduceEqDiff, Int.reduceNeg, Int.reduceLT, Int.reduceLE, Int.reduceToNat, Int.reduceAdd, Int.reduceSub, Int.reduceMul, Int.reducePow, Int.reduceAbs, ↓reduceIte, ge_iff_le, gt_iff_lt, hg, encB]
        refine ⟨_, _, rfl, ?_⟩
        rw [take_get he, List.filterMap_append]
        simp [hr]
      | some q =>
        obtain ⟨d, q⟩ := q
        rw [hr] at hg hbi
        have hql := hbi.1.len
        simp (failIfUnchanged := false) (dsimp := false) only [pwA, ixL, setAll, wRev, wipe, isiOk, isTy, List.any_cons, List.any_nil, reduceCtorEq, if_true, if_false, List.getElem?_cons_zero, List.getElem?_cons_succ, List.getElem?_nil, List.set_cons_zero, List.set_cons_succ, List.length_cons, List.length_nil, List.map_cons, List.map_nil, List.cons_append, List.nil_append, List.replicate_succ, List.replicate_zero, Nat.reduceAdd, Nat.reduceSub, Nat.reduceMul, Nat.reduceLT, Nat.reduceLeDiff, Nat.reduceEqDiff, Int.reduceNeg, Int.reduceLT, Int.reduceLE, Int.reduceToNat, Int.reduceAdd, Int.reduceSub, Int.reduceMul, Int.reducePow, Int.reduceAbs, ↓reduceIte, ge_iff_le, gt_iff_lt, hg, encB, prD, natsD, List.length_map, at_end, set_end, hln]
        refine ⟨by unfold lim; omega, by rw [List.length_map] at hln; exact hln, _, _, rfl, ?_⟩
        rw [take_get he, List.filterMap_append, List.map_append]
        simp [hr, prD, natsD]
    · rintro _ _ ⟨o7, o8, rfl, rfl⟩
      rw [List.length_map, List.take_length, ← cands_edg, hE]
      have hbs := best_step (E := E) (n := ws.length) (b := p) hp
      cases hm : minO (cands E ws.length p (best E ws.length)) with
      | none =>
        have hc : cands E ws.length p (best E ws.length) = [] := by
          cases hc : cands E ws.length p (best E ws.length) with
          | nil => rfl
          | cons x l => rw [hc] at hm; cases hm
        rw [hm] at hbs
        rw [hc]
        simp (failIfUnchanged := false) (dsimp := false) only [pwA, ixL, setAll, wRev, wipe, isiOk, isTy, List.any_cons, List.any_nil, reduceCtorEq, if_true, if_false, List.getElem?_cons_zero, List.getElem?_cons_succ, List.getElem?_nil, List.set_cons_zero, List.set_cons_succ, List.length_cons, List.length_nil, List.map_cons, List.map_nil, List.cons_append, List.nil_append, List.replicate_succ, List.replicate_zero, Nat.reduceAdd, Nat.reduceSub, Nat.reduceMul, Nat.reduceLT, Nat.reduceLeDiff, Nat.reduceEqDiff, Int.reduceNeg, Int.reduceLT, Int.reduceLE, Int.reduceToNat, Int.reduceAdd, Int.reduceSub, Int.reduceMul, Int.reducePow, Int.reduceAbs, ↓reduceIte, ge_iff_le, gt_iff_lt, at_end]
        rw [tabL_none (by omega) (by rw [hbb]; exact hbs)]
        exact ⟨_, _, _, _, _, _, _, rfl, rfl⟩
      | some z =>
        have hne : 0 < (cands E ws.length p (best E ws.length)).length := by
          cases hc : cands E ws.length p (best E ws.length) with
          | nil => rw [hc] at hm; cases hm
          | cons x l => simp
        rw [hm] at hbs
        have hpos : (0 : Int) < (cands E ws.length p (best E ws.length)).length := by omega
        have hts := tabL_set (E := E) (n := ws.length) (i := i) (by omega)
        rw [hbb, hbs, encB] at hts
        simp (failIfUnchanged := false) (dsimp := false) only [pwA, ixL, setAll, wRev, wipe, isiOk, isTy, List.any_cons, List.any_nil, reduceCtorEq, if_true, if_false, List.getElem?_cons_zero, List.getElem?_cons_succ, List.getElem?_nil, List.set_cons_zero, List.set_cons_succ, List.length_cons, List.length_nil, List.map_cons, List.map_nil, List.cons_append, List.nil_append, List.replicate_succ, List.replicate_zero, Nat.reduceAdd, Nat.reduceSub, Nat.reduceMul, Nat.reduceLT, Nat.reduceLeDiff, Nat.reduceEqDiff, Int.reduceNeg, Int.reduceLT, Int.reduceLE, Int.reduceToNat, Int.reduceAdd, Int.reduceSub, Int.reduceMul, Int.reducePow, Int.reduceAbs, ↓reduceIte, ge_iff_le, gt_iff_lt, at_end, List.length_map, hpos]
        rw [f_minPR (l := cands E ws.length p (best E ws.length)) (p := z) (by simp) hm]
        simp (failIfUnchanged := false) (dsimp := false) only [pwA, ixL, setAll, wRev, wipe, isiOk, isTy, List.any_cons, List.any_nil, reduceCtorEq, if_true, if_false, List.getElem?_cons_zero, List.getElem?_cons_succ, List.getElem?_nil, List.set_cons_zero, List.set_cons_succ, List.length_cons, List.length_nil, List.map_cons, List.map_nil, List.cons_append, List.nil_append, List.replicate_succ, List.replicate_zero, Nat.reduceAdd, Nat.reduceSub, Nat.reduceMul, Nat.reduceLT, Nat.reduceLeDiff, Nat.reduceEqDiff, Int.reduceNeg, Int.reduceLT, Int.reduceLE, Int.reduceToNat, Int.reduceAdd, Int.reduceSub, Int.reduceMul, Int.reducePow, Int.reduceAbs, ↓reduceIte, ge_iff_le, gt_iff_lt, tabL_len, hts]
        exact ⟨by omega, _, _, _, _, _, _, _, rfl, rfl⟩
  · rintro _ _ ⟨o5, o6, o7, o8, a, b, g, rfl, rfl⟩
    rw [rangeL_lenQ]
    have hg := tabL_get (E := E) (n := ws.length) (i := ws.length) (e := 0) (by omega) (by omega)
    simp (failIfUnchanged := false) (dsimp := false) only [pwA, ixL, setAll, wRev, wipe, isiOk, isTy, List.any_cons, List.any_nil, reduceCtorEq, if_true, if_false, List.getElem?_cons_zero, List.getElem?_cons_succ, List.getElem?_nil, List.set_cons_zero, List.set_cons_succ, List.length_cons, List.length_nil, List.map_cons, List.map_nil, List.cons_append, List.nil_append, List.replicate_succ, List.replicate_zero, Nat.reduceAdd, Nat.reduceSub, Nat.reduceMul, Nat.reduceLT, Nat.reduceLeDiff, Nat.reduceEqDiff, Int.reduceNeg, Int.reduceLT, Int.reduceLE, Int.reduceToNat, Int.reduceAdd, Int.reduceSub, Int.reduceMul, Int.reducePow, Int.reduceAbs, ↓reduceIte, ge_iff_le, gt_iff_lt, hg, show Int.toNat 0 = 0 from rfl]
    exact ⟨_, deref_plain encB_noRef, encB_noRef, rfl⟩
end Pm

/-! Pm, part Z2: the laws' own look at the best makes to be kept whole. -/
namespace Pm
open PySem (Str PyData)
theorem chk_one {st : Sto} {r : Nat} {xs : List D} (h : st[r]? = some (.lst xs)) : chk st [(r, xs)] = true := by
  simp [chk, h]
theorem FW.useR {C : Call} {f : Nat} {ds es : List D} {st : Sto} {R : List D → Prop} {Q : D → Sto → Prop} (h : FW C f es (fun xs => noLstL xs = true ∧ R xs)) (hd : ds.mapM (deref st) = some es) (k : ∀ xs, R xs → Q (.ref st.length) (st ++ [.lst xs])) : wR (fcall C f ds st) Q := by
  unfold FW at h
  unfold fcall
  rw [hd]
  simp only
  cases hc : C f es [] with
  | none => rw [hc] at h; exact h.elim
  | some p =>
    rw [hc] at h
    obtain ⟨v, s⟩ := p
    obtain ⟨n, xs, rfl, h1, h2, h3, h4⟩ := h
    simp only [h1, noRefL_all, h2, h3, Bool.or_true, Bool.and_self, if_true, wR]
    exact k xs h4
def mayD (md mr : Option Int) : D := .tup [onD md, onD mr]
theorem may_noRef {md mr : Option Int} : (mayD md mr).noRef = true := by simp [mayD, D.noRef, noRefL_all, onD_noRef]
theorem may_eq {k n b e : Nat} {ws ss : List Int} {md mr : Option Int} {st : Sto} (h : RowOk n ws ss) (hb : b < ws.length) (he : b < e) : pcall (callN pg0 FNS (k + 2)) 221 [rowD ws ss, .int b, .int e, mayD md mr] st = some (.bl (okE ws ss md mr b e)) := by
  refine PW.eq ?_ (by simp [rowD_noRef, may_noRef, D.noRef])
  unfold PW
  have e0 := fun st => stretch_eq (k := k) (st := st) h hb he
  rw [call_w a_L_may rfl]
  cases md with
  | none =>
    cases mr with
    | none => simp (failIfUnchanged := false) (dsimp := false) only [pwA, ixL, setAll, wRev, wipe, isiOk, isTy, List.any_cons, List.any_nil, reduceCtorEq, if_true, if_false, List.getElem?_cons_zero, List.getElem?_cons_succ, List.getElem?_nil, List.set_cons_zero, List.set_cons_succ, List.length_cons, List.length_nil, List.map_cons, List.map_nil, List.cons_append, List.nil_append, List.replicate_succ, List.replicate_zero, Nat.reduceAdd, Nat.reduceSub, Nat.reduceMul, Nat.reduceLT, Nat.reduceLeDiff, Nat.reduceEqDiff, Int.reduceNeg, Int.reduceLT, Int.reduceLE, Int.reduceToNat, Int.reduceAdd, Int.reduceSub, Int.reduceMul, Int.reducePow, Int.reduceAbs, ↓reduceIte, ge_iff_le, gt_iff_lt, mayD, onD_none]; exact ⟨_, deref_plain rfl, rfl, by simp [okE, withinB]⟩
    | some m => simp (failIfUnchanged := false) (dsimp := false) only [pwA, ixL, setAll, wRev, wipe, isiOk, isTy, List.any_cons, List.any_nil, reduceCtorEq, if_true, if_false, List.getElem?_cons_zero, List.getElem?_cons_succ, List.getElem?_nil, List.set_cons_zero, List.set_cons_succ, List.length_cons, List.length_nil, List.map_cons, List.map_nil, List.cons_append, List.nil_append, List.replicate_succ, List.replicate_zero, Nat.reduceAdd, Nat.reduceSub, Nat.reduceMul, Nat.reduceLT, Nat.reduceLeDiff, Nat.reduceEqDiff, Int.reduceNeg, Int.reduceLT, Int.reduceLE, Int.reduceToNat, Int.reduceAdd, Int.reduceSub, Int.reduceMul, Int.reducePow, Int.reduceAbs, ↓reduceIte, ge_iff_le, gt_iff_lt, mayD, onD_none, onD_some, e0]; exact ⟨_, deref_plain rfl, rfl, by simp [okE, withinB]⟩
  | some z =>
    by_cases hm : (e : Int) - b - 1 ≤ z
    · cases mr with
      | none => simp (failIfUnchanged := false) (dsimp := false) only [pwA, ixL, setAll, wRev, wipe, isiOk, isTy, List.any_cons, List.any_nil, reduceCtorEq, if_true, if_false, List.getElem?_cons_zero, List.getElem?_cons_succ, List.getElem?_nil, List.set_cons_zero, List.set_cons_succ, List.length_cons, List.length_nil, List.map_cons, List.map_nil, List.cons_append, List.nil_append, List.replicate_succ, List.replicate_zero, Nat.reduceAdd, Nat.reduceSub, Nat.reduceMul, Nat.reduceLT, Nat.reduceLeDiff, Nat.reduceEqDiff, Int.reduceNeg, Int.reduceLT, Int.reduceLE, Int.reduceToNat, Int.reduceAdd, Int.reduceSub, Int.reduceMul, Int.reducePow, Int.reduceAbs, ↓reduceIte, ge_iff_le, gt_iff_lt, mayD, onD_none, onD_some, show ¬ z < (e : Int) - b - 1 by omega]; exact ⟨_, deref_plain rfl, rfl, by simp [okE, withinB, hm]⟩
      | some m => simp (failIfUnchanged := false) (dsimp := false) only [pwA, ixL, setAll, wRev, wipe, isiOk, isTy, List.any_cons, List.any_nil, reduceCtorEq, if_true, if_false, List.getElem?_cons_zero, List.getElem?_cons_succ, List.getElem?_nil, List.set_cons_zero, List.set_cons_succ, List.length_cons, List.length_nil, List.map_cons, List.map_nil, List.cons_append, List.nil_append, List.replicate_succ, List.replicate_zero, Nat.reduceAdd, Nat.reduceSub, Nat.reduceMul, Nat.reduceLT, Nat.reduceLeDiff, Nat.reduceEqDiff, Int.reduceNeg, Int.reduceLT, Int.reduceLE, Int.reduceToNat, Int.reduceAdd, Int.reduceSub, Int.reduceMul, Int.reducePow, Int.reduceAbs, ↓reduceIte, ge_iff_le, gt_iff_lt, mayD, onD_some, e0, show ¬ z < (e : Int) - b - 1 by omega]; exact ⟨_, deref_plain rfl, rfl, by simp [okE, withinB, hm]⟩
    · simp (failIfUnchanged := false) (dsimp := false) only [pwA, ixL, setAll, wRev, wipe, isiOk, isTy, List.any_cons, List.any_nil, reduceCtorEq, if_true, if_false, List.getElem?_cons_zero, List.getElem?_cons_succ, List.getElem?_nil, List.set_cons_zero, List.set_cons_succ, List.length_cons, List.length_nil, List.map_cons, List.map_nil, List.cons_append, List.nil_append, List.replicate_succ, List.replicate_zero, Nat.reduceAdd, Nat.reduceSub, Nat.reduceMul, Nat.reduceLT, Nat.reduceLeDiff, Nat.reduceEqDiff, Int.reduceNeg, Int.reduceLT, Int.reduceLE, Int.reduceToNat, Int.reduceAdd, Int.reduceSub, Int.reduceMul, Int.reducePow, Int.reduceAbs, ↓reduceIte, ge_iff_le, gt_iff_lt, mayD, onD_some, show z < (e : Int) - b - 1 by omega]
      exact ⟨_, deref_plain rfl, rfl, by simp [okE, withinB, hm]⟩
/-- where a kept may end, or go on -/
def endsL (ws ss : List Int) (md mr : Option Int) (N b : Nat) (R : Nat → Option Int) : List Nat := ((List.range' (b + 1) (N - b)).filter fun e => (R e).isSome).filter (okE ws ss md mr b)
theorem rangeL_map' {a n : Nat} : rangeL (a : Int) 1 n = (List.range' a n).map fun i : Nat => D.int i := by
  apply List.ext_getElem?
  intro i
  rw [rangeL_getQ, List.getElem?_map]
  by_cases h : i < n
  · rw [if_pos h, List.getElem?_range' h]; simp
  · rw [if_neg h, List.getElem?_eq_none (by simpa using h)]; rfl
theorem rangeL_mapS {a n : Nat} : rangeL ((a : Int) + 1) 1 n = (List.range' (a + 1) n).map fun i : Nat => D.int i := by
  rw [← rangeL_map']; rfl
theorem ends_fw {k n b : Nat} {ws ss : List Int} {md mr : Option Int} {rs : List D} {R : Nat → Option Int} (h : RowOk n ws ss) (hn : n ≤ 100) (hb : b < ws.length) (hr : ∀ e, b < e → e ≤ ws.length → rs[e]? = some (onD (R e))) : FW (callN pg0 FNS (k + 3)) 222 [rowD ws ss, .lst rs, .int b, mayD md mr] (fun xs => noLstL xs = true ∧ xs = (endsL ws ss md mr ws.length b R).map fun i : Nat => D.int i) := by
  unfold FW
  have hw2 := h.l2
  have e0 := fun (e : Nat) st (he : b < e) => may_eq (k := k) (md := md) (mr := mr) (st := st) h hb he
  have hlen1 : ((List.range' (b + 1) (ws.length - b)).filter fun e => (R e).isSome).length ≤ ws.length - b := by
    have := List.length_filter_le (fun e => (R e).isSome) (List.range' (b + 1) (ws.length - b))
    rwa [List.length_range'] at this
  rw [call_w a_L_ends rfl]
  unfold rowD at e0
  simp (failIfUnchanged := false) (dsimp := false) only [pwA, ixL, setAll, wRev, wipe, isiOk, isTy, List.any_cons, List.any_nil, reduceCtorEq, if_true, if_false, List.getElem?_cons_zero, List.getElem?_cons_succ, List.getElem?_nil, List.set_cons_zero, List.set_cons_succ, List.length_cons, List.length_nil, List.map_cons, List.map_nil, List.cons_append, List.nil_append, List.replicate_succ, List.replicate_zero, Nat.reduceAdd, Nat.reduceSub, Nat.reduceMul, Nat.reduceLT, Nat.reduceLeDiff, Nat.reduceEqDiff, Int.reduceNeg, Int.reduceLT, Int.reduceLE, Int.reduceToNat, Int.reduceAdd, Int.reduceSub, Int.reduceMul, Int.reducePow, Int.reduceAbs, ↓reduceIte, ge_iff_le, gt_iff_lt, rowD, List.length_map, rng2 (show (-1000000 : Int) ≤ (b : Int) + 1 by omega) (show (b : Int) + 1 ≤ 1000000 by omega) (show (-1000000 : Int) ≤ (ws.length : Int) + 1 by omega) (show (ws.length : Int) + 1 ≤ 1000000 by omega), show ((ws.length : Int) + 1 - ((b : Int) + 1)).toNat = ws.length - b by omega, rangeL_mapS, List.length_range']
  refine ⟨by unfold lim; omega, wC_filt (List.range' (b + 1) (ws.length - b)) (fun i => .int i) (fun e => (R e).isSome) (fun i => .int i) rfl rfl (fun e he => ?_) ?_⟩
  · rw [List.mem_range'_1] at he
    simp (failIfUnchanged := false) (dsimp := false) only [pwA, ixL, setAll, wRev, wipe, isiOk, isTy, List.any_cons, List.any_nil, reduceCtorEq, if_true, if_false, List.getElem?_cons_zero, List.getElem?_cons_succ, List.getElem?_nil, List.set_cons_zero, List.set_cons_succ, List.length_cons, List.length_nil, List.map_cons, List.map_nil, List.cons_append, List.nil_append, List.replicate_succ, List.replicate_zero, Nat.reduceAdd, Nat.reduceSub, Nat.reduceMul, Nat.reduceLT, Nat.reduceLeDiff, Nat.reduceEqDiff, Int.reduceNeg, Int.reduceLT, Int.reduceLE, Int.reduceToNat, Int.reduceAdd, Int.reduceSub, Int.reduceMul, Int.reducePow, Int.reduceAbs, ↓reduceIte, ge_iff_le, gt_iff_lt, hr e (by omega) (by omega)]
    cases hR : R e with
    | none => simp (failIfUnchanged := false) (dsimp := false) only [pwA, ixL, setAll, wRev, wipe, isiOk, isTy, List.any_cons, List.any_nil, reduceCtorEq, if_true, if_false, List.getElem?_cons_zero, List.getElem?_cons_succ, List.getElem?_nil, List.set_cons_zero, List.set_cons_succ, List.length_cons, List.length_nil, List.map_cons, List.map_nil, List.cons_append, List.nil_append, List.replicate_succ, List.replicate_zero, Nat.reduceAdd, Nat.reduceSub, Nat.reduceMul, Nat.reduceLT, Nat.reduceLeDiff, Nat.reduceEqDiff, Int.reduceNeg, Int.reduceLT, Int.reduceLE, Int.reduceToNat, Int.reduceAdd, Int.reduceSub, Int.reduceMul, Int.reducePow, Int.reduceAbs, ↓reduceIte, ge_iff_le, gt_iff_lt, onD_none]; simp
    | some z => simp (failIfUnchanged := false) (dsimp := false) only [pwA, ixL, setAll, wRev, wipe, isiOk, isTy, List.any_cons, List.any_nil, reduceCtorEq, if_true, if_false, List.getElem?_cons_zero, List.getElem?_cons_succ, List.getElem?_nil, List.set_cons_zero, List.set_cons_succ, List.length_cons, List.length_nil, List.map_cons, List.map_nil, List.cons_append, List.nil_append, List.replicate_succ, List.replicate_zero, Nat.reduceAdd, Nat.reduceSub, Nat.reduceMul, Nat.reduceLT, Nat.reduceLeDiff, Nat.reduceEqDiff, Int.reduceNeg, Int.reduceLT, Int.reduceLE, Int.reduceToNat, Int.reduceAdd, Int.reduceSub, Int.reduceMul, Int.reducePow, Int.reduceAbs, ↓reduceIte, ge_iff_le, gt_iff_lt, onD_some]; simp
  · simp (failIfUnchanged := false) (dsimp := false) only [pwA, ixL, setAll, wRev, wipe, isiOk, isTy, List.any_cons, List.any_nil, reduceCtorEq, if_true, if_false, List.getElem?_cons_zero, List.getElem?_cons_succ, List.getElem?_nil, List.set_cons_zero, List.set_cons_succ, List.length_cons, List.length_nil, List.map_cons, List.map_nil, List.cons_append, List.nil_append, List.replicate_succ, List.replicate_zero, Nat.reduceAdd, Nat.reduceSub, Nat.reduceMul, Nat.reduceLT, Nat.reduceLeDiff, Nat.reduceEqDiff, Int.reduceNeg, Int.reduceLT, Int.reduceLE, Int.reduceToNat, Int.reduceAdd, Int.reduceSub, Int.reduceMul, Int.reducePow, Int.reduceAbs, ↓reduceIte, ge_iff_le, gt_iff_lt, List.length_map]
    refine ⟨by unfold lim; omega, wC_filt ((List.range' (b + 1) (ws.length - b)).filter fun e => (R e).isSome) (fun i => .int i) (okE ws ss md mr b) (fun i => .int i) rfl rfl (fun e he => ?_) ?_⟩
    · have he := (List.mem_filter.mp he).1
      rw [List.mem_range'_1] at he
      simp (failIfUnchanged := false) (dsimp := false) only [pwA, ixL, setAll, wRev, wipe, isiOk, isTy, List.any_cons, List.any_nil, reduceCtorEq, if_true, if_false, List.getElem?_cons_zero, List.getElem?_cons_succ, List.getElem?_nil, List.set_cons_zero, List.set_cons_succ, List.length_cons, List.length_nil, List.map_cons, List.map_nil, List.cons_append, List.nil_append, List.replicate_succ, List.replicate_zero, Nat.reduceAdd, Nat.reduceSub, Nat.reduceMul, Nat.reduceLT, Nat.reduceLeDiff, Nat.reduceEqDiff, Int.reduceNeg, Int.reduceLT, Int.reduceLE, Int.reduceToNat, Int.reduceAdd, Int.reduceSub, Int.reduceMul, Int.reducePow, Int.reduceAbs, ↓reduceIte, ge_iff_le, gt_iff_lt, e0 e _ (by omega)]
      simp
    · simp (failIfUnchanged := false) (dsimp := false) only [pwA, ixL, setAll, wRev, wipe, isiOk, isTy, List.any_cons, List.any_nil, reduceCtorEq, if_true, if_false, List.getElem?_cons_zero, List.getElem?_cons_succ, List.getElem?_nil, List.set_cons_zero, List.set_cons_succ, List.length_cons, List.length_nil, List.map_cons, List.map_nil, List.cons_append, List.nil_append, List.replicate_succ, List.replicate_zero, Nat.reduceAdd, Nat.reduceSub, Nat.reduceMul, Nat.reduceLT, Nat.reduceLeDiff, Nat.reduceEqDiff, Int.reduceNeg, Int.reduceLT, Int.reduceLE, Int.reduceToNat, Int.reduceAdd, Int.reduceSub, Int.reduceMul, Int.reducePow, Int.reduceAbs, ↓reduceIte, ge_iff_le, gt_iff_lt]
      refine ⟨0, _, rfl, rfl, by simp [D.noRef], ?_, rfl⟩
      have : ∀ l : List Nat, noLstL (l.map fun i : Nat => D.int i) = true := by
        intro l
        induction l with
        | nil => rfl
        | cons a l ih => simp only [List.map_cons, noLstL, D.noLst, ih, Bool.and_self]
      exact this _
/-! ### the law's own best -/
noncomputable def rmO (E : Nat → Nat → Option Int) (n e : Nat) : Option Int := (best E n e).map (·.1)
noncomputable def rmL (E : Nat → Nat → Option Int) (n i : Nat) : List D := (List.range (n + 1)).map fun e => if n - i ≤ e then onD (rmO E n e) else .non
theorem rmL_len {E : Nat → Nat → Option Int} {n i : Nat} : (rmL E n i).length = n + 1 := by simp [rmL]
theorem rmL_noRef {E : Nat → Nat → Option Int} {n i : Nat} : noRefL (rmL E n i) = true := by
  simp only [noRefL_all, rmL, List.all_map, List.all_eq_true, Function.comp]
  intro e _
  by_cases h : n - i ≤ e
  · rw [if_pos h]; exact onD_noRef
  · rw [if_neg h]; rfl
theorem rmL_get {E : Nat → Nat → Option Int} {n i e : Nat} (he : e ≤ n) (h : n - i ≤ e) : (rmL E n i)[e]? = some (onD (rmO E n e)) := by
  unfold rmL
  rw [List.getElem?_map, List.getElem?_range (by omega), Option.map_some, if_pos h]
theorem rmL_zero {E : Nat → Nat → Option Int} {n : Nat} : (List.replicate n [D.non]).flatten ++ [.int 0] = rmL E n 0 := by
  have e : (List.replicate n [D.non]).flatten = List.replicate n D.non := by
    induction n with
    | zero => rfl
    | succ n ih => simp [List.replicate_succ, ih]
  rw [e]
  unfold rmL
  rw [List.range_succ, List.map_append]
  congr 1
  · apply List.ext_getElem?
    intro i
    rw [List.getElem?_map, List.getElem?_replicate]
    by_cases h : i < n
    · rw [if_pos h, List.getElem?_range h, Option.map_some, if_neg (by omega)]
    · rw [if_neg h, List.getElem?_eq_none (by simpa using h)]; rfl
  · simp only [List.map_cons, List.map_nil, Nat.sub_zero, Nat.le_refl, if_true, rmO, best_end]
    rfl
theorem rmL_set {E : Nat → Nat → Option Int} {n i : Nat} (h : i < n) : (rmL E n i).set (n - 1 - i) (onD (rmO E n (n - 1 - i))) = rmL E n (i + 1) := by
  apply List.ext_getElem?
  intro e
  rw [List.getElem?_set]
  by_cases h1 : n - 1 - i = e
  · subst h1
    rw [if_pos rfl, if_pos (by rw [rmL_len]; omega), rmL_get (by omega) (by omega)]
  · rw [if_neg h1]
    unfold rmL
    rw [List.getElem?_map, List.getElem?_map]
    by_cases h2 : e < n + 1
    · rw [List.getElem?_range h2, Option.map_some, Option.map_some]
      by_cases h3 : n - i ≤ e
      · rw [if_pos h3, if_pos (by omega)]
      · rw [if_neg h3, if_neg (by omega)]
    · rw [List.getElem?_eq_none (by simpa using h2)]; rfl
theorem rmL_none {E : Nat → Nat → Option Int} {n i : Nat} (h : i < n) (hb : rmO E n (n - 1 - i) = none) : rmL E n i = rmL E n (i + 1) := by
  unfold rmL
  refine List.map_congr_left fun e he => ?_
  by_cases h1 : e = n - 1 - i
  · subst h1
    rw [if_neg (by omega), if_pos (by omega), hb]; rfl
  · by_cases h3 : n - i ≤ e
    · rw [if_pos h3, if_pos (by omega)]
    · rw [if_neg h3, if_neg (by omega)]
theorem sums_ends {ws ss : List Int} {md mr : Option Int} {n b : Nat} {R : Nat → Option Int} : sumsR (edg ws ss md mr) n b R = (endsL ws ss md mr n b R).map fun e => strI ws ss b e + (R e).getD 0 := by
  unfold sumsR endsL
  generalize List.range' (b + 1) (n - b) = l
  induction l with
  | nil => rfl
  | cons e l ih =>
    rw [List.filterMap_cons, List.filter_cons, ih]
    unfold edg
    cases hR : R e with
    | none => cases h : okE ws ss md mr b e <;> simp [h]
    | some z => cases h : okE ws ss md mr b e <;> simp [h, hR, List.filter_cons]
theorem nexts_ends {ws ss : List Int} {md mr : Option Int} {n b : Nat} {R : Nat → Option Int} {s : Int} (hs : R b = some s) : nexts (edg ws ss md mr) n b R = (endsL ws ss md mr n b R).filter fun e => decide (strI ws ss b e + (R e).getD 0 = s) := by
  unfold nexts endsL
  rw [List.filter_filter, List.filter_filter]
  congr 1; funext e
  unfold edg
  rw [hs]
  cases hR : R e with
  | none => cases h : okE ws ss md mr b e <;> simp [h]
  | some z => cases h : okE ws ss md mr b e <;> simp [h]
theorem ints_pd {α : Type} (l : List α) (f : α → Int) : Pd 1 (.lst (l.map fun a => .int (f a))) := Pd.lst fun x hx => by
  obtain ⟨a, _, rfl⟩ := List.mem_map.mp hx
  exact Pd.int _
theorem c_neNil {d : List D} {st : Sto} (h : Pd 60 (.lst d)) : cmpop .ne st (.lst d) (.lst []) = some (!d.isEmpty) := by
  have e : cmpop .ne st (.lst d) (.lst []) = (deref st (.lst d)).bind fun a => (deref st (.lst [])).bind fun b => (eqD a b).map (!·) := rfl
  have h2 : Pd 60 (.lst []) := (Pd.lst (m := 0) (by simp)).mono (by omega)
  rw [e, deref_plain h.nr, deref_plain h2.nr]
  simp only [Option.bind_some, eqD, h.ok (by omega), h2.ok (by omega), Bool.and_self, if_true, Option.map_some]
  cases d <;> rfl
theorem c_neNilI {l : List Int} {st : Sto} : cmpop .ne st (.lst (l.map D.int)) (.lst []) = some (!l.isEmpty) := by
  have := c_neNil (st := st) ((ints_pd l fun i => i).mono (m' := 60) (by omega))
  rw [this]
  cases l <;> rfl
theorem f_minIL {l : List Int} {m : Bool} {z : Int} {st : Sto} (h : minI l = some z) : bicall .min m [.lst (l.map D.int)] st = some (.int z, st) := by
  cases l with
  | nil => cases h
  | cons a l =>
    cases h
    simp only [bicall, minD, seqOf, Option.bind_some, intsD_ints, Option.map_some]
theorem get_app {st l : Sto} {r : Nat} {o : Ob} (h : st[r]? = some o) : (st ++ l)[r]? = some o := by
  rw [List.getElem?_append_left (List.getElem?_eq_some_iff.mp h).1, h]
theorem last_max : ∀ {l : List Nat} {x y : Nat}, l.Pairwise (· < ·) → x ∈ l → l.getLast? = some y → x ≤ y
  | [], x, y, _, h, _ => by cases h
  | [a], x, y, _, h, h2 => by simp at h h2; omega
  | a :: b :: l, x, y, hs, h, h2 => by
    rw [List.getLast?_cons_cons] at h2
    have hs2 := (List.pairwise_cons.mp hs)
    rcases List.mem_cons.mp h with rfl | h
    · have := last_max hs2.2 (List.mem_cons_self ..) h2
      have := hs2.1 b (List.mem_cons_self ..)
      omega
    · exact last_max hs2.2 h h2
theorem nexts_rise {E : Nat → Nat → Option Int} {n b : Nat} {R : Nat → Option Int} : (nexts E n b R).Pairwise (· < ·) := List.Pairwise.filter _ (List.pairwise_lt_range' ..)
theorem drop_last_nats {pre : List Nat} {x : Nat} : ((pre ++ [x]).map fun i : Nat => D.int i).dropLast = pre.map fun i : Nat => D.int i := by simp
theorem endsL_len {ws ss : List Int} {md mr : Option Int} {n b : Nat} {R : Nat → Option Int} : (endsL ws ss md mr n b R).length ≤ n - b := by
  have h1 := List.length_filter_le (okE ws ss md mr b) ((List.range' (b + 1) (n - b)).filter fun e => (R e).isSome)
  have h2 := List.length_filter_le (fun e => (R e).isSome) (List.range' (b + 1) (n - b))
  rw [List.length_range'] at h2
  unfold endsL; omega
theorem endsL_mem {ws ss : List Int} {md mr : Option Int} {n b e : Nat} {R : Nat → Option Int} (h : e ∈ endsL ws ss md mr n b R) : b < e ∧ e ≤ n ∧ (R e).isSome = true := by
  unfold endsL at h
  have h := (List.mem_filter.mp h).1
  have h2 := (List.mem_filter.mp h).2
  have h := (List.mem_filter.mp h).1
  rw [List.mem_range'_1] at h
  exact ⟨by omega, by omega, h2⟩
theorem l_best_eq {k n : Nat} {ws ss : List Int} {md mr : Option Int} {st : Sto} (h : RowOk n ws ss) (hn : n ≤ 100) : pcall (callN pg0 FNS (k + 5)) 223 [rowD ws ss, mayD md mr] st = some (encB (best (edg ws ss md mr) ws.length 0)) := by
  refine PW.eq ?_ (by simp [rowD_noRef, may_noRef])
  unfold PW
  have hw1 := h.l1; have hw2 := h.l2; have hls := h.ls
  have e0 : ∀ (b e : Nat) st, b < ws.length → b < e → pcall (callN pg0 FNS (k + 4)) 211 [rowD ws ss, .int b, .int e] st = some (.int (strI ws ss b e)) := fun b e st h1 h2 => stretch_eq h h1 h2
  have e1 : ∀ (b : Nat) (rs : List D) (R : Nat → Option Int), b < ws.length → (∀ e, b < e → e ≤ ws.length → rs[e]? = some (onD (R e))) → FW (callN pg0 FNS (k + 4)) 222 [rowD ws ss, .lst rs, .int b, mayD md mr] (fun xs => noLstL xs = true ∧ xs = (endsL ws ss md mr ws.length b R).map fun i : Nat => D.int i) := fun b rs R hb hr => ends_fw h hn hb hr
  generalize hE : edg ws ss md mr = E
  rw [call_w a_L_best rfl]
  simp (failIfUnchanged := false) (dsimp := false) only [pwA, ixL, setAll, wRev, wipe, isiOk, isTy, List.any_cons, List.any_nil, reduceCtorEq, if_true, if_false, List.getElem?_cons_zero, List.getElem?_cons_succ, List.getElem?_nil, List.set_cons_zero, List.set_cons_succ, List.length_cons, List.length_nil, List.map_cons, List.map_nil, List.cons_append, List.nil_append, List.replicate_succ, List.replicate_zero, Nat.reduceAdd, Nat.reduceSub, Nat.reduceMul, Nat.reduceLT, Nat.reduceLeDiff, Nat.reduceEqDiff, Int.reduceNeg, Int.reduceLT, Int.reduceLE, Int.reduceToNat, Int.reduceAdd, Int.reduceSub, Int.reduceMul, Int.reducePow, Int.reduceAbs, ↓reduceIte, ge_iff_le, gt_iff_lt, rowD, List.length_map, rmL_zero (E := E), l_refO, sqO_lst, rng3 (show (-1000000 : Int) ≤ (ws.length : Int) - 1 by omega) (show (ws.length : Int) - 1 ≤ 1000000 by omega) (show (-1000000 : Int) ≤ -1 by omega) (show (-1 : Int) ≤ 1000000 by omega), show ((ws.length : Int) - 1 - -1).toNat = ws.length by omega]
  have hfl : (List.replicate ws.length [D.non]).flatten.length = ws.length := by simp
  refine ⟨⟨by unfold lim; omega, by omega, by omega⟩, by rw [hfl]; unfold lim; omega, wF_inv (fun i e s => ∃ (o4 o5 o6 : Option D) (a b : Ob) (g : Sto), e = [some (rowD ws ss), some (mayD md mr), some (.int ws.length), some (.ref 2), o4, o5, o6, none, none] ∧ s = a :: b :: .lst (rmL E ws.length i) :: g) ⟨_, _, _, _, _, _, rfl, rfl⟩ ?_ ?_⟩
  · rintro i x _ _ hx ⟨o4, o5, o6, a, b, g, rfl, rfl⟩
    obtain ⟨hi, rfl⟩ := rangeL_some hx
    have hb : (ws.length : Int) - 1 + (i : Int) * -1 = ((ws.length - 1 - i : Nat) : Int) := by omega
    rw [hb]
    generalize hbb : ws.length - 1 - i = p at *
    have hp : p < ws.length := by omega
    simp (failIfUnchanged := false) (dsimp := false) only [pwA, ixL, setAll, wRev, wipe, isiOk, isTy, List.any_cons, List.any_nil, reduceCtorEq, if_true, if_false, List.getElem?_cons_zero, List.getElem?_cons_succ, List.getElem?_nil, List.set_cons_zero, List.set_cons_succ, List.length_cons, List.length_nil, List.map_cons, List.map_nil, List.cons_append, List.nil_append, List.replicate_succ, List.replicate_zero, Nat.reduceAdd, Nat.reduceSub, Nat.reduceMul, Nat.reduceLT, Nat.reduceLeDiff, Nat.reduceEqDiff, Int.reduceNeg, Int.reduceLT, Int.reduceLE, Int.reduceToNat, Int.reduceAdd, Int.reduceSub, Int.reduceMul, Int.reducePow, Int.reduceAbs, ↓reduceIte, ge_iff_le, gt_iff_lt]
    refine FW.useR (e1 p (rmL E ws.length i) (rmO E ws.length) hp fun e h1 h2 => rmL_get h2 (by omega)) ?_ ?_
    · have d2 : deref (a :: b :: .lst (rmL E ws.length i) :: g) (.ref 2) = some (.lst (rmL E ws.length i)) := deref_lst rfl rmL_noRef
      simp [List.mapM_cons, d2, deref_plain rowD_noRef, deref_plain may_noRef, deref_plain (show (D.int p).noRef = true from rfl)]
    · rintro _ rfl
      have hel := endsL_len (ws := ws) (ss := ss) (md := md) (mr := mr) (n := ws.length) (b := p) (R := rmO E ws.length)
      simp (failIfUnchanged := false) (dsimp := false) only [pwA, ixL, setAll, wRev, wipe, isiOk, isTy, List.any_cons, List.any_nil, reduceCtorEq, if_true, if_false, List.getElem?_cons_zero, List.getElem?_cons_succ, List.getElem?_nil, List.set_cons_zero, List.set_cons_succ, List.length_cons, List.length_nil, List.map_cons, List.map_nil, List.cons_append, List.nil_append, List.replicate_succ, List.replicate_zero, Nat.reduceAdd, Nat.reduceSub, Nat.reduceMul, Nat.reduceLT, Nat.reduceLeDiff, Nat.reduceEqDiff, Int.reduceNeg, Int.reduceLT, Int.reduceLE, Int.reduceToNat, Int.reduceAdd, Int.reduceSub, Int.reduceMul, Int.reducePow, Int.reduceAbs, ↓reduceIte, ge_iff_le, gt_iff_lt, at_end, s_refO, o_refO, sqO_lst, scO_lst, List.length_map]
      refine ⟨by unfold lim; omega, wC_map (endsL ws ss md mr ws.length p (rmO E ws.length)) (fun i => .int i) (fun e => .int (strI ws ss p e + (rmO E ws.length e).getD 0)) rfl (chk_one (by simp)) (fun e he => ?_) ?_⟩
      · obtain ⟨h1, h2, h3⟩ := endsL_mem he
        obtain ⟨z, hz⟩ := Option.isSome_iff_exists.mp h3
        have hg := rmL_get (E := E) (i := i) h2 (by omega)
        rw [hz, onD_some] at hg
        simp (failIfUnchanged := false) (dsimp := false) only [pwA, ixL, setAll, wRev, wipe, isiOk, isTy, List.any_cons, List.any_nil, reduceCtorEq, if_true, if_false, List.getElem?_cons_zero, List.getElem?_cons_succ, List.getElem?_nil, List.set_cons_zero, List.set_cons_succ, List.length_cons, List.length_nil, List.map_cons, List.map_nil, List.cons_append, List.nil_append, List.replicate_succ, List.replicate_zero, Nat.reduceAdd, Nat.reduceSub, Nat.reduceMul, Nat.reduceLT, Nat.reduceLeDiff, Nat.reduceEqDiff, Int.reduceNeg, Int.reduceLT, Int.reduceLE, Int.reduceToNat, Int.reduceAdd, Int.reduceSub, Int.reduceMul, Int.reducePow, Int.reduceAbs, ↓reduceIte, ge_iff_le, gt_iff_lt, e0 p e _ hp h1, hg, hz, Option.getD_some]
      · have hs := sums_ends (ws := ws) (ss := ss) (md := md) (mr := mr) (n := ws.length) (b := p) (R := rmO E ws.length)
        have hl : (endsL ws ss md mr ws.length p (rmO E ws.length)).map (fun e => D.int (strI ws ss p e + (rmO E ws.length e).getD 0)) = (sumsR E ws.length p (rmO E ws.length)).map D.int := by rw [← hE] at hs ⊢; rw [hs, List.map_map]; rfl
        have hst := rooms_step (E := E) hp
        rw [hl]
        have hst2 : rmO E ws.length p = minI (sumsR E ws.length p (rmO E ws.length)) := hst
        generalize sumsR E ws.length p (rmO E ws.length) = S at hst2 ⊢
        cases hm : minI S with
        | none =>
          have hemp : S.isEmpty = true := by cases S with
            | nil => rfl
            | cons y l => cases hm
          rw [hm] at hst2
          simp (failIfUnchanged := false) (dsimp := false) only [pwA, ixL, setAll, wRev, wipe, isiOk, isTy, List.any_cons, List.any_nil, reduceCtorEq, if_true, if_false, List.getElem?_cons_zero, List.getElem?_cons_succ, List.getElem?_nil, List.set_cons_zero, List.set_cons_succ, List.length_cons, List.length_nil, List.map_cons, List.map_nil, List.cons_append, List.nil_append, List.replicate_succ, List.replicate_zero, Nat.reduceAdd, Nat.reduceSub, Nat.reduceMul, Nat.reduceLT, Nat.reduceLeDiff, Nat.reduceEqDiff, Int.reduceNeg, Int.reduceLT, Int.reduceLE, Int.reduceToNat, Int.reduceAdd, Int.reduceSub, Int.reduceMul, Int.reducePow, Int.reduceAbs, ↓reduceIte, ge_iff_le, gt_iff_lt, c_neNilI, hemp]
          rw [rmL_none (by omega) (by rw [hbb]; exact hst2)]
          exact ⟨_, _, _, _, _, _, rfl, rfl⟩
        | some z =>
          have hemp : S.isEmpty = false := by cases S with
            | nil => cases hm
            | cons y l => rfl
          rw [hm] at hst2
          have hts := rmL_set (E := E) (n := ws.length) (i := i) (by omega)
          rw [hbb, hst2, onD_some] at hts
          simp (failIfUnchanged := false) (dsimp := false) only [pwA, ixL, setAll, wRev, wipe, isiOk, isTy, List.any_cons, List.any_nil, reduceCtorEq, if_true, if_false, List.getElem?_cons_zero, List.getElem?_cons_succ, List.getElem?_nil, List.set_cons_zero, List.set_cons_succ, List.length_cons, List.length_nil, List.map_cons, List.map_nil, List.cons_append, List.nil_append, List.replicate_succ, List.replicate_zero, Nat.reduceAdd, Nat.reduceSub, Nat.reduceMul, Nat.reduceLT, Nat.reduceLeDiff, Nat.reduceEqDiff, Int.reduceNeg, Int.reduceLT, Int.reduceLE, Int.reduceToNat, Int.reduceAdd, Int.reduceSub, Int.reduceMul, Int.reducePow, Int.reduceAbs, ↓reduceIte, ge_iff_le, gt_iff_lt, c_neNilI, hemp, f_minIL hm, rmL_len, hts]
          exact ⟨by omega, _, _, _, _, _, _, rfl, rfl⟩
  · rintro _ _ ⟨o4, o5, o6, a, b, g, rfl, rfl⟩
    rw [rangeL_lenQ]
    have hg := rmL_get (E := E) (n := ws.length) (i := ws.length) (e := 0) (by omega) (by omega)
    cases hB : best E ws.length 0 with
    | none =>
      have hr0 : rmO E ws.length 0 = none := by simp [rmO, hB]
      rw [hr0, onD_none] at hg
      simp (failIfUnchanged := false) (dsimp := false) only [pwA, ixL, setAll, wRev, wipe, isiOk, isTy, List.any_cons, List.any_nil, reduceCtorEq, if_true, if_false, List.getElem?_cons_zero, List.getElem?_cons_succ, List.getElem?_nil, List.set_cons_zero, List.set_cons_succ, List.length_cons, List.length_nil, List.map_cons, List.map_nil, List.cons_append, List.nil_append, List.replicate_succ, List.replicate_zero, Nat.reduceAdd, Nat.reduceSub, Nat.reduceMul, Nat.reduceLT, Nat.reduceLeDiff, Nat.reduceEqDiff, Int.reduceNeg, Int.reduceLT, Int.reduceLE, Int.reduceToNat, Int.reduceAdd, Int.reduceSub, Int.reduceMul, Int.reducePow, Int.reduceAbs, ↓reduceIte, ge_iff_le, gt_iff_lt, hg, show Int.toNat 0 = 0 from rfl]
      exact ⟨_, deref_plain rfl, rfl, rfl⟩
    | some p0 =>
      obtain ⟨c0, p0⟩ := p0
      have hr0 : rmO E ws.length 0 = some c0 := by simp [rmO, hB]
      rw [hr0, onD_some] at hg
      simp (failIfUnchanged := false) (dsimp := false) only [pwA, ixL, setAll, wRev, wipe, isiOk, isTy, List.any_cons, List.any_nil, reduceCtorEq, if_true, if_false, List.getElem?_cons_zero, List.getElem?_cons_succ, List.getElem?_nil, List.set_cons_zero, List.set_cons_succ, List.length_cons, List.length_nil, List.map_cons, List.map_nil, List.cons_append, List.nil_append, List.replicate_succ, List.replicate_zero, Nat.reduceAdd, Nat.reduceSub, Nat.reduceMul, Nat.reduceLT, Nat.reduceLeDiff, Nat.reduceEqDiff, Int.reduceNeg, Int.reduceLT, Int.reduceLE, Int.reduceToNat, Int.reduceAdd, Int.reduceSub, Int.reduceMul, Int.reducePow, Int.reduceAbs, ↓reduceIte, ge_iff_le, gt_iff_lt, hg, show Int.toNat 0 = 0 from rfl]
      refine wW_inv (n := ws.length) (fun q e s => ∃ (o4 o5 o6 o8 : Option D) (r at_ : Nat) (pre suf : List Nat) (d : Int), e = [some (rowD ws ss), some (mayD md mr), some (.int ws.length), some (.ref 2), o4, o5, o6, some (.ref r), o8] ∧
        s[2]? = some (.lst (rmL E ws.length ws.length)) ∧ s[r]? = some (.lst ((pre ++ [at_]).map fun i : Nat => D.int i)) ∧ r ≠ 2 ∧ at_ + q = ws.length ∧ best E ws.length at_ = some (d, suf) ∧ p0 = pre ++ suf ∧ pre.length ≤ at_) (by omega) ⟨_, _, _, _, _, 0, [], p0, c0, rfl, rfl, by simp, by omega, by omega, hB, rfl, by simp⟩ ?_
      rintro q _ s ⟨o4, o5, o6, o8, r, t, pre, suf, d, rfl, h2, hr, hne, hq, hbt, hp0, hpl⟩
      by_cases hlt : t < ws.length
      · have hlt2 : (t : Int) < (ws.length : Int) := by omega
        simp (failIfUnchanged := false) (dsimp := false) only [pwA, ixL, setAll, wRev, wipe, isiOk, isTy, List.any_cons, List.any_nil, reduceCtorEq, if_true, if_false, List.getElem?_cons_zero, List.getElem?_cons_succ, List.getElem?_nil, List.set_cons_zero, List.set_cons_succ, List.length_cons, List.length_nil, List.map_cons, List.map_nil, List.cons_append, List.nil_append, List.replicate_succ, List.replicate_zero, Nat.reduceAdd, Nat.reduceSub, Nat.reduceMul, Nat.reduceLT, Nat.reduceLeDiff, Nat.reduceEqDiff, Int.reduceNeg, Int.reduceLT, Int.reduceLE, Int.reduceToNat, Int.reduceAdd, Int.reduceSub, Int.reduceMul, Int.reducePow, Int.reduceAbs, ↓reduceIte, ge_iff_le, gt_iff_lt, hr, h2, natsL_last, hlt2]
        refine FW.useR (e1 t (rmL E ws.length ws.length) (rmO E ws.length) hlt fun e h1 h2 => rmL_get h2 (by omega)) ?_ ?_
        · simp [List.mapM_cons, deref_lst h2 rmL_noRef, deref_plain rowD_noRef, deref_plain may_noRef, deref_plain (show (D.int t).noRef = true from rfl)]
        · rintro _ rfl
          have hel := endsL_len (ws := ws) (ss := ss) (md := md) (mr := mr) (n := ws.length) (b := t) (R := rmO E ws.length)
          have hgt := rmL_get (E := E) (n := ws.length) (i := ws.length) (e := t) (by omega) (by omega)
          have hrt : rmO E ws.length t = some d := by simp [rmO, hbt]
          rw [hrt, onD_some] at hgt
          simp (failIfUnchanged := false) (dsimp := false) only [pwA, ixL, setAll, wRev, wipe, isiOk, isTy, List.any_cons, List.any_nil, reduceCtorEq, if_true, if_false, List.getElem?_cons_zero, List.getElem?_cons_succ, List.getElem?_nil, List.set_cons_zero, List.set_cons_succ, List.length_cons, List.length_nil, List.map_cons, List.map_nil, List.cons_append, List.nil_append, List.replicate_succ, List.replicate_zero, Nat.reduceAdd, Nat.reduceSub, Nat.reduceMul, Nat.reduceLT, Nat.reduceLeDiff, Nat.reduceEqDiff, Int.reduceNeg, Int.reduceLT, Int.reduceLE, Int.reduceToNat, Int.reduceAdd, Int.reduceSub, Int.reduceMul, Int.reducePow, Int.reduceAbs, ↓reduceIte, ge_iff_le, gt_iff_lt, at_end, s_refO, o_refO, sqO_lst, scO_lst, List.length_map]
          refine ⟨by unfold lim; omega, wC_filt (endsL ws ss md mr ws.length t (rmO E ws.length)) (fun i => .int i) (fun e => decide (strI ws ss t e + (rmO E ws.length e).getD 0 = d)) (fun i => .int i) rfl (chk_one (by simp)) (fun e he => ?_) ?_⟩
          · obtain ⟨g1, g2, g3⟩ := endsL_mem he
            obtain ⟨z, hz⟩ := Option.isSome_iff_exists.mp g3
            have hg := rmL_get (E := E) (n := ws.length) (i := ws.length) g2 (by omega)
            rw [hz, onD_some] at hg
            simp (failIfUnchanged := false) (dsimp := false) only [pwA, ixL, setAll, wRev, wipe, isiOk, isTy, List.any_cons, List.any_nil, reduceCtorEq, if_true, if_false, List.getElem?_cons_zero, List.getElem?_cons_succ, List.getElem?_nil, List.set_cons_zero, List.set_cons_succ, List.length_cons, List.length_nil, List.map_cons, List.map_nil, List.cons_append, List.nil_append, List.replicate_succ, List.replicate_zero, Nat.reduceAdd, Nat.reduceSub, Nat.reduceMul, Nat.reduceLT, Nat.reduceLeDiff, Nat.reduceEqDiff, Int.reduceNeg, Int.reduceLT, Int.reduceLE, Int.reduceToNat, Int.reduceAdd, Int.reduceSub, Int.reduceMul, Int.reducePow, Int.reduceAbs, ↓reduceIte, ge_iff_le, gt_iff_lt, e0 t e _ hlt g1, get_app h2, hg, hgt, hz, Option.getD_some]
            simp
          · have hnx := nexts_ends (ws := ws) (ss := ss) (md := md) (mr := mr) (n := ws.length) (b := t) hrt
            rw [hE] at hnx
            rw [← hnx]
            obtain ⟨e, d', q', ⟨he1, he2, he3, he4⟩⟩ := next_best hlt hbt
            have hR : (fun e => (best E ws.length e).map (·.1)) = rmO E ws.length := rfl
            rw [hR] at he1 he2
            have hrise := nexts_rise (E := E) (n := ws.length) (b := t) (R := rmO E ws.length)
            have hle : ∀ x ∈ nexts E ws.length t (rmO E ws.length), t < x ∧ x ≤ ws.length := fun x hx => ⟨(nexts_mem.mp hx).1, (nexts_mem.mp hx).2.1⟩
            generalize nexts E ws.length t (rmO E ws.length) = NX at he1 he2 hrise hle ⊢
            obtain ⟨h0, hh0⟩ : ∃ h0, NX.head? = some h0 := by
              cases NX with
              | nil => cases he2
              | cons a l => exact ⟨a, rfl⟩
            obtain ⟨l0, hl0⟩ : ∃ l0, NX.getLast? = some l0 := by
              cases hc : NX.getLast? with
              | none => rw [List.getLast?_eq_none_iff] at hc; rw [hc] at he2; cases he2
              | some l0 => exact ⟨l0, rfl⟩
            have g0 : (NX.map fun i : Nat => D.int i)[0]? = some (.int h0) := by
              rw [List.getElem?_map, ← List.head?_eq_getElem?, hh0]; rfl
            have gl : (NX.map fun i : Nat => D.int i).getLast? = some (.int l0) := by rw [List.getLast?_map, hl0]; rfl
            have hlm := List.mem_of_getLast? hl0
            have het := hle e he2
            have hkl : ((pre ++ [t]).map fun i : Nat => D.int i).length < lim := by simp only [List.length_map, List.length_append, List.length_singleton]; unfold lim; omega
            have hrl : r < s.length := (List.getElem?_eq_some_iff.mp hr).1
            have k2 : ((s ++ [Ob.lst ((endsL ws ss md mr ws.length t (rmO E ws.length)).map fun i : Nat => D.int i)]).set r (Ob.lst ((pre ++ [t]).map (fun i : Nat => D.int i) ++ [D.int e])))[2]? = some (Ob.lst (rmL E ws.length ws.length)) := by
              rw [List.getElem?_set_ne hne]; exact get_app h2
            have k3 : ((s ++ [Ob.lst ((endsL ws ss md mr ws.length t (rmO E ws.length)).map fun i : Nat => D.int i)]).set r (Ob.lst ((pre ++ [t]).map (fun i : Nat => D.int i) ++ [D.int e])))[r]? = some (Ob.lst (((pre ++ [t]) ++ [e]).map fun i : Nat => D.int i)) := by
              rw [List.getElem?_set_self (by simp; omega)]; simp
            by_cases hN : ws.length ∈ NX
            · rw [if_pos hN] at he1
              have hlN : l0 = ws.length := Nat.le_antisymm (hle l0 hlm).2 (last_max hrise hN hl0)
              subst he1
              simp (failIfUnchanged := false) (dsimp := false) only [pwA, ixL, setAll, wRev, wipe, isiOk, isTy, List.any_cons, List.any_nil, reduceCtorEq, if_true, if_false, List.getElem?_cons_zero, List.getElem?_cons_succ, List.getElem?_nil, List.set_cons_zero, List.set_cons_succ, List.length_cons, List.length_nil, List.map_cons, List.map_nil, List.cons_append, List.nil_append, List.replicate_succ, List.replicate_zero, Nat.reduceAdd, Nat.reduceSub, Nat.reduceMul, Nat.reduceLT, Nat.reduceLeDiff, Nat.reduceEqDiff, Int.reduceNeg, Int.reduceLT, Int.reduceLE, Int.reduceToNat, Int.reduceAdd, Int.reduceSub, Int.reduceMul, Int.reducePow, Int.reduceAbs, ↓reduceIte, ge_iff_le, gt_iff_lt, g0, gl, hlN, get_app hr, hkl]
              exact ⟨0, by omega, _, _, _, _, r, ws.length, pre ++ [t], q', d', rfl, k2, k3, hne, by omega, he3, by rw [hp0, he4]; simp, by simp; omega⟩
            · rw [if_neg hN] at he1
              have hlN : l0 ≠ ws.length := fun h => hN (h ▸ hlm)
              rw [hh0] at he1
              cases he1
              simp (failIfUnchanged := false) (dsimp := false) only [pwA, ixL, setAll, wRev, wipe, isiOk, isTy, List.any_cons, List.any_nil, reduceCtorEq, if_true, if_false, List.getElem?_cons_zero, List.getElem?_cons_succ, List.getElem?_nil, List.set_cons_zero, List.set_cons_succ, List.length_cons, List.length_nil, List.map_cons, List.map_nil, List.cons_append, List.nil_append, List.replicate_succ, List.replicate_zero, Nat.reduceAdd, Nat.reduceSub, Nat.reduceMul, Nat.reduceLT, Nat.reduceLeDiff, Nat.reduceEqDiff, Int.reduceNeg, Int.reduceLT, Int.reduceLE, Int.reduceToNat, Int.reduceAdd, Int.reduceSub, Int.reduceMul, Int.reducePow, Int.reduceAbs, ↓reduceIte, ge_iff_le, gt_iff_lt, g0, gl, show ¬ (l0 : Int) = (ws.length : Int) by omega, get_app hr, hkl]
              exact ⟨ws.length - e, by omega, _, _, _, _, r, e, pre ++ [t], q', d', rfl, k2, k3, hne, by omega, he3, by rw [hp0, he4]; simp, by simp; omega⟩
      · have hlt2 : ¬ (t : Int) < (ws.length : Int) := by omega
        have ht : t = ws.length := by omega
        subst ht
        rw [best_end] at hbt
        cases hbt
        simp (failIfUnchanged := false) (dsimp := false) only [pwA, ixL, setAll, wRev, wipe, isiOk, isTy, List.any_cons, List.any_nil, reduceCtorEq, if_true, if_false, List.getElem?_cons_zero, List.getElem?_cons_succ, List.getElem?_nil, List.set_cons_zero, List.set_cons_succ, List.length_cons, List.length_nil, List.map_cons, List.map_nil, List.cons_append, List.nil_append, List.replicate_succ, List.replicate_zero, Nat.reduceAdd, Nat.reduceSub, Nat.reduceMul, Nat.reduceLT, Nat.reduceLeDiff, Nat.reduceEqDiff, Int.reduceNeg, Int.reduceLT, Int.reduceLE, Int.reduceToNat, Int.reduceAdd, Int.reduceSub, Int.reduceMul, Int.reducePow, Int.reduceAbs, ↓reduceIte, ge_iff_le, gt_iff_lt, hr, h2, natsL_last, hlt2, hg, show Int.toNat 0 = 0 from rfl, cut_nm, drop_last_nats]
        have hpr := prD_noRef (p := (c0, p0))
        rw [hp0, List.append_nil] at hpr ⊢
        exact ⟨_, deref_plain hpr, hpr, rfl⟩
end Pm

/-! Pm, part Z3: all makes that may be kept; what is reckoned outright. -/
namespace Pm
open PySem (Str PyData)
/-! ### reckoned outright -/
def tabC (E : Nat → Nat → Option Int) (n : Nat) : Nat → List (Option Pt)
  | 0 => [some (0, [])]
  | k + 1 => minO (((List.range' (n - k) (k + 1)).zip (tabC E n k)).filterMap fun p => match E (n - k - 1) p.1, p.2 with
    | some c, some (d, q) => some (c + d, (n - k - 1) :: q)
    | _, _ => none) :: tabC E n k
theorem zip_filterMap {α β γ : Type} {l : List α} {f : α → β} {g : α × β → Option γ} : (l.zip (l.map f)).filterMap g = l.filterMap fun a => g (a, f a) := by
  induction l with
  | nil => rfl
  | cons a l ih => simp [List.filterMap_cons, ih]
theorem tabC_eq {E : Nat → Nat → Option Int} {n : Nat} : ∀ k, k ≤ n → tabC E n k = (List.range' (n - k) (k + 1)).map (best E n)
  | 0, _ => by simp [tabC, best_end]
  | k + 1, h => by
    have ih := tabC_eq (E := E) (n := n) k (by omega)
    have e : n - (k + 1) + 1 = n - k := by omega
    rw [tabC, ih, zip_filterMap, List.range'_succ (n := k + 1), List.map_cons, e]
    congr 1
    rw [best_step (show n - (k + 1) < n by omega)]
    unfold cands
    rw [e, show n - (n - (k + 1)) = k + 1 by omega]
    rfl
theorem best_tabC {E : Nat → Nat → Option Int} {n : Nat} {r : Option Pt} (h : (tabC E n n).head? = some r) : best E n 0 = r := by
  rw [tabC_eq n (Nat.le_refl _), Nat.sub_self, List.range'_succ, List.map_cons, List.head?_cons] at h
  cases h; rfl
/-! ### all kept -/
def allK : Nat → List (List Nat)
  | 0 => [[0]]
  | i + 1 => allK i ++ (allK i).map (· ++ [i + 1])
theorem allK_len : ∀ i, (allK i).length = 2 ^ i
  | 0 => rfl
  | i + 1 => by simp only [allK, List.length_append, List.length_map, allK_len i, Nat.pow_succ]; omega
theorem allK_mem : ∀ {i : Nat} {ks : List Nat}, ks ∈ allK i ↔ KeptOk (i + 1) ks
  | 0, ks => by
    constructor
    · intro h; simp [allK] at h; subst h; exact ⟨by simp, by simp⟩
    · intro h
      obtain ⟨r, rfl⟩ := h.head
      have := h.len
      have : r = [] := List.eq_nil_of_length_eq_zero (by simpa using this)
      subst this; simp [allK]
  | i + 1, ks => by
    simp only [allK, List.mem_append, List.mem_map]
    constructor
    · rintro (h | ⟨k, h, rfl⟩)
      · have := allK_mem.mp h
        exact ⟨this.s.trans (by rw [List.range_succ (n := i + 1)]; exact List.sublist_append_left _ _), this.z⟩
      · have := allK_mem.mp h
        exact ⟨by rw [List.range_succ (n := i + 1)]; exact this.s.append (List.Sublist.refl _), by simp [this.z]⟩
    · rintro ⟨h1, h2⟩
      rw [List.range_succ (n := i + 1)] at h1
      obtain ⟨l1, l2, rfl, s1, s2⟩ := List.sublist_append_iff.mp h1
      have hz : 0 ∈ l1 := by
        rcases List.mem_append.mp h2 with h | h
        · exact h
        · have := s2.subset h; simp at this
      have hk : KeptOk (i + 1) l1 := ⟨s1, hz⟩
      cases l2 with
      | nil => exact .inl (by rw [List.append_nil]; exact allK_mem.mpr hk)
      | cons a l2 =>
        have hl := s2.length_le
        have : l2 = [] := List.eq_nil_of_length_eq_zero (by simpa using hl)
        subst this
        have := s2.subset (List.mem_cons_self ..)
        simp at this
        subst this
        exact .inr ⟨l1, allK_mem.mpr hk, rfl⟩
section
variable {E : Nat → Nat → Option Int} {n : Nat}
def segSum (f : Nat → Nat → Int) (n : Nat) (ks : List Nat) : Int := ((segs ks n).map fun p => f p.1 p.2).sum
theorem Vp.rise {b : Nat} {p : List Nat} {c : Int} (h : Vp E n b p c) : Rise n p ∧ ∀ x ∈ p, b ≤ x := by
  induction h with
  | nil => exact ⟨⟨List.Pairwise.nil, by simp⟩, by simp⟩
  | @cons b e p c d h1 h2 h3 h4 ih =>
    refine ⟨⟨List.pairwise_cons.mpr ⟨fun x hx => by have := ih.2 x hx; omega, ih.1.1⟩, fun x hx => ?_⟩, fun x hx => ?_⟩
    · rcases List.mem_cons.mp hx with rfl | hx
      · omega
      · exact ih.1.2 x hx
    · rcases List.mem_cons.mp hx with rfl | hx
      · exact Nat.le_refl _
      · have := ih.2 x hx; omega
theorem Vp.segs {f : Nat → Nat → Int} (hE : ∀ b e c, E b e = some c → c = f b e) : ∀ {r : List Nat} {a : Nat} {c : Int}, Rise n (a :: r) → (Vp E n a (a :: r) c ↔ (∀ p ∈ segs (a :: r) n, (E p.1 p.2).isSome = true) ∧ c = segSum f n (a :: r))
  | [], a, c, hr => by
    have ha := hr.2 a (by simp)
    constructor
    · intro h
      cases h with
      | @cons _ e _ c d h1 h2 h3 h4 =>
        cases h4 with
        | nil => exact ⟨by simp [segs_one, h3], by simp [segSum, segs_one, hE _ _ _ h3]⟩
    · rintro ⟨h1, rfl⟩
      obtain ⟨c, hc⟩ := Option.isSome_iff_exists.mp (h1 (a, n) (by simp [segs_one]))
      have := hE _ _ _ hc
      have e : segSum f n [a] = c + 0 := by simp [segSum, segs_one, this]
      rw [e]
      exact .cons ha (Nat.le_refl _) hc .nil
  | b :: r, a, c, hr => by
    have hab : a < b := (List.pairwise_cons.mp hr.1).1 b (by simp)
    have hb := hr.2 b (by simp)
    have ih := fun c => Vp.segs hE (r := r) (a := b) (c := c) hr.tail
    constructor
    · intro h
      cases h with
      | @cons _ e _ c d h1 h2 h3 h4 =>
        have he : e = b := by
          rcases h4.head with ⟨_, h⟩ | ⟨_, r2, h⟩
          · cases h
          · cases h; rfl
        subst he
        obtain ⟨g1, g2⟩ := (ih d).mp h4
        refine ⟨fun p hp => ?_, ?_⟩
        · rw [segs_cons] at hp
          rcases List.mem_cons.mp hp with rfl | hp
          · simp [h3]
          · exact g1 p hp
        · rw [g2, hE _ _ _ h3]; simp [segSum, segs_cons]
    · rintro ⟨h1, rfl⟩
      rw [segs_cons] at h1
      obtain ⟨c, hc⟩ := Option.isSome_iff_exists.mp (h1 (a, b) (by simp))
      have e : segSum f n (a :: b :: r) = c + segSum f n (b :: r) := by simp [segSum, segs_cons, hE _ _ _ hc]
      rw [e]
      exact .cons hab (Nat.le_of_lt hb) hc ((ih _).mpr ⟨fun p hp => h1 p (List.mem_cons_of_mem _ hp), rfl⟩)
/-- the least of all that may be kept -/
theorem all_best {f : Nat → Nat → Int} {P : List Nat → Bool} (hE : ∀ b e c, E b e = some c → c = f b e) (hn : 0 < n) (hP : ∀ ks, KeptOk n ks → (P ks = true ↔ ∀ p ∈ segs ks n, (E p.1 p.2).isSome = true)) :
    best E n 0 = minO (((allK (n - 1)).filter P).map fun ks => (segSum f n ks, ks)) := by
  refine best_eq (Nat.zero_le _) ?_
  have val : ∀ x ∈ ((allK (n - 1)).filter P).map (fun ks => (segSum f n ks, ks)), Vp E n 0 x.2 x.1 := by
    intro x hx
    obtain ⟨ks, hk, rfl⟩ := List.mem_map.mp hx
    obtain ⟨h1, h2⟩ := List.mem_filter.mp hk
    have hk := allK_mem.mp h1
    rw [show n - 1 + 1 = n by omega] at hk
    obtain ⟨r, rfl⟩ := hk.head
    exact (Vp.segs hE hk.rise).mpr ⟨(hP _ hk).mp h2, rfl⟩
  have key : ∀ q d, Vp E n 0 q d → (d, q) ∈ ((allK (n - 1)).filter P).map fun ks => (segSum f n ks, ks) := by
    intro q d h
    have hr := h.rise.1
    rcases h.head with ⟨h0, _⟩ | ⟨_, r, rfl⟩
    · omega
    · obtain ⟨g1, g2⟩ := (Vp.segs hE hr).mp h
      have hk : KeptOk n (0 :: r) := by
        refine ⟨?_, by simp⟩
        have : ∀ (l : List Nat) (a m : Nat), (l.Pairwise (· < ·)) → (∀ x ∈ l, a ≤ x ∧ x < a + m) → l.Sublist (List.range' a m) := by
          intro l
          induction l with
          | nil => intro a m _ _; exact List.nil_sublist _
          | cons x l ih =>
            intro a m hs hb
            have hx := hb x (by simp)
            have hs2 := List.pairwise_cons.mp hs
            have e : List.range' a m = List.range' a (x - a) ++ x :: List.range' (x + 1) (a + m - x - 1) := by
              rw [show x :: List.range' (x + 1) (a + m - x - 1) = List.range' x (a + m - x) by
                rw [show a + m - x = (a + m - x - 1) + 1 by omega, List.range'_succ]; congr 2]
              have := range'_app (a := a) (b := x) (c := a + m) hx.1 (by omega)
              rw [this]; congr 1; omega
            rw [e]
            refine List.Sublist.trans ?_ (List.sublist_append_right _ _)
            refine List.Sublist.cons_cons _ (ih (x + 1) _ hs2.2 fun y hy => ?_)
            have := hs2.1 y hy
            have := hb y (List.mem_cons_of_mem _ hy)
            omega
        rw [List.range_eq_range']
        exact this _ 0 n hr.1 fun x hx => ⟨Nat.zero_le _, by have := hr.2 x hx; omega⟩
      refine List.mem_map.mpr ⟨0 :: r, List.mem_filter.mpr ⟨allK_mem.mpr ?_, (hP _ hk).mpr g1⟩, by rw [g2]⟩
      rw [show n - 1 + 1 = n by omega]; exact hk
  cases hc : ((allK (n - 1)).filter P).map fun ks => (segSum f n ks, ks) with
  | nil => intro p c h; have := key p c h; rw [hc] at this; cases this
  | cons x l =>
    obtain ⟨h1, h2, h3⟩ := minP_spec l x
    have hm : minP x l ∈ ((allK (n - 1)).filter P).map fun ks => (segSum f n ks, ks) := by
      rw [hc]
      rcases h1 with h1 | h1
      · rw [h1]; exact List.mem_cons_self ..
      · exact List.mem_cons_of_mem _ h1
    refine ⟨val _ hm, fun q d h => ?_⟩
    have hy := key q d h
    rw [hc] at hy
    rcases List.mem_cons.mp hy with rfl | hy
    · exact h2
    · exact h3 _ hy
end
theorem all_kept_eq {k n : Nat} {st : Sto} (h1 : 1 ≤ n) (h2 : n ≤ 12) : pcall (callN pg0 FNS (k + 1)) 224 [.int n] st = some (.lst ((allK (n - 1)).map natsD)) := by
  refine PW.eq ?_ rfl
  unfold PW
  rw [call_w a_L_all_kept rfl]
  simp (failIfUnchanged := false) (dsimp := false) only [pwA, ixL, setAll, wRev, wipe, isiOk, isTy, List.any_cons, List.any_nil, reduceCtorEq, if_true, if_false, List.getElem?_cons_zero, List.getElem?_cons_succ, List.getElem?_nil, List.set_cons_zero, List.set_cons_succ, List.length_cons, List.length_nil, List.map_cons, List.map_nil, List.cons_append, List.nil_append, List.replicate_succ, List.replicate_zero, Nat.reduceAdd, Nat.reduceSub, Nat.reduceMul, Nat.reduceLT, Nat.reduceLeDiff, Nat.reduceEqDiff, Int.reduceNeg, Int.reduceLT, Int.reduceLE, Int.reduceToNat, Int.reduceAdd, Int.reduceSub, Int.reduceMul, Int.reducePow, Int.reduceAbs, ↓reduceIte, ge_iff_le, gt_iff_lt, rng2 (show (-1000000 : Int) ≤ 1 by omega) (show (1 : Int) ≤ 1000000 by omega) (show (-1000000 : Int) ≤ (n : Int) by omega) (show (n : Int) ≤ 1000000 by omega), show ((n : Int) - 1).toNat = n - 1 by omega]
  refine wF_inv (fun i e s => ∃ o2 o3 : Option D, e = [some (.int n), some (.lst ((allK i).map natsD)), o2, o3]) ⟨_, _, rfl⟩ ?_ ?_
  · rintro i x _ st hx ⟨o2, o3, rfl⟩
    obtain ⟨hi, rfl⟩ := rangeL1_some hx
    have hp : 2 ^ i ≤ 2 ^ 12 := Nat.pow_le_pow_right (by decide) (by omega)
    simp (failIfUnchanged := false) (dsimp := false) only [pwA, ixL, setAll, wRev, wipe, isiOk, isTy, List.any_cons, List.any_nil, reduceCtorEq, if_true, if_false, List.getElem?_cons_zero, List.getElem?_cons_succ, List.getElem?_nil, List.set_cons_zero, List.set_cons_succ, List.length_cons, List.length_nil, List.map_cons, List.map_nil, List.cons_append, List.nil_append, List.replicate_succ, List.replicate_zero, Nat.reduceAdd, Nat.reduceSub, Nat.reduceMul, Nat.reduceLT, Nat.reduceLeDiff, Nat.reduceEqDiff, Int.reduceNeg, Int.reduceLT, Int.reduceLE, Int.reduceToNat, Int.reduceAdd, Int.reduceSub, Int.reduceMul, Int.reducePow, Int.reduceAbs, ↓reduceIte, ge_iff_le, gt_iff_lt, List.length_map, allK_len]
    refine ⟨by unfold lim; omega, wC_map (allK i) natsD (fun ks => natsD (ks ++ [i + 1])) rfl rfl (fun ks hk => ?_) ?_⟩
    · have := (allK_mem.mp hk).len
      simp (failIfUnchanged := false) (dsimp := false) only [pwA, ixL, setAll, wRev, wipe, isiOk, isTy, List.any_cons, List.any_nil, reduceCtorEq, if_true, if_false, List.getElem?_cons_zero, List.getElem?_cons_succ, List.getElem?_nil, List.set_cons_zero, List.set_cons_succ, List.length_cons, List.length_nil, List.map_cons, List.map_nil, List.cons_append, List.nil_append, List.replicate_succ, List.replicate_zero, Nat.reduceAdd, Nat.reduceSub, Nat.reduceMul, Nat.reduceLT, Nat.reduceLeDiff, Nat.reduceEqDiff, Int.reduceNeg, Int.reduceLT, Int.reduceLE, Int.reduceToNat, Int.reduceAdd, Int.reduceSub, Int.reduceMul, Int.reducePow, Int.reduceAbs, ↓reduceIte, ge_iff_le, gt_iff_lt, natsD, List.length_map]
      refine ⟨by unfold lim; omega, ?_⟩
      simp [Int.add_comm]
    · simp (failIfUnchanged := false) (dsimp := false) only [pwA, ixL, setAll, wRev, wipe, isiOk, isTy, List.any_cons, List.any_nil, reduceCtorEq, if_true, if_false, List.getElem?_cons_zero, List.getElem?_cons_succ, List.getElem?_nil, List.set_cons_zero, List.set_cons_succ, List.length_cons, List.length_nil, List.map_cons, List.map_nil, List.cons_append, List.nil_append, List.replicate_succ, List.replicate_zero, Nat.reduceAdd, Nat.reduceSub, Nat.reduceMul, Nat.reduceLT, Nat.reduceLeDiff, Nat.reduceEqDiff, Int.reduceNeg, Int.reduceLT, Int.reduceLE, Int.reduceToNat, Int.reduceAdd, Int.reduceSub, Int.reduceMul, Int.reducePow, Int.reduceAbs, ↓reduceIte, ge_iff_le, gt_iff_lt, List.length_map, allK_len]
      have e : (allK (i + 1)).map natsD = (allK i).map natsD ++ (allK i).map (fun ks => natsD (ks ++ [i + 1])) := by
        simp only [allK, List.map_append, List.map_map]; rfl
      rw [e]
      exact ⟨by unfold lim; omega, _, _, rfl⟩
  · rintro _ st ⟨o2, o3, rfl⟩
    rw [rangeL_lenQ]
    simp (failIfUnchanged := false) (dsimp := false) only [pwA, ixL, setAll, wRev, wipe, isiOk, isTy, List.any_cons, List.any_nil, reduceCtorEq, if_true, if_false, List.getElem?_cons_zero, List.getElem?_cons_succ, List.getElem?_nil, List.set_cons_zero, List.set_cons_succ, List.length_cons, List.length_nil, List.map_cons, List.map_nil, List.cons_append, List.nil_append, List.replicate_succ, List.replicate_zero, Nat.reduceAdd, Nat.reduceSub, Nat.reduceMul, Nat.reduceLT, Nat.reduceLeDiff, Nat.reduceEqDiff, Int.reduceNeg, Int.reduceLT, Int.reduceLE, Int.reduceToNat, Int.reduceAdd, Int.reduceSub, Int.reduceMul, Int.reducePow, Int.reduceAbs, ↓reduceIte, ge_iff_le, gt_iff_lt]
    have : (D.lst ((allK (n - 1)).map natsD)).noRef = true := by
      simp only [D.noRef, noRefL_all, List.all_map, List.all_eq_true]
      exact fun x _ => nats_noRef
    exact ⟨_, deref_plain this, this, rfl⟩
end Pm

/-! Pm, part H: small helps for laws' ends. -/
namespace Pm
open PySem (Str PyData)
section
variable {P : Pg} {C : Call} {env : Env} {st : Sto} {Q : D → Sto → Prop}
/-- one of two numbers -/
theorem wE_ifeI {c : Ts} {a b : Int} : wE P C (.ife c (.cst (.int a)) (.cst (.int b))) env st Q = wT P C c env st (fun t s => Q (.int (if t = true then a else b)) s) := by
  unfold wE wT; rw [evE]
  cases evT P C c env st with
  | none => rfl
  | some p => obtain ⟨t, s⟩ := p; cases t <;> simp only [evE, wR, wTr, if_true, if_false, Bool.false_eq_true]
end
variable {st : Sto} {a b c a' b' : Ob}
theorem g2a : (st ++ [a, b])[st.length]? = some a := by simp
theorem g2b : (st ++ [a, b])[st.length + 1]? = some b := by simp [List.getElem?_append_right]
theorem s2a : (st ++ [a, b]).set st.length a' = st ++ [a', b] := by simp
theorem s2b : (st ++ [a, b]).set (st.length + 1) b' = st ++ [a, b'] := by simp [List.set_append]
theorem l1a : (st ++ [a]).length = st.length + 1 := by simp
theorem c2a : st ++ [a] ++ [b] = st ++ [a, b] := by simp
theorem pfst {α β : Type} {x : α} {y : β} : (x, y).1 = x := nd rfl
theorem psnd {α β : Type} {x : α} {y : β} : (x, y).2 = y := nd rfl
theorem smB_nats {n : Nat} {l : List Nat} (hl : l.length < lim) : smB (n + 1) (natsD l) = true := by
  simp only [natsD, smB, List.length_map, decide_eq_true hl, Bool.true_and, List.all_map, List.all_eq_true]
  intro x _
  cases n <;> rfl
theorem smB_intsT {n : Nat} {α : Type} {l : List α} {f : α → Int} (hl : l.length < lim) : smB (n + 1) (.tup (l.map fun x => .int (f x))) = true := by
  simp only [smB, List.length_map, decide_eq_true hl, Bool.true_and, List.all_map, List.all_eq_true]
  intro x _
  cases n <;> rfl
theorem ix_row0 {ws ss : List Int} : index st (rowD ws ss) (.int 0) = some (.tup (ws.map D.int)) := by unfold rowD; rw [ix_tup (by decide)]; rfl
theorem ix_row1 {ws ss : List Int} : index st (rowD ws ss) (.int 1) = some (.tup (ss.map D.int)) := by unfold rowD; rw [ix_tup (by decide)]; rfl
theorem f_minTI {l : List Int} {m : Bool} {z : Int} (h : minI l = some z) : bicall .min m [.tup (l.map D.int)] st = some (.int z, st) := by
  cases l with
  | nil => cases h
  | cons a l =>
    cases h
    have := intsD_ints (l := a :: l)
    simp only [List.map_cons] at this
    simp only [bicall, minD, seqOf, Option.bind_some, List.map_cons, this, Option.map_some]
theorem f_maxTI {l : List Int} {m : Bool} (h : l ≠ []) : bicall .max m [.tup (l.map D.int)] st = some (.int (maxI l), st) := by
  cases l with
  | nil => exact absurd rfl h
  | cons a l =>
    have := intsD_ints (l := a :: l)
    simp only [List.map_cons] at this
    simp only [bicall, seqOf, Option.bind_some, List.map_cons, this]
    rfl
theorem f_sumLI {l : List Int} {m : Bool} : bicall .sum m [.lst (l.map D.int)] st = some (.int l.sum, st) := by
  simp only [bicall, seqOf, Option.bind_some, intsD_ints, Option.map_some]
def sortI (l : List Int) : List Int := l.mergeSort fun a b => decide (a ≤ b)
theorem f_sortI {l : List Int} : bicall .sorted false [.lst (l.map D.int)] st = some (.lst ((sortI l).map D.int), st) := by
  simp only [bicall, sortD, seqK, dctOf, sortL, lstOf, Option.bind_some, intsD_ints, Option.map_some, newL, sortI, Bool.false_eq_true, if_false]
theorem sortI_pair {l : List Int} : (sortI l).Pairwise (· ≤ ·) := by
  have := List.pairwise_mergeSort (le := fun a b : Int => decide (a ≤ b)) (fun a b c h1 h2 => by simp at *; omega) (fun a b => by simp; omega) l
  exact this.imp fun h => by simpa using h
theorem sortI_perm {l : List Int} : (sortI l).Perm l := List.mergeSort_perm ..
theorem sortI_len {l : List Int} : (sortI l).length = l.length := sortI_perm.length_eq
theorem minI_some {l : List Int} (h : l ≠ []) : ∃ z, minI l = some z := by
  cases l with
  | nil => exact absurd rfl h
  | cons a l => exact ⟨_, rfl⟩
theorem c_neNilR {r : Nat} {d : List D} (hs : st[r]? = some (.lst d)) (h : Pd 60 (.lst d)) : cmpop .ne st (.ref r) (.lst []) = some (!d.isEmpty) := by
  have e := c_neNil (st := st) h
  have hd : deref st (.ref r) = some (.lst d) := deref_lst hs (by simpa [D.noRef] using h.nr)
  have hd2 : deref st (.lst d) = some (.lst d) := deref_plain h.nr
  simp only [cmpop, hd, hd2, Option.bind_some] at e ⊢
  exact e
section
variable {E E' : Nat → Nat → Option Int} {n : Nat}
theorem Vp.mono (h : ∀ b e c, E b e = some c → E' b e = some c) {b : Nat} {p : List Nat} {c : Int} (hv : Vp E n b p c) : Vp E' n b p c := by
  induction hv with
  | nil => exact .nil
  | cons h1 h2 h3 _ ih => exact .cons h1 h2 (h _ _ _ h3) ih
theorem best_mono (h : ∀ b e c, E b e = some c → E' b e = some c) {p : Pt} (hp : best E n 0 = some p) : ∃ p', best E' n 0 = some p' ∧ p'.1 ≤ p.1 := by
  have h1 := best_is (E := E) (n := n) (b := 0) (Nat.zero_le _)
  have h2 := best_is (E := E') (n := n) (b := 0) (Nat.zero_le _)
  rw [hp] at h1
  cases hr : best E' n 0 with
  | none => rw [hr] at h2; exact absurd (h1.1.mono h) (h2 _ _)
  | some q =>
    rw [hr] at h2
    exact ⟨q, rfl, leP_fst (h2.2 _ _ (h1.1.mono h))⟩
end
theorem RowOk.mono {m n : Nat} {ws ss : List Int} (h : RowOk m ws ss) (hl : m ≤ n) : RowOk n ws ss := ⟨h.l1, Nat.le_trans h.l2 hl, h.ls, h.w, h.s⟩
end Pm

namespace Pm
open PySem (Str PyData)
theorem within_deep_eq {k n : Nat} {m : Int} {ws ss : List Int} {st : Sto} (h : RowOk n ws ss) (hn : n ≤ 100) : pcall (callN pg0 FNS (k + 4)) 220 [rowD ws ss, .int m] st = some (encB (best (edg ws ss (some m) none) ws.length 0)) := by
  refine PW.eq ?_ (by simp [rowD_noRef, D.noRef])
  unfold PW
  have e0 : ∀ st, pcall (callN pg0 FNS (k + 3)) 219 [rowD ws ss, .int m, .non] st = some (encB (best (edg ws ss (some m) none) ws.length 0)) := fun st => best_from_eq (md := some m) (mr := none) h hn
  rw [call_w a_within_deep_k31 rfl]
  simp (failIfUnchanged := false) (dsimp := false) only [pwA, ixL, setAll, wRev, wipe, isiOk, isTy, List.any_cons, List.any_nil, reduceCtorEq, if_true, if_false, List.getElem?_cons_zero, List.getElem?_cons_succ, List.getElem?_nil, List.set_cons_zero, List.set_cons_succ, List.length_cons, List.length_nil, List.map_cons, List.map_nil, List.cons_append, List.nil_append, List.replicate_succ, List.replicate_zero, Nat.reduceAdd, Nat.reduceSub, Nat.reduceMul, Nat.reduceLT, Nat.reduceLeDiff, Nat.reduceEqDiff, Int.reduceNeg, Int.reduceLT, Int.reduceLE, Int.reduceToNat, Int.reduceAdd, Int.reduceSub, Int.reduceMul, Int.reducePow, Int.reduceAbs, ↓reduceIte, ge_iff_le, gt_iff_lt, e0]
  exact ⟨_, deref_plain encB_noRef, encB_noRef, rfl⟩
theorem within_reads_eq {k n : Nat} {m : Int} {ws ss : List Int} {st : Sto} (h : RowOk n ws ss) (hn : n ≤ 100) : pcall (callN pg0 FNS (k + 4)) 228 [rowD ws ss, .int m] st = some (encB (best (edg ws ss none (some m)) ws.length 0)) := by
  refine PW.eq ?_ (by simp [rowD_noRef, D.noRef])
  unfold PW
  have e0 : ∀ st, pcall (callN pg0 FNS (k + 3)) 219 [rowD ws ss, .non, .int m] st = some (encB (best (edg ws ss none (some m)) ws.length 0)) := fun st => best_from_eq (md := none) (mr := some m) h hn
  rw [call_w a_within_reads_k32 rfl]
  simp (failIfUnchanged := false) (dsimp := false) only [pwA, ixL, setAll, wRev, wipe, isiOk, isTy, List.any_cons, List.any_nil, reduceCtorEq, if_true, if_false, List.getElem?_cons_zero, List.getElem?_cons_succ, List.getElem?_nil, List.set_cons_zero, List.set_cons_succ, List.length_cons, List.length_nil, List.map_cons, List.map_nil, List.cons_append, List.nil_append, List.replicate_succ, List.replicate_zero, Nat.reduceAdd, Nat.reduceSub, Nat.reduceMul, Nat.reduceLT, Nat.reduceLeDiff, Nat.reduceEqDiff, Int.reduceNeg, Int.reduceLT, Int.reduceLE, Int.reduceToNat, Int.reduceAdd, Int.reduceSub, Int.reduceMul, Int.reducePow, Int.reduceAbs, ↓reduceIte, ge_iff_le, gt_iff_lt, e0]
  exact ⟨_, deref_plain encB_noRef, encB_noRef, rfl⟩
theorem all_vp {E : Nat → Nat → Option Int} {n : Nat} (h : ∀ b, b < n → (E b (b + 1)).isSome = true) : ∀ (k b : Nat), b + k = n → ∃ p c, Vp E n b p c
  | 0, b, hb => by
    have : b = n := by omega
    subst this; exact ⟨_, _, .nil⟩
  | k + 1, b, hb => by
    obtain ⟨p, c, hv⟩ := all_vp h k (b + 1) (by omega)
    obtain ⟨d, hd⟩ := Option.isSome_iff_exists.mp (h b (by omega))
    exact ⟨_, _, .cons (Nat.lt_succ_self b) (by omega) hd hv⟩
theorem best_some {E : Nat → Nat → Option Int} {n : Nat} (h : ∀ b, b < n → (E b (b + 1)).isSome = true) : ∃ p, best E n 0 = some p := by
  have hb := best_is (E := E) (n := n) (b := 0) (Nat.zero_le _)
  cases hr : best E n 0 with
  | some p => exact ⟨p, rfl⟩
  | none =>
    rw [hr] at hb
    obtain ⟨p, c, hv⟩ := all_vp h n 0 (by omega)
    exact absurd hv (hb p c)
theorem deep_some {ws ss : List Int} {m : Int} {n : Nat} (h : 0 ≤ m) : ∃ p, best (edg ws ss (some m) none) n 0 = some p := best_some fun b _ => by
  have : okE ws ss (some m) none b (b + 1) = true := by simp [okE, withinB]; omega
  simp [edg, this]
theorem best_tab {E : Nat → Nat → Option Int} {n : Nat} : best E n 0 = ((tabC E n n).head?).getD none := by
  rw [tabC_eq n (Nat.le_refl _), Nat.sub_self, List.range'_succ, List.map_cons, List.head?_cons]; rfl
theorem best_pathlen {E : Nat → Nat → Option Int} {n : Nat} {p : Pt} (h : best E n 0 = some p) : p.2.length ≤ n := by
  have hb := best_is (E := E) (n := n) (b := 0) (Nat.zero_le _)
  rw [h] at hb
  have := hb.1.len; simpa using this
theorem smB_enc {E : Nat → Nat → Option Int} {n : Nat} (hn : n ≤ 1000) : smB 2 (encB (best E n 0)) = true := by
  cases h : best E n 0 with
  | none => rfl
  | some p =>
    have := best_pathlen h
    have h2 := smB_nats (n := 0) (l := p.2) (by unfold lim; omega)
    simp only [encB, prD, smB, List.all_cons, List.all_nil, List.length_cons, List.length_nil]
    rw [show smB 1 (natsD p.2) = true from h2]; rfl
/-- the long row of the laws -/
def W30 : List Int := List.replicate 30 1000000000
def S29 : List Int := List.replicate 29 1
theorem row30 : RowOk 30 W30 S29 := ⟨by decide, by decide, by decide, fun x hx => by rw [List.eq_of_mem_replicate hx]; decide, fun x hx => by rw [List.eq_of_mem_replicate hx]; decide⟩
theorem row30_D : D.tup [.tup (List.replicate 30 [D.int 1000000000]).flatten, .tup (List.replicate 29 [D.int 1]).flatten] = rowD W30 S29 := by decide
end Pm
namespace Pm.K33
open PySem (Str PyData)
section
variable (ws ss : List Int) (n : Nat) (most : Int)
def farP (B : Option Pt) : Bool := match B with
  | some p => decide (p.1 ≤ most)
  | none => false
def farD (B : Nat → Option Pt) : D := match (List.range n).find? (fun far => farP most (B far)) with
  | some far => match B far with
    | some p => .tup [.int far, .int p.1, natsD p.2]
    | none => .non
  | none => .non
end
theorem find_first {n i : Nat} {p : Nat → Bool} (hi : i < n) (h : p i = true) (h2 : ∀ j, j < i → p j = false) : (List.range n).find? p = some i := by
  rw [List.find?_eq_some_iff_getElem]
  exact ⟨h, i, by simpa using hi, by simp, fun j hj => by simp [h2 j hj]⟩
theorem find_none {n : Nat} {p : Nat → Bool} (h2 : ∀ j, j < n → p j = false) : (List.range n).find? p = none := by
  rw [List.find?_eq_none]
  intro j hj
  simp [h2 j (List.mem_range.mp hj)]
noncomputable def bst (ws ss : List Int) (far : Nat) : Option Pt := best (edg ws ss (some (far : Int)) none) ws.length 0
theorem far_noRef {n : Nat} {most : Int} {B : Nat → Option Pt} : (farD n most B).noRef = true := by
  unfold farD
  split
  · split
    · rename_i p _; have := nats_noRef (l := p.2); simp [D.noRef, noRefL_all, this]
    · rfl
  · rfl
theorem deep_for_eq {k n : Nat} {most : Int} {ws ss : List Int} {st : Sto} (h : RowOk n ws ss) (hn : n ≤ 100) : pcall (callN pg0 FNS (k + 5)) 233 [rowD ws ss, .int most] st = some (farD ws.length most (bst ws ss)) := by
  refine PW.eq ?_ (by simp [rowD_noRef, D.noRef])
  unfold PW
  have hw2 := h.l2
  have e0 : ∀ (m : Nat) st, pcall (callN pg0 FNS (k + 4)) 220 [rowD ws ss, .int m] st = some (encB (bst ws ss m)) := fun m st => within_deep_eq h hn
  rw [call_w a_deep_for_k33 rfl]
  unfold rowD at e0
  simp (failIfUnchanged := false) (dsimp := false) only [pwA, ixL, setAll, wRev, wipe, isiOk, isTy, List.any_cons, List.any_nil, reduceCtorEq, if_true, if_false, List.getElem?_cons_zero, List.getElem?_cons_succ, List.getElem?_nil, List.set_cons_zero, List.set_cons_succ, List.length_cons, List.length_nil, List.map_cons, List.map_nil, List.cons_append, List.nil_append, List.replicate_succ, List.replicate_zero, Nat.reduceAdd, Nat.reduceSub, Nat.reduceMul, Nat.reduceLT, Nat.reduceLeDiff, Nat.reduceEqDiff, Int.reduceNeg, Int.reduceLT, Int.reduceLE, Int.reduceToNat, Int.reduceAdd, Int.reduceSub, Int.reduceMul, Int.reducePow, Int.reduceAbs, ↓reduceIte, ge_iff_le, gt_iff_lt, rowD, List.length_map, rng1n (show ws.length ≤ 1000000 by omega)]
  refine wF_inv (fun i e s => ∃ x y : Option D, e = [some (rowD ws ss), some (.int most), x, y] ∧ ∀ j, j < i → farP most (bst ws ss j) = false) ⟨_, _, rfl, fun j hj => by omega⟩ ?_ ?_
  · rintro i x _ st hx ⟨o, p, rfl, hj⟩
    obtain ⟨hi, rfl⟩ := rangeL0_some hx
    obtain ⟨z, hz⟩ := deep_some (ws := ws) (ss := ss) (m := (i : Int)) (n := ws.length) (by omega)
    have hb : bst ws ss i = some z := hz
    have hzl := best_pathlen hz
    have hpr := prD_noRef (p := z)
    by_cases hle : z.1 ≤ most
    · simp (failIfUnchanged := false) (dsimp := false) only [pwA, ixL, setAll, wRev, wipe, isiOk, isTy, List.any_cons, List.any_nil, reduceCtorEq, if_true, if_false, List.getElem?_cons_zero, List.getElem?_cons_succ, List.getElem?_nil, List.set_cons_zero, List.set_cons_succ, List.length_cons, List.length_nil, List.map_cons, List.map_nil, List.cons_append, List.nil_append, List.replicate_succ, List.replicate_zero, Nat.reduceAdd, Nat.reduceSub, Nat.reduceMul, Nat.reduceLT, Nat.reduceLeDiff, Nat.reduceEqDiff, Int.reduceNeg, Int.reduceLT, Int.reduceLE, Int.reduceToNat, Int.reduceAdd, Int.reduceSub, Int.reduceMul, Int.reducePow, Int.reduceAbs, ↓reduceIte, ge_iff_le, gt_iff_lt, rowD, e0 i, hb, encB, prD, hle, List.length_cons]
      refine ⟨by unfold lim; decide, ?_⟩
      have hf : farD ws.length most (bst ws ss) = .tup [.int i, .int z.1, natsD z.2] := by
        unfold farD
        rw [find_first hi (by rw [hb]; simp [farP, hle]) hj]
        simp [hb]
      have hnr := far_noRef (n := ws.length) (most := most) (B := bst ws ss)
      rw [hf] at hnr ⊢
      exact ⟨_, deref_plain hnr, hnr, rfl⟩
    · simp (failIfUnchanged := false) (dsimp := false) only [pwA, ixL, setAll, wRev, wipe, isiOk, isTy, List.any_cons, List.any_nil, reduceCtorEq, if_true, if_false, List.getElem?_cons_zero, List.getElem?_cons_succ, List.getElem?_nil, List.set_cons_zero, List.set_cons_succ, List.length_cons, List.length_nil, List.map_cons, List.map_nil, List.cons_append, List.nil_append, List.replicate_succ, List.replicate_zero, Nat.reduceAdd, Nat.reduceSub, Nat.reduceMul, Nat.reduceLT, Nat.reduceLeDiff, Nat.reduceEqDiff, Int.reduceNeg, Int.reduceLT, Int.reduceLE, Int.reduceToNat, Int.reduceAdd, Int.reduceSub, Int.reduceMul, Int.reducePow, Int.reduceAbs, ↓reduceIte, ge_iff_le, gt_iff_lt, rowD, e0 i, hb, encB, prD, hle]
      refine ⟨_, _, rfl, fun j hj2 => ?_⟩
      by_cases hji : j = i
      · subst hji; rw [hb]; simp [farP, hle]
      · exact hj j (by omega)
  · rintro _ st ⟨o, p, rfl, hj⟩
    rw [rangeL_lenQ] at hj
    simp (failIfUnchanged := false) (dsimp := false) only [pwA, ixL, setAll, wRev, wipe, isiOk, isTy, List.any_cons, List.any_nil, reduceCtorEq, if_true, if_false, List.getElem?_cons_zero, List.getElem?_cons_succ, List.getElem?_nil, List.set_cons_zero, List.set_cons_succ, List.length_cons, List.length_nil, List.map_cons, List.map_nil, List.cons_append, List.nil_append, List.replicate_succ, List.replicate_zero, Nat.reduceAdd, Nat.reduceSub, Nat.reduceMul, Nat.reduceLT, Nat.reduceLeDiff, Nat.reduceEqDiff, Int.reduceNeg, Int.reduceLT, Int.reduceLE, Int.reduceToNat, Int.reduceAdd, Int.reduceSub, Int.reduceMul, Int.reducePow, Int.reduceAbs, ↓reduceIte, ge_iff_le, gt_iff_lt]
    have hf : farD ws.length most (bst ws ss) = .non := by
      unfold farD
      rw [find_none hj]
    rw [hf]
    exact ⟨_, deref_plain rfl, rfl, rfl⟩
theorem due_eq {k n : Nat} {most : Int} {ws ss : List Int} {st : Sto} (h : RowOk n ws ss) (hn : n ≤ 100) : pcall (callN pg0 FNS (k + 1)) 234 [.lst ((List.range ws.length).map fun far => encB (bst ws ss far)), .int most] st = some (farD ws.length most (bst ws ss)) := by
  have hl : (D.lst ((List.range ws.length).map fun far => encB (bst ws ss far))).noRef = true := by
    simp only [D.noRef, noRefL_all, List.all_map, List.all_eq_true]
    exact fun x _ => encB_noRef
  refine PW.eq ?_ (by simp only [List.all_cons, hl]; rfl)
  unfold PW
  have hw2 := h.l2
  rw [call_w a_L_due_k33 rfl]
  simp (failIfUnchanged := false) (dsimp := false) only [pwA, ixL, setAll, wRev, wipe, isiOk, isTy, List.any_cons, List.any_nil, reduceCtorEq, if_true, if_false, List.getElem?_cons_zero, List.getElem?_cons_succ, List.getElem?_nil, List.set_cons_zero, List.set_cons_succ, List.length_cons, List.length_nil, List.map_cons, List.map_nil, List.cons_append, List.nil_append, List.replicate_succ, List.replicate_zero, Nat.reduceAdd, Nat.reduceSub, Nat.reduceMul, Nat.reduceLT, Nat.reduceLeDiff, Nat.reduceEqDiff, Int.reduceNeg, Int.reduceLT, Int.reduceLE, Int.reduceToNat, Int.reduceAdd, Int.reduceSub, Int.reduceMul, Int.reducePow, Int.reduceAbs, ↓reduceIte, ge_iff_le, gt_iff_lt]
  refine wF_inv (fun i e s => ∃ x y z : Option D, e = [some (.lst ((List.range ws.length).map fun far => encB (bst ws ss far))), some (.int most), x, y, z] ∧ ∀ j, j < i → farP most (bst ws ss j) = false) ⟨_, _, _, rfl, fun j hj => by omega⟩ ?_ ?_
  · rintro i x _ st hx ⟨o, p, q, rfl, hj⟩
    rw [enumL_getQ, Nat.zero_add, List.getElem?_map, Option.map_map] at hx
    obtain ⟨i', hi', rfl⟩ := Option.map_eq_some_iff.mp hx
    have hi := (List.getElem?_eq_some_iff.mp hi').1
    rw [List.length_range] at hi
    rw [List.getElem?_range hi] at hi'
    cases hi'
    obtain ⟨z, hz⟩ := deep_some (ws := ws) (ss := ss) (m := (i : Int)) (n := ws.length) (by omega)
    have hb : bst ws ss i = some z := hz
    by_cases hle : z.1 ≤ most
    · simp (failIfUnchanged := false) (dsimp := false) only [pwA, ixL, setAll, wRev, wipe, isiOk, isTy, List.any_cons, List.any_nil, reduceCtorEq, if_true, if_false, List.getElem?_cons_zero, List.getElem?_cons_succ, List.getElem?_nil, List.set_cons_zero, List.set_cons_succ, List.length_cons, List.length_nil, List.map_cons, List.map_nil, List.cons_append, List.nil_append, List.replicate_succ, List.replicate_zero, Nat.reduceAdd, Nat.reduceSub, Nat.reduceMul, Nat.reduceLT, Nat.reduceLeDiff, Nat.reduceEqDiff, Int.reduceNeg, Int.reduceLT, Int.reduceLE, Int.reduceToNat, Int.reduceAdd, Int.reduceSub, Int.reduceMul, Int.reducePow, Int.reduceAbs, ↓reduceIte, ge_iff_le, gt_iff_lt, Function.comp, hb, encB, prD, hle]
      have hf : farD ws.length most (bst ws ss) = .tup [.int i, .int z.1, natsD z.2] := by
        unfold farD
        rw [find_first hi (by rw [hb]; simp [farP, hle]) hj]
        simp [hb]
      have hnr := far_noRef (n := ws.length) (most := most) (B := bst ws ss)
      rw [hf] at hnr ⊢
      exact ⟨_, deref_plain hnr, hnr, rfl⟩
    · simp (failIfUnchanged := false) (dsimp := false) only [pwA, ixL, setAll, wRev, wipe, isiOk, isTy, List.any_cons, List.any_nil, reduceCtorEq, if_true, if_false, List.getElem?_cons_zero, List.getElem?_cons_succ, List.getElem?_nil, List.set_cons_zero, List.set_cons_succ, List.length_cons, List.length_nil, List.map_cons, List.map_nil, List.cons_append, List.nil_append, List.replicate_succ, List.replicate_zero, Nat.reduceAdd, Nat.reduceSub, Nat.reduceMul, Nat.reduceLT, Nat.reduceLeDiff, Nat.reduceEqDiff, Int.reduceNeg, Int.reduceLT, Int.reduceLE, Int.reduceToNat, Int.reduceAdd, Int.reduceSub, Int.reduceMul, Int.reducePow, Int.reduceAbs, ↓reduceIte, ge_iff_le, gt_iff_lt, Function.comp, hb, encB, prD, hle]
      refine ⟨_, _, _, rfl, fun j hj2 => ?_⟩
      by_cases hji : j = i
      · subst hji; rw [hb]; simp [farP, hle]
      · exact hj j (by omega)
  · rintro _ st ⟨o, p, q, rfl, hj⟩
    rw [enumL_lenQ, List.length_map, List.length_range] at hj
    simp (failIfUnchanged := false) (dsimp := false) only [pwA, ixL, setAll, wRev, wipe, isiOk, isTy, List.any_cons, List.any_nil, reduceCtorEq, if_true, if_false, List.getElem?_cons_zero, List.getElem?_cons_succ, List.getElem?_nil, List.set_cons_zero, List.set_cons_succ, List.length_cons, List.length_nil, List.map_cons, List.map_nil, List.cons_append, List.nil_append, List.replicate_succ, List.replicate_zero, Nat.reduceAdd, Nat.reduceSub, Nat.reduceMul, Nat.reduceLT, Nat.reduceLeDiff, Nat.reduceEqDiff, Int.reduceNeg, Int.reduceLT, Int.reduceLE, Int.reduceToNat, Int.reduceAdd, Int.reduceSub, Int.reduceMul, Int.reducePow, Int.reduceAbs, ↓reduceIte, ge_iff_le, gt_iff_lt]
    have hf : farD ws.length most (bst ws ss) = .non := by
      unfold farD
      rw [find_none hj]
    rw [hf]
    exact ⟨_, deref_plain rfl, rfl, rfl⟩
theorem smB_far {n : Nat} {most : Int} {ws ss : List Int} (h : ws.length ≤ 1000) : smB 2 (farD ws.length most (bst ws ss)) = true := by
  unfold farD
  split
  · split
    · rename_i far _ _ p hp
      have := best_pathlen (show best _ _ 0 = some p from hp)
      have h2 := smB_nats (n := 0) (l := p.2) (by unfold lim; omega)
      simp only [smB, List.all_cons, List.all_nil, List.length_cons, List.length_nil]
      rw [show smB 1 (natsD p.2) = true from h2]; rfl
    · rfl
  · rfl
theorem bst30 (far : Nat) : bst W30 S29 far = ((tabC (edg W30 S29 (some (far : Int)) none) 30 30).head?).getD none := best_tab
theorem long1 : farD 30 1000000029 (bst W30 S29) = .tup [.int 29, .int 1000000029, natsD [0]] := by
  rw [show bst W30 S29 = fun far : Nat => ((tabC (edg W30 S29 (some (far : Int)) none) 30 30).head?).getD none from funext bst30]
  decide +kernel
theorem long2 : farD 30 2000000028 (bst W30 S29) = .tup [.int 14, .int 2000000028, natsD [0, 15]] := by
  rw [show bst W30 S29 = fun far : Nat => ((tabC (edg W30 S29 (some (far : Int)) none) 30 30).head?).getD none from funext bst30]
  decide +kernel
theorem l30 : W30.length = 30 := by decide
theorem x1 {k : Nat} {st : Sto} : pcall (callN pg0 FNS (k + 5)) 233 [rowD W30 S29, .int 1000000029] st = some (.tup [.int 29, .int 1000000029, natsD [0]]) := by
  rw [deep_for_eq row30 (by decide), l30, long1]
theorem x2 {k : Nat} {st : Sto} : pcall (callN pg0 FNS (k + 5)) 233 [rowD W30 S29, .int 2000000028] st = some (.tup [.int 14, .int 2000000028, natsD [0, 15]]) := by
  rw [deep_for_eq row30 (by decide), l30, long2]
theorem x3 {k : Nat} {st : Sto} : pcall (callN pg0 FNS (k + 5)) 27 [.lst [.tup [.int 29, .int 1000000029, natsD [0]], .tup [.int 14, .int 2000000028, natsD [0, 15]]], .lst [.tup [.int 29, .int 1000000029, .tup [.int 0]], .tup [.int 14, .int 2000000028, .tup [.int 0, .int 15]]]] st = some (.bl true) := same_eq 3 _ (k + 1) st (by decide)
theorem long_body (C : Call) (Q : D → Sto → Prop) (e1 : ∀ st, pcall C 233 [rowD W30 S29, .int 1000000029] st = some (.tup [.int 29, .int 1000000029, natsD [0]])) (e2 : ∀ st, pcall C 233 [rowD W30 S29, .int 2000000028] st = some (.tup [.int 14, .int 2000000028, natsD [0, 15]]))
    (e3 : ∀ st, pcall C 27 [.lst [.tup [.int 29, .int 1000000029, natsD [0]], .tup [.int 14, .int 2000000028, natsD [0, 15]]], .lst [.tup [.int 29, .int 1000000029, .tup [.int 0]], .tup [.int 14, .int 2000000028, .tup [.int 0, .int 15]]]] st = some (.bl true)) (hQ : Q (.bl true) []) :
    wSs pg0 C f_L_long_k33.body [none, none] [] (finQ Q) := by
  unfold f_L_long_k33
  refine wSs_cut (fun e s => e = [some (rowD W30 S29), none] ∧ s = []) ?_ ?_
  · simp (failIfUnchanged := false) (dsimp := false) only [pwA, ixL, setAll, wRev, wipe, isiOk, isTy, List.any_cons, List.any_nil, reduceCtorEq, if_true, if_false, List.getElem?_cons_zero, List.getElem?_cons_succ, List.getElem?_nil, List.set_cons_zero, List.set_cons_succ, List.length_cons, List.length_nil, List.map_cons, List.map_nil, List.cons_append, List.nil_append, List.replicate_succ, List.replicate_zero, Nat.reduceAdd, Nat.reduceSub, Nat.reduceMul, Nat.reduceLT, Nat.reduceLeDiff, Nat.reduceEqDiff, Int.reduceNeg, Int.reduceLT, Int.reduceLE, Int.reduceToNat, Int.reduceAdd, Int.reduceSub, Int.reduceMul, Int.reducePow, Int.reduceAbs, ↓reduceIte, ge_iff_le, gt_iff_lt]
    exact ⟨by decide, by decide, _, _, rfl, rfl, rfl⟩
  · rintro _ _ ⟨rfl, rfl⟩
    simp (failIfUnchanged := false) (dsimp := false) only [pwA, ixL, setAll, wRev, wipe, isiOk, isTy, List.any_cons, List.any_nil, reduceCtorEq, if_true, if_false, List.getElem?_cons_zero, List.getElem?_cons_succ, List.getElem?_nil, List.set_cons_zero, List.set_cons_succ, List.length_cons, List.length_nil, List.map_cons, List.map_nil, List.cons_append, List.nil_append, List.replicate_succ, List.replicate_zero, Nat.reduceAdd, Nat.reduceSub, Nat.reduceMul, Nat.reduceLT, Nat.reduceLeDiff, Nat.reduceEqDiff, Int.reduceNeg, Int.reduceLT, Int.reduceLE, Int.reduceToNat, Int.reduceAdd, Int.reduceSub, Int.reduceMul, Int.reducePow, Int.reduceAbs, ↓reduceIte, ge_iff_le, gt_iff_lt, e1, e2, e3]
    exact hQ
theorem callN_run {P : Pg} {fns : Nat → Option Fn} {k f : Nat} {F : Fn} {ds : List D} {st : Sto} (h : fns f = some F) : callN P fns (k + 1) f ds st = runFn P (callN P fns k) F ds st := by simp only [callN, h]
theorem run_w {P : Pg} {C : Call} {F : Fn} {ds : List D} {st : Sto} {Q : D → Sto → Prop} (hl : ds.length = F.np) : wR (runFn P C F ds st) Q = wSs P C F.body (ds.map some ++ List.replicate (F.ns - F.np) none) st (finQ Q) := by
  simp only [runFn, hl, if_true]
  unfold wSs
  cases exSs P C F.body (ds.map some ++ List.replicate (F.ns - F.np) none) st with
  | none => rfl
  | some o => cases o <;> rfl
theorem long_pc (C' C : Call) (hC : C' 235 [] [] = runFn pg0 C f_L_long_k33 [] []) (e1 : ∀ st, pcall C 233 [rowD W30 S29, .int 1000000029] st = some (.tup [.int 29, .int 1000000029, natsD [0]])) (e2 : ∀ st, pcall C 233 [rowD W30 S29, .int 2000000028] st = some (.tup [.int 14, .int 2000000028, natsD [0, 15]]))
    (e3 : ∀ st, pcall C 27 [.lst [.tup [.int 29, .int 1000000029, natsD [0]], .tup [.int 14, .int 2000000028, natsD [0, 15]]], .lst [.tup [.int 29, .int 1000000029, .tup [.int 0]], .tup [.int 14, .int 2000000028, .tup [.int 0, .int 15]]]] st = some (.bl true)) {st : Sto} : pcall C' 235 [] st = some (.bl true) := by
  refine PW.eq ?_ rfl
  unfold PW
  rw [hC, run_w rfl]
  exact long_body C _ e1 e2 e3 ⟨_, deref_plain rfl, rfl, rfl⟩
theorem long_eq {k : Nat} {st : Sto} : pcall (callN pg0 FNS (k + 6)) 235 [] st = some (.bl true) :=
  long_pc (callN pg0 FNS (k + 6)) (callN pg0 FNS (k + 5)) (callN_run (k := k + 5) a_L_long_k33) (fun _ => x1) (fun _ => x2) (fun _ => x3)
end Pm.K33

namespace Pm
open PySem (Str PyData)
theorem bounds_w {k r n : Nat} {ws ss : List Int} {st : Sto} {L : Lt} {Q : D → Sto → Prop} (h : RowOk n ws ss) (hn : n ≤ 100) (hs : st[r]? = some L.ob) (hc : L.c < 10000000000)
    (hq : ∀ (ns : List Int) (L' : Lt), ns.length = 7 → ns.Pairwise (· ≤ ·) → L'.c ≤ L.c + 12 → Q (.lst (ns.map D.int)) (st.set r L'.ob)) : wR (dcall (callN pg0 FNS (k + 3)) 229 [.ref r, rowD ws ss] st) Q := by
  have hw1 := h.l1; have hw2 := h.l2; have hw3 := h.ls
  refine DW.use (n0 := 10000000000) (N := 12) (R := fun v => ∃ ns : List Int, v = .lst (ns.map D.int) ∧ ns.length = 7 ∧ ns.Pairwise (· ≤ ·)) ?_ hs (by omega) ?_ (by simp [rowD_noRef])
  · intro L hL
    rw [call_w a_L_bounds_k32 rfl]
    have hne : ws ≠ [] := by intro e; subst e; simp at hw1
    obtain ⟨z, hz⟩ := minI_some hne
    have e1 : ∀ st, bicall .min false [.tup (ws.map D.int)] st = some (.int z, st) := fun st => f_minTI hz
    have e2 : ∀ st, bicall .max false [.tup (ws.map D.int)] st = some (.int (maxI ws), st) := fun st => f_maxTI hne
    simp (failIfUnchanged := false) (dsimp := false) only [pwA, ixL, setAll, wRev, wipe, isiOk, isTy, List.any_cons, List.any_nil, reduceCtorEq, if_true, if_false, List.getElem?_cons_zero, List.getElem?_cons_succ, List.getElem?_nil, List.set_cons_zero, List.set_cons_succ, List.length_cons, List.length_nil, List.map_cons, List.map_nil, List.cons_append, List.nil_append, List.replicate_succ, List.replicate_zero, Nat.reduceAdd, Nat.reduceSub, Nat.reduceMul, Nat.reduceLT, Nat.reduceLeDiff, Nat.reduceEqDiff, Int.reduceNeg, Int.reduceLT, Int.reduceLE, Int.reduceToNat, Int.reduceAdd, Int.reduceSub, Int.reduceMul, Int.reducePow, Int.reduceAbs, ↓reduceIte, ge_iff_le, gt_iff_lt, f_L_bounds_k32, ix_row0, ix_row1, List.length_map, e1, e2, f_sumT, rng1 (show (-1000000 : Int) ≤ 4 by omega) (show (4 : Int) ≤ 1000000 by omega)]
    refine wF_inv (fun i e s => ∃ (o4 o5 o6 o7 : Option D) (ns : List Int) (L' : Lt), e = [some (.ref 0), some (rowD ws ss), some (.int ws.length), some (.ref 1), o4, o5, o6, o7] ∧ s = [L'.ob, .lst (ns.map D.int)] ∧ ns.length = 3 + i ∧ L'.c ≤ L.c + 3 * i) ⟨_, _, _, _, [z - 1, maxI ws, ws.sum + ss.sum], L, rfl, rfl, rfl, by omega⟩ ?_ ?_
    · rintro i x _ _ hx ⟨o4, o5, o6, o7, ns, L1, rfl, rfl, hl, c1⟩
      obtain ⟨hi, rfl⟩ := rangeL0_some hx
      simp (failIfUnchanged := false) (dsimp := false) only [pwA, ixL, setAll, wRev, wipe, isiOk, isTy, List.any_cons, List.any_nil, reduceCtorEq, if_true, if_false, List.getElem?_cons_zero, List.getElem?_cons_succ, List.getElem?_nil, List.set_cons_zero, List.set_cons_succ, List.length_cons, List.length_nil, List.map_cons, List.map_nil, List.cons_append, List.nil_append, List.replicate_succ, List.replicate_zero, Nat.reduceAdd, Nat.reduceSub, Nat.reduceMul, Nat.reduceLT, Nat.reduceLeDiff, Nat.reduceEqDiff, Int.reduceNeg, Int.reduceLT, Int.reduceLE, Int.reduceToNat, Int.reduceAdd, Int.reduceSub, Int.reduceMul, Int.reducePow, Int.reduceAbs, ↓reduceIte, ge_iff_le, gt_iff_lt]
      refine pick_w rfl (by omega) (by omega) (by omega) fun d L2 d0 d1 c2 => ?_
      obtain ⟨b, rfl⟩ := Int.eq_ofNat_of_zero_le d0
      simp (failIfUnchanged := false) (dsimp := false) only [pwA, ixL, setAll, wRev, wipe, isiOk, isTy, List.any_cons, List.any_nil, reduceCtorEq, if_true, if_false, List.getElem?_cons_zero, List.getElem?_cons_succ, List.getElem?_nil, List.set_cons_zero, List.set_cons_succ, List.length_cons, List.length_nil, List.map_cons, List.map_nil, List.cons_append, List.nil_append, List.replicate_succ, List.replicate_zero, Nat.reduceAdd, Nat.reduceSub, Nat.reduceMul, Nat.reduceLT, Nat.reduceLeDiff, Nat.reduceEqDiff, Int.reduceNeg, Int.reduceLT, Int.reduceLE, Int.reduceToNat, Int.reduceAdd, Int.reduceSub, Int.reduceMul, Int.reducePow, Int.reduceAbs, ↓reduceIte, ge_iff_le, gt_iff_lt]
      refine pick_w rfl (by omega) (by omega) (by omega) fun d L3 d0 d1 c3 => ?_
      obtain ⟨d, rfl⟩ := Int.eq_ofNat_of_zero_le d0
      have e3 : ∀ st, pcall (callN pg0 FNS (k + 2)) 211 [rowD ws ss, .int b, .int ((b : Int) + 1 + (d : Int))] st = some (.int (strI ws ss b (b + 1 + d))) := fun st => by
        have := stretch_eq (k := k + 1) (e := b + 1 + d) (st := st) h (show b < ws.length by omega) (by omega)
        push_cast at this
        exact this
      simp (failIfUnchanged := false) (dsimp := false) only [pwA, ixL, setAll, wRev, wipe, isiOk, isTy, List.any_cons, List.any_nil, reduceCtorEq, if_true, if_false, List.getElem?_cons_zero, List.getElem?_cons_succ, List.getElem?_nil, List.set_cons_zero, List.set_cons_succ, List.length_cons, List.length_nil, List.map_cons, List.map_nil, List.cons_append, List.nil_append, List.replicate_succ, List.replicate_zero, Nat.reduceAdd, Nat.reduceSub, Nat.reduceMul, Nat.reduceLT, Nat.reduceLeDiff, Nat.reduceEqDiff, Int.reduceNeg, Int.reduceLT, Int.reduceLE, Int.reduceToNat, Int.reduceAdd, Int.reduceSub, Int.reduceMul, Int.reducePow, Int.reduceAbs, ↓reduceIte, ge_iff_le, gt_iff_lt, e3]
      refine pick_w rfl (by omega) (by omega) (by omega) fun d2 L4 d20 d21 c4 => ?_
      have hln : (ns.map D.int).length < lim := by rw [List.length_map]; unfold lim; omega
      simp (failIfUnchanged := false) (dsimp := false) only [pwA, ixL, setAll, wRev, wipe, isiOk, isTy, List.any_cons, List.any_nil, reduceCtorEq, if_true, if_false, List.getElem?_cons_zero, List.getElem?_cons_succ, List.getElem?_nil, List.set_cons_zero, List.set_cons_succ, List.length_cons, List.length_nil, List.map_cons, List.map_nil, List.cons_append, List.nil_append, List.replicate_succ, List.replicate_zero, Nat.reduceAdd, Nat.reduceSub, Nat.reduceMul, Nat.reduceLT, Nat.reduceLeDiff, Nat.reduceEqDiff, Int.reduceNeg, Int.reduceLT, Int.reduceLE, Int.reduceToNat, Int.reduceAdd, Int.reduceSub, Int.reduceMul, Int.reducePow, Int.reduceAbs, ↓reduceIte, ge_iff_le, gt_iff_lt, hln]
      refine ⟨_, _, _, _, ns ++ [strI ws ss b (b + 1 + d) + d2 - 1], L4, rfl, ?_, ?_, ?_⟩
      · rw [List.map_append]; rfl
      · simp; omega
      · omega
    · rintro _ _ ⟨o4, o5, o6, o7, ns, L1, rfl, rfl, hl, c1⟩
      rw [rangeL_lenQ] at hl c1
      simp (failIfUnchanged := false) (dsimp := false) only [pwA, ixL, setAll, wRev, wipe, isiOk, isTy, List.any_cons, List.any_nil, reduceCtorEq, if_true, if_false, List.getElem?_cons_zero, List.getElem?_cons_succ, List.getElem?_nil, List.set_cons_zero, List.set_cons_succ, List.length_cons, List.length_nil, List.map_cons, List.map_nil, List.cons_append, List.nil_append, List.replicate_succ, List.replicate_zero, Nat.reduceAdd, Nat.reduceSub, Nat.reduceMul, Nat.reduceLT, Nat.reduceLeDiff, Nat.reduceEqDiff, Int.reduceNeg, Int.reduceLT, Int.reduceLE, Int.reduceToNat, Int.reduceAdd, Int.reduceSub, Int.reduceMul, Int.reducePow, Int.reduceAbs, ↓reduceIte, ge_iff_le, gt_iff_lt, List.length_map, hl, chk_one]
      refine ⟨by unfold lim; omega, wC_map ns (fun x => .int x) (fun x => .int (if 0 < x then x else 0)) rfl (chk_one rfl) (fun x hx => ?_) ?_⟩
      · simp (failIfUnchanged := false) (dsimp := false) only [pwA, ixL, setAll, wRev, wipe, isiOk, isTy, List.any_cons, List.any_nil, reduceCtorEq, if_true, if_false, List.getElem?_cons_zero, List.getElem?_cons_succ, List.getElem?_nil, List.set_cons_zero, List.set_cons_succ, List.length_cons, List.length_nil, List.map_cons, List.map_nil, List.cons_append, List.nil_append, List.replicate_succ, List.replicate_zero, Nat.reduceAdd, Nat.reduceSub, Nat.reduceMul, Nat.reduceLT, Nat.reduceLeDiff, Nat.reduceEqDiff, Int.reduceNeg, Int.reduceLT, Int.reduceLE, Int.reduceToNat, Int.reduceAdd, Int.reduceSub, Int.reduceMul, Int.reducePow, Int.reduceAbs, ↓reduceIte, ge_iff_le, gt_iff_lt]
      · have e5 : ns.map (fun x => D.int (if 0 < x then x else 0)) = (ns.map fun x : Int => if 0 < x then x else 0).map D.int := by rw [List.map_map]; rfl
        rw [e5]
        generalize hns : (ns.map fun x : Int => if 0 < x then x else 0) = ms
        simp (failIfUnchanged := false) (dsimp := false) only [pwA, ixL, setAll, wRev, wipe, isiOk, isTy, List.any_cons, List.any_nil, reduceCtorEq, if_true, if_false, List.getElem?_cons_zero, List.getElem?_cons_succ, List.getElem?_nil, List.set_cons_zero, List.set_cons_succ, List.length_cons, List.length_nil, List.map_cons, List.map_nil, List.cons_append, List.nil_append, List.replicate_succ, List.replicate_zero, Nat.reduceAdd, Nat.reduceSub, Nat.reduceMul, Nat.reduceLT, Nat.reduceLeDiff, Nat.reduceEqDiff, Int.reduceNeg, Int.reduceLT, Int.reduceLE, Int.reduceToNat, Int.reduceAdd, Int.reduceSub, Int.reduceMul, Int.reducePow, Int.reduceAbs, ↓reduceIte, ge_iff_le, gt_iff_lt, f_sortI]
        have hnr : (D.lst ((sortI ms).map D.int)).noRef = true := by simp [D.noRef, noRefL_all]
        refine ⟨hnr, ⟨_, rfl, ?_, sortI_pair⟩, L1, [.lst (ns.map D.int)], rfl, by omega⟩
        rw [sortI_len, ← hns, List.length_map, hl]
  · rintro v L' _ ⟨ns, rfl, h1, h2⟩ hL
    exact hq ns L' h1 h2 hL
theorem edg_some {ws ss : List Int} {md mr : Option Int} {b e : Nat} {c : Int} (h : edg ws ss md mr b e = some c) : c = strI ws ss b e := by
  unfold edg at h
  split at h
  · exact (Option.some.inj h).symm
  · cases h
theorem edg_isSome {ws ss : List Int} {md mr : Option Int} {b e : Nat} : (edg ws ss md mr b e).isSome = okE ws ss md mr b e := by
  unfold edg
  split
  · rename_i h; simp [h]
  · rename_i h; simpa using h
theorem maxI_le_iff {l : List Int} {m : Int} (h : l ≠ []) : maxI l ≤ m ↔ ∀ x ∈ l, x ≤ m := ⟨fun g x hx => Int.le_trans (maxI_le x hx) g, fun g => g _ (maxI_mem h)⟩
theorem of_all_reads {k n : Nat} {m : Int} {ws ss : List Int} {st : Sto} (h : RowOk n ws ss) (hn : ws.length ≤ 9) : pcall (callN pg0 FNS (k + 2)) 230 [rowD ws ss, .int m] st = some (encB (best (edg ws ss none (some m)) ws.length 0)) := by
  have hw1 := h.l1; have hw2 := h.l2; have hw3 := h.ls
  refine PW.eq ?_ (by simp [rowD_noRef, D.noRef])
  unfold PW
  generalize hP : (fun ks : List Nat => decide (maxI ((segs ks ws.length).map fun p => strI ws ss p.1 p.2) ≤ m)) = P
  have hb : best (edg ws ss none (some m)) ws.length 0 = minO (((allK (ws.length - 1)).filter P).map fun ks => (segSum (strI ws ss) ws.length ks, ks)) := by
    refine all_best (fun b e c hc => edg_some hc) (by omega) fun ks hk => ?_
    obtain ⟨r, rfl⟩ := hk.head
    rw [← hP]
    simp only [decide_eq_true_eq]
    rw [maxI_le_iff (by simp [segs_ne])]
    simp only [List.mem_map, forall_exists_index, and_imp, forall_apply_eq_imp_iff₂, edg_isSome, okE, withinB, Bool.true_and, decide_eq_true_eq]
  have e0 : ∀ st, pcall (callN pg0 FNS (k + 1)) 224 [.int ws.length] st = some (.lst ((allK (ws.length - 1)).map natsD)) := fun st => all_kept_eq hw1 (by omega)
  have hal : (allK (ws.length - 1)).length ≤ 256 := by
    rw [allK_len]
    exact Nat.le_trans (Nat.pow_le_pow_right (by decide) (show ws.length - 1 ≤ 8 by omega)) (by decide)
  rw [call_w a_L_of_all_k32 rfl]
  simp (failIfUnchanged := false) (dsimp := false) only [pwA, ixL, setAll, wRev, wipe, isiOk, isTy, List.any_cons, List.any_nil, reduceCtorEq, if_true, if_false, List.getElem?_cons_zero, List.getElem?_cons_succ, List.getElem?_nil, List.set_cons_zero, List.set_cons_succ, List.length_cons, List.length_nil, List.map_cons, List.map_nil, List.cons_append, List.nil_append, List.replicate_succ, List.replicate_zero, Nat.reduceAdd, Nat.reduceSub, Nat.reduceMul, Nat.reduceLT, Nat.reduceLeDiff, Nat.reduceEqDiff, Int.reduceNeg, Int.reduceLT, Int.reduceLE, Int.reduceToNat, Int.reduceAdd, Int.reduceSub, Int.reduceMul, Int.reducePow, Int.reduceAbs, ↓reduceIte, ge_iff_le, gt_iff_lt, f_L_of_all_k32, ix_row0, List.length_map, e0]
  refine wF_inv (fun i e s => ∃ (o3 o4 o5 o6 o7 : Option D), e = [some (rowD ws ss), some (.int m), some (.ref 0), o3, o4, o5, o6, o7] ∧ s = [.lst (((((allK (ws.length - 1)).take i).filter P).map fun ks => (segSum (strI ws ss) ws.length ks, ks)).map prD)]) ⟨_, _, _, _, _, rfl, rfl⟩ ?_ ?_
  · rintro i x _ _ hx ⟨o3, o4, o5, o6, o7, rfl, rfl⟩
    rw [List.getElem?_map] at hx
    obtain ⟨ks, hks, rfl⟩ := Option.map_eq_some_iff.mp hx
    have hk := allK_mem.mp (List.mem_of_getElem? hks)
    rw [show ws.length - 1 + 1 = ws.length by omega] at hk
    have hkl := hk.len
    obtain ⟨a, ar⟩ := hk.head
    have hsl := segs_len (n := ws.length) (ks := ks)
    simp (failIfUnchanged := false) (dsimp := false) only [pwA, ixL, setAll, wRev, wipe, isiOk, isTy, List.any_cons, List.any_nil, reduceCtorEq, if_true, if_false, List.getElem?_cons_zero, List.getElem?_cons_succ, List.getElem?_nil, List.set_cons_zero, List.set_cons_succ, List.length_cons, List.length_nil, List.map_cons, List.map_nil, List.cons_append, List.nil_append, List.replicate_succ, List.replicate_zero, Nat.reduceAdd, Nat.reduceSub, Nat.reduceMul, Nat.reduceLT, Nat.reduceLeDiff, Nat.reduceEqDiff, Int.reduceNeg, Int.reduceLT, Int.reduceLE, Int.reduceToNat, Int.reduceAdd, Int.reduceSub, Int.reduceMul, Int.reducePow, Int.reduceAbs, ↓reduceIte, ge_iff_le, gt_iff_lt, natsD, cut_in (show (0 : Int) ≤ 1 by decide), ix_row0, List.length_map, List.length_append, List.length_drop, ends_zip]
    refine ⟨by unfold lim; omega, by unfold lim; omega, wC_map (segs ks ws.length) (fun p => .tup [.int p.1, .int p.2]) (fun p => .int (strI ws ss p.1 p.2)) rfl rfl (fun p hp => ?_) ?_⟩
    · obtain ⟨h1, h2, _⟩ := segs_mem hk.rise hp
      have e3 : ∀ st, pcall (callN pg0 FNS (k + 1)) 211 [rowD ws ss, .int p.1, .int p.2] st = some (.int (strI ws ss p.1 p.2)) := fun st => stretch_eq h (by omega) h1
      simp (failIfUnchanged := false) (dsimp := false) only [pwA, ixL, setAll, wRev, wipe, isiOk, isTy, List.any_cons, List.any_nil, reduceCtorEq, if_true, if_false, List.getElem?_cons_zero, List.getElem?_cons_succ, List.getElem?_nil, List.set_cons_zero, List.set_cons_succ, List.length_cons, List.length_nil, List.map_cons, List.map_nil, List.cons_append, List.nil_append, List.replicate_succ, List.replicate_zero, Nat.reduceAdd, Nat.reduceSub, Nat.reduceMul, Nat.reduceLT, Nat.reduceLeDiff, Nat.reduceEqDiff, Int.reduceNeg, Int.reduceLT, Int.reduceLE, Int.reduceToNat, Int.reduceAdd, Int.reduceSub, Int.reduceMul, Int.reducePow, Int.reduceAbs, ↓reduceIte, ge_iff_le, gt_iff_lt, e3]
    · have e5 : (segs ks ws.length).map (fun p => D.int (strI ws ss p.1 p.2)) = ((segs ks ws.length).map fun p => strI ws ss p.1 p.2).map D.int := by rw [List.map_map]; rfl
      have hne : ((segs ks ws.length).map fun p => strI ws ss p.1 p.2) ≠ [] := by rw [ar]; simp [segs_ne]
      have e6 : ∀ m st, bicall .max m [.lst (((segs ks ws.length).map fun p => strI ws ss p.1 p.2).map D.int)] st = some (.int (maxI ((segs ks ws.length).map fun p => strI ws ss p.1 p.2)), st) := fun m st => f_maxL hne
      have e7 : ∀ m st, bicall .sum m [.lst (((segs ks ws.length).map fun p => strI ws ss p.1 p.2).map D.int)] st = some (.int (segSum (strI ws ss) ws.length ks), st) := fun m st => f_sumLI
      rw [e5]
      simp (failIfUnchanged := false) (dsimp := false) only [pwA, ixL, setAll, wRev, wipe, isiOk, isTy, List.any_cons, List.any_nil, reduceCtorEq, if_true, if_false, List.getElem?_cons_zero, List.getElem?_cons_succ, List.getElem?_nil, List.set_cons_zero, List.set_cons_succ, List.length_cons, List.length_nil, List.map_cons, List.map_nil, List.cons_append, List.nil_append, List.replicate_succ, List.replicate_zero, Nat.reduceAdd, Nat.reduceSub, Nat.reduceMul, Nat.reduceLT, Nat.reduceLeDiff, Nat.reduceEqDiff, Int.reduceNeg, Int.reduceLT, Int.reduceLE, Int.reduceToNat, Int.reduceAdd, Int.reduceSub, Int.reduceMul, Int.reducePow, Int.reduceAbs, ↓reduceIte, ge_iff_le, gt_iff_lt, e6, e7]
      have hPk : P ks = decide (maxI ((segs ks ws.length).map fun p => strI ws ss p.1 p.2) ≤ m) := by rw [← hP]
      by_cases hle : maxI ((segs ks ws.length).map fun p => strI ws ss p.1 p.2) ≤ m
      · rw [decide_eq_true hle] at hPk
        simp (failIfUnchanged := false) (dsimp := false) only [pwA, ixL, setAll, wRev, wipe, isiOk, isTy, List.any_cons, List.any_nil, reduceCtorEq, if_true, if_false, List.getElem?_cons_zero, List.getElem?_cons_succ, List.getElem?_nil, List.set_cons_zero, List.set_cons_succ, List.length_cons, List.length_nil, List.map_cons, List.map_nil, List.cons_append, List.nil_append, List.replicate_succ, List.replicate_zero, Nat.reduceAdd, Nat.reduceSub, Nat.reduceMul, Nat.reduceLT, Nat.reduceLeDiff, Nat.reduceEqDiff, Int.reduceNeg, Int.reduceLT, Int.reduceLE, Int.reduceToNat, Int.reduceAdd, Int.reduceSub, Int.reduceMul, Int.reducePow, Int.reduceAbs, ↓reduceIte, ge_iff_le, gt_iff_lt, hle]
        have hll : (((((allK (ws.length - 1)).take i).filter P).map fun ks => (segSum (strI ws ss) ws.length ks, ks)).map prD).length < lim := by
          rw [List.length_map, List.length_map]
          have := List.length_filter_le P ((allK (ws.length - 1)).take i)
          rw [List.length_take] at this
          unfold lim; omega
        simp (failIfUnchanged := false) (dsimp := false) only [pwA, ixL, setAll, wRev, wipe, isiOk, isTy, List.any_cons, List.any_nil, reduceCtorEq, if_true, if_false, List.getElem?_cons_zero, List.getElem?_cons_succ, List.getElem?_nil, List.set_cons_zero, List.set_cons_succ, List.length_cons, List.length_nil, List.map_cons, List.map_nil, List.cons_append, List.nil_append, List.replicate_succ, List.replicate_zero, Nat.reduceAdd, Nat.reduceSub, Nat.reduceMul, Nat.reduceLT, Nat.reduceLeDiff, Nat.reduceEqDiff, Int.reduceNeg, Int.reduceLT, Int.reduceLE, Int.reduceToNat, Int.reduceAdd, Int.reduceSub, Int.reduceMul, Int.reducePow, Int.reduceAbs, ↓reduceIte, ge_iff_le, gt_iff_lt, hll]
        refine ⟨_, _, _, _, _, rfl, ?_⟩
        rw [take_get hks, List.filter_append, List.filter_cons, hPk]
        simp [prD, natsD]
      · rw [decide_eq_false hle] at hPk
        simp (failIfUnchanged := false) (dsimp := false) only [pwA, ixL, setAll, wRev, wipe, isiOk, isTy, List.any_cons, List.any_nil, reduceCtorEq, if_true, if_false, List.getElem?_cons_zero, List.getElem?_cons_succ, List.getElem?_nil, List.set_cons_zero, List.set_cons_succ, List.length_cons, List.length_nil, List.map_cons, List.map_nil, List.cons_append, List.nil_append, List.replicate_succ, List.replicate_zero, Nat.reduceAdd, Nat.reduceSub, Nat.reduceMul, Nat.reduceLT, Nat.reduceLeDiff, Nat.reduceEqDiff, Int.reduceNeg, Int.reduceLT, Int.reduceLE, Int.reduceToNat, Int.reduceAdd, Int.reduceSub, Int.reduceMul, Int.reducePow, Int.reduceAbs, ↓reduceIte, ge_iff_le, gt_iff_lt, hle]
        refine ⟨_, _, _, _, _, rfl, ?_⟩
        rw [take_get hks, List.filter_append, List.filter_cons, hPk]
        simp
  · rintro _ _ ⟨o3, o4, o5, o6, o7, rfl, rfl⟩
    rw [List.length_map, List.take_length]
    rw [hb]
    generalize ((allK (ws.length - 1)).filter P).map (fun ks => (segSum (strI ws ss) ws.length ks, ks)) = T
    have hpd : Pd 60 (.lst (T.map prD)) := (Pd.lst fun x hx => by
      obtain ⟨p, _, rfl⟩ := List.mem_map.mp hx
      exact pr_pd).mono (m := 3) (by decide)
    have e8 : cmpop .ne [.lst (T.map prD)] (.ref 0) (.lst []) = some (!(T.map prD).isEmpty) := c_neNilR rfl hpd
    cases T with
    | nil =>
      simp only [List.map_nil] at e8 ⊢
      simp (failIfUnchanged := false) (dsimp := false) only [pwA, ixL, setAll, wRev, wipe, isiOk, isTy, List.any_cons, List.any_nil, reduceCtorEq, if_true, if_false, List.getElem?_cons_zero, List.getElem?_cons_succ, List.getElem?_nil, List.set_cons_zero, List.set_cons_succ, List.length_cons, List.length_nil, List.map_cons, List.map_nil, List.cons_append, List.nil_append, List.replicate_succ, List.replicate_zero, Nat.reduceAdd, Nat.reduceSub, Nat.reduceMul, Nat.reduceLT, Nat.reduceLeDiff, Nat.reduceEqDiff, Int.reduceNeg, Int.reduceLT, Int.reduceLE, Int.reduceToNat, Int.reduceAdd, Int.reduceSub, Int.reduceMul, Int.reducePow, Int.reduceAbs, ↓reduceIte, ge_iff_le, gt_iff_lt, e8, List.isEmpty_nil]
      exact ⟨_, deref_plain rfl, rfl, rfl⟩
    | cons x l =>
      have e9 : ∀ m, bicall .min m [.ref 0] [.lst ((x :: l).map prD)] = some (prD (minP x l), [.lst ((x :: l).map prD)]) := fun m => f_minPR rfl rfl
      simp only [List.map_cons] at e8 e9 ⊢
      simp (failIfUnchanged := false) (dsimp := false) only [pwA, ixL, setAll, wRev, wipe, isiOk, isTy, List.any_cons, List.any_nil, reduceCtorEq, if_true, if_false, List.getElem?_cons_zero, List.getElem?_cons_succ, List.getElem?_nil, List.set_cons_zero, List.set_cons_succ, List.length_cons, List.length_nil, List.map_cons, List.map_nil, List.cons_append, List.nil_append, List.replicate_succ, List.replicate_zero, Nat.reduceAdd, Nat.reduceSub, Nat.reduceMul, Nat.reduceLT, Nat.reduceLeDiff, Nat.reduceEqDiff, Int.reduceNeg, Int.reduceLT, Int.reduceLE, Int.reduceToNat, Int.reduceAdd, Int.reduceSub, Int.reduceMul, Int.reducePow, Int.reduceAbs, ↓reduceIte, ge_iff_le, gt_iff_lt, e8, e9, List.isEmpty_cons]
      exact ⟨_, deref_plain prD_noRef, prD_noRef, rfl⟩
end Pm

namespace Pm.K31
open PySem (Str PyData)
theorem of_all_deep {k n : Nat} {m : Int} {ws ss : List Int} {st : Sto} (h : RowOk n ws ss) (hn : ws.length ≤ 9) (hm : 0 ≤ m) : pcall (callN pg0 FNS (k + 2)) 225 [rowD ws ss, .int m] st = some (encB (best (edg ws ss (some m) none) ws.length 0)) := by
  have hw1 := h.l1; have hw2 := h.l2; have hw3 := h.ls
  refine PW.eq ?_ (by simp [rowD_noRef, D.noRef])
  unfold PW
  generalize hP : (fun ks : List Nat => (segs ks ws.length).all fun p => decide ((p.2 : Int) - p.1 - 1 ≤ m)) = P
  have hb : best (edg ws ss (some m) none) ws.length 0 = minO (((allK (ws.length - 1)).filter P).map fun ks => (segSum (strI ws ss) ws.length ks, ks)) := by
    refine all_best (fun b e c hc => edg_some hc) (by omega) fun ks hk => ?_
    rw [← hP]
    simp only [List.all_eq_true, decide_eq_true_eq, edg_isSome, okE, withinB, Bool.and_true]
  have e0 : ∀ st, pcall (callN pg0 FNS (k + 1)) 224 [.int ws.length] st = some (.lst ((allK (ws.length - 1)).map natsD)) := fun st => all_kept_eq hw1 (by omega)
  have hal : (allK (ws.length - 1)).length ≤ 256 := by
    rw [allK_len]
    exact Nat.le_trans (Nat.pow_le_pow_right (by decide) (show ws.length - 1 ≤ 8 by omega)) (by decide)
  rw [call_w a_L_of_all_k31 rfl]
  simp (failIfUnchanged := false) (dsimp := false) only [pwA, ixL, setAll, wRev, wipe, isiOk, isTy, List.any_cons, List.any_nil, reduceCtorEq, if_true, if_false, List.getElem?_cons_zero, List.getElem?_cons_succ, List.getElem?_nil, List.set_cons_zero, List.set_cons_succ, List.length_cons, List.length_nil, List.map_cons, List.map_nil, List.cons_append, List.nil_append, List.replicate_succ, List.replicate_zero, Nat.reduceAdd, Nat.reduceSub, Nat.reduceMul, Nat.reduceLT, Nat.reduceLeDiff, Nat.reduceEqDiff, Int.reduceNeg, Int.reduceLT, Int.reduceLE, Int.reduceToNat, Int.reduceAdd, Int.reduceSub, Int.reduceMul, Int.reducePow, Int.reduceAbs, ↓reduceIte, ge_iff_le, gt_iff_lt, f_L_of_all_k31, ix_row0, List.length_map, e0]
  refine wF_inv (fun i e s => ∃ (o3 o4 o5 o6 o7 : Option D), e = [some (rowD ws ss), some (.int m), some (.ref 0), o3, o4, o5, o6, o7] ∧ s = [.lst (((((allK (ws.length - 1)).take i).filter P).map fun ks => (segSum (strI ws ss) ws.length ks, ks)).map prD)]) ⟨_, _, _, _, _, rfl, rfl⟩ ?_ ?_
  · rintro i x _ _ hx ⟨o3, o4, o5, o6, o7, rfl, rfl⟩
    rw [List.getElem?_map] at hx
    obtain ⟨ks, hks, rfl⟩ := Option.map_eq_some_iff.mp hx
    have hk := allK_mem.mp (List.mem_of_getElem? hks)
    rw [show ws.length - 1 + 1 = ws.length by omega] at hk
    have hkl := hk.len
    obtain ⟨a, ar⟩ := hk.head
    have hsl := segs_len (n := ws.length) (ks := ks)
    simp (failIfUnchanged := false) (dsimp := false) only [pwA, ixL, setAll, wRev, wipe, isiOk, isTy, List.any_cons, List.any_nil, reduceCtorEq, if_true, if_false, List.getElem?_cons_zero, List.getElem?_cons_succ, List.getElem?_nil, List.set_cons_zero, List.set_cons_succ, List.length_cons, List.length_nil, List.map_cons, List.map_nil, List.cons_append, List.nil_append, List.replicate_succ, List.replicate_zero, Nat.reduceAdd, Nat.reduceSub, Nat.reduceMul, Nat.reduceLT, Nat.reduceLeDiff, Nat.reduceEqDiff, Int.reduceNeg, Int.reduceLT, Int.reduceLE, Int.reduceToNat, Int.reduceAdd, Int.reduceSub, Int.reduceMul, Int.reducePow, Int.reduceAbs, ↓reduceIte, ge_iff_le, gt_iff_lt, natsD, cut_in (show (0 : Int) ≤ 1 by decide), ix_row0, List.length_map, List.length_append, List.length_drop, ends_zip]
    refine ⟨by unfold lim; omega, by unfold lim; omega, by unfold lim; omega, wC_map (segs ks ws.length) (fun p => .tup [.int p.1, .int p.2]) (fun p => .bl (decide ((p.2 : Int) - p.1 - 1 ≤ m))) rfl rfl (fun p hp => ?_) ?_⟩
    · simp (failIfUnchanged := false) (dsimp := false) only [pwA, ixL, setAll, wRev, wipe, isiOk, isTy, List.any_cons, List.any_nil, reduceCtorEq, if_true, if_false, List.getElem?_cons_zero, List.getElem?_cons_succ, List.getElem?_nil, List.set_cons_zero, List.set_cons_succ, List.length_cons, List.length_nil, List.map_cons, List.map_nil, List.cons_append, List.nil_append, List.replicate_succ, List.replicate_zero, Nat.reduceAdd, Nat.reduceSub, Nat.reduceMul, Nat.reduceLT, Nat.reduceLeDiff, Nat.reduceEqDiff, Int.reduceNeg, Int.reduceLT, Int.reduceLE, Int.reduceToNat, Int.reduceAdd, Int.reduceSub, Int.reduceMul, Int.reducePow, Int.reduceAbs, ↓reduceIte, ge_iff_le, gt_iff_lt]
    · have ea : ∀ m' st, bicall .all m' [.lst ((segs ks ws.length).map fun p => D.bl (decide ((p.2 : Int) - p.1 - 1 ≤ m)))] st = some (.bl (P ks), st) := fun m' st => by
        rw [← hP]
        simp only [bicall, lstOf, Option.bind_some, blsD_map, Option.map_some, List.all_map]
        rfl
      simp (failIfUnchanged := false) (dsimp := false) only [pwA, ixL, setAll, wRev, wipe, isiOk, isTy, List.any_cons, List.any_nil, reduceCtorEq, if_true, if_false, List.getElem?_cons_zero, List.getElem?_cons_succ, List.getElem?_nil, List.set_cons_zero, List.set_cons_succ, List.length_cons, List.length_nil, List.map_cons, List.map_nil, List.cons_append, List.nil_append, List.replicate_succ, List.replicate_zero, Nat.reduceAdd, Nat.reduceSub, Nat.reduceMul, Nat.reduceLT, Nat.reduceLeDiff, Nat.reduceEqDiff, Int.reduceNeg, Int.reduceLT, Int.reduceLE, Int.reduceToNat, Int.reduceAdd, Int.reduceSub, Int.reduceMul, Int.reducePow, Int.reduceAbs, ↓reduceIte, ge_iff_le, gt_iff_lt, ea]
      cases hPk : P ks with
      | true =>
        simp (failIfUnchanged := false) (dsimp := false) only [pwA, ixL, setAll, wRev, wipe, isiOk, isTy, List.any_cons, List.any_nil, reduceCtorEq, if_true, if_false, List.getElem?_cons_zero, List.getElem?_cons_succ, List.getElem?_nil, List.set_cons_zero, List.set_cons_succ, List.length_cons, List.length_nil, List.map_cons, List.map_nil, List.cons_append, List.nil_append, List.replicate_succ, List.replicate_zero, Nat.reduceAdd, Nat.reduceSub, Nat.reduceMul, Nat.reduceLT, Nat.reduceLeDiff, Nat.reduceEqDiff, Int.reduceNeg, Int.reduceLT, Int.reduceLE, Int.reduceToNat, Int.reduceAdd, Int.reduceSub, Int.reduceMul, Int.reducePow, Int.reduceAbs, ↓reduceIte, ge_iff_le, gt_iff_lt]
        refine ⟨by rw [List.length_map]; unfold lim; omega, wC_map (segs ks ws.length) (fun p => .tup [.int p.1, .int p.2]) (fun p => .int (strI ws ss p.1 p.2)) rfl rfl (fun p hp => ?_) ?_⟩
        · obtain ⟨h1, h2, _⟩ := segs_mem hk.rise hp
          have e3 : ∀ st, pcall (callN pg0 FNS (k + 1)) 211 [rowD ws ss, .int p.1, .int p.2] st = some (.int (strI ws ss p.1 p.2)) := fun st => stretch_eq h (by omega) h1
          simp (failIfUnchanged := false) (dsimp := false) only [pwA, ixL, setAll, wRev, wipe, isiOk, isTy, List.any_cons, List.any_nil, reduceCtorEq, if_true, if_false, List.getElem?_cons_zero, List.getElem?_cons_succ, List.getElem?_nil, List.set_cons_zero, List.set_cons_succ, List.length_cons, List.length_nil, List.map_cons, List.map_nil, List.cons_append, List.nil_append, List.replicate_succ, List.replicate_zero, Nat.reduceAdd, Nat.reduceSub, Nat.reduceMul, Nat.reduceLT, Nat.reduceLeDiff, Nat.reduceEqDiff, Int.reduceNeg, Int.reduceLT, Int.reduceLE, Int.reduceToNat, Int.reduceAdd, Int.reduceSub, Int.reduceMul, Int.reducePow, Int.reduceAbs, ↓reduceIte, ge_iff_le, gt_iff_lt, e3]
        · have e5 : (segs ks ws.length).map (fun p => D.int (strI ws ss p.1 p.2)) = ((segs ks ws.length).map fun p => strI ws ss p.1 p.2).map D.int := by rw [List.map_map]; rfl
          have e7 : ∀ m st, bicall .sum m [.lst (((segs ks ws.length).map fun p => strI ws ss p.1 p.2).map D.int)] st = some (.int (segSum (strI ws ss) ws.length ks), st) := fun m st => f_sumLI
          rw [e5]
          simp (failIfUnchanged := false) (dsimp := false) only [pwA, ixL, setAll, wRev, wipe, isiOk, isTy, List.any_cons, List.any_nil, reduceCtorEq, if_true, if_false, List.getElem?_cons_zero, List.getElem?_cons_succ, List.getElem?_nil, List.set_cons_zero, List.set_cons_succ, List.length_cons, List.length_nil, List.map_cons, List.map_nil, List.cons_append, List.nil_append, List.replicate_succ, List.replicate_zero, Nat.reduceAdd, Nat.reduceSub, Nat.reduceMul, Nat.reduceLT, Nat.reduceLeDiff, Nat.reduceEqDiff, Int.reduceNeg, Int.reduceLT, Int.reduceLE, Int.reduceToNat, Int.reduceAdd, Int.reduceSub, Int.reduceMul, Int.reducePow, Int.reduceAbs, ↓reduceIte, ge_iff_le, gt_iff_lt, e7]
          have hll : (((((allK (ws.length - 1)).take i).filter P).map fun ks => (segSum (strI ws ss) ws.length ks, ks)).map prD).length < lim := by
            rw [List.length_map, List.length_map]
            have := List.length_filter_le P ((allK (ws.length - 1)).take i)
            rw [List.length_take] at this
            unfold lim; omega
          simp (failIfUnchanged := false) (dsimp := false) only [pwA, ixL, setAll, wRev, wipe, isiOk, isTy, List.any_cons, List.any_nil, reduceCtorEq, if_true, if_false, List.getElem?_cons_zero, List.getElem?_cons_succ, List.getElem?_nil, List.set_cons_zero, List.set_cons_succ, List.length_cons, List.length_nil, List.map_cons, List.map_nil, List.cons_append, List.nil_append, List.replicate_succ, List.replicate_zero, Nat.reduceAdd, Nat.reduceSub, Nat.reduceMul, Nat.reduceLT, Nat.reduceLeDiff, Nat.reduceEqDiff, Int.reduceNeg, Int.reduceLT, Int.reduceLE, Int.reduceToNat, Int.reduceAdd, Int.reduceSub, Int.reduceMul, Int.reducePow, Int.reduceAbs, ↓reduceIte, ge_iff_le, gt_iff_lt, hll]
          refine ⟨_, _, _, _, _, rfl, ?_⟩
          rw [take_get hks, List.filter_append, List.filter_cons, hPk]
          simp [prD, natsD]
      | false =>
        simp (failIfUnchanged := false) (dsimp := false) only [pwA, ixL, setAll, wRev, wipe, isiOk, isTy, List.any_cons, List.any_nil, reduceCtorEq, if_true, if_false, List.getElem?_cons_zero, List.getElem?_cons_succ, List.getElem?_nil, List.set_cons_zero, List.set_cons_succ, List.length_cons, List.length_nil, List.map_cons, List.map_nil, List.cons_append, List.nil_append, List.replicate_succ, List.replicate_zero, Nat.reduceAdd, Nat.reduceSub, Nat.reduceMul, Nat.reduceLT, Nat.reduceLeDiff, Nat.reduceEqDiff, Int.reduceNeg, Int.reduceLT, Int.reduceLE, Int.reduceToNat, Int.reduceAdd, Int.reduceSub, Int.reduceMul, Int.reducePow, Int.reduceAbs, ↓reduceIte, ge_iff_le, gt_iff_lt]
        refine ⟨_, _, _, _, _, rfl, ?_⟩
        rw [take_get hks, List.filter_append, List.filter_cons, hPk]
        simp
  · rintro _ _ ⟨o3, o4, o5, o6, o7, rfl, rfl⟩
    rw [List.length_map, List.take_length]
    have hs : ∃ p, best (edg ws ss (some m) none) ws.length 0 = some p := deep_some hm
    rw [hb] at hs ⊢
    generalize ((allK (ws.length - 1)).filter P).map (fun ks => (segSum (strI ws ss) ws.length ks, ks)) = T at *
    cases T with
    | nil => obtain ⟨p, hp⟩ := hs; cases hp
    | cons x l =>
      have e9 : ∀ m, bicall .min m [.ref 0] [.lst ((x :: l).map prD)] = some (prD (minP x l), [.lst ((x :: l).map prD)]) := fun m => f_minPR rfl rfl
      simp only [List.map_cons] at e9 ⊢
      simp (failIfUnchanged := false) (dsimp := false) only [pwA, ixL, setAll, wRev, wipe, isiOk, isTy, List.any_cons, List.any_nil, reduceCtorEq, if_true, if_false, List.getElem?_cons_zero, List.getElem?_cons_succ, List.getElem?_nil, List.set_cons_zero, List.set_cons_succ, List.length_cons, List.length_nil, List.map_cons, List.map_nil, List.cons_append, List.nil_append, List.replicate_succ, List.replicate_zero, Nat.reduceAdd, Nat.reduceSub, Nat.reduceMul, Nat.reduceLT, Nat.reduceLeDiff, Nat.reduceEqDiff, Int.reduceNeg, Int.reduceLT, Int.reduceLE, Int.reduceToNat, Int.reduceAdd, Int.reduceSub, Int.reduceMul, Int.reducePow, Int.reduceAbs, ↓reduceIte, ge_iff_le, gt_iff_lt, e9]
      exact ⟨_, deref_plain prD_noRef, prD_noRef, rfl⟩
noncomputable def rB (ws ss : List Int) (m : Int) : Option Pt := best (edg ws ss (some m) none) ws.length 0
theorem rB_mono {ws ss : List Int} {m m' : Int} (h : m ≤ m') {p : Pt} (hp : rB ws ss m = some p) : ∃ p', rB ws ss m' = some p' ∧ p'.1 ≤ p.1 := best_mono (fun b e c hc => by
  unfold edg at hc ⊢
  split at hc
  · rename_i ho
    rw [if_pos, hc]
    simp only [okE, withinB, Bool.and_true, decide_eq_true_eq] at ho ⊢
    omega
  · cases hc) hp
theorem b30 (m : Int) : rB W30 S29 m = ((tabC (edg W30 S29 (some m) none) 30 30).head?).getD none := best_tab
theorem long1 : encB (rB W30 S29 29) = .tup [.int 1000000029, natsD [0]] := by
  rw [b30]; decide +kernel
theorem long2 : encB (rB W30 S29 28) = .tup [.int 2000000028, natsD [0, 1]] := by
  rw [b30]; decide +kernel
theorem x1 {k : Nat} {st : Sto} : pcall (callN pg0 FNS (k + 5)) 220 [rowD W30 S29, .int 29] st = some (.tup [.int 1000000029, natsD [0]]) := by
  rw [← long1]; exact within_deep_eq (k := k + 1) row30 (by decide)
theorem x2 {k : Nat} {st : Sto} : pcall (callN pg0 FNS (k + 5)) 220 [rowD W30 S29, .int 28] st = some (.tup [.int 2000000028, natsD [0, 1]]) := by
  rw [← long2]; exact within_deep_eq (k := k + 1) row30 (by decide)
theorem x3 {k : Nat} {st : Sto} : pcall (callN pg0 FNS (k + 5)) 27 [.lst [.tup [.int 1000000029, natsD [0]], .tup [.int 2000000028, natsD [0, 1]]], .lst [.tup [.int 1000000029, .tup [.int 0]], .tup [.int 2000000028, .tup [.int 0, .int 1]]]] st = some (.bl true) := same_eq 3 _ (k + 1) st (by decide)
theorem long_body (C : Call) (Q : D → Sto → Prop) (e1 : ∀ st, pcall C 220 [rowD W30 S29, .int 29] st = some (.tup [.int 1000000029, natsD [0]])) (e2 : ∀ st, pcall C 220 [rowD W30 S29, .int 28] st = some (.tup [.int 2000000028, natsD [0, 1]]))
    (e3 : ∀ st, pcall C 27 [.lst [.tup [.int 1000000029, natsD [0]], .tup [.int 2000000028, natsD [0, 1]]], .lst [.tup [.int 1000000029, .tup [.int 0]], .tup [.int 2000000028, .tup [.int 0, .int 1]]]] st = some (.bl true)) (hQ : Q (.bl true) []) :
    wSs pg0 C f_L_long_k31.body [none, none] [] (finQ Q) := by
  unfold f_L_long_k31
  refine wSs_cut (fun e s => e = [some (rowD W30 S29), none] ∧ s = []) ?_ ?_
  · simp (failIfUnchanged := false) (dsimp := false) only [pwA, ixL, setAll, wRev, wipe, isiOk, isTy, List.any_cons, List.any_nil, reduceCtorEq, if_true, if_false, List.getElem?_cons_zero, List.getElem?_cons_succ, List.getElem?_nil, List.set_cons_zero, List.set_cons_succ, List.length_cons, List.length_nil, List.map_cons, List.map_nil, List.cons_append, List.nil_append, List.replicate_succ, List.replicate_zero, Nat.reduceAdd, Nat.reduceSub, Nat.reduceMul, Nat.reduceLT, Nat.reduceLeDiff, Nat.reduceEqDiff, Int.reduceNeg, Int.reduceLT, Int.reduceLE, Int.reduceToNat, Int.reduceAdd, Int.reduceSub, Int.reduceMul, Int.reducePow, Int.reduceAbs, ↓reduceIte, ge_iff_le, gt_iff_lt]
    exact ⟨by decide, by decide, _, _, rfl, rfl, rfl⟩
  · rintro _ _ ⟨rfl, rfl⟩
    simp (failIfUnchanged := false) (dsimp := false) only [pwA, ixL, setAll, wRev, wipe, isiOk, isTy, List.any_cons, List.any_nil, reduceCtorEq, if_true, if_false, List.getElem?_cons_zero, List.getElem?_cons_succ, List.getElem?_nil, List.set_cons_zero, List.set_cons_succ, List.length_cons, List.length_nil, List.map_cons, List.map_nil, List.cons_append, List.nil_append, List.replicate_succ, List.replicate_zero, Nat.reduceAdd, Nat.reduceSub, Nat.reduceMul, Nat.reduceLT, Nat.reduceLeDiff, Nat.reduceEqDiff, Int.reduceNeg, Int.reduceLT, Int.reduceLE, Int.reduceToNat, Int.reduceAdd, Int.reduceSub, Int.reduceMul, Int.reducePow, Int.reduceAbs, ↓reduceIte, ge_iff_le, gt_iff_lt, e1, e2, e3]
    exact hQ
theorem long_pc (C' C : Call) (hC : C' 226 [] [] = runFn pg0 C f_L_long_k31 [] []) (e1 : ∀ st, pcall C 220 [rowD W30 S29, .int 29] st = some (.tup [.int 1000000029, natsD [0]])) (e2 : ∀ st, pcall C 220 [rowD W30 S29, .int 28] st = some (.tup [.int 2000000028, natsD [0, 1]]))
    (e3 : ∀ st, pcall C 27 [.lst [.tup [.int 1000000029, natsD [0]], .tup [.int 2000000028, natsD [0, 1]]], .lst [.tup [.int 1000000029, .tup [.int 0]], .tup [.int 2000000028, .tup [.int 0, .int 1]]]] st = some (.bl true)) {st : Sto} : pcall C' 226 [] st = some (.bl true) := by
  refine PW.eq ?_ rfl
  unfold PW
  rw [hC, K33.run_w rfl]
  exact long_body C _ e1 e2 e3 ⟨_, deref_plain rfl, rfl, rfl⟩
theorem long_eq {k : Nat} {st : Sto} : pcall (callN pg0 FNS (k + 6)) 226 [] st = some (.bl true) :=
  long_pc (callN pg0 FNS (k + 6)) (callN pg0 FNS (k + 5)) (K33.callN_run (k := k + 5) a_L_long_k31) (fun _ => x1) (fun _ => x2) (fun _ => x3)
theorem law (xs : List Int) (hx : xs.length ≤ 63) (k : Nat) : ∃ st, callN pg0 FNS (k + 9) 227 [.lst (xs.map D.int)] [] = some (.bl true, st) := by
  apply ex_of_wR
  have e7 : ∀ st, pcall (callN pg0 FNS (k + 8)) 226 [] st = some (.bl true) := fun st => long_eq (k := k + 2)
  rw [call_w a_law_k31 rfl]
  simp (failIfUnchanged := false) (dsimp := false) only [pwA, ixL, setAll, wRev, wipe, isiOk, isTy, List.any_cons, List.any_nil, reduceCtorEq, if_true, if_false, List.getElem?_cons_zero, List.getElem?_cons_succ, List.getElem?_nil, List.set_cons_zero, List.set_cons_succ, List.length_cons, List.length_nil, List.map_cons, List.map_nil, List.cons_append, List.nil_append, List.replicate_succ, List.replicate_zero, Nat.reduceAdd, Nat.reduceSub, Nat.reduceMul, Nat.reduceLT, Nat.reduceLeDiff, Nat.reduceEqDiff, Int.reduceNeg, Int.reduceLT, Int.reduceLE, Int.reduceToNat, Int.reduceAdd, Int.reduceSub, Int.reduceMul, Int.reducePow, Int.reduceAbs, ↓reduceIte, ge_iff_le, gt_iff_lt, f_law_k31, List.length_map, rng1 (show (-1000000 : Int) ≤ 1 + (if (xs.length : Int) < 4 then (xs.length : Int) else 4) by omega) (show 1 + (if (xs.length : Int) < 4 then (xs.length : Int) else 4) ≤ 1000000 by omega)]
  refine wF_inv (fun i e s => ∃ o1 o2 o3 o4 o5 o6 o7 o8 o9 : Option D, e = [some (.lst (xs.map D.int)), o1, o2, o3, o4, o5, o6, o7, o8, o9]) ⟨_, _, _, _, _, _, _, _, _, rfl⟩ ?_ ?_
  · rintro i x _ st hi ⟨o1, o2, o3, o4, o5, o6, o7, o8, o9, rfl⟩
    obtain ⟨hi, rfl⟩ := rangeL0_some hi
    simp (failIfUnchanged := false) (dsimp := false) only [pwA, ixL, setAll, wRev, wipe, isiOk, isTy, List.any_cons, List.any_nil, reduceCtorEq, if_true, if_false, List.getElem?_cons_zero, List.getElem?_cons_succ, List.getElem?_nil, List.set_cons_zero, List.set_cons_succ, List.length_cons, List.length_nil, List.map_cons, List.map_nil, List.cons_append, List.nil_append, List.replicate_succ, List.replicate_zero, Nat.reduceAdd, Nat.reduceSub, Nat.reduceMul, Nat.reduceLT, Nat.reduceLeDiff, Nat.reduceEqDiff, Int.reduceNeg, Int.reduceLT, Int.reduceLE, Int.reduceToNat, Int.reduceAdd, Int.reduceSub, Int.reduceMul, Int.reducePow, Int.reduceAbs, ↓reduceIte, ge_iff_le, gt_iff_lt]
    refine left_w (by omega) fun L hL => ?_
    simp (failIfUnchanged := false) (dsimp := false) only [pwA, ixL, setAll, wRev, wipe, isiOk, isTy, List.any_cons, List.any_nil, reduceCtorEq, if_true, if_false, List.getElem?_cons_zero, List.getElem?_cons_succ, List.getElem?_nil, List.set_cons_zero, List.set_cons_succ, List.length_cons, List.length_nil, List.map_cons, List.map_nil, List.cons_append, List.nil_append, List.replicate_succ, List.replicate_zero, Nat.reduceAdd, Nat.reduceSub, Nat.reduceMul, Nat.reduceLT, Nat.reduceLeDiff, Nat.reduceEqDiff, Int.reduceNeg, Int.reduceLT, Int.reduceLE, Int.reduceToNat, Int.reduceAdd, Int.reduceSub, Int.reduceMul, Int.reducePow, Int.reduceAbs, ↓reduceIte, ge_iff_le, gt_iff_lt]
    refine row_w (by omega) (by omega) at_end (by omega) fun ws ss L1 hR hL1 => ?_
    have hw1 := hR.l1; have hw2 := hR.l2; have hw3 := hR.ls
    obtain ⟨t, ht⟩ := (Sz.row hR (by decide)).bistr (st := []) (q := false) (by decide) (by decide)
    rw [set_end]
    have e1 : ∀ (m : Int) st, pcall (callN pg0 FNS (k + 8)) 223 [rowD ws ss, .tup [.int m, .non]] st = some (encB (rB ws ss m)) := fun m st => l_best_eq (md := some m) (mr := none) hR (by decide)
    have e2 : ∀ (m : Int) st, pcall (callN pg0 FNS (k + 8)) 220 [rowD ws ss, .int m] st = some (encB (rB ws ss m)) := fun m st => within_deep_eq hR (by decide)
    have e3 : ∀ (m : Int) st, pcall (callN pg0 FNS (k + 8)) 27 [encB (rB ws ss m), encB (rB ws ss m)] st = some (.bl true) := fun m st => same_eq 2 _ (k + 5) st (smB_enc (by omega))
    have e4 : ws.length < 9 → ∀ (m : Int) st, 0 ≤ m → pcall (callN pg0 FNS (k + 8)) 225 [rowD ws ss, .int m] st = some (encB (rB ws ss m)) := fun h9 m st hm => of_all_deep hR (by omega) hm
    simp (failIfUnchanged := false) (dsimp := false) only [pwA, ixL, setAll, wRev, wipe, isiOk, isTy, List.any_cons, List.any_nil, reduceCtorEq, if_true, if_false, List.getElem?_cons_zero, List.getElem?_cons_succ, List.getElem?_nil, List.set_cons_zero, List.set_cons_succ, List.length_cons, List.length_nil, List.map_cons, List.map_nil, List.cons_append, List.nil_append, List.replicate_succ, List.replicate_zero, Nat.reduceAdd, Nat.reduceSub, Nat.reduceMul, Nat.reduceLT, Nat.reduceLeDiff, Nat.reduceEqDiff, Int.reduceNeg, Int.reduceLT, Int.reduceLE, Int.reduceToNat, Int.reduceAdd, Int.reduceSub, Int.reduceMul, Int.reducePow, Int.reduceAbs, ↓reduceIte, ge_iff_le, gt_iff_lt, ht, ix_row0, List.length_map]
    refine pick_w at_end (by omega) (by omega) (by omega) fun d L2 d0 d1 c2 => ?_
    rw [set_end]
    generalize hns : sortI [0, 1, 2, d, (ws.length : Int) - 1, (ws.length : Int) + 5] = ns
    have hns1 : ns.Pairwise (· ≤ ·) := by rw [← hns]; exact sortI_pair
    have hns0 : ∀ x ∈ ns, 0 ≤ x := fun x hx => by
      rw [← hns] at hx
      have := sortI_perm.mem_iff.mp hx
      simp only [List.mem_cons, List.not_mem_nil, or_false] at this
      omega
    have es : ∀ st, bicall .sorted false [.lst [.int 0, .int 1, .int 2, .int d, .int ((ws.length : Int) - 1), .int ((ws.length : Int) + 5)]] st = some (.lst (ns.map D.int), st) := fun st => by
      rw [← hns]; exact f_sortI (l := [0, 1, 2, d, (ws.length : Int) - 1, (ws.length : Int) + 5])
    simp (failIfUnchanged := false) (dsimp := false) only [pwA, ixL, setAll, wRev, wipe, isiOk, isTy, List.any_cons, List.any_nil, reduceCtorEq, if_true, if_false, List.getElem?_cons_zero, List.getElem?_cons_succ, List.getElem?_nil, List.set_cons_zero, List.set_cons_succ, List.length_cons, List.length_nil, List.map_cons, List.map_nil, List.cons_append, List.nil_append, List.replicate_succ, List.replicate_zero, Nat.reduceAdd, Nat.reduceSub, Nat.reduceMul, Nat.reduceLT, Nat.reduceLeDiff, Nat.reduceEqDiff, Int.reduceNeg, Int.reduceLT, Int.reduceLE, Int.reduceToNat, Int.reduceAdd, Int.reduceSub, Int.reduceMul, Int.reducePow, Int.reduceAbs, ↓reduceIte, ge_iff_le, gt_iff_lt, es]
    refine wF_inv (fun j e s => ∃ (o7 o8 o9 : Option D) (ah : D), e = [some (.lst (xs.map D.int)), some (.int i), some (.ref st.length), some (rowD ws ss), some (.int ws.length), some (.str t), some ah, o7, o8, o9] ∧ (ah = .non ∨ ∃ (q : Nat) (m : Int) (p : Pt), q < j ∧ ns[q]? = some m ∧ rB ws ss m = some p ∧ ah = .int p.1)) ⟨_, _, _, _, rfl, .inl rfl⟩ ?_ ?_
    · rintro j x _ st2 hj ⟨o7, o8, o9, ah, rfl, hah⟩
      rw [List.getElem?_map] at hj
      obtain ⟨m, hm, rfl⟩ := Option.map_eq_some_iff.mp hj
      have hm0 := hns0 m (List.mem_of_getElem? hm)
      have hmono : ∀ (q : Nat) (m' : Int) (p : Pt), q < j → ns[q]? = some m' → rB ws ss m' = some p → ∃ p', rB ws ss m = some p' ∧ p'.1 ≤ p.1 := fun q m' p hq h1 h2 => by
        refine rB_mono ?_ h2
        obtain ⟨l1, g1⟩ := List.getElem?_eq_some_iff.mp h1
        obtain ⟨l2, g2⟩ := List.getElem?_eq_some_iff.mp hm
        have := List.pairwise_iff_getElem.mp hns1 q j l1 l2 hq
        rw [g1, g2] at this; exact this
      simp (failIfUnchanged := false) (dsimp := false) only [pwA, ixL, setAll, wRev, wipe, isiOk, isTy, List.any_cons, List.any_nil, reduceCtorEq, if_true, if_false, List.getElem?_cons_zero, List.getElem?_cons_succ, List.getElem?_nil, List.set_cons_zero, List.set_cons_succ, List.length_cons, List.length_nil, List.map_cons, List.map_nil, List.cons_append, List.nil_append, List.replicate_succ, List.replicate_zero, Nat.reduceAdd, Nat.reduceSub, Nat.reduceMul, Nat.reduceLT, Nat.reduceLeDiff, Nat.reduceEqDiff, Int.reduceNeg, Int.reduceLT, Int.reduceLE, Int.reduceToNat, Int.reduceAdd, Int.reduceSub, Int.reduceMul, Int.reducePow, Int.reduceAbs, ↓reduceIte, ge_iff_le, gt_iff_lt, e1, rng1 (show (-1000000 : Int) ≤ 2 by omega) (show (2 : Int) ≤ 1000000 by omega)]
      refine wF_inv (fun j' e s => ∃ o9 : Option D, e = [some (.lst (xs.map D.int)), some (.int i), some (.ref st.length), some (rowD ws ss), some (.int ws.length), some (.str t), some ah, some (.int m), some (encB (rB ws ss m)), o9]) ⟨_, rfl⟩ ?_ ?_
      · rintro j' x _ st3 hj' ⟨o9, rfl⟩
        simp (failIfUnchanged := false) (dsimp := false) only [pwA, ixL, setAll, wRev, wipe, isiOk, isTy, List.any_cons, List.any_nil, reduceCtorEq, if_true, if_false, List.getElem?_cons_zero, List.getElem?_cons_succ, List.getElem?_nil, List.set_cons_zero, List.set_cons_succ, List.length_cons, List.length_nil, List.map_cons, List.map_nil, List.cons_append, List.nil_append, List.replicate_succ, List.replicate_zero, Nat.reduceAdd, Nat.reduceSub, Nat.reduceMul, Nat.reduceLT, Nat.reduceLeDiff, Nat.reduceEqDiff, Int.reduceNeg, Int.reduceLT, Int.reduceLE, Int.reduceToNat, Int.reduceAdd, Int.reduceSub, Int.reduceMul, Int.reducePow, Int.reduceAbs, ↓reduceIte, ge_iff_le, gt_iff_lt, e2, e3]
        exact ⟨_, rfl⟩
      rintro _ st3 ⟨p9, rfl⟩
      have hn1 : ∀ (p : Pt) st, cmpop .ne st (.tup [.int p.1, natsD p.2]) (.tup [.int p.1, natsD p.2]) = some false := fun p st => (pr_pd (p := p)).cne (by decide)
      have e5 : ws.length < 9 → ∀ st v, encB (rB ws ss m) = v → pcall (callN pg0 FNS (k + 8)) 225 [rowD ws ss, .int m] st = some v := fun h9 st v hv => by rw [e4 h9 m st hm0, hv]
      generalize callN pg0 FNS (k + 8) = C at *
      obtain ⟨p, hr⟩ : ∃ p, rB ws ss m = some p := deep_some hm0
      have e6 : ws.length < 9 → ∀ st, pcall C 225 [rowD ws ss, .int m] st = some (.tup [.int p.1, natsD p.2]) := fun h9 st => e5 h9 st _ (by rw [hr]; rfl)
      rcases hah with rfl | ⟨q, m', p2, hq, hm', hp, rfl⟩
      · rw [hr]
        by_cases h9 : ws.length < 9
        · simp (failIfUnchanged := false) (dsimp := false) only [pwA, ixL, setAll, wRev, wipe, isiOk, isTy, List.any_cons, List.any_nil, reduceCtorEq, if_true, if_false, List.getElem?_cons_zero, List.getElem?_cons_succ, List.getElem?_nil, List.set_cons_zero, List.set_cons_succ, List.length_cons, List.length_nil, List.map_cons, List.map_nil, List.cons_append, List.nil_append, List.replicate_succ, List.replicate_zero, Nat.reduceAdd, Nat.reduceSub, Nat.reduceMul, Nat.reduceLT, Nat.reduceLeDiff, Nat.reduceEqDiff, Int.reduceNeg, Int.reduceLT, Int.reduceLE, Int.reduceToNat, Int.reduceAdd, Int.reduceSub, Int.reduceMul, Int.reducePow, Int.reduceAbs, ↓reduceIte, ge_iff_le, gt_iff_lt, show (ws.length : Int) < 9 by omega, e6 h9, hn1, encB, prD, ixL]
          exact ⟨_, _, _, _, rfl, .inr ⟨j, m, p, by omega, hm, hr, rfl⟩⟩
        · simp (failIfUnchanged := false) (dsimp := false) only [pwA, ixL, setAll, wRev, wipe, isiOk, isTy, List.any_cons, List.any_nil, reduceCtorEq, if_true, if_false, List.getElem?_cons_zero, List.getElem?_cons_succ, List.getElem?_nil, List.set_cons_zero, List.set_cons_succ, List.length_cons, List.length_nil, List.map_cons, List.map_nil, List.cons_append, List.nil_append, List.replicate_succ, List.replicate_zero, Nat.reduceAdd, Nat.reduceSub, Nat.reduceMul, Nat.reduceLT, Nat.reduceLeDiff, Nat.reduceEqDiff, Int.reduceNeg, Int.reduceLT, Int.reduceLE, Int.reduceToNat, Int.reduceAdd, Int.reduceSub, Int.reduceMul, Int.reducePow, Int.reduceAbs, ↓reduceIte, ge_iff_le, gt_iff_lt, show ¬ (ws.length : Int) < 9 by omega, encB, prD, ixL]
          exact ⟨_, _, _, _, rfl, .inr ⟨j, m, p, by omega, hm, hr, rfl⟩⟩
      · obtain ⟨p', h1, h2⟩ := hmono q m' p2 hq hm' hp
        rw [hr] at h1; cases h1
        rw [hr]
        by_cases h9 : ws.length < 9
        · simp (failIfUnchanged := false) (dsimp := false) only [pwA, ixL, setAll, wRev, wipe, isiOk, isTy, List.any_cons, List.any_nil, reduceCtorEq, if_true, if_false, List.getElem?_cons_zero, List.getElem?_cons_succ, List.getElem?_nil, List.set_cons_zero, List.set_cons_succ, List.length_cons, List.length_nil, List.map_cons, List.map_nil, List.cons_append, List.nil_append, List.replicate_succ, List.replicate_zero, Nat.reduceAdd, Nat.reduceSub, Nat.reduceMul, Nat.reduceLT, Nat.reduceLeDiff, Nat.reduceEqDiff, Int.reduceNeg, Int.reduceLT, Int.reduceLE, Int.reduceToNat, Int.reduceAdd, Int.reduceSub, Int.reduceMul, Int.reducePow, Int.reduceAbs, ↓reduceIte, ge_iff_le, gt_iff_lt, show (ws.length : Int) < 9 by omega, e6 h9, hn1, encB, prD, ixL, show ¬ p2.1 < p.1 by omega]
          exact ⟨_, _, _, _, rfl, .inr ⟨j, m, p, by omega, hm, hr, rfl⟩⟩
        · simp (failIfUnchanged := false) (dsimp := false) only [pwA, ixL, setAll, wRev, wipe, isiOk, isTy, List.any_cons, List.any_nil, reduceCtorEq, if_true, if_false, List.getElem?_cons_zero, List.getElem?_cons_succ, List.getElem?_nil, List.set_cons_zero, List.set_cons_succ, List.length_cons, List.length_nil, List.map_cons, List.map_nil, List.cons_append, List.nil_append, List.replicate_succ, List.replicate_zero, Nat.reduceAdd, Nat.reduceSub, Nat.reduceMul, Nat.reduceLT, Nat.reduceLeDiff, Nat.reduceEqDiff, Int.reduceNeg, Int.reduceLT, Int.reduceLE, Int.reduceToNat, Int.reduceAdd, Int.reduceSub, Int.reduceMul, Int.reducePow, Int.reduceAbs, ↓reduceIte, ge_iff_le, gt_iff_lt, show ¬ (ws.length : Int) < 9 by omega, encB, prD, ixL, show ¬ p2.1 < p.1 by omega]
          exact ⟨_, _, _, _, rfl, .inr ⟨j, m, p, by omega, hm, hr, rfl⟩⟩
    rintro _ st3 ⟨o7, o8, o9, ah, rfl, _⟩
    simp (failIfUnchanged := false) (dsimp := false) only [pwA, ixL, setAll, wRev, wipe, isiOk, isTy, List.any_cons, List.any_nil, reduceCtorEq, if_true, if_false, List.getElem?_cons_zero, List.getElem?_cons_succ, List.getElem?_nil, List.set_cons_zero, List.set_cons_succ, List.length_cons, List.length_nil, List.map_cons, List.map_nil, List.cons_append, List.nil_append, List.replicate_succ, List.replicate_zero, Nat.reduceAdd, Nat.reduceSub, Nat.reduceMul, Nat.reduceLT, Nat.reduceLeDiff, Nat.reduceEqDiff, Int.reduceNeg, Int.reduceLT, Int.reduceLE, Int.reduceToNat, Int.reduceAdd, Int.reduceSub, Int.reduceMul, Int.reducePow, Int.reduceAbs, ↓reduceIte, ge_iff_le, gt_iff_lt, ht, BEq.rfl]
    exact ⟨_, _, _, _, _, _, _, _, _, rfl⟩
  · generalize callN pg0 FNS (k + 8) = C at e7 ⊢
    rintro _ st ⟨o1, o2, o3, o4, o5, o6, o7, o8, o9, rfl⟩
    simp (failIfUnchanged := false) (dsimp := false) only [pwA, ixL, setAll, wRev, wipe, isiOk, isTy, List.any_cons, List.any_nil, reduceCtorEq, if_true, if_false, List.getElem?_cons_zero, List.getElem?_cons_succ, List.getElem?_nil, List.set_cons_zero, List.set_cons_succ, List.length_cons, List.length_nil, List.map_cons, List.map_nil, List.cons_append, List.nil_append, List.replicate_succ, List.replicate_zero, Nat.reduceAdd, Nat.reduceSub, Nat.reduceMul, Nat.reduceLT, Nat.reduceLeDiff, Nat.reduceEqDiff, Int.reduceNeg, Int.reduceLT, Int.reduceLE, Int.reduceToNat, Int.reduceAdd, Int.reduceSub, Int.reduceMul, Int.reducePow, Int.reduceAbs, ↓reduceIte, ge_iff_le, gt_iff_lt, e7]
end Pm.K31

namespace Pm.K31
open PySem PySem.Spec L2
def top (i : Nat) : Stmt := PySem.Challenge.pw_keepwhole_k31_within_so_deep.main.body.getD i (.Pass ⟨0, 0, 0, 0⟩)
/-- 217: is_within -/
def d0 : Df := ⟨"is_within", ["number", "most"], ["number", "most"], defArgs (top 1), defBody (top 1), defScope (top 1)⟩
/-- 218: stretches_on -/
def d1 : Df := ⟨"stretches_on", ["row", "begin", "most_deep", "most_read"], ["row", "begin", "most_deep", "most_read", "wholes", "steps", "found", "size", "place"], defArgs (top 2), defBody (top 2), defScope (top 2)⟩
/-- 219: best_from -/
def d2 : Df := ⟨"best_from", ["row", "most_deep", "most_read"], ["row", "most_deep", "most_read", "many", "best", "begin", "some", "place", "size"], defArgs (top 3), defBody (top 3), defScope (top 3)⟩
/-- 220: within_deep -/
def d3 : Df := ⟨"within_deep", ["row", "most"], ["row", "most"], defArgs (top 4), defBody (top 4), defScope (top 4)⟩
/-- 5: _law_mix -/
def d4 : Df := ⟨"_law_mix", ["_law_cell", "_law_k"], ["_law_cell", "_law_k", "_law_m"], defArgs (top 6), defBody (top 6), defScope (top 6)⟩
/-- 6: _law_left -/
def d5 : Df := ⟨"_law_left", ["_law_script", "_law_k"], ["_law_script", "_law_k", "_law_cell"], defArgs (top 7), defBody (top 7), defScope (top 7)⟩
/-- 7: _law_pick -/
def d6 : Df := ⟨"_law_pick", ["_law_left_here", "_law_many"], ["_law_left_here", "_law_many", "_law_digit"], defArgs (top 8), defBody (top 8), defScope (top 8)⟩
/-- 57: _law_size -/
def d7 : Df := ⟨"_law_size", ["_law_left_here", "_law_great"], ["_law_left_here", "_law_great", "_law_way_drawn"], defArgs (top 9), defBody (top 9), defScope (top 9)⟩
/-- 205: _law_row -/
def d8 : Df := ⟨"_law_row", ["_law_left_here", "_law_most"], ["_law_left_here", "_law_most", "_law_many", "_law_great", "_law_wholes", "_law_k"], defArgs (top 10), defBody (top 10), defScope (top 10)⟩
/-- 27: _law_same -/
def d9 : Df := ⟨"_law_same", ["_law_found", "_law_due"], ["_law_found", "_law_due", "_law_one", "_law_other"], defArgs (top 11), defBody (top 11), defScope (top 11)⟩
/-- 211: _law_stretch -/
def d10 : Df := ⟨"_law_stretch", ["_law_row_here", "_law_begin", "_law_end"], ["_law_row_here", "_law_begin", "_law_end"], defArgs (top 12), defBody (top 12), defScope (top 12)⟩
/-- 221: _law_may -/
def d11 : Df := ⟨"_law_may", ["_law_row_here", "_law_begin", "_law_end", "_law_may_here"], ["_law_row_here", "_law_begin", "_law_end", "_law_may_here"], defArgs (top 13), defBody (top 13), defScope (top 13)⟩
/-- 222: _law_ends -/
def d12 : Df := ⟨"_law_ends", ["_law_row_here", "_law_rooms", "_law_begin", "_law_may_here"], ["_law_row_here", "_law_rooms", "_law_begin", "_law_may_here", "_law_some", "_law_end"], defArgs (top 14), defBody (top 14), defScope (top 14)⟩
/-- 223: _law_best -/
def d13 : Df := ⟨"_law_best", ["_law_row_here", "_law_may_here"], ["_law_row_here", "_law_may_here", "_law_many", "_law_rooms", "_law_begin", "_law_some", "_law_end", "_law_kept", "_law_at"], defArgs (top 15), defBody (top 15), defScope (top 15)⟩
/-- 224: _law_all_kept -/
def d14 : Df := ⟨"_law_all_kept", ["_law_many"], ["_law_many", "_law_found", "_law_make", "_law_kept"], defArgs (top 16), defBody (top 16), defScope (top 16)⟩
/-- 225: _law_of_all -/
def d15 : Df := ⟨"_law_of_all", ["_law_row_here", "_law_most"], ["_law_row_here", "_law_most", "_law_found", "_law_kept", "_law_ends_here", "_law_pairs", "_law_begin", "_law_end"], defArgs (top 17), defBody (top 17), defScope (top 17)⟩
/-- 226: _law_long -/
def d16 : Df := ⟨"_law_long", [], ["_law_row_here", "_law_found"], defArgs (top 18), defBody (top 18), defScope (top 18)⟩
/-- 227: law -/
def d17 : Df := ⟨"law", ["_law_script"], ["_law_script", "_law_k", "_law_left_here", "_law_row_here", "_law_many", "_law_seen", "_law_ahead", "_law_most", "_law_due", "_law_turn"], defArgs (top 19), defBody (top 19), defScope (top 19)⟩
def mo : Mo := ⟨[d0, d1, d2, d3, d4, d5, d6, d7, d8, d9, d10, d11, d12, d13, d14, d15, d16, d17], [217, 218, 219, 220, 5, 6, 7, 57, 205, 27, 211, 221, 222, 223, 224, 225, 226, 227], [0, 0, 0, 0, 0, 3, 2, 2, 2, 0, 0, 0, 3, 0, 0, 0, 0, 0], [], [(6, 12), (17, 11), (19, 15), (34, 11), (70, 11), (73, 17), (80, 16), (93, 17)], []⟩
theorem b0 : BindQ d0 := fun _ _ _ _ _ _ us hl => match us, hl with | [_, _], _ => rfl
theorem b1 : BindQ d1 := fun _ _ _ _ _ _ us hl => match us, hl with | [_, _, _, _], _ => rfl
theorem b2 : BindQ d2 := fun _ _ _ _ _ _ us hl => match us, hl with | [_, _, _], _ => rfl
theorem b3 : BindQ d3 := fun _ _ _ _ _ _ us hl => match us, hl with | [_, _], _ => rfl
theorem b4 : BindQ d4 := fun _ _ _ _ _ _ us hl => match us, hl with | [_, _], _ => rfl
theorem b5 : BindQ d5 := fun _ _ _ _ _ _ us hl => match us, hl with | [_, _], _ => rfl
theorem b6 : BindQ d6 := fun _ _ _ _ _ _ us hl => match us, hl with | [_, _], _ => rfl
theorem b7 : BindQ d7 := fun _ _ _ _ _ _ us hl => match us, hl with | [_, _], _ => rfl
theorem b8 : BindQ d8 := fun _ _ _ _ _ _ us hl => match us, hl with | [_, _], _ => rfl
theorem b9 : BindQ d9 := fun _ _ _ _ _ _ us hl => match us, hl with | [_, _], _ => rfl
theorem b10 : BindQ d10 := fun _ _ _ _ _ _ us hl => match us, hl with | [_, _, _], _ => rfl
theorem b11 : BindQ d11 := fun _ _ _ _ _ _ us hl => match us, hl with | [_, _, _, _], _ => rfl
theorem b12 : BindQ d12 := fun _ _ _ _ _ _ us hl => match us, hl with | [_, _, _, _], _ => rfl
theorem b13 : BindQ d13 := fun _ _ _ _ _ _ us hl => match us, hl with | [_, _], _ => rfl
theorem b14 : BindQ d14 := fun _ _ _ _ _ _ us hl => match us, hl with | [_], _ => rfl
theorem b15 : BindQ d15 := fun _ _ _ _ _ _ us hl => match us, hl with | [_, _], _ => rfl
theorem b16 : BindQ d16 := fun _ _ _ _ _ _ us hl => match us, hl with | [], _ => rfl
theorem b17 : BindQ d17 := fun _ _ _ _ _ _ us hl => match us, hl with | [_], _ => rfl
theorem bq : ∀ d ∈ mo.ds, BindQ d := by
  intro d hd
  simp only [mo, List.mem_cons, List.not_mem_nil, or_false] at hd
  rcases hd with rfl | rfl | rfl | rfl | rfl | rfl | rfl | rfl | rfl | rfl | rfl | rfl | rfl | rfl | rfl | rfl | rfl | rfl
  · exact b0
  · exact b1
  · exact b2
  · exact b3
  · exact b4
  · exact b5
  · exact b6
  · exact b7
  · exact b8
  · exact b9
  · exact b10
  · exact b11
  · exact b12
  · exact b13
  · exact b14
  · exact b15
  · exact b16
  · exact b17
end Pm.K31

namespace Pm.K31
open PySem PySem.Spec L2
theorem irs : mo.ds.map (fun d => some (d.fn mo.G 40)) = mo.ids.map FNS := by kernel_rfl
theorem hf (i : Nat) (d : Df) (j : Nat) (h : mo.ds[i]? = some d) (h2 : mo.ids[i]? = some j) : FNS j = some (d.fn mo.G 40) := by
  have e : (mo.ds.map fun d => some (d.fn mo.G 40))[i]? = (mo.ids.map FNS)[i]? := by rw [irs]
  rw [List.getElem?_map, List.getElem?_map, h, h2] at e
  simp only [Option.map_some, Option.some.injEq] at e
  exact e.symm
abbrev R : PySem.W.OpenRow := PySem.W.OpenLaw.row PySem.Challenge.rw_keepwhole_k31_within_so_deep
abbrev hk : PySem.W.Hook := hookM 4 mo.fa mo.fn
def ob (s : PySem.W.SharedT) : He.AlD := obsM 4 mo.fa mo.fn (HandSHeadRun.getT s)
theorem ob_eq (s : PySem.W.SharedT) : ob s = hk.obs s.abs := obsM_eq (HandSHeadRun.getT_eq s)
def loose : List PySem.Str := (["is_within", "stretches_on", "best_from", "within_deep", "_law_mix", "_law_left", "_law_pick", "_law_size", "_law_row", "_law_same", "_law_stretch", "_law_may", "_law_ends", "_law_best", "_law_all_kept", "_law_of_all", "_law_long"] : List PySem.Str)
theorem run (w : World) : HandSHeadRun.RunEq R (PySem.W.view R.prog [19]) hk ob 4000 loose w := by
  intro os
  kernel_rfl
end Pm.K31
open PySem PySem.W PySem.Calls PyProof.Rows
theorem PySem.Challenge.cw_keepwhole_k31_within_so_deep_holds : PySem.Challenge.rw_keepwhole_k31_within_so_deep.Holds := by
  w_on; o_law
  refine HandSHeadRun.head_any (r := OpenLaw.row PySem.Challenge.rw_keepwhole_k31_within_so_deep) (q := view (OpenLaw.row PySem.Challenge.rw_keepwhole_k31_within_so_deep).prog [19]) (H := Pm.K31.hk) (ob := Pm.K31.ob) (M := 4000) (loose := Pm.K31.loose) (d := HandSHeadRun.topDef (OpenLaw.row PySem.Challenge.rw_keepwhole_k31_within_so_deep).prog 19) (kwd := []) Pm.K31.ob_eq
    (by kernel_rfl) (fun s => by kernel_rfl) Pm.K31.run (by kernel_rfl) (by kernel_rfl) (by kernel_rfl) (by rfl) (by first | assumption | decide +kernel) (by decide +kernel) ⟨rfl, rfl, rfl, rfl, rfl, by decide +kernel⟩ ?hw ?hc
  case hw => w_witness2
  case hc =>
    exact Pm.pm_walk (l := PySem.Challenge.rw_keepwhole_k31_within_so_deep) (nn := 63) (k := 8) (fu := 40) (j := 227) (m := Pm.K31.mo) (u := 4) (x := "_law_script") (eff := 0) (fns := Pm.FNS) (P := Pm.pg0) rfl (by decide) (by kernel_rfl) ⟨rfl, by decide, by decide⟩ (by decide +kernel) Pm.K31.bq Pm.K31.hf (by kernel_rfl) (by kernel_rfl) (fun ns h => Pm.K31.law ns h 0)

