import PyProof.Rows.All
import Wide.All
import OpenK.AllK
import Wide.FinOn
import PyProof.ReprReads
import PyProof.P3Statements
import PyProof.EqLayable
import HandS.ForMost
import HandS.TupAny
import HandS.TupLe
import HandS.Deep
import HandS.Zip
import HandS.Rev
import HandS.RevRange
import HandS.Conv
import HandS.IsInst
import HandS.More
import HandS.Style
import HandS.Flow
import HandS.NoneIn
import HandS.TupLen
import HandS.Defaults
import HandS.HeadEnd
import HandS.Words
import HandS.Ends
import HandS.Codes
import HandS.Head3
import HandS.Head4
import HandS.HeadHook1
import HandS.HeadHook2
import HandS.HeadHook4
import KE.KStateDown
import HandS.Head0
import HandS.Head1
import HandS.Head2
import PySem.Challenge.RW_keepwhole_k03_what_they_take
set_option Elab.async false
set_option linter.all false
set_option maxRecDepth 100000
set_option maxHeartbeats 4000007
/-! Pm, part A: values as trees, a small store, a small language, and what its terms come to. -/
namespace Pm
open PySem (Str PyData)

/-- a value: tup, lst (never written again), dct (likewise; t: its keys are tuples) by their parts; ref n: the n-th object of the store -/
inductive D where
  | non | bl (b : Bool) | int (i : Int) | str (s : Str)
  | tup (xs : List D) | lst (xs : List D) | dct (t : Bool) (ks vs : List D) | ref (n : Nat)

/-- an object that may be written -/
inductive Ob where
  | lst (xs : List D) | dct (t : Bool) (ks vs : List D) | ins (c : Nat) (fs : List (Nat × D))

mutual
def D.deq : D → D → Bool
  | .non, .non => true
  | .bl a, .bl b => a == b
  | .int a, .int b => a == b
  | .str a, .str b => decide (a = b)
  | .tup xs, .tup ys => deqL xs ys
  | .lst xs, .lst ys => deqL xs ys
  | .dct t ks vs, .dct u ls ws => t == u && (deqL ks ls && deqL vs ws)
  | .ref a, .ref b => a == b
  | _, _ => false
def deqL : List D → List D → Bool
  | [], [] => true
  | x :: xs, y :: ys => D.deq x y && deqL xs ys
  | _, _ => false
end
mutual
theorem D.deq_iff : ∀ a b : D, D.deq a b = true ↔ a = b
  | .non, b => by cases b <;> simp [D.deq]
  | .bl _, b => by cases b <;> simp [D.deq]
  | .int _, b => by cases b <;> simp [D.deq]
  | .str _, b => by cases b <;> simp [D.deq]
  | .tup xs, b => by cases b <;> simp [D.deq, deqL_iff xs]
  | .lst xs, b => by cases b <;> simp [D.deq, deqL_iff xs]
  | .dct t ks vs, b => by cases b <;> simp [D.deq, deqL_iff ks, deqL_iff vs]
  | .ref _, b => by cases b <;> simp [D.deq]
theorem deqL_iff : ∀ a b : List D, deqL a b = true ↔ a = b
  | [], b => by cases b <;> simp [deqL]
  | x :: xs, b => by cases b <;> simp [deqL, D.deq_iff x, deqL_iff xs]
end
instance : DecidableEq D := fun a b => decidable_of_iff _ (D.deq_iff a b)

abbrev Env := List (Option D)
abbrev Sto := List Ob
abbrev Rv := Option (D × Sto)
abbrev Call := Nat → List D → Sto → Rv

def lim : Nat := 1000000

mutual
def D.py : D → PyData
  | .non => .none | .bl b => .bool b | .int i => .int i | .str s => .str s
  | .tup xs => .tuple (pyL xs) | .lst xs => .list (pyL xs)
  | .dct _ _ _ => .none | .ref _ => .none
def pyL : List D → List PyData
  | [] => [] | x :: xs => x.py :: pyL xs
end
mutual
/-- no object of the store within -/
def D.noRef : D → Bool
  | .non => true | .bl _ => true | .int _ => true | .str _ => true
  | .tup xs => noRefL xs | .lst xs => noRefL xs
  | .dct _ ks vs => noRefL ks && noRefL vs | .ref _ => false
def noRefL : List D → Bool
  | [] => true | x :: xs => x.noRef && noRefL xs
end
mutual
/-- plain data: no object of the store, no dict -/
def D.flat : D → Bool
  | .non => true | .bl _ => true | .int _ => true | .str _ => true
  | .tup xs => flatL xs | .lst xs => flatL xs
  | .dct _ _ _ => false | .ref _ => false
def flatL : List D → Bool
  | [] => true | x :: xs => x.flat && flatL xs
end
mutual
/-- no list, no dict within -/
def D.noLst : D → Bool
  | .non => true | .bl _ => true | .int _ => true | .str _ => true
  | .tup xs => noLstL xs | .lst _ => false
  | .dct _ _ _ => false | .ref _ => false
def noLstL : List D → Bool
  | [] => true | x :: xs => x.noLst && noLstL xs
end

def D.isTup : D → Bool
  | .tup _ => true | _ => false
def D.plain : D → Bool
  | .non => true | .bl _ => true | .int _ => true | .str _ => true | _ => false
def D.ok (d : D) : Bool := d.flat && PySem.SeqAt.shaped d.py

inductive Bop where | add | sub | mul | fdiv | mod | pow
  deriving DecidableEq
inductive Cop where | eq | ne | lt | le | gt | ge | is | isn | in_ | nin
  deriving DecidableEq
inductive Ty where | int | bool | str | list | tuple | dict
  deriving DecidableEq
inductive Bi where | len | abs | int | str | all | any | sum | min | max | tuple | list | dict | sorted | set
  deriving DecidableEq
inductive Bm where | append | extend | insert | pop | remove | index | get | count | reverse | join | split | setdefault | items | clear | replace
  deriving DecidableEq

mutual
inductive IE where
  | bad
  | cst (d : D) | var (i : Nat)
  | tup (es : List IE) | lst (m : Bool) (es : List IE) | dct0 (m t : Bool)
  | bin (o : Bop) (m : Bool) (a b : IE) | neg (a : IE)
  | not (a : IE) | and (a b : IE) | or (a b : IE)
  | cmp (o : Cop) (a b : IE) | cmp2 (o p : Cop) (a b c : IE)
  | ife (c : Ts) (a b : IE)
  | idx (a i : IE) | slc (m : Bool) (a lo hi : IE) | rev (m : Bool) (a : IE)
  | call (f : Nat) (eff : Bool) (es : List IE)
  | mk (c : Nat) (es : List IE) | mth (o : IE) (m : Nat) (es : List IE)
  | bm (b : Bm) (m : Bool) (o : IE) (es : List IE)
  | bi (b : Bi) (m : Bool) (es : List IE)
  | isi (a : IE) (ts : List Ty)
  | fld (o : IE) (f : Nat)
  | comp (m : Bool) (own : List Nat) (t : Tg) (it : It) (cs : List Ts) (e : IE)
/-- a test -/
inductive Ts where
  | val (e : IE) | not (a : Ts) | and (a b : Ts) | or (a b : Ts)
inductive It where
  | val (e : IE) | rng (es : List IE) | enm (e : IE) | zip (a b : IE) | rev (e : IE) | revr (es : List IE) | items (e : IE)
inductive Tg where
  | nm (i : Nat) | tup (ts : List Tg) | sub (o i : IE) | fld (o : IE) (f : Nat)
end

mutual
/-- the slots that a target stores -/
def Tg.slots : Tg → List Nat
  | .nm i => [i] | .tup ts => slotsL ts | .sub _ _ => [] | .fld _ _ => []
def slotsL : List Tg → List Nat
  | [] => [] | t :: ts => t.slots ++ slotsL ts
end

inductive IS where
  | bad
  | asg (t : Tg) (e : IE) | par (is : List Nat) (es : List IE)
  | aug (i : Nat) (o : Bop) (e : IE) | augS (o i : IE) (p : Bop) (e : IE) | augF (o : IE) (f : Nat) (p : Bop) (e : IE)
  | expr (e : IE) | ret (e : IE)
  | ife (c : Ts) (a b : List IS)
  | for_ (t : Tg) (it : It) (b : List IS) | whl (c : Ts) (b : List IS)
  | pass | brk | cnt

/-! ### values -/
def eqD (a b : D) : Option Bool := if a.ok && b.ok then some (PyData.eqv a.py b.py) else none
mutual
def ltD : D → D → Option Bool
  | .int a, .int b => some (decide (a < b))
  | .str a, .str b => some (decide (a.cps.toList < b.cps.toList))
  | .tup xs, .tup ys => ltL xs ys
  | _, _ => none
def ltL : List D → List D → Option Bool
  | [], [] => some false
  | [], _ :: _ => some true
  | _ :: _, [] => some false
  | x :: xs, y :: ys => match eqD x y with
    | some true => ltL xs ys
    | some false => ltD x y
    | none => none
end
def ixN (n : Nat) (i : Int) : Option Nat := if 0 ≤ i then (if i < n then some i.toNat else none) else if -(n : Int) ≤ i then some (i + n).toNat else none
def sIx (n d : Nat) : D → Option Nat
  | .non => some d
  | .int v => some (if v < 0 then (v + (n : Int)).toNat else min v.toNat n)
  | _ => none
def cut (xs : List D) (lo hi : D) : Option (List D) := match sIx xs.length 0 lo, sIx xs.length xs.length hi with
  | some a, some b => some ((xs.drop a).take (b - a))
  | _, _ => none
mutual
/-- equality of keys: numbers, texts, tuples of these -/
def keq : D → D → Bool
  | .int a, .int b => a == b
  | .str a, .str b => decide (a = b)
  | .tup xs, .tup ys => keqL xs ys
  | _, _ => false
def keqL : List D → List D → Bool
  | [], [] => true
  | x :: xs, y :: ys => keq x y && keqL xs ys
  | _, _ => false
end
def look (k : D) : List D → List D → Option D
  | a :: ks, v :: vs => if keq a k then some v else look k ks vs
  | _, _ => none
def repl (k v : D) : List D → List D → List D
  | a :: ks, w :: vs => (if keq a k then v else w) :: repl k v ks vs
  | _, _ => []
def put (k v : D) (ks vs : List D) : List D × List D := if (look k ks vs).isSome then (ks, repl k v ks vs) else (ks ++ [k], vs ++ [v])
def D.scal : D → Bool
  | .int _ => true | .str _ => true | _ => false
def D.isKey (t : Bool) : D → Bool
  | .int _ => !t | .str _ => !t | .tup xs => t && xs.all D.scal | _ => false

def arith : Bop → Int → Int → Option Int
  | .add, i, j => some (i + j)
  | .sub, i, j => some (i - j)
  | .mul, i, j => if i.natAbs < 18446744073709551616 || j.natAbs < 18446744073709551616 then some (i * j) else none
  | .fdiv, i, j => if 0 < j && j < 1073741824 then some (i / j) else none
  | .mod, i, j => if 0 < j then some (i % j) else none
  | .pow, i, j => if 0 ≤ j && j ≤ 1000000 && i.natAbs < 18446744073709551616 then some (i ^ j.toNat) else none

/-- a list as a new value: an object, or by its parts -/
def newL (m : Bool) (xs : List D) (st : Sto) : D × Sto := if m then (.ref st.length, st ++ [.lst xs]) else (.lst xs, st)
def newD (m t : Bool) (ks vs : List D) (st : Sto) : D × Sto := if m then (.ref st.length, st ++ [.dct t ks vs]) else (.dct t ks vs, st)
/-- the items of a list or tuple -/
def seqOf (st : Sto) : D → Option (List D)
  | .tup xs => some xs
  | .lst xs => some xs
  | .ref r => match st[r]? with
    | some (.lst xs) => some xs
    | _ => none
  | _ => none
def lstOf (st : Sto) : D → Option (List D)
  | .lst xs => some xs
  | .ref r => match st[r]? with
    | some (.lst xs) => some xs
    | _ => none
  | _ => none
def dctOf (st : Sto) : D → Option (Bool × List D × List D)
  | .dct t ks vs => some (t, ks, vs)
  | .ref r => match st[r]? with
    | some (.dct t ks vs) => some (t, ks, vs)
    | _ => none
  | _ => none
/-- plain data of what may be an object that is a list of plain data -/
def deref (st : Sto) (d : D) : Option D := if d.noRef then some d else match d with
  | .ref r => match st[r]? with
    | some (.lst xs) => if noRefL xs then some (.lst xs) else none
    | some (.dct t ks vs) => if noRefL ks && noRefL vs then some (.dct t ks vs) else none
    | _ => none
  | _ => none

def binop (o : Bop) (m : Bool) (a b : D) (st : Sto) : Rv := match a, b with
  | .int i, .int j => (arith o i j).map fun k => (.int k, st)
  | .str x, .str y => if o = .add && x.length + y.length ≤ lim then some (.str (x ++ y), st) else none
  | .tup xs, .tup ys => if o = .add && xs.length + ys.length ≤ lim then some (.tup (xs ++ ys), st) else none
  | a, .int k => match o, lstOf st a with
    | .mul, some xs => if xs.length * k.toNat ≤ lim && k ≤ 1000000 && -1000000 ≤ k then some (newL m (List.replicate k.toNat xs).flatten st) else none
    | _, _ => none
  | a, b => match o, lstOf st a, lstOf st b with
    | .add, some xs, some ys => if xs.length + ys.length ≤ lim then some (newL m (xs ++ ys) st) else none
    | _, _, _ => none

def inD (st : Sto) (a b : D) : Option Bool := match b with
  | .str z => match a with
    | .str x => some (!(PySem.Builtin.Str.occurrences z x 0 z.length 1).isEmpty)
    | _ => none
  | _ => match dctOf st b with
    | some (t, ks, vs) => if a.isKey t then some (look a ks vs).isSome else none
    | none => match seqOf st b with
      | some xs => if a.plain && xs.all D.plain then some (xs.any fun z => PyData.eqv z.py a.py) else match b with
        | .tup _ => none
        | _ => if a.ok && (D.lst xs).ok then some (xs.any fun z => PyData.eqv z.py a.py) else none
      | none => none
def cmpop (o : Cop) (st : Sto) (a b : D) : Option Bool := match o with
  | .eq => (deref st a).bind fun a => (deref st b).bind fun b => eqD a b
  | .ne => (deref st a).bind fun a => (deref st b).bind fun b => (eqD a b).map (!·)
  | .lt => match a, b with
    | .int i, .int j => some (decide (i < j))
    | .str x, .str y => some (decide (x.cps.toList < y.cps.toList))
    | _, _ => none
  | .gt => match a, b with
    | .int i, .int j => some (decide (j < i))
    | .str x, .str y => some (decide (y.cps.toList < x.cps.toList))
    | _, _ => none
  | .le => match a, b with
    | .int i, .int j => some (decide (i ≤ j))
    | .str x, .str y => some (!decide (y.cps.toList < x.cps.toList))
    | _, _ => none
  | .ge => match a, b with
    | .int i, .int j => some (decide (j ≤ i))
    | .str x, .str y => some (!decide (x.cps.toList < y.cps.toList))
    | _, _ => none
  | .is => match a, b with
    | a, .non => some (decide (a = .non))
    | .bl x, .bl y => some (decide (x = y))
    | _, _ => none
  | .isn => match a, b with
    | a, .non => some (!decide (a = .non))
    | .bl x, .bl y => some (!decide (x = y))
    | _, _ => none
  | .in_ => inD st a b
  | .nin => (inD st a b).map (!·)
def tru (st : Sto) : D → Option Bool
  | .non => some false
  | .bl b => some b
  | .int i => some (i != 0)
  | .str s => if s.length ≤ lim then some ((s.length : Int) != 0) else none
  | .tup xs => some (!xs.isEmpty)
  | .lst xs => some (!xs.isEmpty)
  | .ref r => match st[r]? with
    | some (.lst xs) => some (!xs.isEmpty)
    | _ => none
  | .dct _ _ _ => none
def isTy (st : Sto) (d : D) : Ty → Bool := match d with
  | .non => fun _ => false
  | .bl _ => fun t => t = .bool || t = .int
  | .int _ => fun t => t = .int
  | .str _ => fun t => t = .str
  | .tup _ => fun t => t = .tuple
  | .lst _ => fun t => t = .list
  | .dct _ _ _ => fun t => t = .dict
  | .ref r => fun t => match st[r]? with
    | some (.lst _) => t = .list
    | some (.dct _ _ _) => t = .dict
    | _ => false
def isiOk (st : Sto) (d : D) : Bool := match d with
  | .ref r => match st[r]? with
    | some (.lst _) => true
    | some (.dct _ _ _) => true
    | _ => false
  | _ => true
def index (st : Sto) (a i : D) : Option D := match dctOf st a with
  | some (t, ks, vs) => if i.isKey t then look i ks vs else none
  | none => match seqOf st a, i with
    | some xs, .int k => (ixN xs.length k).bind fun j => xs[j]?
    | _, _ => match a, i with
      | .str z, .int k => if z.length ≤ lim then ((ixN z.cps.toList.length k).bind fun j => z.cps.toList[j]?).map fun c => .str ⟨#[c]⟩ else none
      | _, _ => none
def slice (m : Bool) (a lo hi : D) (st : Sto) : Rv := match a with
  | .tup xs => (cut xs lo hi).map fun ys => (.tup ys, st)
  | a => match lstOf st a with
    | some xs => (cut xs lo hi).map fun ys => newL m ys st
    | none => none
def intsD : List D → Option (List Int)
  | [] => some []
  | .int i :: r => (intsD r).map (i :: ·)
  | _ :: _ => none
def blsD : List D → Option (List Bool)
  | [] => some []
  | .bl i :: r => (blsD r).map (i :: ·)
  | _ :: _ => none
def strsD : List D → Option (List Str)
  | [] => some []
  | .str i :: r => (strsD r).map (i :: ·)
  | _ :: _ => none
/-- the first least one -/
def minL (m : D) : List D → Option D
  | [] => some m
  | x :: xs => match ltD x m with
    | some true => minL x xs
    | some false => minL m xs
    | none => none
def maxL (m : D) : List D → Option D
  | [] => some m
  | x :: xs => match ltD m x with
    | some true => maxL x xs
    | some false => maxL m xs
    | none => none
def pairs : List D → Option (List (D × D))
  | [] => some []
  | .tup [k, v] :: r => (pairs r).map ((k, v) :: ·)
  | _ :: _ => none
def putAll : List (D × D) → List D × List D → List D × List D
  | [], r => r
  | p :: ps, r => putAll ps (put p.1 p.2 r.1 r.2)

def bicall (b : Bi) (m : Bool) (ds : List D) (st : Sto) : Rv := match b, ds with
  | .len, [d] => match d with
    | .str s => if s.length ≤ lim then some (.int s.length, st) else none
    | d => match dctOf st d with
      | some (_, ks, _) => some (.int ks.length, st)
      | none => (seqOf st d).map fun xs => (.int xs.length, st)
  | .abs, [.int i] => some (.int (if i < 0 then -i else i), st)
  | .int, [.int i] => some (.int i, st)
  | .int, [.bl b] => some (.int (if b then 1 else 0), st)
  | .str, [.int i] => if i.natAbs.log2 < 1920 then some (.str (toString i), st) else none
  | .all, [d] => (lstOf st d).bind fun xs => (blsD xs).map fun bs => (.bl (bs.all id), st)
  | .any, [d] => (lstOf st d).bind fun xs => (blsD xs).map fun bs => (.bl (bs.any id), st)
  | .sum, [d] => (lstOf st d).bind fun xs => (intsD xs).map fun is => (.int is.sum, st)
  | .min, [.int i, .int j] => some (.int (if j < i then j else i), st)
  | .max, [.int i, .int j] => some (.int (if j > i then j else i), st)
  | .min, [d] => (lstOf st d).bind fun xs => match intsD xs with
    | some (n :: ns) => some (.int (ns.foldl min n), st)
    | _ => none
  | .max, [d] => (lstOf st d).bind fun xs => match intsD xs with
    | some (n :: ns) => some (.int (ns.foldl max n), st)
    | _ => none
  | .tuple, [d] => (seqOf st d).map fun xs => (.tup xs, st)
  | .list, [d] => (seqOf st d).map fun xs => newL m xs st
  | _, _ => none

/-- what sort of thing has a method -/
def rkind (st : Sto) (d : D) : Nat := match lstOf st d with
  | some _ => 1
  | none => match dctOf st d with
    | some _ => 2
    | none => match d with
      | .str _ => 3
      | _ => 0
def bmcall (b : Bm) (m : Bool) (o : D) (ds : List D) (st : Sto) : Rv := match o with
  | .ref r => match st[r]?, b, ds with
    | some (.lst xs), .append, [d] => if xs.length < lim then some (.non, st.set r (.lst (xs ++ [d]))) else none
    | some (.lst xs), .extend, [d] => (seqOf st d).bind fun ys => if xs.length + ys.length ≤ lim then some (.non, st.set r (.lst (xs ++ ys))) else none
    | some (.lst xs), .insert, [.int i, d] => if xs.length < lim && 0 ≤ i && i < 1000000 then some (.non, st.set r (.lst (xs.take i.toNat ++ [d] ++ xs.drop i.toNat))) else none
    | some (.lst xs), .pop, [] => (xs[xs.length - 1]?).map fun d => (d, st.set r (.lst xs.dropLast))
    | some (.lst xs), .pop, [.int i] => (ixN xs.length i).bind fun j => (xs[j]?).map fun d => (d, st.set r (.lst (xs.eraseIdx j)))
    | some (.lst xs), .reverse, [] => some (.non, st.set r (.lst xs.reverse))
    | _, _, _ => none
  | _ => none

def setItem (o i v : D) (st : Sto) : Option Sto := match o with
  | .ref r => match st[r]? with
    | some (.lst xs) => match i with
      | .int k => (ixN xs.length k).map fun j => st.set r (.lst (xs.set j v))
      | _ => none
    | some (.dct t ks vs) => if i.isKey t && ks.length < lim then let q := put i v ks vs; some (st.set r (.dct t q.1 q.2)) else none
    | _ => none
  | _ => none

def putF (f : Nat) (v : D) : List (Nat × D) → List (Nat × D)
  | [] => [(f, v)]
  | p :: r => if p.1 = f then (p.1, v) :: r else p :: putF f v r

/-! ### terms -/
def wipe (env : Env) : List Nat → Env
  | [] => env
  | v :: vs => (wipe env vs).set v none
def rangeL (lo : Int) (c : Int) : Nat → List D
  | 0 => []
  | n + 1 => .int lo :: rangeL (lo + c) c n
def inR (i : Int) : Bool := -1000000 ≤ i && i ≤ 1000000
def rng : List D → Option (List D)
  | [.int j] => if inR j then some (rangeL 0 1 j.toNat) else none
  | [.int i, .int j] => if inR i && inR j then some (rangeL i 1 (j - i).toNat) else none
  | [.int i, .int j, .int c] => if c = -1 && inR i && inR j then some (rangeL i (-1) (i - j).toNat) else none
  | _ => none
def enumL (i : Nat) : List D → List D
  | [] => []
  | x :: xs => .tup [.int i, x] :: enumL (i + 1) xs
def zipL : List D → List D → List D
  | x :: xs, y :: ys => .tup [x, y] :: zipL xs ys
  | _, _ => []

/-- a call of a def that writes nothing of the caller's: its lists are handed in as they stand, by their parts, and what it tells is told likewise -/
def pcall (C : Call) (f : Nat) (ds : List D) (st : Sto) : Option D := do
  let es ← ds.mapM (deref st)
  let (v, st') ← C f es []
  let w ← deref st' v
  if ds.all D.noRef || w.noLst then some w else none

/-- the objects that are walked over, as they stood -/
abbrev Src := List (Nat × List D)
def srcOf (st : Sto) : D → Src
  | .ref r => match st[r]? with
    | some (.lst xs) => [(r, xs)]
    | _ => []
  | _ => []
def chk (st : Sto) : Src → Bool
  | [] => true
  | p :: s => (match st[p.1]? with
    | some (.lst ys) => decide (ys = p.2)
    | _ => false) && chk st s

def compL (a : D → Env → Sto → Option (Env × Sto)) (c : Env → Sto → Option (Bool × Sto)) (e : Env → Sto → Rv) (src : Src) (env : Env) : List D → Sto → Option (List D × Sto)
  | [], st => if chk st src then some ([], st) else none
  | x :: xs, st => if !chk st src then none else
    match a x env st with
    | none => none
    | some (env1, st1) => match c env1 st1 with
      | none => none
      | some (false, st2) => compL a c e src env xs st2
      | some (true, st2) => match e env1 st2 with
        | none => none
        | some (d, st3) => match compL a c e src env xs st3 with
          | none => none
          | some (ds, st4) => some (d :: ds, st4)

/-- a slice's part: left out, or a number -/
def partOk : IE → D → Bool
  | .cst .non, _ => true
  | _, .int _ => true
  | _, _ => false

structure Pg where
  meth : Nat → Nat → Option Nat
  init : Nat → Option Nat

section
variable (P : Pg) (C : Call)
mutual
def evE : IE → Env → Sto → Rv
  | .bad, _, _ => none
  | .cst d, _, st => some (d, st)
  | .var i, env, st => match env[i]? with
    | some (some d) => some (d, st)
    | _ => none
  | .tup es, env, st => match evEs es env st with
    | some (ds, st1) => some (.tup ds, st1)
    | none => none
  | .lst m es, env, st => match evEs es env st with
    | some (ds, st1) => some (newL m ds st1)
    | none => none
  | .dct0 m t, _, st => some (newD m t [] [] st)
  | .bin o m a b, env, st => match evE a env st with
    | some (x, st1) => match evE b env st1 with
      | some (y, st2) => binop o m x y st2
      | none => none
    | none => none
  | .neg a, env, st => match evE a env st with
    | some (.int i, st1) => some (.int (-i), st1)
    | _ => none
  | .not a, env, st => match evE a env st with
    | some (.bl b, st1) => some (.bl (!b), st1)
    | _ => none
  | .and a b, env, st => match evE a env st with
    | some (.bl true, st1) => evE b env st1
    | some (.bl false, st1) => some (.bl false, st1)
    | _ => none
  | .or a b, env, st => match evE a env st with
    | some (.bl false, st1) => evE b env st1
    | some (.bl true, st1) => some (.bl true, st1)
    | _ => none
  | .cmp o a b, env, st => match evE a env st with
    | some (x, st1) => match evE b env st1 with
      | some (y, st2) => match cmpop o st2 x y with
        | some r => some (.bl r, st2)
        | none => none
      | none => none
    | none => none
  | .cmp2 o p a b c, env, st => match evE a env st with
    | some (x, st1) => match evE b env st1 with
      | some (y, st2) => match cmpop o st2 x y with
        | some true => match evE c env st2 with
          | some (z, st3) => match cmpop p st3 y z with
            | some r => some (.bl r, st3)
            | none => none
          | none => none
        | some false => some (.bl false, st2)
        | none => none
      | none => none
    | none => none
  | .ife c a b, env, st => match evT c env st with
    | some (true, st1) => evE a env st1
    | some (false, st1) => evE b env st1
    | none => none
  | .idx a i, env, st => match evE a env st with
    | some (x, st1) => match evE i env st1 with
      | some (y, st2) => match index st2 x y with
        | some d => some (d, st2)
        | none => none
      | none => none
    | none => none
  | .slc m a lo hi, env, st => match evE a env st with
    | some (x, st1) => match evE lo env st1 with
      | some (y, st2) => match evE hi env st2 with
        | some (z, st3) => if partOk lo y && partOk hi z then slice m x y z st3 else none
        | none => none
      | none => none
    | none => none
  | .rev m a, env, st => match evE a env st with
    | some (x, st1) => match lstOf st1 x with
      | some xs => some (newL m xs.reverse st1)
      | none => none
    | none => none
  | .call f eff es, env, st => match evEs es env st with
    | some (ds, st1) => match eff with
      | true => C f ds st1
      | false => match pcall C f ds st1 with
        | some v => some (v, st1)
        | none => none
    | none => none
  | .mk c es, env, st => match evEs es env st with
    | some (ds, st1) => match P.init c with
      | some f => match C f (.ref st1.length :: ds) (st1 ++ [.ins c []]) with
        | some (.non, st2) => some (.ref st1.length, st2)
        | _ => none
      | none => none
    | none => none
  | .mth o m es, env, st => match evE o env st with
    | some (.ref r, st1) => match evEs es env st1 with
      | some (ds, st2) => match st1[r]? with
        | some (.ins c fs) => match P.meth c m with
          | some f => C f (.ref r :: ds) st2
          | none => none
        | _ => none
      | none => none
    | _ => none
  | .bm b m o es, env, st => match evE o env st with
    | some (x, st1) => match evEs es env st1 with
      | some (ds, st2) => if rkind st1 x = rkind st2 x then bmcall b m x ds st2 else none
      | none => none
    | none => none
  | .bi b m es, env, st => match evEs es env st with
    | some (ds, st1) => bicall b m ds st1
    | none => none
  | .isi a ts, env, st => match evE a env st with
    | some (x, st1) => if isiOk st1 x then some (.bl (ts.any (isTy st1 x)), st1) else none
    | none => none
  | .fld o f, env, st => match evE o env st with
    | some (.ref r, st1) => match st1[r]? with
      | some (.ins _ fs) => match fs.lookup f with
        | some d => some (d, st1)
        | none => none
      | _ => none
    | _ => none
  | .comp m own t it cs e, env, st => match evIt it env st with
    | some (xs, src, st1) => if xs.length < lim then
        match compL (fun d env st => asgT t d env st) (fun env st => evTs cs env st) (fun env st => evE e env st) src (wipe env own) xs st1 with
        | some (ds, st2) => some (newL m ds st2)
        | none => none
      else none
    | none => none
termination_by structural e => e
def evEs : List IE → Env → Sto → Option (List D × Sto)
  | [], _, st => some ([], st)
  | e :: es, env, st => match evE e env st with
    | some (d, st1) => match evEs es env st1 with
      | some (ds, st2) => some (d :: ds, st2)
      | none => none
    | none => none
/-- as a test -/
def evT : Ts → Env → Sto → Option (Bool × Sto)
  | .not a, env, st => match evT a env st with
    | some (b, st1) => some (!b, st1)
    | none => none
  | .and a b, env, st => match evT a env st with
    | some (true, st1) => evT b env st1
    | some (false, st1) => some (false, st1)
    | none => none
  | .or a b, env, st => match evT a env st with
    | some (false, st1) => evT b env st1
    | some (true, st1) => some (true, st1)
    | none => none
  | .val e, env, st => match evE e env st with
    | some (d, st1) => match tru st1 d with
      | some b => some (b, st1)
      | none => none
    | none => none
def evTs : List Ts → Env → Sto → Option (Bool × Sto)
  | [], _, st => some (true, st)
  | e :: _, env, st => evT e env st
def evIt : It → Env → Sto → Option (List D × Src × Sto)
  | .val e, env, st => match evE e env st with
    | some (d, st1) => match seqOf st1 d with
      | some xs => some (xs, srcOf st1 d, st1)
      | none => none
    | none => none
  | .rng es, env, st => match evEs es env st with
    | some (ds, st1) => match rng ds with
      | some xs => some (xs, [], st1)
      | none => none
    | none => none
  | .enm e, env, st => match evE e env st with
    | some (d, st1) => match lstOf st1 d with
      | some xs => some (enumL 0 xs, srcOf st1 d, st1)
      | none => none
    | none => none
  | .zip a b, env, st => match evE a env st with
    | some (x, st1) => match evE b env st1 with
      | some (y, st2) => match seqOf st2 x, seqOf st2 y with
        | some xs, some ys => if x.isTup = y.isTup then some (zipL xs ys, srcOf st2 x ++ srcOf st2 y, st2) else none
        | _, _ => none
      | none => none
    | none => none
  | .rev e, env, st => match evE e env st with
    | some (d, st1) => match seqOf st1 d with
      | some xs => some (xs.reverse, srcOf st1 d, st1)
      | none => none
    | none => none
  | .revr es, env, st => match evEs es env st with
    | some (ds, st1) => match rng ds with
      | some xs => if ds.length ≤ 2 then some (xs.reverse, [], st1) else none
      | none => none
    | none => none
  | .items _, _, _ => none
def asgT : Tg → D → Env → Sto → Option (Env × Sto)
  | .nm i, d, env, st => if i < env.length then some (env.set i (some d), st) else none
  | .tup ts, d, env, st => match d with
    | .tup xs => asgTs ts xs env st
    | _ => none
  | .sub o i, d, env, st => match evE o env st with
    | some (x, st1) => match evE i env st1 with
      | some (y, st2) => match setItem x y d st2 with
        | some st3 => some (env, st3)
        | none => none
      | none => none
    | none => none
  | .fld o f, d, env, st => match evE o env st with
    | some (.ref r, st1) => match st1[r]? with
      | some (.ins c fs) => if fs.length < 100 then some (env, st1.set r (.ins c (putF f d fs))) else none
      | _ => none
    | _ => none
def asgTs : List Tg → List D → Env → Sto → Option (Env × Sto)
  | [], [], env, st => some (env, st)
  | t :: ts, d :: ds, env, st => match asgT t d env st with
    | some (env1, st1) => asgTs ts ds env1 st1
    | none => none
  | _, _, _, _ => none
end
end

/-! ### statements -/
inductive Out where
  | nx (env : Env) (st : Sto) | rt (d : D) (st : Sto) | bk (env : Env) (st : Sto) | ct (env : Env) (st : Sto)

def forL (a : D → Env → Sto → Option (Env × Sto)) (b : Env → Sto → Option Out) (src : Src) : List D → Env → Sto → Option Out
  | [], env, st => if chk st src then some (.nx env st) else none
  | x :: xs, env, st => if !chk st src then none else match a x env st with
    | none => none
    | some (env1, st1) => match b env1 st1 with
      | some (.nx e s) => forL a b src xs e s
      | some (.ct e s) => forL a b src xs e s
      | some (.bk e s) => some (.nx e s)
      | some (.rt d s) => some (.rt d s)
      | none => none
def whlL (c : Env → Sto → Option (Bool × Sto)) (b : Env → Sto → Option Out) : Nat → Env → Sto → Option Out
  | 0, _, _ => none
  | n + 1, env, st => match c env st with
    | none => none
    | some (false, st1) => some (.nx env st1)
    | some (true, st1) => match b env st1 with
      | some (.nx e s) => whlL c b n e s
      | some (.ct e s) => whlL c b n e s
      | some (.bk e s) => some (.nx e s)
      | some (.rt d s) => some (.rt d s)
      | none => none
def wfuel : Nat := 1000000000
def setAll : List Nat → List D → Env → Option Env
  | [], [], env => some env
  | i :: is, d :: ds, env => if i < env.length then setAll is ds (env.set i (some d)) else none
  | _, _, _ => none
def augop (o : Bop) (a b : D) : Option D := match a, b with
  | .int i, .int j => if o = .pow then none else (arith o i j).map .int
  | _, _ => none

section
variable (P : Pg) (C : Call)
mutual
def exS : IS → Env → Sto → Option Out
  | .bad, _, _ => none
  | .asg t e, env, st => match evE P C e env st with
    | some (d, st1) => match asgT P C t d env st1 with
      | some (env1, st2) => some (.nx env1 st2)
      | none => none
    | none => none
  | .par is es, env, st => match evEs P C es env st with
    | some (ds, st1) => match setAll is ds env with
      | some env1 => some (.nx env1 st1)
      | none => none
    | none => none
  | .aug i o e, env, st => match env[i]? with
    | some (some x) => match evE P C e env st with
      | some (y, st1) => match augop o x y with
        | some z => some (.nx (env.set i (some z)) st1)
        | none => none
      | none => none
    | _ => none
  | .augS o i p e, env, st => match evE P C o env st with
    | some (x, st1) => match evE P C i env st1 with
      | some (k, st2) => match index st2 x k with
        | some y => match evE P C e env st2 with
          | some (z, st3) => match augop p y z with
            | some w => match setItem x k w st3 with
              | some st4 => some (.nx env st4)
              | none => none
            | none => none
          | none => none
        | none => none
      | none => none
    | none => none
  | .augF o f p e, env, st => match evE P C o env st with
    | some (.ref r, st1) => match st1[r]? with
      | some (.ins _ fs) => match fs.lookup f with
        | some y => match evE P C e env st1 with
          | some (z, st2) => match augop p y z, st2[r]? with
            | some w, some (.ins c gs) => if gs.length < 100 then some (.nx env (st2.set r (.ins c (putF f w gs)))) else none
            | _, _ => none
          | none => none
        | none => none
      | _ => none
    | _ => none
  | .expr e, env, st => match evE P C e env st with
    | some (_, st1) => some (.nx env st1)
    | none => none
  | .ret e, env, st => match evE P C e env st with
    | some (d, st1) => some (.rt d st1)
    | none => none
  | .ife c a b, env, st => match evT P C c env st with
    | some (true, st1) => exSs a env st1
    | some (false, st1) => exSs b env st1
    | none => none
  | .for_ t it b, env, st => match evIt P C it env st with
    | some (xs, src, st1) => forL (fun d env st => asgT P C t d env st) (fun env st => exSs b env st) src xs env st1
    | none => none
  | .whl c b, env, st => whlL (fun env st => evT P C c env st) (fun env st => exSs b env st) wfuel env st
  | .pass, env, st => some (.nx env st)
  | .brk, env, st => some (.bk env st)
  | .cnt, env, st => some (.ct env st)
termination_by structural s => s
def exSs : List IS → Env → Sto → Option Out
  | [], env, st => some (.nx env st)
  | s :: ss, env, st => match exS s env st with
    | some (.nx e s1) => exSs ss e s1
    | r => r
end
end

structure Fn where
  np : Nat
  ns : Nat
  body : List IS
def fin : Option Out → Rv
  | some (.nx _ st) => some (.non, st)
  | some (.rt d st) => some (d, st)
  | _ => none
def runFn (P : Pg) (C : Call) (F : Fn) (ds : List D) (st : Sto) : Rv :=
  if ds.length = F.np then fin (exSs P C F.body (ds.map some ++ List.replicate (F.ns - F.np) none) st) else none
def callN (P : Pg) (fns : Nat → Option Fn) : Nat → Call
  | 0 => fun _ _ _ => none
  | k + 1 => fun f ds st => match fns f with
    | some F => runFn P (callN P fns k) F ds st
    | none => none
end Pm

/-! Pm, part B1: how values of the small language stand in the abstract heap. -/
namespace Pm
open PySem PySem.Spec L2

def keyD : L2.Key → D
  | .inl i => .int i
  | .inr x => .str x
abbrev Ads := List Addr
section
variable (H : Hp) (F M : Ads)
mutual
/-- d stands as v: F the objects that somebody may write, M the store's -/
def Rep : D → V → Prop
  | .non, v => v = .non
  | .bl b, v => v = .bl b
  | .int i, v => v = .int i
  | .str x, v => v = .str x
  | .tup ds, v => ∃ a vs, v = .ref a ∧ H a = some (.tup vs) ∧ RepL ds vs
  | .lst ds, v => ∃ a vs, v = .ref a ∧ Rd H a (.lst vs) ∧ a ∉ F ∧ RepL ds vs
  | .dct false ks ds, v => ∃ a, v = .ref a ∧ a ∉ F ∧ ∃ kvs : List (L2.Key × V), H a = some (.dK kvs) ∧ ks = kvs.map (fun p => keyD p.1) ∧ RepL ds (kvs.map (·.2))
  | .dct true ks ds, v => ∃ a, v = .ref a ∧ a ∉ F ∧ ∃ kvs : List (List L2.Key × V), H a = some (.dT kvs) ∧ ks = kvs.map (fun p => .tup (p.1.map keyD)) ∧ RepL ds (kvs.map (·.2))
  | .ref n, v => ∃ a, v = .ref a ∧ M[n]? = some a
def RepL : List D → List V → Prop
  | [], vs => vs = []
  | d :: ds, vs => ∃ v r, vs = v :: r ∧ Rep d v ∧ RepL ds r
end
/-- how an object of the store stands; cl, fl: the classes' places, the fields' names -/
def ObR (cl : Nat → Addr) (fl : Nat → Str) : Ob → Addr → Prop
  | .lst ds, a => ∃ vs, H a = some (.lst vs) ∧ RepL H F M ds vs
  | .dct false ks ds, a => ∃ kvs : List (L2.Key × V), H a = some (.dK kvs) ∧ ks = kvs.map (fun p => keyD p.1) ∧ RepL H F M ds (kvs.map (·.2))
  | .dct true ks ds, a => ∃ kvs : List (List L2.Key × V), H a = some (.dT kvs) ∧ ks = kvs.map (fun p => .tup (p.1.map keyD)) ∧ RepL H F M ds (kvs.map (·.2))
  | .ins c fs, a => ∃ dx fvs, H a = some (.ins (cl c) dx fvs) ∧ fvs.map (·.1) = fs.map (fun p => fl p.1) ∧ RepL H F M (fs.map (·.2)) (fvs.map (·.2))
structure SR (cl : Nat → Addr) (fl : Nat → Str) (st : Sto) : Prop where
  len : M.length = st.length
  nd : M.Nodup
  mf : ∀ a ∈ M, a ∈ F
  fs : ∀ a ∈ F, H a ≠ none
  obs : ∀ (n : Nat) (ob : Ob) (a : Addr), st[n]? = some ob → M[n]? = some a → ObR H F M cl fl ob a
structure EnR (env : Env) (σ : St) : Prop where
  len : env.length = σ.length
  at_ : ∀ (i : Nat) (d : D), env[i]? = some (some d) → ∃ v, σ[i]? = some (some v) ∧ Rep H F M d v
end

structure Le (F M : Ads) (H : Hp) (F' M' : Ads) (H' : Hp) : Prop where
  ext : ∀ a o, H a = some o → a ∉ M → H' a = some o
  alive : ∀ a, H a ≠ none → H' a ≠ none
  tups : ∀ a xs, H a = some (.tup xs) → H' a = some (.tup xs)
  frzs : ∀ a o u, H a = some (.frz o u) → H' a = some (.frz o u)
  pre : ∀ (n : Nat) (a : Addr), M[n]? = some a → M'[n]? = some a
  fsub : ∀ a ∈ F, a ∈ F'
  fnew : ∀ a ∈ F', a ∈ F ∨ H a = none
  mnew : ∀ a ∈ M', a ∈ M ∨ H a = none

theorem Le.refl (F M : Ads) (H : Hp) : Le F M H F M H :=
  ⟨fun _ _ h _ => h, fun _ h => h, fun _ _ h => h, fun _ _ _ h => h, fun _ _ h => h, fun _ h => h, fun _ h => .inl h, fun _ h => .inl h⟩
theorem Le.trans {F M : Ads} {H : Hp} {F1 M1 : Ads} {H1 : Hp} {F2 M2 : Ads} {H2 : Hp} (p : Le F M H F1 M1 H1) (q : Le F1 M1 H1 F2 M2 H2) : Le F M H F2 M2 H2 where
  ext := fun a o h n => q.ext a o (p.ext a o h n) fun z => by
    rcases p.mnew a z with z | z
    · exact n z
    · rw [h] at z; cases z
  alive := fun a h => q.alive a (p.alive a h)
  tups := fun a xs h => q.tups a xs (p.tups a xs h)
  frzs := fun a o u h => q.frzs a o u (p.frzs a o u h)
  pre := fun n a h => q.pre n a (p.pre n a h)
  fsub := fun a h => q.fsub a (p.fsub a h)
  fnew := fun a h => by
    rcases q.fnew a h with z | z
    · exact p.fnew a z
    · right
      cases e : H a with
      | none => rfl
      | some o => exact absurd z (p.alive a (by rw [e]; simp))
  mnew := fun a h => by
    rcases q.mnew a h with z | z
    · exact p.mnew a z
    · right
      cases e : H a with
      | none => rfl
      | some o => exact absurd z (p.alive a (by rw [e]; simp))

section
variable {K : PySem.W.Frag} {F M F' M' : Ads} {H H' : Hp}
theorem Le.sqT {a : Addr} {xs : List V} (l : Le F M H F' M' H') (h : SqT K H a xs) : SqT K H' a xs := by
  rcases h with (h | ⟨o, h⟩) | h
  · exact .inl (.inl (l.tups _ _ h))
  · exact .inl (.inr ⟨o, l.frzs _ _ _ h⟩)
  · exact .inr h
theorem Le.rdL {a : Addr} {xs : List V} (l : Le F M H F' M' H') (n : a ∉ M) (h : Rd H a (.lst xs)) : Rd H' a (.lst xs) := by
  rcases h with h | ⟨o, h⟩
  · exact .inl (l.ext _ _ h n)
  · exact .inr ⟨o, l.frzs _ _ _ h⟩
theorem rd_some {a : Addr} {u : HO} (h : Rd H a u) : H a ≠ none := by
  rcases h with h | ⟨o, h⟩ <;> rw [h] <;> simp
theorem Le.nF {a : Addr} (l : Le F M H F' M' H') (n : a ∉ F) (h : H a ≠ none) : a ∉ F' := fun z => by
  rcases l.fnew a z with z | z
  · exact n z
  · exact h z
mutual
theorem Rep.le (l : Le F M H F' M' H') (mf : ∀ a ∈ M, a ∈ F) : ∀ (d : D) (v : V), Rep H F M d v → Rep H' F' M' d v
  | .non, _, h => by simp only [Rep] at h ⊢; exact h
  | .bl _, _, h => by simp only [Rep] at h ⊢; exact h
  | .int _, _, h => by simp only [Rep] at h ⊢; exact h
  | .str _, _, h => by simp only [Rep] at h ⊢; exact h
  | .tup ds, v, h => by
    simp only [Rep] at h ⊢
    obtain ⟨a, vs, e, s, r⟩ := h
    exact ⟨a, vs, e, l.tups _ _ s, RepL.le l mf ds vs r⟩
  | .lst ds, v, h => by
    simp only [Rep] at h ⊢
    obtain ⟨a, vs, e, s, n, r⟩ := h
    exact ⟨a, vs, e, l.rdL (fun z => n (mf a z)) s, l.nF n (rd_some s), RepL.le l mf ds vs r⟩
  | .dct false ks ds, v, h => by
    simp only [Rep] at h ⊢
    obtain ⟨a, e, n, kvs, s, ek, r⟩ := h
    exact ⟨a, e, l.nF n (by rw [s]; simp), kvs, l.ext _ _ s fun z => n (mf a z), ek, RepL.le l mf ds _ r⟩
  | .dct true ks ds, v, h => by
    simp only [Rep] at h ⊢
    obtain ⟨a, e, n, kvs, s, ek, r⟩ := h
    exact ⟨a, e, l.nF n (by rw [s]; simp), kvs, l.ext _ _ s fun z => n (mf a z), ek, RepL.le l mf ds _ r⟩
  | .ref n, v, h => by
    simp only [Rep] at h ⊢
    obtain ⟨a, e, m⟩ := h
    exact ⟨a, e, l.pre n a m⟩
theorem RepL.le (l : Le F M H F' M' H') (mf : ∀ a ∈ M, a ∈ F) : ∀ (ds : List D) (vs : List V), RepL H F M ds vs → RepL H' F' M' ds vs
  | [], _, h => by simp only [RepL] at h ⊢; exact h
  | d :: ds, vs, h => by
    simp only [RepL] at h ⊢
    obtain ⟨v, r, e, h1, h2⟩ := h
    exact ⟨v, r, e, Rep.le l mf d v h1, RepL.le l mf ds r h2⟩
end
theorem EnR.le {env : Env} {σ : St} (l : Le F M H F' M' H') (mf : ∀ a ∈ M, a ∈ F) (h : EnR H F M env σ) : EnR H' F' M' env σ :=
  ⟨h.len, fun i d e => let ⟨v, e1, r⟩ := h.at_ i d e; ⟨v, e1, r.le l mf⟩⟩
theorem RepL.length {ds : List D} {vs : List V} (h : RepL H F M ds vs) : ds.length = vs.length := by
  induction ds generalizing vs with
  | nil => simp only [RepL] at h; subst h; rfl
  | cons d ds ih =>
    simp only [RepL] at h
    obtain ⟨v, r, rfl, _, h2⟩ := h
    simp [ih h2]
theorem RepL.get {ds : List D} {vs : List V} (h : RepL H F M ds vs) {i : Nat} {d : D} (e : ds[i]? = some d) : ∃ v, vs[i]? = some v ∧ Rep H F M d v := by
  induction ds generalizing vs i with
  | nil => simp at e
  | cons x ds ih =>
    simp only [RepL] at h
    obtain ⟨v, r, rfl, h1, h2⟩ := h
    cases i with
    | zero => simp at e; subst e; exact ⟨v, rfl, h1⟩
    | succ i => simpa using ih h2 (by simpa using e)
theorem RepL.nil : RepL H F M [] [] := by simp only [RepL]
theorem RepL.cons {d : D} {ds : List D} {v : V} {vs : List V} (h : Rep H F M d v) (t : RepL H F M ds vs) : RepL H F M (d :: ds) (v :: vs) := by
  simp only [RepL]; exact ⟨v, vs, rfl, h, t⟩
theorem RepL.append {ds es : List D} {vs us : List V} (h : RepL H F M ds vs) (g : RepL H F M es us) : RepL H F M (ds ++ es) (vs ++ us) := by
  induction ds generalizing vs with
  | nil => simp only [RepL] at h; subst h; exact g
  | cons d ds ih =>
    simp only [RepL] at h
    obtain ⟨v, r, rfl, h1, h2⟩ := h
    exact .cons h1 (ih h2)
theorem RepL.take {ds : List D} {vs : List V} (h : RepL H F M ds vs) (n : Nat) : RepL H F M (ds.take n) (vs.take n) := by
  induction ds generalizing vs n with
  | nil => simp only [RepL] at h; subst h; simp [RepL]
  | cons d ds ih =>
    simp only [RepL] at h
    obtain ⟨v, r, rfl, h1, h2⟩ := h
    cases n with
    | zero => exact .nil
    | succ n => exact .cons h1 (ih h2 n)
theorem RepL.drop {ds : List D} {vs : List V} (h : RepL H F M ds vs) (n : Nat) : RepL H F M (ds.drop n) (vs.drop n) := by
  induction ds generalizing vs n with
  | nil => simp only [RepL] at h; subst h; simp [RepL]
  | cons d ds ih =>
    obtain ⟨v, r, rfl, h1, h2⟩ := (by simpa only [RepL] using h : ∃ v r, vs = v :: r ∧ Rep H F M d v ∧ RepL H F M ds r)
    cases n with
    | zero => exact h
    | succ n => exact ih h2 n
theorem RepL.set {ds : List D} {vs : List V} (h : RepL H F M ds vs) {d : D} {v : V} (r : Rep H F M d v) (n : Nat) : RepL H F M (ds.set n d) (vs.set n v) := by
  induction ds generalizing vs n with
  | nil => simp only [RepL] at h; subst h; simp [RepL]
  | cons x ds ih =>
    simp only [RepL] at h
    obtain ⟨w, t, rfl, h1, h2⟩ := h
    cases n with
    | zero => exact .cons r h2
    | succ n => exact .cons h1 (ih h2 n)
theorem RepL.reverse {ds : List D} {vs : List V} (h : RepL H F M ds vs) : RepL H F M ds.reverse vs.reverse := by
  induction ds generalizing vs with
  | nil => simp only [RepL] at h; subst h; simp [RepL]
  | cons d ds ih =>
    simp only [RepL] at h
    obtain ⟨v, r, rfl, h1, h2⟩ := h
    rw [List.reverse_cons, List.reverse_cons]
    exact (ih h2).append (.cons h1 .nil)
theorem RepL.of_get {ds : List D} {vs : List V} (hl : ds.length = vs.length) (h : ∀ (i : Nat) (d : D) (v : V), ds[i]? = some d → vs[i]? = some v → Rep H F M d v) : RepL H F M ds vs := by
  induction ds generalizing vs with
  | nil => cases vs with
    | nil => exact .nil
    | cons _ _ => simp at hl
  | cons d ds ih => cases vs with
    | nil => simp at hl
    | cons v vs => exact .cons (h 0 d v rfl rfl) (ih (by simpa using hl) fun i x y e1 e2 => h (i + 1) x y (by simpa using e1) (by simpa using e2))
theorem RepL.replicate {ds : List D} {vs : List V} (h : RepL H F M ds vs) (n : Nat) : RepL H F M (List.replicate n ds).flatten (List.replicate n vs).flatten := by
  induction n with
  | zero => exact .nil
  | succ n ih => rw [List.replicate_succ, List.replicate_succ, List.flatten_cons, List.flatten_cons]; exact h.append ih
theorem RepL.erase {ds : List D} {vs : List V} (h : RepL H F M ds vs) (n : Nat) : RepL H F M (ds.eraseIdx n) (vs.eraseIdx n) := by
  induction ds generalizing vs n with
  | nil => simp only [RepL] at h; subst h; simp [RepL]
  | cons x ds ih =>
    simp only [RepL] at h
    obtain ⟨w, t, rfl, h1, h2⟩ := h
    cases n with
    | zero => exact h2
    | succ n => exact .cons h1 (ih h2 n)
theorem EnR.set {env : Env} {σ : St} (h : EnR H F M env σ) {d : D} {v : V} (r : Rep H F M d v) (i : Nat) : EnR H F M (env.set i (some d)) (σ.set i (some v)) := by
  refine ⟨by simpa using h.len, fun j x e => ?_⟩
  by_cases hj : j = i
  · subst hj
    have hlt : j < env.length := by
      have := (List.getElem?_eq_some_iff.mp e).1
      simpa using this
    rw [List.getElem?_set_self hlt] at e
    cases e
    exact ⟨v, by rw [List.getElem?_set_self (by rw [← h.len]; exact hlt)], r⟩
  · rw [List.getElem?_set_ne (Ne.symm hj)] at e ⊢
    exact h.at_ j x e
theorem EnR.clear {env : Env} {σ : St} (h : EnR H F M env σ) (i : Nat) : EnR H F M (env.set i none) (σ.set i none) := by
  refine ⟨by simpa using h.len, fun j x e => ?_⟩
  by_cases hj : j = i
  · subst hj
    by_cases hlt : j < env.length
    · rw [List.getElem?_set_self hlt] at e; cases e
    · rw [List.getElem?_eq_none (by simpa using hlt)] at e; cases e
  · rw [List.getElem?_set_ne (Ne.symm hj)] at e ⊢
    exact h.at_ j x e
theorem EnR.wipe {env : Env} {σ : St} (h : EnR H F M env σ) : ∀ vs : List Nat, EnR H F M (wipe env vs) (L2.wipe σ vs)
  | [] => h
  | v :: vs => (EnR.wipe h vs).clear v

/-! ### a new object, a written one -/
variable {cl : Nat → Addr} {fl : Nat → Str} {st : Sto}
theorem ObR.le {ob : Ob} {a : Addr} (l : Le F M H F' M' H') (mf : ∀ a ∈ M, a ∈ F) (keep : ∀ o, H a = some o → H' a = some o) (h : ObR H F M cl fl ob a) : ObR H' F' M' cl fl ob a := by
  match ob, h with
  | .lst ds, ⟨vs, e, r⟩ => exact ⟨vs, keep _ e, r.le l mf⟩
  | .dct false ks ds, ⟨kvs, e, ek, r⟩ => exact ⟨kvs, keep _ e, ek, r.le l mf⟩
  | .dct true ks ds, ⟨kvs, e, ek, r⟩ => exact ⟨kvs, keep _ e, ek, r.le l mf⟩
  | .ins c fs, ⟨dx, fvs, e, ek, r⟩ => exact ⟨dx, fvs, keep _ e, ek, r.le l mf⟩
/-- a new object that nobody writes -/
theorem Le.fresh {p : Addr} {o : HO} (F M : Ads) (hp : H p = none) : Le F M H F M (upd H p o) where
  ext := fun a u h _ => by rw [upd_ne (ne_of_none h hp)]; exact h
  alive := fun a h => by
    by_cases e : a = p
    · subst e; exact absurd hp h
    · rw [upd_ne e]; exact h
  tups := fun a xs h => by rw [upd_ne (ne_of_none h hp)]; exact h
  frzs := fun a u w h => by rw [upd_ne (ne_of_none h hp)]; exact h
  pre := fun _ _ h => h
  fsub := fun _ h => h
  fnew := fun _ h => .inl h
  mnew := fun _ h => .inl h
theorem SR.fresh {p : Addr} {o : HO} (S : SR H F M cl fl st) (hp : H p = none) : SR (upd H p o) F M cl fl st :=
  ⟨S.len, S.nd, S.mf, fun a h => (Le.fresh (o := o) F M hp).alive a (S.fs a h), fun n ob a e1 e2 => (S.obs n ob a e1 e2).le (Le.fresh F M hp) S.mf fun u h => by
    rw [upd_ne (ne_of_none h hp)]; exact h⟩
/-- a new object of the store -/
theorem Le.alloc {p : Addr} {o : HO} (F M : Ads) (hp : H p = none) : Le F M H (F ++ [p]) (M ++ [p]) (upd H p o) where
  ext := fun a u h _ => by rw [upd_ne (ne_of_none h hp)]; exact h
  alive := (Le.fresh (o := o) F M hp).alive
  tups := fun a xs h => by rw [upd_ne (ne_of_none h hp)]; exact h
  frzs := fun a u w h => by rw [upd_ne (ne_of_none h hp)]; exact h
  pre := fun n a h => by
    rw [List.getElem?_append_left (List.getElem?_eq_some_iff.mp h).1]; exact h
  fsub := fun _ h => List.mem_append_left _ h
  fnew := fun a h => by
    rcases List.mem_append.mp h with h | h
    · exact .inl h
    · have e : a = p := by simpa using h
      subst e; exact .inr hp
  mnew := fun a h => by
    rcases List.mem_append.mp h with h | h
    · exact .inl h
    · have e : a = p := by simpa using h
      subst e; exact .inr hp
theorem SR.alloc {p : Addr} {o : HO} {ob : Ob} (S : SR H F M cl fl st) (hp : H p = none) (r : ObR (upd H p o) (F ++ [p]) (M ++ [p]) cl fl ob p) : SR (upd H p o) (F ++ [p]) (M ++ [p]) cl fl (st ++ [ob]) where
  len := by simp [S.len]
  nd := by
    have hn : p ∉ M := fun z => S.fs p (S.mf p z) hp
    rw [List.nodup_append]
    exact ⟨S.nd, by simp, fun a ha b hb e => by
      have e2 : b = p := by simpa using hb
      subst e2; subst e; exact hn ha⟩
  mf := fun a h => by
    rcases List.mem_append.mp h with h | h
    · exact List.mem_append_left _ (S.mf a h)
    · exact List.mem_append_right _ h
  fs := fun a h => by
    rcases List.mem_append.mp h with h | h
    · exact (Le.fresh (o := o) F M hp).alive a (S.fs a h)
    · have e : a = p := by simpa using h
      subst e; rw [upd_same]; simp
  obs := fun n ob' a e1 e2 => by
    by_cases hn : n < st.length
    · rw [List.getElem?_append_left hn] at e1
      rw [List.getElem?_append_left (by rw [S.len]; exact hn)] at e2
      exact (S.obs n ob' a e1 e2).le (Le.alloc F M hp) S.mf fun u h => by
        rw [upd_ne (ne_of_none h hp)]; exact h
    · have en : n = st.length := by
        have := (List.getElem?_eq_some_iff.mp e1).1
        simp at this; omega
      subst en
      rw [List.getElem?_append_right (Nat.le_refl _)] at e1
      rw [List.getElem?_append_right (by rw [S.len]; exact Nat.le_refl _), S.len] at e2
      simp at e1 e2
      subst e1; subst e2
      exact r
/-- an object of the store written -/
theorem Le.write {a : Addr} {o u : HO} (F M : Ads) (hm : a ∈ M) (h : H a = some u) (ht : ∀ xs, u ≠ .tup xs) (hf : ∀ x y, u ≠ .frz x y) : Le F M H F M (upd H a o) where
  ext := fun b w e n => by
    rw [upd_ne (fun z => n (by rw [z]; exact hm))]; exact e
  alive := fun b e => by
    by_cases z : b = a
    · subst z; rw [upd_same]; simp
    · rw [upd_ne z]; exact e
  tups := fun b xs e => by
    rw [upd_ne (fun z => by subst z; rw [h] at e; exact ht xs (Option.some.inj e))]; exact e
  frzs := fun b x y e => by
    rw [upd_ne (fun z => by subst z; rw [h] at e; exact hf x y (Option.some.inj e))]; exact e
  pre := fun _ _ h => h
  fsub := fun _ h => h
  fnew := fun _ h => .inl h
  mnew := fun _ h => .inl h
theorem nodup_get {M : Ads} (nd : M.Nodup) {i j : Nat} {a : Addr} (h1 : M[i]? = some a) (h2 : M[j]? = some a) : i = j := by
  obtain ⟨p, e1⟩ := List.getElem?_eq_some_iff.mp h1
  obtain ⟨q, e2⟩ := List.getElem?_eq_some_iff.mp h2
  exact (List.getElem_inj nd).mp (e1.trans e2.symm)
theorem SR.write {n : Nat} {a : Addr} {o u : HO} {ob : Ob} (S : SR H F M cl fl st) (hn : M[n]? = some a) (h : H a = some u) (ht : ∀ xs, u ≠ .tup xs) (hf : ∀ x y, u ≠ .frz x y)
    (r : ObR (upd H a o) F M cl fl ob a) : SR (upd H a o) F M cl fl (st.set n ob) where
  len := by simp [S.len]
  nd := S.nd
  mf := S.mf
  fs := fun b hb => (Le.write (o := o) F M (List.mem_of_getElem? hn) h ht hf).alive b (S.fs b hb)
  obs := fun j ob' b e1 e2 => by
    by_cases hj : j = n
    · subst hj
      rw [hn] at e2; cases e2
      rw [List.getElem?_set_self (by rw [← S.len]; exact (List.getElem?_eq_some_iff.mp hn).1)] at e1
      cases e1; exact r
    · rw [List.getElem?_set_ne (Ne.symm hj)] at e1
      refine (S.obs j ob' b e1 e2).le (Le.write F M (List.mem_of_getElem? hn) h ht hf) S.mf fun w e => ?_
      rw [upd_ne (fun z => hj (nodup_get S.nd (by rw [← z]; exact e2) hn))]; exact e
theorem SR.has {n : Nat} {ob : Ob} (S : SR H F M cl fl st) (e : st[n]? = some ob) : ∃ a, M[n]? = some a ∧ ObR H F M cl fl ob a := by
  have hlt : n < M.length := by rw [S.len]; exact (List.getElem?_eq_some_iff.mp e).1
  exact ⟨M[n], List.getElem?_eq_getElem hlt, S.obs n ob _ e (List.getElem?_eq_getElem hlt)⟩
end
end Pm

/-! Pm, part B2: from the text to the small language; readings. -/
namespace Pm
open PySem PySem.Spec L2

/-! ### the text's terms -/
/-- what the text's module has: own defs (their numbers; whether they write what is handed in), constants, classes, fields, methods; where a new list is an object of the store, where a new dict has tuples as keys -/
structure GT where
  fns : List (Str × Nat × Bool)
  cons : List (Str × D)
  cls : List (Str × Nat)
  flds : List Str
  mths : List Str
  muts : List (Nat × Nat)
  tups : List (Nat × Nat)
/-- where one stands: the names by slot, the scope, the names whose cells were made here -/
structure TC where
  N : List Str
  sc : Scope
  fnc : Str → Bool

def slot (N : List Str) (x : Str) : Option Nat := N.findIdx? (fun y => decide (y = x))
def nmOk (x : Str) : Bool := !(x == ("__debug__" : Str)) && !(x == ("__classdict__" : Str))
def visB (sc : Scope) (x : Str) : Bool := match sc.names.lookup x with
  | some .local => true | some .cell => true | some .free => true | _ => false
def locB (c : TC) (x : Str) : Bool := match c.sc.names.lookup x with
  | some .local => true | some .cell => c.fnc x | _ => false
def glB (sc : Scope) (x : Str) : Bool := match sc.names.lookup x with
  | some .globalImplicit => nmOk x && !(x == ("__name__" : Str)) | _ => false
def atP (l : List (Nat × Nat)) (p : Pos) : Bool := l.contains (p.line, p.col)
def plainE : Expr → Bool
  | .Starred .. => false | .Slice .. => false | .Set .. => false | _ => true
/-- no call of a bare name without arguments -/
def notSuper : Expr → Bool
  | .Call (.Name _ _) [] [] _ => false
  | _ => true
def isTupE : Expr → Bool
  | .Tuple .. => true | _ => false
def bopOf : Operator → Option Bop
  | .Add => some .add | .Sub => some .sub | .Mult => some .mul | .FloorDiv => some .fdiv | .Mod => some .mod | .Pow => some .pow | _ => none
def copOf : CmpOp → Cop
  | .Eq => .eq | .NotEq => .ne | .Lt => .lt | .LtE => .le | .Gt => .gt | .GtE => .ge | .Is => .is | .IsNot => .isn | .In => .in_ | .NotIn => .nin
def biT : List (Str × Bi) := [("len", .len), ("abs", .abs), ("int", .int), ("str", .str), ("all", .all), ("any", .any), ("sum", .sum), ("min", .min), ("max", .max),
  ("tuple", .tuple), ("list", .list), ("dict", .dict), ("sorted", .sorted), ("set", .set)]
def bmT : List (Str × Bm) := [("append", .append), ("extend", .extend), ("insert", .insert), ("pop", .pop), ("remove", .remove), ("index", .index), ("get", .get), ("count", .count),
  ("reverse", .reverse), ("join", .join), ("split", .split), ("setdefault", .setdefault), ("items", .items), ("clear", .clear), ("replace", .replace)]
def tyT : List (Str × Ty) := [("int", .int), ("bool", .bool), ("str", .str), ("list", .list), ("tuple", .tuple), ("dict", .dict)]
/-- the classes that isinstance is asked of -/
def tyOf (sc : Scope) : Expr → Option Ty
  | .Name x _ => if glB sc x then tyT.lookup x else none
  | _ => none
def tysOf (sc : Scope) : Expr → Option (List Ty)
  | .Tuple es _ _ => es.mapM (tyOf sc)
  | e => (tyOf sc e).map fun t => [t]
/-- names of a comprehension's own -/
def ownOf (N : List Str) (scope : Scope) : List (Str × Nat) := scope.names.filterMap fun y => match y.2 with
  | .local => (slot N y.1).map fun i => (y.1, i)
  | .cell => (slot N y.1).map fun i => (y.1, i)
  | _ => none
def TC.blk (c : TC) (scope : Scope) : TC := { N := c.N, sc := relS scope c.sc, fnc := fun x => scope.names.lookup x == some .cell }

section
variable (G : GT)
def trName (c : TC) (x : Str) : IE :=
  if visB c.sc x then (if nmOk x then match slot c.N x with | some i => .var i | none => .bad else .bad)
  else if glB c.sc x then match G.cons.lookup x with | some d => .cst d | none => .bad else .bad
def trConst : Const → IE
  | .none => .cst .non | .bool b => .cst (.bl b) | .int i => .cst (.int i) | .str s => .cst (.str s) | _ => .bad
def trArgs (t : Expr → IE) (es : List Expr) : Option (List IE) := if es.length ≤ 1000 && es.all plainE then some (es.map t) else none
/-- a call of a name -/
def trCall (c : TC) (t : Expr → IE) (x : Str) (args : List Expr) (pos : Pos) : IE :=
  if !glB c.sc x || args.isEmpty then .bad else
  match trArgs t args with
  | none => .bad
  | some es => match G.fns.lookup x with
    | some (j, eff) => .call j eff es
    | none => match G.cls.lookup x with
      | some k => .mk k es
      | none => match biT.lookup x with
        | some b => .bi b (atP G.muts pos) es
        | none => if x == ("isinstance" : Str) then match args with
            | [a, ty] => match tysOf c.sc ty with
              | some ts => if ts.length ≤ 1000 then .isi (t a) ts else .bad
              | none => .bad
            | _ => .bad
          else .bad
def fidx (l : List Str) (x : Str) : Option Nat := l.findIdx? (fun y => decide (y = x))
def trMeth (t : Expr → IE) (o : Expr) (m : Str) (args : List Expr) (apos pos : Pos) : IE :=
  if !(apos.endLine == pos.line) || !decide (args.length < 20) then .bad else match trArgs t args with
  | none => .bad
  | some es => if !plainE o || !notSuper o then .bad else match fidx G.mths m with
    | some j => .mth (t o) j es
    | none => match bmT.lookup m with
      | some b => .bm b (atP G.muts pos) (t o) es
      | none => .bad
def isNeg1 : Expr → Bool
  | .UnaryOp .USub (.Constant (.int 1) _ _) _ => true
  | _ => false
def trPart (t : Expr → IE) : Option Expr → IE
  | none => .cst .non
  | some e => if plainE e then (match t e with
    | .cst .non => .bad
    | i => i) else .bad
def trSub (t : Expr → IE) (a i : Expr) (pos : Pos) : IE := if !plainE a then .bad else match i with
  | .Slice lo hi none _ => .slc (atP G.muts pos) (t a) (trPart t lo) (trPart t hi)
  | .Slice none none (some s) _ => if isNeg1 s then .rev (atP G.muts pos) (t a) else .bad
  | i => if plainE i then .idx (t a) (t i) else .bad
def trAnd (t : Expr → IE) : List Expr → IE
  | [] => .bad
  | [a] => t a
  | a :: r => .and (t a) (trAnd t r)
def trOr (t : Expr → IE) : List Expr → IE
  | [] => .bad
  | [a] => t a
  | a :: r => .or (t a) (trOr t r)
def trAndT (t : Expr → Ts) : List Expr → Ts
  | [] => .val .bad
  | [a] => t a
  | a :: r => .and (t a) (trAndT t r)
def trOrT (t : Expr → Ts) : List Expr → Ts
  | [] => .val .bad
  | [a] => t a
  | a :: r => .or (t a) (trOrT t r)
def trCmp (t : Expr → IE) (a : Expr) (ops : List CmpOp) (bs : List Expr) : IE := match ops, bs with
  | [o], [b] => if plainE b then .cmp (copOf o) (t a) (t b) else .bad
  | [o, p], [b, d] => if plainE b && plainE d then .cmp2 (copOf o) (copOf p) (t a) (t b) (t d) else .bad
  | _, _ => .bad
def trRng (t : Expr → IE) (c : TC) (e : Expr) : Option (List IE) := match e with
  | .Call (.Name x _) args [] _ => if glB c.sc x && x == ("range" : Str) && !args.isEmpty then trArgs t args else none
  | _ => none
def trIt (t : Expr → IE) (c : TC) (tup : Bool) (e : Expr) : It := match trRng t c e with
  | some es => .rng es
  | none => match e with
    | .Call (.Name x _) args [] _ => if glB c.sc x && x == ("enumerate" : Str) && tup then match args with
          | [a] => if plainE a then .enm (t a) else .val .bad
          | _ => .val .bad
        else if glB c.sc x && x == ("zip" : Str) && tup then match args with
          | [a, b] => if plainE a && plainE b then .zip (t a) (t b) else .val .bad
          | _ => .val .bad
        else if glB c.sc x && x == ("reversed" : Str) then match args with
          | [a] => if plainE a then match trRng t c a with
              | some es => .revr es
              | none => .rev (t a)
            else .val .bad
          | _ => .val .bad
        else .val (t e)
    | e => if plainE e then .val (t e) else .val .bad
/-- a target -/
def trTg (t : Expr → IE) (c : TC) : Nat → Expr → Tg
  | 0, _ => .sub .bad .bad
  | n + 1, e => match e with
    | .Name x _ => if locB c x then match slot c.N x with | some i => .nm i | none => .sub .bad .bad else .sub .bad .bad
    | .Tuple es _ _ => if es.all plainE then .tup (es.map (trTg t c n)) else .sub .bad .bad
    | .Subscript o i _ => if plainE o && plainE i then .sub (t o) (t i) else .sub .bad .bad
    | .Attribute o f _ => match fidx G.flds f with
      | some j => if plainE o then .fld (t o) j else .sub .bad .bad
      | none => .sub .bad .bad
    | _ => .sub .bad .bad
mutual
def trE : Nat → TC → Expr → IE
  | 0, _, _ => .bad
  | n + 1, c, e => match e with
    | .Constant v _ _ => trConst v
    | .Name x _ => trName G c x
    | .Tuple es _ _ => match trArgs (trE n c) es with | some is => .tup is | none => .bad
    | .List es pos => match trArgs (trE n c) es with | some is => .lst (atP G.muts pos) is | none => .bad
    | .Dict ks vs pos => if ks.isEmpty && vs.isEmpty then .dct0 (atP G.muts pos) (atP G.tups pos) else .bad
    | .BinOp a op b pos => match bopOf op with | some o => .bin o (atP G.muts pos) (trE n c a) (trE n c b) | none => .bad
    | .UnaryOp op a _ => match op with | .USub => .neg (trE n c a) | .Not => .not (trE n c a) | _ => .bad
    | .BoolOp op es _ => match op with | .And => trAnd (trE n c) es | .Or => trOr (trE n c) es
    | .Compare a ops bs _ => trCmp (trE n c) a ops bs
    | .IfExp t a b _ => .ife (trT n c t) (trE n c a) (trE n c b)
    | .Subscript a i pos => trSub G (trE n c) a i pos
    | .Call f args kws pos => if !kws.isEmpty then .bad else match f with
      | .Name x _ => trCall G c (trE n c) x args pos
      | .Attribute o m apos => trMeth G (trE n c) o m args apos pos
      | _ => .bad
    | .Attribute o f _ => match fidx G.flds f with | some j => if plainE o then .fld (trE n c o) j else .bad | none => .bad
    | .ListComp elt gens scope pos => match gens with
      | [⟨tg, iter, ifs, 0⟩] => if ifs.length ≤ 1 && ifs.all plainE && plainE elt && blkC c.N c.sc scope (ownOf c.N scope) && (trTg G (trE n (c.blk scope)) (c.blk scope) n tg).slots.all (((ownOf c.N scope).map (·.2)).contains ·) then
          .comp (atP G.muts pos) ((ownOf c.N scope).map (·.2)) (trTg G (trE n (c.blk scope)) (c.blk scope) n tg) (trIt (trE n c) c (isTupE tg) iter) (ifs.map (trT n (c.blk scope))) (trE n (c.blk scope) elt)
        else .bad
      | _ => .bad
    | _ => .bad
def trT : Nat → TC → Expr → Ts
  | 0, _, _ => .val .bad
  | n + 1, c, e => match e with
    | .UnaryOp .Not a _ => .not (trT n c a)
    | .BoolOp op es _ => match op with | .And => trAndT (trT n c) es | .Or => trOrT (trT n c) es
    | .IfExp .. => .val .bad
    | e => if plainE e then .val (trE n c e) else .val .bad
end
/-- plain names, all of them locals, no two alike -/
def parNames (c : TC) : List Expr → Option (List Nat)
  | [] => some []
  | .Name x _ :: r => match c.sc.names.lookup x with
    | some .local => match slot c.N x, parNames c r with
      | some i, some is => if is.contains i then none else some (i :: is)
      | _, _ => none
    | _ => none
  | _ => none
def trS : Nat → TC → Stmt → IS
  | 0, _, _ => .bad
  | n + 1, c, s => match s with
    | .Assign tgs e _ => match tgs with
      | [tg] => if !plainE e then .bad else if isTupE tg && isTupE e then .bad else .asg (trTg G (trE G n c) c n tg) (trE G n c e)
      | _ => .bad
    | .AugAssign tg op e _ => match bopOf op with
      | none => .bad
      | some o => match tg with
        | .Name x _ => if locB c x then match slot c.N x with | some i => .aug i o (trE G n c e) | none => .bad else .bad
        | .Subscript a i _ => if plainE a && plainE i then .augS (trE G n c a) (trE G n c i) o (trE G n c e) else .bad
        | .Attribute a f _ => match fidx G.flds f with | some j => .augF (trE G n c a) j o (trE G n c e) | none => .bad
        | _ => .bad
    | .Expr e _ => match e with
      | .Call .. => .expr (trE G n c e)
      | _ => .bad
    | .Return v _ => match v with | some e => if plainE e then .ret (trE G n c e) else .bad | none => .ret (.cst .non)
    | .If t a b _ => .ife (trT G n c t) (a.map (trS n c)) (b.map (trS n c))
    | .For tg iter body orelse _ => if orelse.isEmpty then .for_ (trTg G (trE G n c) c n tg) (trIt (trE G n c) c (isTupE tg) iter) (body.map (trS n c)) else .bad
    | .While t body orelse _ => if orelse.isEmpty then .whl (trT G n c t) (body.map (trS n c)) else .bad
    | .Pass _ => .pass
    | .Break _ => .brk
    | .Continue _ => .cnt
    | _ => .bad
end

/-! ### readings -/
/-- the world of the text: the classes' places, the fields' names, the methods, what a call of a def comes to -/
structure Wd where
  cl : Nat → Addr
  fl : Nat → Str
  P : Pg
  C : Call
abbrev SRx (W : Wd) (H : Hp) (F M : Ads) (st : Sto) : Prop := SR H F M W.cl W.fl st
section
variable (W : Wd)
def RE (e : IE) : TE := fun σ H Q => ∃ F M env st d st', EnR H F M env σ ∧ SRx W H F M st ∧ evE W.P W.C e env st = some (d, st') ∧
  ∀ F' M' H' v, Le F M H F' M' H' → SRx W H' F' M' st' → Rep H' F' M' d v → Q v H'
def REs (es : List IE) : TA := fun σ H Q => ∃ F M env st ds st', EnR H F M env σ ∧ SRx W H F M st ∧ evEs W.P W.C es env st = some (ds, st') ∧
  ∀ F' M' H' vs, Le F M H F' M' H' → SRx W H' F' M' st' → RepL H' F' M' ds vs → Q vs H'
def RT (t : Ts) : TT := fun σ H Q => ∃ F M env st b st', EnR H F M env σ ∧ SRx W H F M st ∧ evT W.P W.C t env st = some (b, st') ∧
  ∀ F' M' H', Le F M H F' M' H' → SRx W H' F' M' st' → Q b H'
def RTs (t : List Ts) : TT := fun σ H Q => ∃ F M env st b st', EnR H F M env σ ∧ SRx W H F M st ∧ evTs W.P W.C t env st = some (b, st') ∧
  ∀ F' M' H', Le F M H F' M' H' → SRx W H' F' M' st' → Q b H'
/-- but for these slots all is as it was -/
def Keep (L : List Nat) (σ σ' : L2.St) : Prop := σ'.length = σ.length ∧ ∀ j, j ∉ L → σ'[j]? = σ[j]?
def RG (t : Tg) : TG := fun v σ H Q => ∃ F M env st d env' st', EnR H F M env σ ∧ SRx W H F M st ∧ Rep H F M d v ∧ asgT W.P W.C t d env st = some (env', st') ∧
  ∀ F' M' H' σ', Le F M H F' M' H' → SRx W H' F' M' st' → EnR H' F' M' env' σ' → Keep t.slots σ σ' → Q σ' H'
def RGs (ts : List Tg) : TGs := fun vs σ H Q => ∃ F M env st ds env' st', EnR H F M env σ ∧ SRx W H F M st ∧ RepL H F M ds vs ∧ asgTs W.P W.C ts ds env st = some (env', st') ∧
  ∀ F' M' H' σ', Le F M H F' M' H' → SRx W H' F' M' st' → EnR H' F' M' env' σ' → Keep (slotsL ts) σ σ' → Q σ' H'
/-- what a statement's outcome leaves -/
def OutR (F M : Ads) (H : Hp) (D : Ends) (o : Out) : Prop := match o with
  | .nx env st => ∀ F' M' H' σ', Le F M H F' M' H' → SRx W H' F' M' st → EnR H' F' M' env σ' → D.nx σ' H'
  | .bk env st => ∀ F' M' H' σ', Le F M H F' M' H' → SRx W H' F' M' st → EnR H' F' M' env σ' → D.bk σ' H'
  | .ct env st => ∀ F' M' H' σ', Le F M H F' M' H' → SRx W H' F' M' st → EnR H' F' M' env σ' → D.ct σ' H'
  | .rt d st => ∀ F' M' H' v, Le F M H F' M' H' → SRx W H' F' M' st → Rep H' F' M' d v → D.rt v H'
def RS (s : IS) : TS := fun D σ H => ∃ F M env st o, EnR H F M env σ ∧ SRx W H F M st ∧ exS W.P W.C s env st = some o ∧ OutR W F M H D o
def RSs (s : List IS) : TS := fun D σ H => ∃ F M env st o, EnR H F M env σ ∧ SRx W H F M st ∧ exSs W.P W.C s env st = some o ∧ OutR W F M H D o
end
end Pm

/-! Pm, part B3: the operators, by values. -/
namespace Pm
open PySem PySem.Spec L2
open PyProof.Rows hiding St
def freeNames : List Str := ["len", "abs", "int", "str", "all", "any", "sum", "min", "max", "tuple", "list", "dict", "sorted", "set", "isinstance", "range", "enumerate", "zip", "reversed", "bool"]
/-- where a piece of text stands -/
structure XOk (X : Cx) (c : TC) : Prop where
  n : X.N = c.N
  sc : X.env.scope = c.sc
  nd : c.N.Nodup
  calm : X.calm = true
  fn : ∀ x, c.fnc x = true → X.fn x = true
  xe : X.xe = fun _ _ => False
  un : X.A.units + 200 < cLine
  gd : X.A.guards = some []
  free : ∀ x ∈ freeNames, X.mg x = none

section
variable {X : Cx} {W : Wd} {c : TC} {F M : Ads} {H : Hp} {st st' : Sto} {d : D} {Q : VK} {m : Bool}
abbrev PostV (W : Wd) (F M : Ads) (H : Hp) (d : D) (st : Sto) (Q : VK) : Prop := ∀ F' M' H' v, Le F M H F' M' H' → SRx W H' F' M' st → Rep H' F' M' d v → Q v H'
theorem lim_line {n : Nat} (h : n ≤ lim) : n ≤ sizeLine := Nat.le_trans h (by decide)
theorem PostV.here {v : V} (p : PostV W F M H d st Q) (S : SRx W H F M st) (r : Rep H F M d v) : Q v H := p F M H v (Le.refl F M H) S r
/-- a new list -/
theorem newL_post {ds : List D} {vs : List V} {p : Addr} (S : SRx W H F M st) (r : RepL H F M ds vs) (hp : H p = none) (e : newL m ds st = (d, st')) (q : PostV W F M H d st' Q) : Q (.ref p) (upd H p (.lst vs)) := by
  cases m with
  | true =>
    simp only [newL, if_true, Prod.mk.injEq] at e
    obtain ⟨rfl, rfl⟩ := e
    have l := Le.alloc (o := .lst vs) F M hp
    refine q _ _ _ _ l (S.alloc hp ⟨vs, upd_same, r.le l S.mf⟩) ?_
    simp only [Rep]
    exact ⟨p, rfl, by rw [← S.len]; simp⟩
  | false =>
    simp only [newL, Bool.false_eq_true, if_false, Prod.mk.injEq] at e
    obtain ⟨rfl, rfl⟩ := e
    have l := Le.fresh (o := .lst vs) F M hp
    refine q _ _ _ _ l (S.fresh hp) ?_
    simp only [Rep]
    exact ⟨p, vs, rfl, .inl upd_same, fun z => S.fs p z hp, r.le l S.mf⟩
/-- a new tuple -/
theorem newT_post {ds : List D} {vs : List V} {p : Addr} (S : SRx W H F M st) (r : RepL H F M ds vs) (hp : H p = none) (q : PostV W F M H (.tup ds) st Q) : Q (.ref p) (upd H p (.tup vs)) := by
  have l := Le.fresh (o := .tup vs) F M hp
  refine q _ _ _ _ l (S.fresh hp) ?_
  simp only [Rep]
  exact ⟨p, vs, rfl, upd_same, r.le l S.mf⟩
theorem lstOf_rep {xs : List D} {v : V} (S : SRx W H F M st) (r : Rep H F M d v) (e : lstOf st d = some xs) : ∃ a vs, v = .ref a ∧ Rd H a (.lst vs) ∧ RepL H F M xs vs := by
  cases d with
  | lst ys =>
    simp only [lstOf, Option.some.injEq] at e; subst e
    simp only [Rep] at r
    obtain ⟨a, vs, e1, e2, _, e3⟩ := r
    exact ⟨a, vs, e1, e2, e3⟩
  | ref n =>
    simp only [Rep] at r
    obtain ⟨a, rfl, hm⟩ := r
    simp only [lstOf] at e
    split at e
    · rename_i ys hy
      simp only [Option.some.injEq] at e; subst e
      obtain ⟨vs, h1, h2⟩ := S.obs n _ a hy hm
      exact ⟨a, vs, rfl, .inl h1, h2⟩
    · cases e
  | _ => simp [lstOf] at e
theorem seqOf_rep {xs : List D} {v : V} (S : SRx W H F M st) (r : Rep H F M d v) (e : seqOf st d = some xs) : ∃ a vs, v = .ref a ∧ (SqL X.K H a vs ∨ H a = some (.tup vs)) ∧ RepL H F M xs vs := by
  cases d with
  | tup ys =>
    simp only [seqOf, Option.some.injEq] at e; subst e
    simp only [Rep] at r
    obtain ⟨a, vs, e1, e2, e3⟩ := r
    exact ⟨a, vs, e1, .inr e2, e3⟩
  | lst ys =>
    obtain ⟨a, vs, e1, e2, e3⟩ := lstOf_rep S r (by simpa [lstOf, seqOf] using e)
    exact ⟨a, vs, e1, .inl (.inl e2), e3⟩
  | ref n =>
    obtain ⟨a, vs, e1, e2, e3⟩ := lstOf_rep S r (by simpa [lstOf, seqOf] using e)
    exact ⟨a, vs, e1, .inl (.inl e2), e3⟩
  | _ => simp [seqOf] at e

/-! ### a binary operator -/
theorem Inv.lstR {pins : List (Addr × Obj)} {σ : L2.St} {H : Hp} {s : Shared} {l : Addr} {xs : List V} (I : L2.Inv X pins σ H s) (h : Rd H l (.lst xs)) :
    xs.length ≤ sizeLine ∧ ∃ (its : List Value) (n : Nat), Vals xs its ∧ s.heap.get? l = some { cls := .type "list", data := .seq its.toArray n } := h.ok I.hok
theorem op_catR : OpR X (binaryOp .Add) (fun x y H Q => ∃ l b xs zs, x = .ref l ∧ y = .ref b ∧ Rd H l (.lst xs) ∧ Rd H b (.lst zs) ∧ xs.length + zs.length ≤ sizeLine ∧ ∀ p, H p = none → Q (.ref p) (upd H p (.lst (xs ++ zs)))) := by
  intro pins s σ H x y v u Q I rx ry h
  obtain ⟨l, b, xs, zs, rfl, rfl, hH, hB, hz, q⟩ := h
  cases rx
  cases ry
  obtain ⟨_, i1, n1, r1, e1⟩ := Inv.lstR I hH
  obtain ⟨_, i2, n2, r2, e2⟩ := Inv.lstR I hB
  have l1 := r1.length
  have l2 := r2.length
  refine PySem.P.add_list e1 e2 ?_ (by rw [List.size_toArray, List.size_toArray]; omega)
  rw [show i1.toArray ++ i2.toArray = (i1 ++ i2).toArray by simp]
  exact ⟨V.ref _, _, I.lnew (t' := s.toks) (r1.append r2) (by rw [List.length_append]; omega), rfl, q _ I.fresh⟩
theorem op_repR : OpR X (binaryOp .Mult) (fun x y H Q => ∃ l k xs, x = .ref l ∧ y = .int k ∧ Rd H l (.lst xs) ∧ (-(2 ^ 63) ≤ k ∧ k < 2 ^ 63) ∧ xs.length * k.toNat ≤ sizeLine ∧ ∀ p, H p = none → Q (.ref p) (upd H p (.lst (List.replicate k.toNat xs).flatten))) := by
  intro pins s σ H x y v u Q I rx ry h
  obtain ⟨l, k, xs, rfl, rfl, hH, ⟨h1, h2⟩, hz, q⟩ := h
  cases rx
  obtain ⟨t, rfl⟩ := ry
  obtain ⟨_, its, n, r, e⟩ := Inv.lstR I hH
  have lr := r.length
  have b1 : its.toArray.size * k.toNat ≤ sizeLine := by
    rw [List.size_toArray, ← lr]
    exact hz
  have b2 : ¬ its.toArray.size * k.toNat > (2 ^ 63 - 1) / 8 := by
    have z : (sizeLine : Nat) ≤ (2 ^ 63 - 1) / 8 := by decide
    omega
  have b3 : ¬ (!Builtin.List.listFitsIndex k) = true := by rw [fitsIndex_both h1 h2]; simp
  have b4 : ¬ Builtin.List.listTooLong (its.toArray.size * k.toNat) = true := by rw [notLongL b1]; simp
  have b5 : List.foldl (fun x1 x2 => x1 ++ x2) #[] (List.replicate (if its.toArray.isEmpty = true then 0 else k.toNat) its.toArray) = (List.replicate k.toNat its).flatten.toArray := by
    have z : ∀ m : Nat, List.foldl (fun x1 x2 => x1 ++ x2) #[] (List.replicate m its.toArray) = (List.replicate m its).flatten.toArray := fun m => (foldl_rep its m []).trans (by rw [List.nil_append])
    rw [z]
    cases its with
    | nil => simp
    | cons a r' => simp
  have ty := typeIs_int s k t
  refine wpAny_binaryOp_repeat_ref (T := "list") (U := "int") (by decide) ⟨_, e, rfl⟩ (fun s' => typeIs_int s' k t) noFill_list_mul F.fills_int_mul F.slot_int_rmul repeat_list F.slot_int_index.lookup ?_
  refine call_meets F.slot_int_rmul ty F.entry_int_rmul (F.args_int_rmul_2 _ _) (int___rmul___int_list k t l its.toArray n) ⟨e, rfl, ⟨_, e, rfl⟩, ?_⟩
  refine call_meets F.slot_list_mul ⟨_, e, rfl⟩ F.entry_list_mul (F.args_list_mul_2 _ _) (AutoListH.list___mul___list_int_3 l its.toArray n k t b3 b2 b4) ⟨e, ?_⟩
  rw [b5]
  exact ⟨V.ref _, _, I.lnew (t' := s.toks) (r.rep k.toNat) (by rw [lm_len_rep_flat, Nat.mul_comm]; exact hz), rfl, q _ I.fresh⟩

def opP : Bop → Operator
  | .add => .Add | .sub => .Sub | .mul => .Mult | .fdiv => .FloorDiv | .mod => .Mod | .pow => .Pow
theorem bopOf_op {op : Operator} {o : Bop} (h : bopOf op = some o) : op = opP o := by
  cases op <;> simp [bopOf] at h <;> subst h <;> rfl
/-- what is wanted of two values -/
def RV2 (W : Wd) (f : D → D → Sto → Rv) : R2 := fun x y H Q => ∃ F M st a b d st', SRx W H F M st ∧ Rep H F M a x ∧ Rep H F M b y ∧ f a b st = some (d, st') ∧ PostV W F M H d st' Q
theorem op_arith {o : Bop} : OpR X (binaryOp (opP o)) (fun x y H Q => ∃ i j k, x = .int i ∧ y = .int j ∧ arith o i j = some k ∧ Q (.int k) H) := by
  intro pins s σ H x y v u Q I rx ry h
  obtain ⟨i, j, k, rfl, rfl, e, q⟩ := h
  cases o with
  | add => simp only [arith, Option.some.injEq] at e; subst e; exact op_add pins s σ H _ _ v u Q I rx ry ⟨i, j, rfl, rfl, q⟩
  | sub => simp only [arith, Option.some.injEq] at e; subst e; exact op_sub pins s σ H _ _ v u Q I rx ry ⟨i, j, rfl, rfl, q⟩
  | mul =>
    simp only [arith] at e
    split at e
    · rename_i hb
      simp only [Option.some.injEq] at e; subst e
      refine op_mul pins s σ H _ _ v u Q I rx ry ⟨i, j, rfl, rfl, ?_, q⟩
      simp only [Bool.or_eq_true, decide_eq_true_eq] at hb
      unfold CMul
      have e64 : (2 : Int) ^ 64 = 18446744073709551616 := by decide
      rw [e64]
      omega
    · cases e
  | fdiv =>
    simp only [arith] at e
    split at e
    · rename_i hb
      simp only [Option.some.injEq] at e; subst e
      simp only [Bool.and_eq_true, decide_eq_true_eq] at hb
      exact op_fdiv pins s σ H _ _ v u Q I rx ry ⟨i, j, rfl, rfl, hb, q⟩
    · cases e
  | mod =>
    simp only [arith] at e
    split at e
    · rename_i hb
      simp only [Option.some.injEq] at e; subst e
      exact op_mod pins s σ H _ _ v u Q I rx ry ⟨i, j, rfl, rfl, hb, q⟩
    · cases e
  | pow =>
    simp only [arith] at e
    split at e
    · rename_i hb
      simp only [Option.some.injEq] at e; subst e
      simp only [Bool.and_eq_true, decide_eq_true_eq] at hb
      refine op_pow pins s σ H _ _ v u Q I rx ry ⟨i, j, rfl, rfl, ⟨hb.1.1, hb.1.2, ?_⟩, q⟩
      have e64 : (2 : Nat) ^ 64 = 18446744073709551616 := by decide
      rw [e64]; exact hb.2
    · cases e
theorem rep_int {i : Int} {v : V} : Rep H F M (.int i) v ↔ v = .int i := by simp only [Rep]
theorem op_bin {o : Bop} : OpR X (binaryOp (opP o)) (RV2 W (binop o m)) := by
  intro pins s σ H x y v u Q I rx ry h
  obtain ⟨F, M, st, a, b, d, st', S, ra, rb, e, q⟩ := h
  unfold binop at e
  split at e
  · rename_i i j
    simp only [Option.map_eq_some_iff, Prod.mk.injEq] at e
    obtain ⟨k, e, rfl, rfl⟩ := e
    simp only [Rep] at ra rb
    exact op_arith pins s σ H _ _ v u Q I rx ry ⟨i, j, k, ra, rb, e, q.here S (by simp only [Rep])⟩
  · rename_i z w
    split at e
    · rename_i hc
      simp only [Bool.and_eq_true, decide_eq_true_eq] at hc
      obtain ⟨rfl, hz⟩ := hc
      simp only [Option.some.injEq, Prod.mk.injEq] at e
      obtain ⟨rfl, rfl⟩ := e
      simp only [Rep] at ra rb
      exact op_add_str pins s σ H _ _ v u Q I rx ry ⟨z, w, ra, rb, lim_line hz, q.here S (by simp only [Rep])⟩
    · cases e
  · rename_i xs ys
    split at e
    · rename_i hc
      simp only [Bool.and_eq_true, decide_eq_true_eq] at hc
      obtain ⟨rfl, hz⟩ := hc
      simp only [Option.some.injEq, Prod.mk.injEq] at e
      obtain ⟨rfl, rfl⟩ := e
      have hl1 := ra
      have hl2 := rb
      simp only [Rep] at ra rb
      obtain ⟨p, vs, rfl, hp, r1⟩ := ra
      obtain ⟨t, us, rfl, ht, r2⟩ := rb
      have n1 := r1.length
      have n2 := r2.length
      refine op_catA pins s σ H _ _ v u Q I rx ry ⟨p, t, vs, us, rfl, rfl, SqT.of hp, SqT.of ht, by rw [← n1, ← n2]; exact lim_line hz, fun z => ?_, fun _ z => ?_, fun _ _ w hw => ?_⟩
      · subst z
        have e0 : xs = [] := List.eq_nil_of_length_eq_zero (by simpa using n1)
        subst e0
        exact q.here S hl2
      · subst z
        have e0 : ys = [] := List.eq_nil_of_length_eq_zero (by simpa using n2)
        subst e0
        rw [List.append_nil] at q
        exact q.here S hl1
      · exact newT_post S (r1.append r2) hw q
    · cases e
  · rename_i k _
    split at e
    · rename_i xs hx
      split at e
      · rename_i hc
        simp only [Bool.and_eq_true, decide_eq_true_eq] at hc
        simp only [Option.some.injEq] at e
        obtain ⟨p, vs, rfl, hp, r1⟩ := lstOf_rep S ra hx
        simp only [Rep] at rb
        have n1 := r1.length
        refine op_repR pins s σ H _ _ v u Q I rx ry ⟨p, k, vs, rfl, rb, hp, ⟨by omega, by omega⟩, by rw [← n1]; exact lim_line hc.1.1, fun w hw => ?_⟩
        exact newL_post S (r1.replicate _) hw e q
      · cases e
    · cases e
  · split at e
    · rename_i xs ys hx hy
      split at e
      · rename_i hz
        simp only [Option.some.injEq] at e
        obtain ⟨p, vs, rfl, hp, r1⟩ := lstOf_rep S ra hx
        obtain ⟨t, us, rfl, ht, r2⟩ := lstOf_rep S rb hy
        have n1 := r1.length
        have n2 := r2.length
        exact op_catR pins s σ H _ _ v u Q I rx ry ⟨p, t, vs, us, rfl, rfl, hp, ht, by rw [← n1, ← n2]; exact lim_line hz, fun w hw => newL_post S (r1.append r2) hw e q⟩
      · cases e
    · cases e

/-! ### data, comparisons -/
mutual
theorem dp_of : ∀ (d : D) (v : V), d.flat = true → Rep H F M d v → Dp X.K H v d.py
  | .non, v, _, r => by simp only [Rep] at r; subst r; exact .non
  | .bl b, v, _, r => by simp only [Rep] at r; subst r; exact .bl b
  | .int i, v, _, r => by simp only [Rep] at r; subst r; exact .int i
  | .str x, v, _, r => by simp only [Rep] at r; subst r; exact .str x
  | .tup ds, v, f, r => by
    simp only [Rep] at r
    obtain ⟨a, vs, rfl, h, r⟩ := r
    simp only [D.py]
    exact .tup (SqT.of h) (dp_all ds vs (by simpa [D.flat] using f) r)
  | .lst ds, v, f, r => by
    simp only [Rep] at r
    obtain ⟨a, vs, rfl, h, _, r⟩ := r
    simp only [D.py]
    exact .lst (.inl h) (dp_all ds vs (by simpa [D.flat] using f) r)
  | .dct _ _ _, _, f, _ => by simp [D.flat] at f
  | .ref _, _, f, _ => by simp [D.flat] at f
theorem dp_all : ∀ (ds : List D) (vs : List V), flatL ds = true → RepL H F M ds vs → DpAll X.K H vs (pyL ds)
  | [], vs, _, r => by simp only [RepL] at r; subst r; simp only [pyL]; exact .nil
  | d :: ds, vs, f, r => by
    simp only [RepL] at r
    obtain ⟨v, t, rfl, h1, h2⟩ := r
    simp only [flatL, Bool.and_eq_true] at f
    simp only [pyL]
    exact .cons (dp_of d v f.1 h1) (dp_all ds t f.2 h2)
end
mutual
/-- without objects of the store within, whatever the store -/
theorem Rep.noM {M' : Ads} : ∀ (d : D) (v : V), d.noRef = true → Rep H F M d v → Rep H F M' d v
  | .non, v, _, r => by simp only [Rep] at r ⊢; exact r
  | .bl b, v, _, r => by simp only [Rep] at r ⊢; exact r
  | .int i, v, _, r => by simp only [Rep] at r ⊢; exact r
  | .str x, v, _, r => by simp only [Rep] at r ⊢; exact r
  | .tup ds, v, f, r => by
    simp only [Rep] at r ⊢
    obtain ⟨a, vs, e, h, r⟩ := r
    exact ⟨a, vs, e, h, RepL.noM ds vs (by simpa [D.noRef] using f) r⟩
  | .lst ds, v, f, r => by
    simp only [Rep] at r ⊢
    obtain ⟨a, vs, e, h, n, r⟩ := r
    exact ⟨a, vs, e, h, n, RepL.noM ds vs (by simpa [D.noRef] using f) r⟩
  | .dct false ks ds, v, f, r => by
    simp only [Rep] at r ⊢
    simp only [D.noRef, Bool.and_eq_true] at f
    obtain ⟨a, e, n, kvs, h, ek, r⟩ := r
    exact ⟨a, e, n, kvs, h, ek, RepL.noM ds _ f.2 r⟩
  | .dct true ks ds, v, f, r => by
    simp only [Rep] at r ⊢
    simp only [D.noRef, Bool.and_eq_true] at f
    obtain ⟨a, e, n, kvs, h, ek, r⟩ := r
    exact ⟨a, e, n, kvs, h, ek, RepL.noM ds _ f.2 r⟩
  | .ref _, _, f, _ => by simp [D.noRef] at f
theorem RepL.noM {M' : Ads} : ∀ (ds : List D) (vs : List V), noRefL ds = true → RepL H F M ds vs → RepL H F M' ds vs
  | [], vs, _, r => by simp only [RepL] at r ⊢; exact r
  | d :: ds, vs, f, r => by
    simp only [RepL] at r ⊢
    simp only [noRefL, Bool.and_eq_true] at f
    obtain ⟨v, t, e, h1, h2⟩ := r
    exact ⟨v, t, e, Rep.noM d v f.1 h1, RepL.noM ds t f.2 h2⟩
end
/-- what may be read as plain data: a list of the store as it stands -/
theorem deref_dp {e : D} {v : V} (S : SRx W H F M st) (r : Rep H F M d v) (h : deref st d = some e) (f : e.flat = true) : Dp X.K H v e.py := by
  unfold deref at h
  by_cases f0 : d.noRef = true
  · rw [if_pos f0] at h
    simp only [Option.some.injEq] at h; subst h
    exact dp_of d v f r
  · rw [if_neg f0] at h
    cases d with
    | ref n =>
      simp only [Rep] at r
      obtain ⟨a, rfl, hm⟩ := r
      simp only at h
      split at h
      · rename_i xs hx
        split at h
        · simp only [Option.some.injEq] at h; subst h
          obtain ⟨vs, h1, h2⟩ := S.obs n _ a hx hm
          simp only [D.py]
          exact .lst (.inl (.inl h1)) (dp_all xs vs (by simpa [D.flat] using f) h2)
        · cases h
      · split at h
        · simp only [Option.some.injEq] at h; subst h; simp [D.flat] at f
        · cases h
      · cases h
    | _ => cases h
end
end Pm

/-! Pm, part B4: comparisons, places, built-ins, by values. -/
namespace Pm
open PySem PySem.Spec L2
open PyProof.Rows hiding St
section
variable {X : Cx} {W : Wd} {c : TC} {F M : Ads} {H : Hp} {st st' : Sto} {d : D} {Q : VK} {m : Bool}

/-! ### keys -/
theorem keq_keyD (a b : L2.Key) : keq (keyD a) (keyD b) = decide (a = b) := by
  cases a with
  | inl i => cases b with
    | inl j =>
      simp only [keyD, keq]
      by_cases h : i = j
      · subst h; simp
      · rw [beq_eq_false_iff_ne.mpr h]; exact (decide_eq_false fun z => h (Sum.inl.inj z)).symm
    | inr y => simp [keyD, keq]
  | inr x => cases b with
    | inl j => simp [keyD, keq]
    | inr y =>
      simp only [keyD, keq]
      by_cases h : x = y
      · subst h; simp
      · rw [decide_eq_false h]; exact (decide_eq_false fun z => h (Sum.inr.inj z)).symm
theorem keqL_keyD : ∀ a b : List L2.Key, keqL (a.map keyD) (b.map keyD) = decide (a = b)
  | [], [] => by simp [keqL]
  | [], _ :: _ => by simp [keqL]
  | _ :: _, [] => by simp [keqL]
  | x :: a, y :: b => by
    simp only [List.map_cons, keqL, keq_keyD, keqL_keyD a b]
    by_cases h1 : x = y <;> by_cases h2 : a = b <;> simp [h1, h2]
theorem keq_tup (a b : List L2.Key) : keq (.tup (a.map keyD)) (.tup (b.map keyD)) = decide (a = b) := by simp only [keq, keqL_keyD]
def LookR (H : Hp) (F M : Ads) : Option D → Option V → Prop
  | some d, some v => Rep H F M d v
  | none, none => True
  | _, _ => False
theorem look_k {κ : Type} [DecidableEq κ] {g : κ → D} (hg : ∀ a b, keq (g a) (g b) = decide (a = b)) (k : κ) : ∀ (kvs : List (κ × V)) (ds : List D), RepL H F M ds (kvs.map (·.2)) → LookR H F M (look (g k) (kvs.map fun p => g p.1) ds) (valV kvs k)
  | [], ds, _ => by simp [look, valV, LookR]
  | p :: kvs, ds, r => by
    simp only [List.map_cons] at r
    cases ds with
    | nil => simp [RepL] at r
    | cons d ds =>
      simp only [RepL] at r
      obtain ⟨v, t, e, h1, h2⟩ := r
      injection e with e1 e2
      subst e1; subst e2
      simp only [List.map_cons, look, hg]
      by_cases h : p.1 = k
      · rw [valV_pos h]; simp only [h, decide_true, if_true, LookR]; exact h1
      · rw [valV_neg h]; simp only [h, decide_false, Bool.false_eq_true, if_false]; exact look_k hg k kvs ds h2
theorem repl_k {κ : Type} [DecidableEq κ] {g : κ → D} (hg : ∀ a b, keq (g a) (g b) = decide (a = b)) (k : κ) {d : D} {v : V} (hd : Rep H F M d v) : ∀ (kvs : List (κ × V)) (ds : List D), RepL H F M ds (kvs.map (·.2)) →
    RepL H F M (repl (g k) d (kvs.map fun p => g p.1) ds) ((kvs.map fun kv => if kv.1 = k then (kv.1, v) else kv).map (·.2))
  | [], ds, _ => by simp [repl, RepL]
  | p :: kvs, ds, r => by
    simp only [List.map_cons] at r
    cases ds with
    | nil => simp [RepL] at r
    | cons x ds =>
      simp only [RepL] at r
      obtain ⟨w, t, e, h1, h2⟩ := r
      injection e with e1 e2
      subst e1; subst e2
      simp only [List.map_cons, repl, hg]
      refine RepL.cons ?_ (repl_k hg k hd kvs ds h2)
      by_cases h : p.1 = k
      · simp only [h, decide_true, if_true]; exact hd
      · simp only [h, decide_false, Bool.false_eq_true, if_false]; exact h1
theorem put_k {κ : Type} [DecidableEq κ] {g : κ → D} (hg : ∀ a b, keq (g a) (g b) = decide (a = b)) (k : κ) {d : D} {v : V} (hd : Rep H F M d v) (kvs : List (κ × V)) (ds : List D) (r : RepL H F M ds (kvs.map (·.2))) :
    (put (g k) d (kvs.map fun p => g p.1) ds).1 = (putK kvs k v).map (fun p => g p.1) ∧ RepL H F M (put (g k) d (kvs.map fun p => g p.1) ds).2 ((putK kvs k v).map (·.2)) := by
  have hl := look_k hg k kvs ds r
  have ha := valV_any k kvs
  unfold put putK
  rw [ha]
  cases e1 : look (g k) (kvs.map fun p => g p.1) ds with
  | none =>
    cases e2 : valV kvs k with
    | none =>
      simp only [Option.isSome_none, Bool.false_eq_true, if_false, List.map_append, List.map_cons, List.map_nil]
      exact ⟨trivial, r.append (.cons hd .nil)⟩
    | some _ => rw [e1, e2] at hl; exact hl.elim
  | some _ =>
    cases e2 : valV kvs k with
    | none => rw [e1, e2] at hl; exact hl.elim
    | some _ =>
      simp only [Option.isSome_some, if_true]
      refine ⟨?_, repl_k hg k hd kvs ds r⟩
      rw [List.map_map]
      apply List.map_congr_left
      intro p _
      simp only [Function.comp]
      split <;> rfl
theorem isKey_k {k : D} {y : V} (h : k.isKey false = true) (r : Rep H F M k y) : ∃ key : L2.Key, k = keyD key ∧ y = kV key := by
  cases k with
  | int i => simp only [Rep] at r; exact ⟨.inl i, rfl, r⟩
  | str x => simp only [Rep] at r; exact ⟨.inr x, rfl, r⟩
  | _ => simp [D.isKey] at h
theorem scal_all : ∀ (ds : List D) (vs : List V), ds.all D.scal = true → RepL H F M ds vs → ∃ ks : List L2.Key, ds = ks.map keyD ∧ vs = ks.map kV
  | [], vs, _, r => by simp only [RepL] at r; subst r; exact ⟨[], rfl, rfl⟩
  | d :: ds, vs, h, r => by
    simp only [RepL] at r
    obtain ⟨v, t, rfl, h1, h2⟩ := r
    simp only [List.all_cons, Bool.and_eq_true] at h
    obtain ⟨ks, e1, e2⟩ := scal_all ds t h.2 h2
    have h0 : d.isKey false = true := by cases d <;> simp [D.scal] at h <;> rfl
    obtain ⟨k, e3, e4⟩ := isKey_k h0 h1
    exact ⟨k :: ks, by rw [e1, e3]; rfl, by rw [e2, e4]; rfl⟩
theorem isKey_t {k : D} {y : V} (h : k.isKey true = true) (r : Rep H F M k y) : ∃ (b : Addr) (ks : List L2.Key), k = .tup (ks.map keyD) ∧ y = .ref b ∧ H b = some (.tup (ks.map kV)) := by
  cases k with
  | tup xs =>
    simp only [Rep] at r
    obtain ⟨a, vs, rfl, ha, r⟩ := r
    simp only [D.isKey, Bool.true_and] at h
    obtain ⟨ks, e1, e2⟩ := scal_all xs vs h r
    exact ⟨a, ks, by rw [e1], rfl, by rw [ha, e2]⟩
  | _ => simp [D.isKey] at h
/-- what a dict has -/
theorem dctOf_rep {t : Bool} {ks vs : List D} {v : V} (S : SRx W H F M st) (r : Rep H F M d v) (e : dctOf st d = some (t, ks, vs)) : ∃ a, v = .ref a ∧
    ((t = false ∧ ∃ kvs : List (L2.Key × V), H a = some (.dK kvs) ∧ ks = kvs.map (fun p => keyD p.1) ∧ RepL H F M vs (kvs.map (·.2))) ∨
     (t = true ∧ ∃ kvs : List (List L2.Key × V), H a = some (.dT kvs) ∧ ks = kvs.map (fun p => .tup (p.1.map keyD)) ∧ RepL H F M vs (kvs.map (·.2)))) := by
  cases d with
  | dct u ls ws =>
    simp only [dctOf, Option.some.injEq, Prod.mk.injEq] at e
    obtain ⟨rfl, rfl, rfl⟩ := e
    cases u with
    | false => simp only [Rep] at r; obtain ⟨a, e, _, q⟩ := r; exact ⟨a, e, .inl ⟨rfl, q⟩⟩
    | true => simp only [Rep] at r; obtain ⟨a, e, _, q⟩ := r; exact ⟨a, e, .inr ⟨rfl, q⟩⟩
  | ref n =>
    simp only [Rep] at r
    obtain ⟨a, rfl, hm⟩ := r
    simp only [dctOf] at e
    split at e
    · rename_i u ls ws hx
      simp only [Option.some.injEq, Prod.mk.injEq] at e
      obtain ⟨rfl, rfl, rfl⟩ := e
      have o := S.obs n _ a hx hm
      cases u with
      | false => exact ⟨a, rfl, .inl ⟨rfl, o⟩⟩
      | true => exact ⟨a, rfl, .inr ⟨rfl, o⟩⟩
    · cases e
  | _ => simp [dctOf] at e
/-- a key looked up -/
theorem dget_rep {t : Bool} {ks vs : List D} {k : D} {v y : V} (S : SRx W H F M st) (r : Rep H F M d v) (e : dctOf st d = some (t, ks, vs)) (hk : k.isKey t = true) (ry : Rep H F M k y) :
    ∃ a o, v = .ref a ∧ DGet H a y o ∧ LookR H F M (look k ks vs) o := by
  obtain ⟨a, rfl, q⟩ := dctOf_rep S r e
  rcases q with ⟨rfl, kvs, h1, rfl, h2⟩ | ⟨rfl, kvs, h1, rfl, h2⟩
  · obtain ⟨key, rfl, rfl⟩ := isKey_k hk ry
    exact ⟨a, _, rfl, DGet.k h1, look_k keq_keyD key kvs vs h2⟩
  · obtain ⟨b, kk, rfl, rfl, hb⟩ := isKey_t hk ry
    exact ⟨a, _, rfl, DGet.t h1 hb, look_k (g := fun l => .tup (l.map keyD)) keq_tup kk kvs vs h2⟩
theorem LookR.isSome {o : Option D} {q : Option V} (h : LookR H F M o q) : o.isSome = q.isSome := by
  cases o <;> cases q <;> first | rfl | exact h.elim

/-! ### comparisons -/
theorem flat_V {d : D} {v : V} (h : d.plain = true) (r : Rep H F M d v) : flatV v = true := by
  cases d <;> simp [D.plain] at h <;> simp only [Rep] at r <;> subst r <;> rfl
theorem eqV_py {d e : D} {v u : V} (h : d.plain = true) (g : e.plain = true) (r : Rep H F M d v) (q : Rep H F M e u) : eqV v u = PyData.eqv d.py e.py := by
  cases d <;> simp [D.plain] at h <;> cases e <;> simp [D.plain] at g <;> simp only [Rep] at r q <;> subst r <;> subst q <;> rfl
theorem flat_all : ∀ (ds : List D) (vs : List V), ds.all D.plain = true → RepL H F M ds vs → vs.all flatV = true
  | [], vs, _, r => by simp only [RepL] at r; subst r; rfl
  | d :: ds, vs, h, r => by
    simp only [RepL] at r
    obtain ⟨v, t, rfl, h1, h2⟩ := r
    simp only [List.all_cons, Bool.and_eq_true] at h ⊢
    exact ⟨flat_V h.1 h1, flat_all ds t h.2 h2⟩
theorem inV_py {e : D} {u : V} (g : e.plain = true) (q : Rep H F M e u) : ∀ (ds : List D) (vs : List V), ds.all D.plain = true → RepL H F M ds vs → inV u vs = ds.any fun z => PyData.eqv z.py e.py
  | [], vs, _, r => by simp only [RepL] at r; subst r; rfl
  | d :: ds, vs, h, r => by
    simp only [RepL] at r
    obtain ⟨v, t, rfl, h1, h2⟩ := r
    simp only [List.all_cons, Bool.and_eq_true] at h
    have ih := inV_py g q ds t h.2 h2
    unfold inV at ih ⊢
    rw [List.any_cons, List.any_cons, ih, eqV_py h.1 g h1 q]
theorem ok_flat {d : D} (h : d.ok = true) : d.flat = true ∧ SeqAt.shaped d.py = true := by
  simpa [D.ok] using h
theorem pyL_map : ∀ ds : List D, pyL ds = ds.map D.py
  | [] => rfl
  | d :: ds => by simp [pyL, pyL_map ds]
/-- x in y, its answer; neg: not in -/
theorem op_inD (ok : XOk X c) (neg : Bool) : OpR X (compareOp (if neg then .NotIn else .In)) (fun x y H Q => ∃ F M st a b r, SRx W H F M st ∧ Rep H F M a x ∧ Rep H F M b y ∧ inD st a b = some r ∧ Q (.bl (if neg then !r else r)) H) := by
  intro pins s σ H x y v u Q I rx ry h
  obtain ⟨F, M, st, a, b, r, S, ra, rb, e, q⟩ := h
  have hu : X.A.units + 1 < cLine := by have := ok.un; omega
  have hu2 : X.A.units + 64 < cLine := by have := ok.un; omega
  unfold inD at e
  split at e
  · rename_i z
    split at e
    · rename_i w
      simp only [Option.some.injEq] at e; subst e
      simp only [Rep] at ra rb
      cases neg with
      | false => exact op_in_str pins s σ H _ _ v u Q I rx ry ⟨w, z, ra, rb, q⟩
      | true => exact op_notIn_str pins s σ H _ _ v u Q I rx ry ⟨w, z, ra, rb, q⟩
    · cases e
  · split at e
    · rename_i t ks vs hd
      split at e
      · rename_i hk
        simp only [Option.some.injEq] at e; subst e
        obtain ⟨p, o, rfl, g, lr⟩ := dget_rep S rb hd hk ra
        cases ry
        rw [lr.isSome] at q
        cases neg with
        | false => exact d_in hu I g rx fun s' I' => ⟨.bl _, H, I', rfl, q⟩
        | true => exact d_notIn hu I g rx fun s' I' => ⟨.bl _, H, I', rfl, q⟩
      · cases e
    · split at e
      · rename_i xs hx
        obtain ⟨p, vs, rfl, hp, r1⟩ := seqOf_rep S rb hx
        have hp' : SqL X.K H p vs ∨ SqT X.K H p vs := by
          rcases hp with h | h
          · exact .inl (by rcases h with h | ⟨o, its, n, h⟩
                           · exact .inl h
                           · exact .inr ⟨o, its, n, h⟩)
          · exact .inr (SqT.of h)
        split at e
        · rename_i hf
          simp only [Bool.and_eq_true] at hf
          simp only [Option.some.injEq] at e; subst e
          rw [← inV_py hf.1 ra xs vs hf.2 r1] at q
          cases neg with
          | false => exact op_in_seq pins s σ H _ _ v u Q I rx ry ⟨p, vs, rfl, hp', flat_V hf.1 ra, flat_all xs vs hf.2 r1, q⟩
          | true => exact op_notIn_seq pins s σ H _ _ v u Q I rx ry ⟨p, vs, rfl, hp', flat_V hf.1 ra, flat_all xs vs hf.2 r1, q⟩
        · split at e
          · cases e
          · rename_i hnt
            split at e
            · rename_i hf
              simp only [Bool.and_eq_true] at hf
              simp only [Option.some.injEq] at e; subst e
              have f1 := ok_flat hf.1
              have f2 := ok_flat hf.2
              have hL : lstOf st b = some xs := by
                cases b with
                | tup ys => exact (hnt ys rfl).elim
                | lst ys => simpa [lstOf, seqOf] using hx
                | ref n => simpa [lstOf, seqOf] using hx
                | _ => simp [seqOf] at hx
              obtain ⟨p2, vs2, e2, hp2, r2⟩ := lstOf_rep S rb hL
              have D1 : Dp X.K H x a.py := dp_of a x f1.1 ra
              have D2 : Dp X.K H (.ref p) (.list (pyL xs)) := by
                rw [e2]
                exact .lst (.inl hp2) (dp_all xs vs2 (by simpa [D.flat] using f2.1) r2)
              have es : SeqAt.shaped (.list (pyL xs)) = true := by simpa [D.py] using f2.2
              have eq : ((pyL xs).any fun z => PyData.eqv z a.py) = xs.any fun z => PyData.eqv z.py a.py := by rw [pyL_map, List.any_map]; rfl
              rw [← eq] at q
              cases neg with
              | false => exact L2.op_inD (by have := ok.un; omega) pins s σ H _ _ v u Q I rx ry ⟨a.py, pyL xs, D1, D2, f1.2, es, q⟩
              | true => exact L2.op_notInD (by have := ok.un; omega) pins s σ H _ _ v u Q I rx ry ⟨a.py, pyL xs, D1, D2, f1.2, es, q⟩
            · cases e
      · cases e

def opC : Cop → CmpOp
  | .eq => .Eq | .ne => .NotEq | .lt => .Lt | .le => .LtE | .gt => .Gt | .ge => .GtE | .is => .Is | .isn => .IsNot | .in_ => .In | .nin => .NotIn
theorem copOf_op (op : CmpOp) : op = opC (copOf op) := by cases op <;> rfl
theorem rep_non {d : D} {v : V} (r : Rep H F M d v) : decide (v = .non) = decide (d = .non) := by
  cases d with
  | non => simp only [Rep] at r; subst r; rfl
  | bl b => simp only [Rep] at r; subst r; rfl
  | int b => simp only [Rep] at r; subst r; rfl
  | str b => simp only [Rep] at r; subst r; rfl
  | tup b => simp only [Rep] at r; obtain ⟨a, _, rfl, _⟩ := r; simp
  | lst b => simp only [Rep] at r; obtain ⟨a, _, rfl, _⟩ := r; simp
  | dct t b cc =>
    cases t <;> simp only [Rep] at r <;> obtain ⟨a, rfl, _⟩ := r <;> simp
  | ref b => simp only [Rep] at r; obtain ⟨a, rfl, _⟩ := r; simp
theorem op_cmp (ok : XOk X c) {o : Cop} : OpR X (compareOp (opC o)) (fun x y H Q => ∃ F M st a b r, SRx W H F M st ∧ Rep H F M a x ∧ Rep H F M b y ∧ cmpop o st a b = some r ∧ Q (.bl r) H) := by
  intro pins s σ H x y v u Q I rx ry h
  obtain ⟨F, M, st, a, b, r, S, ra, rb, e, q⟩ := h
  have hu : X.A.units + 64 < cLine := by have := ok.un; omega
  cases o with
  | eq =>
    simp only [cmpop, Option.bind_eq_some_iff] at e
    obtain ⟨a', ea, b', eb, e⟩ := e
    unfold eqD at e
    split at e
    · rename_i hk
      simp only [Bool.and_eq_true] at hk
      simp only [Option.some.injEq] at e; subst e
      have f1 := ok_flat hk.1
      have f2 := ok_flat hk.2
      exact op_eqD hu pins s σ H _ _ v u Q I rx ry ⟨a'.py, b'.py, deref_dp S ra ea f1.1, deref_dp S rb eb f2.1, f1.2, f2.2, q⟩
    · cases e
  | ne =>
    simp only [cmpop, Option.bind_eq_some_iff, Option.map_eq_some_iff] at e
    obtain ⟨a', ea, b', eb, k, e, rfl⟩ := e
    unfold eqD at e
    split at e
    · rename_i hk
      simp only [Bool.and_eq_true] at hk
      simp only [Option.some.injEq] at e; subst e
      have f1 := ok_flat hk.1
      have f2 := ok_flat hk.2
      exact op_neD hu pins s σ H _ _ v u Q I rx ry ⟨a'.py, b'.py, deref_dp S ra ea f1.1, deref_dp S rb eb f2.1, f1.2, f2.2, q⟩
    · cases e
  | lt =>
    simp only [cmpop] at e
    split at e
    · rename_i i j
      simp only [Option.some.injEq] at e; subst e
      simp only [Rep] at ra rb
      exact op_lt pins s σ H _ _ v u Q I rx ry ⟨i, j, ra, rb, q⟩
    · rename_i i j
      simp only [Option.some.injEq] at e; subst e
      simp only [Rep] at ra rb
      exact op_lt_str pins s σ H _ _ v u Q I rx ry ⟨i, j, ra, rb, q⟩
    · cases e
  | gt =>
    simp only [cmpop] at e
    split at e
    · rename_i i j
      simp only [Option.some.injEq] at e; subst e
      simp only [Rep] at ra rb
      exact op_gt pins s σ H _ _ v u Q I rx ry ⟨i, j, ra, rb, q⟩
    · rename_i i j
      simp only [Option.some.injEq] at e; subst e
      simp only [Rep] at ra rb
      exact op_gt_str pins s σ H _ _ v u Q I rx ry ⟨i, j, ra, rb, q⟩
    · cases e
  | le =>
    simp only [cmpop] at e
    split at e
    · rename_i i j
      simp only [Option.some.injEq] at e; subst e
      simp only [Rep] at ra rb
      exact op_le pins s σ H _ _ v u Q I rx ry ⟨i, j, ra, rb, q⟩
    · rename_i i j
      simp only [Option.some.injEq] at e; subst e
      simp only [Rep] at ra rb
      exact op_le_str pins s σ H _ _ v u Q I rx ry ⟨i, j, ra, rb, q⟩
    · cases e
  | ge =>
    simp only [cmpop] at e
    split at e
    · rename_i i j
      simp only [Option.some.injEq] at e; subst e
      simp only [Rep] at ra rb
      exact op_ge pins s σ H _ _ v u Q I rx ry ⟨i, j, ra, rb, q⟩
    · rename_i i j
      simp only [Option.some.injEq] at e; subst e
      simp only [Rep] at ra rb
      exact op_ge_str pins s σ H _ _ v u Q I rx ry ⟨i, j, ra, rb, q⟩
    · cases e
  | is =>
    simp only [cmpop] at e
    split at e
    · simp only [Option.some.injEq] at e; subst e
      rw [← rep_non ra] at q
      simp only [Rep] at rb
      exact op_isN pins s σ H _ _ v u Q I rx ry ⟨rb, q⟩
    · rename_i i j
      simp only [Option.some.injEq] at e; subst e
      simp only [Rep] at ra rb
      exact op_is_bl pins s σ H _ _ v u Q I rx ry ⟨i, j, ra, rb, q⟩
    · cases e
  | isn =>
    simp only [cmpop] at e
    split at e
    · simp only [Option.some.injEq] at e; subst e
      rw [← rep_non ra] at q
      simp only [Rep] at rb
      exact op_notN pins s σ H _ _ v u Q I rx ry ⟨rb, q⟩
    · rename_i i j
      simp only [Option.some.injEq] at e; subst e
      simp only [Rep] at ra rb
      exact op_isnot_bl pins s σ H _ _ v u Q I rx ry ⟨i, j, ra, rb, q⟩
    · cases e
  | in_ =>
    simp only [cmpop] at e
    exact op_inD (W := W) ok false pins s σ H _ _ v u Q I rx ry ⟨F, M, st, a, b, r, S, ra, rb, e, q⟩
  | nin =>
    simp only [cmpop, Option.map_eq_some_iff] at e
    obtain ⟨k, e, rfl⟩ := e
    exact op_inD (W := W) ok true pins s σ H _ _ v u Q I rx ry ⟨F, M, st, a, b, k, S, ra, rb, e, q⟩

/-! ### truth -/
theorem truV {K : PySem.W.Frag} {x : V} {b : Bool} (S : SRx W H F M st) (r : Rep H F M d x) (e : tru st d = some b) : TruV K x H b := by
  cases d with
  | non => simp only [tru, Option.some.injEq] at e; simp only [Rep] at r; subst r; exact e.symm
  | bl k => simp only [tru, Option.some.injEq] at e; simp only [Rep] at r; subst r; exact e.symm
  | int k => simp only [tru, Option.some.injEq] at e; simp only [Rep] at r; subst r; exact e.symm
  | str k =>
    simp only [tru] at e
    split at e
    · rename_i hz
      simp only [Option.some.injEq] at e; simp only [Rep] at r; subst r; exact ⟨lim_line hz, e.symm⟩
    · cases e
  | tup xs =>
    simp only [tru, Option.some.injEq] at e; simp only [Rep] at r
    obtain ⟨a, vs, rfl, ha, r⟩ := r
    refine .inr (.inl ⟨vs, SqT.of ha, ?_⟩)
    rw [← e]; have := r.length; cases xs <;> cases vs <;> simp_all
  | lst xs =>
    simp only [tru, Option.some.injEq] at e
    obtain ⟨a, vs, rfl, ha, r⟩ := lstOf_rep (xs := xs) S r rfl
    refine .inl ⟨vs, .inl ha, ?_⟩
    rw [← e]; have := r.length; cases xs <;> cases vs <;> simp_all
  | ref n =>
    simp only [tru] at e
    split at e
    · rename_i xs hx
      simp only [Option.some.injEq] at e
      obtain ⟨a, vs, rfl, ha, r⟩ := lstOf_rep (xs := xs) S r (by simp [lstOf, hx])
      refine .inl ⟨vs, .inl ha, ?_⟩
      rw [← e]; have := r.length; cases xs <;> cases vs <;> simp_all
    · cases e
  | dct t ks vs => simp [tru] at e
end
end Pm

/-! Pm, part B5: terms: names, displays, operators, places. -/
namespace Pm
open PySem PySem.Spec L2
open PyProof.Rows hiding St
section
variable {X : Cx} {W : Wd} {c : TC} {G : GT} {a b e : Expr} {ia ib ie : IE} {pos : Pos} {m : Bool}

/-! ### chaining -/
theorem RE.mk {F M : Ads} {H : Hp} {env : Env} {σ : L2.St} {st st' : Sto} {d : D} {Q : VK} (En : EnR H F M env σ) (S : SRx W H F M st) (e : evE W.P W.C ie env st = some (d, st'))
    (k : PostV W F M H d st' Q) : RE W ie σ H Q := ⟨F, M, env, st, d, st', En, S, e, k⟩
theorem sE_two {F M : Ads} {H : Hp} {env : Env} {σ : L2.St} {st st1 st2 : Sto} {x y : D} {R : V → V → Hp → Prop} (En : EnR H F M env σ) (S : SRx W H F M st) (e1 : evE W.P W.C ia env st = some (x, st1)) (e2 : evE W.P W.C ib env st1 = some (y, st2))
    (k : ∀ F' M' H' u v, Le F M H F' M' H' → SRx W H' F' M' st2 → Rep H' F' M' x u → Rep H' F' M' y v → R u v H') : RE W ia σ H fun u H1 => RE W ib σ H1 fun v H2 => R u v H2 :=
  .mk En S e1 fun F1 M1 H1 u l1 S1 r1 => .mk (En.le l1 S.mf) S1 e2 fun F2 M2 H2 v l2 S2 r2 => k F2 M2 H2 u v (l1.trans l2) S2 (r1.le l2 S1.mf) r2
theorem Le.post {F M F' M' : Ads} {H H' : Hp} {d : D} {st : Sto} {Q : VK} (l : Le F M H F' M' H') (k : PostV W F M H d st Q) : PostV W F' M' H' d st Q :=
  fun F2 M2 H2 v l2 S2 r2 => k F2 M2 H2 v (l.trans l2) S2 r2

/-! ### names, constants -/
theorem slot_at {N : List Str} {x : Str} {i : Nat} (h : slot N x = some i) : N[i]? = some x := by
  unfold slot at h
  obtain ⟨hi, h1, _⟩ := List.findIdx?_eq_some_iff_getElem.mp h
  rw [List.getElem?_eq_getElem hi]
  exact congrArg some (of_decide_eq_true h1)
theorem visB_vis {sc : Scope} {x : Str} (h : visB sc x = true) : Vis sc x := by
  unfold visB at h
  split at h <;> first | (rename_i e; first | exact .inl e | exact .inr (.inl e) | exact .inr (.inr e)) | cases h
theorem nmOk_d {x : Str} (h : nmOk x = true) : (x == ("__debug__" : Str)) = false ∧ (x == ("__classdict__" : Str)) = false := by
  simpa [nmOk] using h
theorem glB_gl {sc : Scope} {x : Str} (h : glB sc x = true) : sc.names.lookup x = some .globalImplicit ∧ nmOk x = true ∧ x ≠ ("__name__" : Str) := by
  unfold glB at h
  split at h
  · rename_i e
    simp only [Bool.and_eq_true, Bool.not_eq_true', beq_eq_false_iff_ne] at h
    exact ⟨e, h.1, h.2⟩
  · cases h
theorem XOk.vis (ok : XOk X c) {x : Str} (h : visB c.sc x = true) : Vis X.env.scope x := by rw [ok.sc]; exact visB_vis h
theorem XOk.gl (ok : XOk X c) {x : Str} (h : glB c.sc x = true) : Gl X x := by
  unfold Gl Env.kindOf
  rw [ok.sc]; exact (glB_gl h).1
theorem sE_var (ok : XOk X c) {x : Str} {i : Nat} (hv : visB c.sc x = true) (hn : nmOk x = true) (hs : slot c.N x = some i) : PE X (.Name x pos) (RE W (.var i)) := by
  refine ⟨fun pins s σ H Q I ⟨F, M, env, st, d, st', En, S, e, k⟩ => ?_⟩
  simp only [evE] at e
  split at e
  · rename_i d' hd
    simp only [Option.some.injEq, Prod.mk.injEq] at e
    obtain ⟨rfl, rfl⟩ := e
    obtain ⟨v, e1, r⟩ := En.at_ i _ hd
    exact (pe_var (by rw [ok.n]; exact slot_at hs) (ok.vis hv) (nmOk_d hn).1 (nmOk_d hn).2).run pins s σ H Q I ⟨v, e1, PostV.here k S r⟩
  · cases e
theorem sE_const (v : Const) {j : Nat} : PE X (.Constant v j pos) (RE W (trConst v)) := by
  refine ⟨fun pins s σ H Q I ⟨F, M, env, st, d, st', En, S, e, k⟩ => ?_⟩
  cases v with
  | none =>
    simp only [trConst, evE, Option.some.injEq, Prod.mk.injEq] at e
    obtain ⟨rfl, rfl⟩ := e
    exact pe_non.run pins s σ H Q I (PostV.here k S (by simp only [Rep]))
  | bool b =>
    simp only [trConst, evE, Option.some.injEq, Prod.mk.injEq] at e
    obtain ⟨rfl, rfl⟩ := e
    exact pe_bl.run pins s σ H Q I (PostV.here k S (by simp only [Rep]))
  | int b =>
    simp only [trConst, evE, Option.some.injEq, Prod.mk.injEq] at e
    obtain ⟨rfl, rfl⟩ := e
    exact pe_int.run pins s σ H Q I (PostV.here k S (by simp only [Rep]))
  | str b =>
    simp only [trConst, evE, Option.some.injEq, Prod.mk.injEq] at e
    obtain ⟨rfl, rfl⟩ := e
    exact pe_str.run pins s σ H Q I (PostV.here k S (by simp only [Rep]))
  | _ => simp [trConst, evE] at e
theorem sE_bad (h : ie = .bad) : PE X e (RE W ie) := by
  subst h
  exact ⟨fun pins s σ H Q I ⟨F, M, env, st, d, st', En, S, e, k⟩ => by simp [evE] at e⟩

/-! ### argument lists -/
theorem star_plain (es : List Expr) (h : plainE e = true) {env : PySem.Env} : starEach (e :: es) env = (false, eval e env) :: starEach es env := by
  cases e <;> first | rfl | simp [plainE] at h
theorem star_none : ∀ (es : List Expr) {env : PySem.Env} {pos : Pos}, es.all plainE = true → (backTo pos (starEach es env)).any (·.1) = false
  | [], _, _, _ => rfl
  | e :: es, env, pos, h => by
    simp only [List.all_cons, Bool.and_eq_true] at h
    rw [star_plain es h.1]
    have ih := star_none es (env := env) (pos := pos) h.2
    simp only [backTo, List.map_cons, List.any_cons, Bool.or_eq_false_iff] at ih ⊢
    exact ⟨trivial, ih⟩
theorem sEs {t : Expr → IE} : ∀ (es : List Expr), es.all plainE = true → (∀ e ∈ es, PE X e (RE W (t e))) → PA X es (REs W (es.map t))
  | [], _, _ => by
    refine ⟨fun pos pins s σ H Q I ⟨F, M, env, st, ds, st', En, S, e, k⟩ => ?_⟩
    simp only [List.map_nil, evEs, Option.some.injEq, Prod.mk.injEq] at e
    obtain ⟨rfl, rfl⟩ := e
    exact pa_nil.run pos pins s σ H Q I (k F M H [] (Le.refl F M H) S .nil)
  | e :: es, hp, h => by
    simp only [List.all_cons, Bool.and_eq_true] at hp
    have ih := sEs es hp.2 fun x hx => h x (List.mem_cons_of_mem _ hx)
    refine ⟨fun pos pins s σ H Q I ⟨F, M, env, st, ds, st', En, S, ev, k⟩ => ?_⟩
    simp only [List.map_cons, evEs] at ev
    split at ev
    · rename_i d st1 e1
      split at ev
      · rename_i ds2 st2 e2
        simp only [Option.some.injEq, Prod.mk.injEq] at ev
        obtain ⟨rfl, rfl⟩ := ev
        refine (pa_cons (h e (List.mem_cons_self ..)) ih (star_plain es hp.1)).run pos pins s σ H Q I ?_
        refine .mk En S e1 fun F1 M1 H1 u l1 S1 r1 => ⟨F1, M1, env, st1, ds2, st2, En.le l1 S.mf, S1, e2, fun F2 M2 H2 vs l2 S2 r2 => ?_⟩
        exact k F2 M2 H2 (u :: vs) (l1.trans l2) S2 (.cons (r1.le l2 S1.mf) r2)
      · cases ev
    · cases ev
theorem trArgs_some {t : Expr → IE} {es : List Expr} {is : List IE} (h : trArgs t es = some is) : es.length ≤ 1000 ∧ es.all plainE = true ∧ is = es.map t := by
  unfold trArgs at h
  split at h
  · rename_i hc
    simp only [Bool.and_eq_true, decide_eq_true_eq] at hc
    exact ⟨hc.1, hc.2, (Option.some.inj h).symm⟩
  · cases h
theorem evEs_len {P : Pg} {C : Call} : ∀ {es : List IE} {env : Env} {st st' : Sto} {ds : List D}, evEs P C es env st = some (ds, st') → ds.length = es.length
  | [], _, _, _, _, e => by simp only [evEs, Option.some.injEq, Prod.mk.injEq] at e; rw [← e.1]; rfl
  | _ :: _, _, _, _, _, e => by
    simp only [evEs] at e
    split at e
    · split at e
      · rename_i e2
        simp only [Option.some.injEq, Prod.mk.injEq] at e
        rw [← e.1, List.length_cons, List.length_cons, evEs_len e2]
      · cases e
    · cases e
theorem sE_tup {es : List Expr} {is : List IE} {j : Nat} (h : PA X es (REs W is)) (hl : is.length ≤ 1000) : PE X (.Tuple es j pos) (RE W (.tup is)) := by
  refine ⟨fun pins s σ H Q I ⟨F, M, env, st, d, st', En, S, e, k⟩ => ?_⟩
  simp only [evE] at e
  split at e
  · rename_i ds st1 e1
    simp only [Option.some.injEq, Prod.mk.injEq] at e
    obtain ⟨rfl, rfl⟩ := e
    have hn := evEs_len e1
    refine (pe_tup h).run pins s σ H Q I ⟨F, M, env, st, ds, st1, En, S, e1, fun F1 M1 H1 vs l S1 r => ⟨by rw [← r.length, hn]; exact Nat.le_trans hl (by decide), fun p hp => newT_post S1 r hp (l.post k)⟩⟩
  · cases e
theorem sE_lst {es : List Expr} {is : List IE} (h : PA X es (REs W is)) (hl : is.length ≤ 1000) : PE X (.List es pos) (RE W (.lst m is)) := by
  refine ⟨fun pins s σ H Q I ⟨F, M, env, st, d, st', En, S, e, k⟩ => ?_⟩
  simp only [evE] at e
  split at e
  · rename_i ds st1 e1
    simp only [Option.some.injEq] at e
    have hn := evEs_len e1
    refine (pe_lst h).run pins s σ H Q I ⟨F, M, env, st, ds, st1, En, S, e1, fun F1 M1 H1 vs l S1 r => ⟨by rw [← r.length, hn]; exact Nat.le_trans hl (by decide), fun p hp => newL_post S1 r hp e (l.post k)⟩⟩
  · cases e
/-- a new dict -/
theorem newD_post {F M : Ads} {H : Hp} {st st' : Sto} {d : D} {Q : VK} {t : Bool} {ks vs : List D} {p : Addr} {o : HO} (S : SRx W H F M st) (hp : H p = none)
    (ho : (t = false ∧ ∃ kvs : List (L2.Key × V), o = .dK kvs ∧ ks = kvs.map (fun p => keyD p.1) ∧ RepL H F M vs (kvs.map (·.2))) ∨
      (t = true ∧ ∃ kvs : List (List L2.Key × V), o = .dT kvs ∧ ks = kvs.map (fun p => .tup (p.1.map keyD)) ∧ RepL H F M vs (kvs.map (·.2))))
    (e : newD m t ks vs st = (d, st')) (q : PostV W F M H d st' Q) : Q (.ref p) (upd H p o) := by
  cases m with
  | true =>
    simp only [newD, if_true, Prod.mk.injEq] at e
    obtain ⟨rfl, rfl⟩ := e
    have l := Le.alloc (o := o) F M hp
    refine q _ _ _ _ l (S.alloc hp ?_) ?_
    · rcases ho with ⟨rfl, kvs, rfl, ek, r⟩ | ⟨rfl, kvs, rfl, ek, r⟩
      · exact ⟨kvs, upd_same, ek, r.le l S.mf⟩
      · exact ⟨kvs, upd_same, ek, r.le l S.mf⟩
    · simp only [Rep]
      exact ⟨p, rfl, by rw [← S.len]; simp⟩
  | false =>
    simp only [newD, Bool.false_eq_true, if_false, Prod.mk.injEq] at e
    obtain ⟨rfl, rfl⟩ := e
    have l := Le.fresh (o := o) F M hp
    refine q _ _ _ _ l (S.fresh hp) ?_
    rcases ho with ⟨rfl, kvs, rfl, ek, r⟩ | ⟨rfl, kvs, rfl, ek, r⟩
    · simp only [Rep]
      exact ⟨p, rfl, fun z => S.fs p z hp, kvs, upd_same, ek, r.le l S.mf⟩
    · simp only [Rep]
      exact ⟨p, rfl, fun z => S.fs p z hp, kvs, upd_same, ek, r.le l S.mf⟩
theorem sE_dct0 {t : Bool} : PE X (.Dict [] [] pos) (RE W (.dct0 m t)) := by
  refine ⟨fun pins s σ H Q I ⟨F, M, env, st, d, st', En, S, e, k⟩ => ?_⟩
  simp only [evE, Option.some.injEq] at e
  cases t with
  | false => exact pe_dnewK.run pins s σ H Q I fun p hp => newD_post S hp (.inl ⟨rfl, [], rfl, rfl, .nil⟩) e k
  | true => exact pe_dnewT.run pins s σ H Q I fun p hp => newD_post S hp (.inr ⟨rfl, [], rfl, rfl, .nil⟩) e k

/-! ### operators -/
theorem sE_bin {op : Operator} {o : Bop} (ho : bopOf op = some o) (ha : PE X a (RE W ia)) (hb : PE X b (RE W ib)) : PE X (.BinOp a op b pos) (RE W (.bin o m ia ib)) := by
  refine ⟨fun pins s σ H Q I ⟨F, M, env, st, d, st', En, S, e, k⟩ => ?_⟩
  obtain rfl := bopOf_op ho
  simp only [evE] at e
  split at e
  · rename_i x st1 e1
    split at e
    · rename_i y st2 e2
      refine (pe_op (op_bin (W := W) (m := m)) ha hb).run pins s σ H Q I (sE_two En S e1 e2 fun F' M' H' u v l S' r1 r2 => ?_)
      exact ⟨F', M', st2, x, y, d, st', S', r1, r2, e, l.post k⟩
    · cases e
  · cases e
theorem sE_neg (ha : PE X a (RE W ia)) : PE X (.UnaryOp .USub a pos) (RE W (.neg ia)) := by
  refine ⟨fun pins s σ H Q I ⟨F, M, env, st, d, st', En, S, e, k⟩ => ?_⟩
  simp only [evE] at e
  split at e
  · rename_i i st1 e1
    simp only [Option.some.injEq, Prod.mk.injEq] at e
    obtain ⟨rfl, rfl⟩ := e
    refine (pe_un un_neg ha).run pins s σ H Q I (.mk En S e1 fun F' M' H' v l S' r => ?_)
    simp only [Rep] at r
    exact ⟨i, r, (l.post k).here S' (by simp only [Rep])⟩
  · cases e
theorem sE_not (ha : PE X a (RE W ia)) : PE X (.UnaryOp .Not a pos) (RE W (.not ia)) := by
  refine ⟨fun pins s σ H Q I ⟨F, M, env, st, d, st', En, S, e, k⟩ => ?_⟩
  simp only [evE] at e
  split at e
  · rename_i i st1 e1
    simp only [Option.some.injEq, Prod.mk.injEq] at e
    obtain ⟨rfl, rfl⟩ := e
    refine (pe_not ha).run pins s σ H Q I (.mk En S e1 fun F' M' H' v l S' r => ?_)
    simp only [Rep] at r
    exact ⟨i, r, (l.post k).here S' (by simp only [Rep])⟩
  · cases e
theorem sE_and {r : List Expr} (ha : PE X a (RE W ia)) (hb : PE X (.BoolOp .And (b :: r) pos) (RE W ib)) : PE X (.BoolOp .And (a :: b :: r) pos) (RE W (.and ia ib)) := by
  refine ⟨fun pins s σ H Q I ⟨F, M, env, st, d, st', En, S, e, k⟩ => ?_⟩
  simp only [evE] at e
  split at e
  · rename_i st1 e1
    refine (pe_and ha hb).run pins s σ H Q I (.mk En S e1 fun F' M' H' v l S' r => ?_)
    simp only [Rep] at r
    exact ⟨true, r, by rw [if_pos rfl]; exact .mk (En.le l S.mf) S' e (l.post k)⟩
  · rename_i st1 e1
    simp only [Option.some.injEq, Prod.mk.injEq] at e
    obtain ⟨rfl, rfl⟩ := e
    refine (pe_and ha hb).run pins s σ H Q I (.mk En S e1 fun F' M' H' v l S' r => ?_)
    have r0 := r
    simp only [Rep] at r
    exact ⟨false, r, by rw [if_neg (by simp)]; exact r ▸ (l.post k).here S' r0⟩
  · cases e
theorem sE_or {r : List Expr} (ha : PE X a (RE W ia)) (hb : PE X (.BoolOp .Or (b :: r) pos) (RE W ib)) : PE X (.BoolOp .Or (a :: b :: r) pos) (RE W (.or ia ib)) := by
  refine ⟨fun pins s σ H Q I ⟨F, M, env, st, d, st', En, S, e, k⟩ => ?_⟩
  simp only [evE] at e
  split at e
  · rename_i st1 e1
    refine (pe_or ha hb).run pins s σ H Q I (.mk En S e1 fun F' M' H' v l S' r => ?_)
    simp only [Rep] at r
    exact ⟨false, r, by rw [if_neg (by simp)]; exact .mk (En.le l S.mf) S' e (l.post k)⟩
  · rename_i st1 e1
    simp only [Option.some.injEq, Prod.mk.injEq] at e
    obtain ⟨rfl, rfl⟩ := e
    refine (pe_or ha hb).run pins s σ H Q I (.mk En S e1 fun F' M' H' v l S' r => ?_)
    have r0 := r
    simp only [Rep] at r
    exact ⟨true, r, by rw [if_pos rfl]; exact r ▸ (l.post k).here S' r0⟩
  · cases e
theorem behind_plain (op : CmpOp) (h : plainE b = true) : behindInMarks op b = false := by
  cases b <;> first | rfl | simp [plainE] at h
theorem sE_cmp (ok : XOk X c) {op : CmpOp} (hp : plainE b = true) (ha : PE X a (RE W ia)) (hb : PE X b (RE W ib)) : PE X (.Compare a [op] [b] pos) (RE W (.cmp (copOf op) ia ib)) := by
  refine ⟨fun pins s σ H Q I ⟨F, M, env, st, d, st', En, S, e, k⟩ => ?_⟩
  have ho := op_cmp (W := W) ok (o := copOf op)
  rw [← copOf_op] at ho
  simp only [evE] at e
  split at e
  · rename_i x st1 e1
    split at e
    · rename_i y st2 e2
      split at e
      · rename_i r e3
        simp only [Option.some.injEq, Prod.mk.injEq] at e
        obtain ⟨rfl, rfl⟩ := e
        refine (pe_cmpR ho ha hb (behind_plain op hp)).run pins s σ H Q I (sE_two En S e1 e2 fun F' M' H' u v l S' r1 r2 => ?_)
        exact ⟨F', M', st2, x, y, r, S', r1, r2, e3, (l.post k).here S' (by simp only [Rep])⟩
      · cases e
    · cases e
  · cases e
end
end Pm

/-! Pm, part B6: tests, chains, places, slices, isinstance. -/
namespace Pm
open PySem PySem.Spec L2
open PyProof.Rows hiding St
section
variable {X : Cx} {W : Wd} {c : TC} {G : GT} {a b e d' : Expr} {ia ib ic ie : IE} {pos p2 : Pos} {m : Bool} {ta tb : Ts}

/-! ### tests -/
theorem RT.mk {F M : Ads} {H : Hp} {env : Env} {σ : L2.St} {st st' : Sto} {b : Bool} {Q : Bool → Hp → Prop} (En : EnR H F M env σ) (S : SRx W H F M st) (e : evT W.P W.C ta env st = some (b, st'))
    (k : ∀ F' M' H', Le F M H F' M' H' → SRx W H' F' M' st' → Q b H') : RT W ta σ H Q := ⟨F, M, env, st, b, st', En, S, e, k⟩
theorem sT_bad {x : Expr} : PT X x (RT W (.val .bad)) := ⟨fun pins s σ H Q I ⟨F, M, env, st, b, st', En, S, e, k⟩ => by simp [evT, evE] at e⟩
theorem sT_not (ha : PT X a (RT W ta)) : PT X (.UnaryOp .Not a pos) (RT W (.not ta)) := by
  refine ⟨fun pins s σ H Q I ⟨F, M, env, st, b, st', En, S, e, k⟩ => ?_⟩
  simp only [evT] at e
  split at e
  · rename_i b1 st1 e1
    simp only [Option.some.injEq, Prod.mk.injEq] at e
    obtain ⟨rfl, rfl⟩ := e
    exact (pt_not ha).run pins s σ H Q I (RT.mk En S e1 k)
  · cases e
theorem sW_one {op : PySem.BoolOp} (ha : PT X a (RT W ta)) : PW X (.BoolOp op [a] pos) (RT W ta) := by
  cases op with
  | And => exact pw_and1 ha
  | Or => exact pw_or1 ha
theorem sW_and {r : List Expr} (ha : PT X a (RT W ta)) (hb : PW X (.BoolOp .And (b :: r) pos) (RT W tb)) : PW X (.BoolOp .And (a :: b :: r) pos) (RT W (.and ta tb)) := by
  refine ⟨fun wh pins s σ H Q I ⟨F, M, env, st, b, st', En, S, e, k⟩ => ?_⟩
  simp only [evT] at e
  split at e
  · rename_i st1 e1
    exact (pw_and ha hb).run wh pins s σ H Q I (RT.mk En S e1 fun F' M' H' l S' => by rw [if_pos rfl]; exact RT.mk (En.le l S.mf) S' e fun F2 M2 H2 l2 S2 => k F2 M2 H2 (l.trans l2) S2)
  · rename_i st1 e1
    simp only [Option.some.injEq, Prod.mk.injEq] at e
    obtain ⟨rfl, rfl⟩ := e
    exact (pw_and ha hb).run wh pins s σ H Q I (RT.mk En S e1 fun F' M' H' l S' => by rw [if_neg (by simp)]; exact k F' M' H' l S')
  · cases e
theorem sW_or {r : List Expr} (ha : PT X a (RT W ta)) (hb : PW X (.BoolOp .Or (b :: r) pos) (RT W tb)) : PW X (.BoolOp .Or (a :: b :: r) pos) (RT W (.or ta tb)) := by
  refine ⟨fun wh pins s σ H Q I ⟨F, M, env, st, b, st', En, S, e, k⟩ => ?_⟩
  simp only [evT] at e
  split at e
  · rename_i st1 e1
    exact (pw_or ha hb).run wh pins s σ H Q I (RT.mk En S e1 fun F' M' H' l S' => by rw [if_neg (by simp)]; exact RT.mk (En.le l S.mf) S' e fun F2 M2 H2 l2 S2 => k F2 M2 H2 (l.trans l2) S2)
  · rename_i st1 e1
    simp only [Option.some.injEq, Prod.mk.injEq] at e
    obtain ⟨rfl, rfl⟩ := e
    exact (pw_or ha hb).run wh pins s σ H Q I (RT.mk En S e1 fun F' M' H' l S' => by rw [if_pos rfl]; exact k F' M' H' l S')
  · cases e
/-- a value's truth -/
theorem sT_val (ha : PE X a (RE W ia)) (he : ∀ whole, isTrue a X.env whole = (do let v ← whole; standAt a.pos; holding [v] (truthy v))) : PT X a (RT W (.val ia)) := by
  refine ⟨fun pins s σ H Q I ⟨F, M, env, st, b, st', En, S, e, k⟩ => ?_⟩
  simp only [evT] at e
  split at e
  · rename_i d st1 e1
    split at e
    · rename_i r e2
      simp only [Option.some.injEq, Prod.mk.injEq] at e
      obtain ⟨rfl, rfl⟩ := e
      exact (pt_truth ha he).run pins s σ H Q I (.mk En S e1 fun F' M' H' v l S' r => ⟨_, truV S' r e2, k F' M' H' l S'⟩)
    · cases e
  · cases e
theorem val_bl {P : Pg} {C : Call} {env : Env} {st st' : Sto} {b : Bool} {d : D} {st1 : Sto} (h : evT P C (.val ie) env st = some (b, st')) (e : evE P C ie env st = some (d, st1)) : st' = st1 ∧ tru st1 d = some b := by
  simp only [evT, e] at h
  split at h
  · rename_i r e2
    simp only [Option.some.injEq, Prod.mk.injEq] at h
    exact ⟨h.2.symm, h.1 ▸ e2⟩
  · cases h
theorem sT_cmp (ok : XOk X c) {op : CmpOp} (hp : plainE b = true) (ha : PE X a (RE W ia)) (hb : PE X b (RE W ib)) : PT X (.Compare a [op] [b] pos) (RT W (.val (.cmp (copOf op) ia ib))) := by
  refine ⟨fun pins s σ H Q I ⟨F, M, env, st, r0, st', En, S, e, k⟩ => ?_⟩
  have ho := op_cmp (W := W) ok (o := copOf op)
  rw [← copOf_op] at ho
  simp only [evT, evE] at e
  split at e
  · rename_i d0 st0 e0
    split at e0
    · rename_i x st1 e1
      split at e0
      · rename_i y st2 e2
        split at e0
        · rename_i r e3
          simp only [Option.some.injEq, Prod.mk.injEq] at e0
          obtain ⟨rfl, rfl⟩ := e0
          simp only [tru, Option.some.injEq, Prod.mk.injEq] at e
          obtain ⟨rfl, rfl⟩ := e
          refine (pt_cmpR ho ha hb (behind_plain op hp)).run pins s σ H Q I (sE_two En S e1 e2 fun F' M' H' u v l S' r1 r2 => ?_)
          exact ⟨F', M', st2, x, y, r, S', r1, r2, e3, r, rfl, k F' M' H' l S'⟩
        · cases e0
      · cases e0
    · cases e0
  · cases e
theorem last_plain {o p : CmpOp} {x y : Expr} (h : plainE y = true) : lastMarks [o, p] [x, y] = false := behind_plain p h
/-- a op b op c: the reading -/
theorem chain_rd {o p : Cop} {Q : VK} {F M : Ads} {H : Hp} {env : Env} {σ : L2.St} {st st' : Sto} {d : D} (ok : XOk X c) (En : EnR H F M env σ) (S : SRx W H F M st) (e : evE W.P W.C (.cmp2 o p ia ib ic) env st = some (d, st')) (k : PostV W F M H d st' Q) :
    ∃ r, d = .bl r ∧ tChain (fun x y H Q => ∃ F M st a b r, SRx W H F M st ∧ Rep H F M a x ∧ Rep H F M b y ∧ cmpop o st a b = some r ∧ Q (.bl r) H) (fun x y H Q => ∃ F M st a b r, SRx W H F M st ∧ Rep H F M a x ∧ Rep H F M b y ∧ cmpop p st a b = some r ∧ Q (.bl r) H) (RE W ia) (RE W ib) (RE W ic) σ H Q := by
  simp only [evE] at e
  split at e
  · rename_i x st1 e1
    split at e
    · rename_i y st2 e2
      split at e
      · rename_i e3
        split at e
        · rename_i z st3 e4
          split at e
          · rename_i r e5
            simp only [Option.some.injEq, Prod.mk.injEq] at e
            obtain ⟨rfl, rfl⟩ := e
            refine ⟨r, rfl, sE_two En S e1 e2 fun F' M' H' u v l S' r1 r2 => ⟨F', M', st2, x, y, true, S', r1, r2, e3, true, rfl, ?_⟩⟩
            rw [if_pos rfl]
            exact .mk (En.le l S.mf) S' e4 fun F2 M2 H2 w l2 S2 r3 => ⟨F2, M2, st3, y, z, r, S2, r2.le l2 S'.mf, r3, e5, (l.trans l2).post k |>.here S2 (by simp only [Rep])⟩
          · cases e
        · cases e
      · rename_i e3
        simp only [Option.some.injEq, Prod.mk.injEq] at e
        obtain ⟨rfl, rfl⟩ := e
        refine ⟨false, rfl, sE_two En S e1 e2 fun F' M' H' u v l S' r1 r2 => ⟨F', M', st2, x, y, false, S', r1, r2, e3, false, rfl, ?_⟩⟩
        rw [if_neg (by simp)]
        exact (l.post k).here S' (by simp only [Rep])
      · cases e
    · cases e
  · cases e
theorem sE_cmp2 (ok : XOk X c) {o p : CmpOp} (hp : plainE d' = true) (ha : PE X a (RE W ia)) (hb : PE X b (RE W ib)) (hd : PE X d' (RE W ic)) : PE X (.Compare a [o, p] [b, d'] pos) (RE W (.cmp2 (copOf o) (copOf p) ia ib ic)) := by
  refine ⟨fun pins s σ H Q I ⟨F, M, env, st, d, st', En, S, e, k⟩ => ?_⟩
  have h1 := op_cmp (W := W) ok (o := copOf o)
  rw [← copOf_op] at h1
  have h2 := op_cmp (W := W) ok (o := copOf p)
  rw [← copOf_op] at h2
  obtain ⟨r, rfl, q⟩ := chain_rd ok En S e k
  exact (pe_chain h1 h2 ha hb hd (last_plain hp)).run pins s σ H Q I q
theorem sT_cmp2 (ok : XOk X c) {o p : CmpOp} (hp : plainE d' = true) (ha : PE X a (RE W ia)) (hb : PE X b (RE W ib)) (hd : PE X d' (RE W ic)) : PT X (.Compare a [o, p] [b, d'] pos) (RT W (.val (.cmp2 (copOf o) (copOf p) ia ib ic))) := by
  refine ⟨fun pins s σ H Q I ⟨F, M, env, st, b0, st', En, S, e, k⟩ => ?_⟩
  have h1 := op_cmp (W := W) ok (o := copOf o)
  rw [← copOf_op] at h1
  have h2 := op_cmp (W := W) ok (o := copOf p)
  rw [← copOf_op] at h2
  have e0 := e
  simp only [evT] at e0
  split at e0
  · rename_i d st1 e1
    obtain ⟨r1, r2⟩ := val_bl e e1
    subst r1
    refine (pt_chain h1 h2 ha hb hd (last_plain hp)).run pins s σ H Q I ?_
    have hb0 : ∃ r, d = .bl r := (chain_rd (Q := fun _ _ => True) ok En S e1 (fun _ _ _ _ _ _ _ => trivial)).imp fun _ h => h.1
    obtain ⟨r, rfl⟩ := hb0
    simp only [tru, Option.some.injEq] at r2
    subst r2
    obtain ⟨_, _, q⟩ := chain_rd (Q := fun x H' => ∃ k, x = .bl k ∧ Q k H') ok En S e1 (fun F' M' H' v l S' rv => by
      simp only [Rep] at rv
      exact ⟨r, rv, k F' M' H' l S'⟩)
    exact q
  · cases e0
theorem sE_ife {t : Expr} (ht : PT X t (RT W ta)) (ha : PE X a (RE W ia)) (hb : PE X b (RE W ib)) : PE X (.IfExp t a b pos) (RE W (.ife ta ia ib)) := by
  refine ⟨fun pins s σ H Q I ⟨F, M, env, st, d, st', En, S, e, k⟩ => ?_⟩
  simp only [evE] at e
  split at e
  · rename_i st1 e1
    exact (pe_ifExp ht ha hb).run pins s σ H Q I (RT.mk En S e1 fun F' M' H' l S' => by rw [if_pos rfl]; exact .mk (En.le l S.mf) S' e (l.post k))
  · rename_i st1 e1
    exact (pe_ifExp ht ha hb).run pins s σ H Q I (RT.mk En S e1 fun F' M' H' l S' => by rw [if_neg (by simp)]; exact .mk (En.le l S.mf) S' e (l.post k))
  · cases e

/-! ### places -/
theorem ixN_eq (n : Nat) (i : Int) : ixN n i = L2.ixN n i := rfl
theorem sx_plain (h : plainE b = true) : PlainIx b := by
  intro o i
  cases b <;> first | rfl | simp [plainE] at h
theorem nosl_plain (h : plainE b = true) : NoSl b := by
  intro o i
  cases b <;> first | rfl | simp [plainE] at h
theorem ix_all : IxR X (fun x y H Q => ∃ F M st a i d, SRx W H F M st ∧ Rep H F M a x ∧ Rep H F M i y ∧ dctOf st a = none ∧ index st a i = some d ∧ ∀ v, Rep H F M d v → Q v H) := by
  intro value slice pins s σ H x y v u Q I rx ry h hs
  obtain ⟨F, M, st, a, i, d, S, ra, ri, hd, e, q⟩ := h
  simp only [index, hd] at e
  split at e
  · rename_i xs k hx
    obtain ⟨p, vs, rfl, hp, r⟩ := seqOf_rep S ra hx
    simp only [Rep] at ri
    simp only [Option.bind_eq_some_iff] at e
    obtain ⟨j, ej, e⟩ := e
    obtain ⟨w, ew, rw'⟩ := r.get e
    have hat : atI vs k = some w := by
      unfold atI
      rw [← r.length, ← ixN_eq, ej]
      exact ew
    rcases hp with hp | hp
    · exact ix_seq value slice pins s σ H _ _ v u Q I rx ry (.inl ⟨p, vs, k, w, rfl, ri, hp, hat, q w rw'⟩) hs
    · exact ix_seq value slice pins s σ H _ _ v u Q I rx ry (.inr (.inl ⟨p, vs, k, w, rfl, ri, SqT.of hp, hat, q w rw'⟩)) hs
  · split at e
    · rename_i z k _
      split at e
      · rename_i hz
        simp only [Option.map_eq_some_iff] at e
        obtain ⟨cc, e, rfl⟩ := e
        simp only [Rep] at ra ri
        refine ix_seq value slice pins s σ H _ _ v u Q I rx ry (.inr (.inr ⟨z, k, cc, ra, ri, lim_line hz, e, q _ (by simp only [Rep])⟩)) hs
      · cases e
    · cases e
theorem sE_idx (ok : XOk X c) (hp : plainE b = true) (ha : PE X a (RE W ia)) (hb : PE X b (RE W ib)) : PE X (.Subscript a b pos) (RE W (.idx ia ib)) := by
  refine ⟨fun pins s σ H Q I ⟨F, M, env, st, d, st', En, S, e, k⟩ => ?_⟩
  simp only [evE] at e
  split at e
  · rename_i x st1 e1
    split at e
    · rename_i y st2 e2
      split at e
      · rename_i r e3
        simp only [Option.some.injEq, Prod.mk.injEq] at e
        obtain ⟨rfl, rfl⟩ := e
        cases hd : dctOf st2 x with
        | none =>
          refine (pe_ix (ix_all (W := W)) ha hb (sx_plain hp)).run pins s σ H Q I (sE_two En S e1 e2 fun F' M' H' u v l S' r1 r2 => ?_)
          exact ⟨F', M', st2, x, y, r, S', r1, r2, hd, e3, fun w rw' => (l.post k).here S' rw'⟩
        | some q =>
          obtain ⟨t, ks, vs⟩ := q
          have hu : X.A.units + 1 < cLine := by have := ok.un; omega
          simp only [index, hd] at e3
          split at e3
          · rename_i hk
            refine (pe_dget hu ha hb (nosl_plain hp)).run pins s σ H Q I (sE_two En S e1 e2 fun F' M' H' u v l S' r1 r2 => ?_)
            obtain ⟨p, o, rfl, g, lr⟩ := dget_rep S' r1 hd hk r2
            rw [e3] at lr
            cases o with
            | none => exact lr.elim
            | some w => exact ⟨p, w, rfl, g, (l.post k).here S' lr⟩
          · cases e3
      · cases e
    · cases e
  · cases e

/-! ### slices -/
def partI : D → Option Int
  | .int i => some i
  | _ => none
theorem sP_part {eo : Option Expr} {t : Expr → IE} (h : ∀ e, eo = some e → plainE e = true → PE X e (RE W (t e))) : PO X eo (fun σ H Q => ∃ F M env st d st', EnR H F M env σ ∧ SRx W H F M st ∧ evE W.P W.C (trPart t eo) env st = some (d, st') ∧
    partOk (trPart t eo) d = true ∧ ∀ F' M' H' , Le F M H F' M' H' → SRx W H' F' M' st' → Q (partI d) H') := by
  cases eo with
  | none =>
    refine ⟨fun pins s σ H Q I ⟨F, M, env, st, d, st', En, S, e, hd, k⟩ => ?_⟩
    simp only [trPart, evE, Option.some.injEq, Prod.mk.injEq] at e
    obtain ⟨rfl, rfl⟩ := e
    exact po_none.run pins s σ H Q I (k F M H (Le.refl F M H) S)
  | some x =>
    refine ⟨fun pins s σ H Q I ⟨F, M, env, st, d, st', En, S, e, hd, k⟩ => ?_⟩
    simp only [trPart] at e hd
    split at e
    · rename_i hp
      rw [if_pos hp] at hd
      split at e
      · simp [evE] at e
      · rename_i hne
        have hi : ∃ i, d = .int i := by
          generalize ht : t x = ix at hd hne
          cases ix with
          | cst dd => cases dd <;> first | exact absurd rfl hne | (cases d <;> simp [partOk] at hd; exact ⟨_, rfl⟩)
          | _ => cases d <;> simp [partOk] at hd <;> exact ⟨_, rfl⟩
        refine (po_some (h x rfl hp)).run pins s σ H Q I (.mk En S e fun F' M' H' v l S' r => ?_)
        obtain ⟨i, rfl⟩ := hi
        simp only [Rep] at r
        exact ⟨i, r, k F' M' H' l S'⟩
    · simp [evE] at e
theorem sIx_eq {n d : Nat} {p : D} {r : Nat} (h : sIx n d p = some r) (hp : p = .non ∨ ∃ i, p = .int i) : HT.sIx n d (partI p) = r := by
  rcases hp with rfl | ⟨i, rfl⟩
  · simpa [sIx, partI, HT.sIx] using h
  · simpa [sIx, partI, HT.sIx] using h
theorem sIx_part {n d : Nat} {p : D} {r : Nat} (h : sIx n d p = some r) : p = .non ∨ ∃ i, p = .int i := by
  cases p <;> simp [sIx] at h
  · exact .inl rfl
  · exact .inr ⟨_, rfl⟩
theorem cut_rep {F M : Ads} {H : Hp} {xs ys : List D} {lo hi : D} {vs : List V} (e : cut xs lo hi = some ys) (r : RepL H F M xs vs) : RepL H F M ys (cutV vs (partI lo) (partI hi)) := by
  unfold cut at e
  split at e
  · rename_i p q h1 h2
    simp only [Option.some.injEq] at e; subst e
    have e1 := sIx_eq h1 (sIx_part h1)
    have e2 := sIx_eq h2 (sIx_part h2)
    unfold cutV
    rw [← r.length, e1, e2]
    exact (r.drop p).take (q - p)
  · cases e
theorem drop_take_all {α : Type} (xs : List α) {p q : Nat} (h1 : p = 0) (h2 : q = xs.length) : (xs.drop p).take (q - p) = xs := by
  subst h1; subst h2; simp
theorem sl_all : SlR X (fun x lo hi H Q => ∃ F M st a dl dh d st', SRx W H F M st ∧ Rep H F M a x ∧ lo = partI dl ∧ hi = partI dh ∧ slice m a dl dh st = some (d, st') ∧ PostV W F M H d st' Q) := by
  intro pins s σ H x v vl vu lo hi sl Q I rx hs pl pu h
  obtain ⟨F, M, st, a, dl, dh, d, st', S, ra, rfl, rfl, e, q⟩ := h
  unfold slice at e
  split at e
  · rename_i xs
    simp only [Option.map_eq_some_iff, Prod.mk.injEq] at e
    obtain ⟨ys, e, rfl, rfl⟩ := e
    have r0 := ra
    simp only [Rep] at ra
    obtain ⟨p, vs, rfl, hp, r⟩ := ra
    refine sl_tupA pins s σ H _ v vl vu _ _ sl Q I rx hs pl pu ⟨p, vs, rfl, SqT.of hp, fun hw => ?_, fun _ w hw => newT_post S (cut_rep e r) hw q⟩
    have e2 : ys = xs := by
      unfold cut at e
      split at e
      · rename_i p1 q1 h1 h2
        simp only [Option.some.injEq] at e; subst e
        have e1 := sIx_eq h1 (sIx_part h1)
        have e2 := sIx_eq h2 (sIx_part h2)
        rw [← r.length, e1, e2] at hw
        exact drop_take_all xs hw.1 hw.2
      · cases e
    subst e2
    exact q.here S r0
  · split at e
    · rename_i xs hx
      simp only [Option.map_eq_some_iff] at e
      obtain ⟨ys, e, e3⟩ := e
      obtain ⟨p, vs, rfl, hp, r⟩ := lstOf_rep S ra hx
      exact sl_list pins s σ H _ v vl vu _ _ sl Q I rx hs pl pu ⟨p, vs, rfl, .inl hp, fun w hw => newL_post S (cut_rep e r) hw e3 q⟩
    · cases e
theorem sE_slc {lo hi : Option Expr} {t : Expr → IE} (ha : PE X a (RE W (t a))) (hl : ∀ e, lo = some e → plainE e = true → PE X e (RE W (t e))) (hh : ∀ e, hi = some e → plainE e = true → PE X e (RE W (t e))) :
    PE X (.Subscript a (.Slice lo hi none p2) pos) (RE W (.slc m (t a) (trPart t lo) (trPart t hi))) := by
  refine ⟨fun pins s σ H Q I ⟨F, M, env, st, d, st', En, S, e, k⟩ => ?_⟩
  simp only [evE] at e
  split at e
  · rename_i x st1 e1
    split at e
    · rename_i y st2 e2
      split at e
      · rename_i z st3 e3
        split at e
        · rename_i hp
          simp only [Bool.and_eq_true] at hp
          refine (pe_slice (sl_all (W := W) (m := m)) ha (sP_part hl) (sP_part hh)).run pins s σ H Q I (.mk En S e1 fun F1 M1 H1 u l1 S1 r1 => ?_)
          refine ⟨F1, M1, env, st1, y, st2, En.le l1 S.mf, S1, e2, hp.1, fun F2 M2 H2 l2 S2 => ⟨F2, M2, env, st2, z, st3, (En.le l1 S.mf).le l2 S1.mf, S2, e3, hp.2, fun F3 M3 H3 l3 S3 => ?_⟩⟩
          exact ⟨F3, M3, st3, x, y, z, d, st', S3, (r1.le l2 S1.mf).le l3 S2.mf, rfl, rfl, e, ((l1.trans l2).trans l3).post k⟩
        · cases e
      · cases e
    · cases e
  · cases e
theorem sE_rev {x : Expr} (hn : isNeg1 x = true) (ha : PE X a (RE W ia)) : PE X (.Subscript a (.Slice none none (some x) p2) pos) (RE W (.rev m ia)) := by
  unfold isNeg1 at hn
  split at hn
  · refine ⟨fun pins s σ H Q I ⟨F, M, env, st, d, st', En, S, e, k⟩ => ?_⟩
    simp only [evE] at e
    split at e
    · rename_i x st1 e1
      split at e
      · rename_i xs hx
        simp only [Option.some.injEq] at e
        refine (pe_revL ha).run pins s σ H Q I (.mk En S e1 fun F' M' H' v l S' r => ?_)
        obtain ⟨p, vs, rfl, hp, r1⟩ := lstOf_rep S' r hx
        exact ⟨p, vs, rfl, .inl hp, fun w hw => newL_post S' r1.reverse hw e (l.post k)⟩
      · cases e
    · cases e
  · cases hn

/-! ### isinstance -/
def tyS : Ty → String
  | .int => "int" | .bool => "bool" | .str => "str" | .list => "list" | .tuple => "tuple" | .dict => "dict"
/-- a value's type -/
def kindS (st : Sto) : D → Option Ty
  | .non => none | .bl _ => some .bool | .int _ => some .int | .str _ => some .str | .tup _ => some .tuple | .lst _ => some .list | .dct _ _ _ => some .dict
  | .ref r => match st[r]? with
    | some (.lst _) => some .list
    | some (.dct _ _ _) => some .dict
    | _ => none
end
end Pm

/-! Pm, part B7: isinstance, built-in functions, methods of lists. -/
namespace Pm
open PySem PySem.Spec L2
open PyProof.Rows hiding St
section
variable {X : Cx} {W : Wd} {c : TC} {G : GT} {a b e d' : Expr} {ia ib ic ie : IE} {pos p2 : Pos} {m : Bool} {ta tb : Ts} {F M : Ads} {H : Hp} {st st' : Sto} {d : D}

/-! ### isinstance -/
def kindN : Option Ty → String
  | none => "NoneType"
  | some t => tyS t
def isK : Option Ty → Ty → Bool
  | none, _ => false
  | some .bool, t => t = .bool || t = .int
  | some k, t => k = t
theorem isTy_K {t : Ty} (h : isiOk st d = true) : isTy st d t = isK (kindS st d) t := by
  cases d with
  | ref r =>
    simp only [isiOk] at h
    simp only [isTy, kindS]
    split at h
    · rename_i e; first | (rw [e]; cases t <;> rfl) | (cases t <;> rfl)
    · rename_i e; first | (rw [e]; cases t <;> rfl) | (cases t <;> rfl)
    · cases h
  | _ => cases t <;> simp [isTy, kindS, isK]
theorem kitK {K : PySem.W.Frag} (k : Option Ty) (t : Ty) : PySem.W.kitOne K (.type (kindN k)) (.type (tyS t)) = some (isK k t) := by
  apply kit_ty
  cases k with
  | none => cases t <;> decide +kernel
  | some k => cases k <;> cases t <;> decide +kernel
theorem tyX_rep {K : PySem.W.Frag} {v : V} (S : SRx W H F M st) (r : Rep H F M d v) (h : isiOk st d = true) : TyX K H v (.type (kindN (kindS st d))) := by
  cases d with
  | non => simp only [Rep] at r; subst r; exact .base .non
  | bl k => simp only [Rep] at r; subst r; exact .base (.bl k)
  | int k => simp only [Rep] at r; subst r; exact .base (.int k)
  | str k => simp only [Rep] at r; subst r; exact .base (.str k)
  | tup xs => simp only [Rep] at r; obtain ⟨p, vs, rfl, hp, _⟩ := r; exact .base (.tup hp)
  | lst xs =>
    simp only [Rep] at r; obtain ⟨p, vs, rfl, hp, _⟩ := r
    rcases hp with hp | ⟨o, hp⟩
    · exact .base (.lst hp)
    · exact .base (.frz hp)
  | dct t ks vs =>
    cases t with
    | false => simp only [Rep] at r; obtain ⟨p, rfl, _, kvs, hp, _⟩ := r; exact .base (.dK hp)
    | true => simp only [Rep] at r; obtain ⟨p, rfl, _, kvs, hp, _⟩ := r; exact .base (.dT hp)
  | ref n =>
    simp only [Rep] at r
    obtain ⟨p, rfl, hm⟩ := r
    simp only [isiOk] at h
    split at h
    · rename_i xs e
      obtain ⟨vs, hp, _⟩ := S.obs n _ p e hm
      simp only [kindS, e]
      exact .base (.lst hp)
    · rename_i t ks vs e
      have o := S.obs n _ p e hm
      simp only [kindS, e]
      cases t with
      | false => obtain ⟨kvs, hp, _⟩ := o; exact .base (.dK hp)
      | true => obtain ⟨kvs, hp, _⟩ := o; exact .base (.dT hp)
    · cases h
theorem kitAll {K : PySem.W.Frag} (k : Option Ty) : ∀ ts : List Ty, PySem.W.kitAny K (.type (kindN k)) (ts.map fun t => .type (tyS t)) = some (ts.any (isK k))
  | [] => kitAny_nil
  | t :: ts => kitAny_cons (kitK k t) (fun h => by rw [List.any_cons, h, Bool.false_or]; exact kitAll k ts) fun h => by rw [List.any_cons, h, Bool.true_or]
theorem tyT_boot {x : Str} {t : Ty} (h : tyT.lookup x = some t) : bootBuiltins x = some (.type (tyS t)) ∧ x ∈ freeNames := by
  simp only [tyT] at h
  unfold List.lookup at h
  split at h
  · rename_i e; have e := eq_of_beq e; subst e; cases h; exact ⟨by decide +kernel, by decide +kernel⟩
  unfold List.lookup at h
  split at h
  · rename_i e; have e := eq_of_beq e; subst e; cases h; exact ⟨by decide +kernel, by decide +kernel⟩
  unfold List.lookup at h
  split at h
  · rename_i e; have e := eq_of_beq e; subst e; cases h; exact ⟨by decide +kernel, by decide +kernel⟩
  unfold List.lookup at h
  split at h
  · rename_i e; have e := eq_of_beq e; subst e; cases h; exact ⟨by decide +kernel, by decide +kernel⟩
  unfold List.lookup at h
  split at h
  · rename_i e; have e := eq_of_beq e; subst e; cases h; exact ⟨by decide +kernel, by decide +kernel⟩
  unfold List.lookup at h
  split at h
  · rename_i e; have e := eq_of_beq e; subst e; cases h; exact ⟨by decide +kernel, by decide +kernel⟩
  cases h
theorem pe_ty (ok : XOk X c) {t : Ty} (h : tyOf c.sc e = some t) : PE X e (tC (.ty (tyS t))) := by
  unfold tyOf at h
  split at h
  · rename_i x p
    split at h
    · rename_i hg
      obtain ⟨h1, h2⟩ := tyT_boot h
      exact pe_bltn (ok.gl hg) (ok.free x h2) h1 rfl (glB_gl hg).2.2 (nmOk_d (glB_gl hg).2.1).1
    · cases h
  · cases h
theorem pa_tys (ok : XOk X c) : ∀ {es : List Expr} {ts : List Ty}, es.mapM (tyOf c.sc) = some ts → PA X es (fun σ H Q => Q (ts.map fun t => .ty (tyS t)) H)
  | [], ts, h => by
    simp only [List.mapM_nil, Option.pure_def, Option.some.injEq] at h
    subst h; exact pa_nil
  | e :: es, ts, h => by
    simp only [List.mapM_cons, Option.bind_eq_bind, Option.bind_eq_some_iff, Option.pure_def, Option.some.injEq] at h
    obtain ⟨t, h1, r, h2, rfl⟩ := h
    have hp : plainE e = true := by
      unfold tyOf at h1
      split at h1
      · rfl
      · cases h1
    exact pa_cons (pe_ty ok h1) (pa_tys ok h2) (star_plain es hp)
theorem clsAll : ∀ ts : List Ty, Paired ClsV (ts.map fun t => V.ty (tyS t)) (ts.map fun t => .type (tyS t))
  | [] => .nil
  | t :: ts => .cons (.ty _) (clsAll ts)
theorem mapM_len {α β : Type} {f : α → Option β} : ∀ {l : List α} {r : List β}, l.mapM f = some r → r.length = l.length
  | [], r, h => by simp at h; subst h; rfl
  | x :: l, r, h => by
    simp only [List.mapM_cons, Option.bind_eq_bind, Option.bind_eq_some_iff, Option.pure_def, Option.some.injEq] at h
    obtain ⟨t, h1, r2, h2, rfl⟩ := h
    simp [mapM_len h2]
theorem sE_isi (ok : XOk X c) {ty : Expr} {ts : List Ty} {np : Pos} (hg : glB c.sc "isinstance" = true) (hp : plainE a = true) (hq : plainE ty = true) (ha : PE X a (RE W ia)) (h : tysOf c.sc ty = some ts) (hl : ts.length ≤ 1000) :
    PE X (.Call (.Name "isinstance" np) [a, ty] [] pos) (RE W (.isi ia ts)) := by
  refine ⟨fun pins s σ H Q I ⟨F, M, env, st, d, st', En, S, e, k⟩ => ?_⟩
  simp only [evE] at e
  split at e
  · rename_i x st1 e1
    split at e
    · rename_i hi
      simp only [Option.some.injEq, Prod.mk.injEq] at e
      obtain ⟨rfl, rfl⟩ := e
      have hfree : X.mg "isinstance" = none := ok.free _ (by decide +kernel)
      have hb : bootBuiltins ("isinstance" : Str) = some (.builtin "isinstance") := by decide +kernel
      have heq : ts.any (isTy st1 x) = ts.any (isK (kindS st1 x)) := by
        congr 1; funext t; exact isTy_K hi
      unfold tysOf at h
      split at h
      · rename_i es j tp
        have hl2 := mapM_len h
        refine (pe_callB call_isiT (ok.gl hg) hfree hb (pa_cons ha (pa_cons (pe_tup (pa_tys ok h)) pa_nil (star_plain _ hq)) (star_plain _ hp)) (glB_gl hg).2.2 (nmOk_d (glB_gl hg).2.1).1 (star_plain _ hp) (star_none [_] (by simp [plainE]))).run pins s σ H Q I ?_
        refine .mk En S e1 fun F' M' H' v l S' r => ⟨by rw [List.length_map]; exact Nat.le_trans hl (by decide), fun p np => ?_⟩
        have l2 := Le.fresh (o := .tup (ts.map fun t => .ty (tyS t))) F' M' np
        refine ⟨v, p, ts.map fun t => .ty (tyS t), _, ts.map fun t => .type (tyS t), _, rfl, upd_same, clsAll ts, tyX_rep (S'.fresh np) (r.le l2 S'.mf) hi, kitAll _ ts, ?_⟩
        rw [← heq]
        exact k F' M' _ _ (l.trans l2) (S'.fresh np) (by simp only [Rep])
      · simp only [Option.map_eq_some_iff] at h
        obtain ⟨t, h, rfl⟩ := h
        refine (pe_callB call_isi (ok.gl hg) hfree hb (pa_cons ha (pa_cons (pe_ty ok h) pa_nil (star_plain _ hq)) (star_plain _ hp)) (glB_gl hg).2.2 (nmOk_d (glB_gl hg).2.1).1 (star_plain _ hp) (star_none [_] (by simp [hq]))).run pins s σ H Q I ?_
        refine .mk En S e1 fun F' M' H' v l S' r => ?_
        refine ⟨v, .ty (tyS t), _, _, _, rfl, .ty _, tyX_rep S' r hi, kitK _ t, ?_⟩
        have : [t].any (isTy st1 x) = isK (kindS st1 x) t := by rw [heq]; simp
        rw [← this]
        exact k F' M' _ _ l S' (by simp only [Rep])
    · cases e
  · cases e
end
end Pm

/-! Pm, part B8: built-in functions by values. -/
namespace Pm
open PySem PySem.Spec L2
open PyProof.Rows hiding St
section
variable {X : Cx} {W : Wd} {c : TC} {G : GT} {a b e d' : Expr} {ia ib ic ie : IE} {pos p2 : Pos} {m : Bool} {ta tb : Ts} {F M : Ads} {H : Hp} {st st' : Sto} {d : D}
theorem ints_rep : ∀ {xs : List D} {ns : List Int} {vs : List V}, intsD xs = some ns → RepL H F M xs vs → vs = ns.map V.int
  | [], ns, vs, e, r => by
    simp only [intsD, Option.some.injEq] at e; subst e
    simp only [RepL] at r; subst r; rfl
  | x :: xs, ns, vs, e, r => by
    cases x with
    | int i =>
      simp only [intsD, Option.map_eq_some_iff] at e
      obtain ⟨ms, e, rfl⟩ := e
      simp only [RepL] at r
      obtain ⟨v, t, rfl, h1, h2⟩ := r
      simp only [Rep] at h1
      rw [h1, ints_rep e h2]; rfl
    | _ => simp [intsD] at e
theorem bls_rep : ∀ {xs : List D} {ns : List Bool} {vs : List V}, blsD xs = some ns → RepL H F M xs vs → vs = ns.map V.bl
  | [], ns, vs, e, r => by
    simp only [blsD, Option.some.injEq] at e; subst e
    simp only [RepL] at r; subst r; rfl
  | x :: xs, ns, vs, e, r => by
    cases x with
    | bl i =>
      simp only [blsD, Option.map_eq_some_iff] at e
      obtain ⟨ms, e, rfl⟩ := e
      simp only [RepL] at r
      obtain ⟨v, t, rfl, h1, h2⟩ := r
      simp only [Rep] at h1
      rw [h1, bls_rep e h2]; rfl
    | _ => simp [blsD] at e
theorem foldl_min (n : Int) : ∀ ns : List Int, ns.foldl min n ∈ n :: ns ∧ ∀ y ∈ n :: ns, ns.foldl min n ≤ y
  | [] => by simp
  | k :: ns => by
    have ih := foldl_min (min n k) ns
    simp only [List.foldl_cons]
    constructor
    · rcases List.mem_cons.mp ih.1 with h | h
      · rw [h]
        rcases Int.le_total n k with q | q
        · rw [Int.min_eq_left q]; simp
        · rw [Int.min_eq_right q]; simp
      · simp [h]
    · intro y hy
      have h0 := ih.2 (min n k) (by simp)
      rcases List.mem_cons.mp hy with h | h
      · subst h; omega
      · rcases List.mem_cons.mp h with h | h
        · subst h; omega
        · exact ih.2 y (by simp [h])
theorem foldl_max (n : Int) : ∀ ns : List Int, ns.foldl max n ∈ n :: ns ∧ ∀ y ∈ n :: ns, y ≤ ns.foldl max n
  | [] => by simp
  | k :: ns => by
    have ih := foldl_max (max n k) ns
    simp only [List.foldl_cons]
    constructor
    · rcases List.mem_cons.mp ih.1 with h | h
      · rw [h]
        rcases Int.le_total n k with q | q
        · rw [Int.max_eq_right q]; simp
        · rw [Int.max_eq_left q]; simp
      · simp [h]
    · intro y hy
      have h0 := ih.2 (max n k) (by simp)
      rcases List.mem_cons.mp hy with h | h
      · subst h; omega
      · rcases List.mem_cons.mp h with h | h
        · subst h; omega
        · exact ih.2 y (by simp [h])
/-- what a built-in is, as a value -/
def biV : Bi → Value
  | .len => .builtin "len" | .abs => .builtin "abs" | .all => .builtin "all" | .any => .builtin "any" | .sum => .builtin "sum" | .min => .builtin "min" | .max => .builtin "max" | .sorted => .builtin "sorted"
  | .int => .type "int" | .str => .type "str" | .tuple => .type "tuple" | .list => .type "list" | .dict => .type "dict" | .set => .type "set"
def RB (W : Wd) (b : Bi) (m : Bool) : List V → Hp → VK → Prop := fun xs H Q => ∃ F M st ds d st', SRx W H F M st ∧ RepL H F M ds xs ∧ bicall b m ds st = some (d, st') ∧ PostV W F M H d st' Q
theorem repL1 {v : List V} (r : RepL H F M [d] v) : ∃ u, v = [u] ∧ Rep H F M d u := by
  simp only [RepL] at r
  obtain ⟨u, t, rfl, h, rfl⟩ := r
  exact ⟨u, rfl, h⟩
theorem repL2 {d2 : D} {v : List V} (r : RepL H F M [d, d2] v) : ∃ u w, v = [u, w] ∧ Rep H F M d u ∧ Rep H F M d2 w := by
  simp only [RepL] at r
  obtain ⟨u, t, rfl, h, w, t2, rfl, h2, rfl⟩ := r
  exact ⟨u, w, rfl, h, h2⟩
theorem seq_SqT {K : PySem.W.Frag} {p : Addr} {vs : List V} (h : SqL K H p vs ∨ H p = some (.tup vs)) : SqL K H p vs ∨ SqT K H p vs := h.imp id SqT.of
theorem lstOf_seq {xs : List D} (e : lstOf st d = some xs) : seqOf st d = some xs := by
  cases d <;> simp [lstOf] at e <;> simpa [seqOf, lstOf] using e
theorem cb_all (ok : XOk X c) (b : Bi) : CallR X (biV b) (RB W b m) := by
  intro pins s σ H xs us Q I r ⟨F, M, st, ds, d, st', S, rl, e, k⟩
  unfold bicall at e
  split at e
  case h_1 x =>
    obtain ⟨v, rfl, rx⟩ := repL1 rl
    split at e
    · rename_i z
      split at e
      · rename_i hz
        simp only [Option.some.injEq, Prod.mk.injEq] at e
        obtain ⟨rfl, rfl⟩ := e
        simp only [Rep] at rx
        exact call_len pins s σ H _ us Q I r ⟨v, z.length, rfl, by rw [rx]; exact ⟨lim_line hz, rfl⟩, PostV.here k S (by simp only [Rep])⟩
      · cases e
    · split at e
      · rename_i t ks vs hd
        simp only [Option.some.injEq, Prod.mk.injEq] at e
        obtain ⟨rfl, rfl⟩ := e
        obtain ⟨p, rfl, q⟩ := dctOf_rep S rx hd
        rcases q with ⟨rfl, kvs, h1, rfl, _⟩ | ⟨rfl, kvs, h1, rfl, _⟩
        · exact call_lenD pins s σ H _ us Q I r ⟨p, kvs, rfl, h1, PostV.here k S (by simp only [Rep, List.length_map])⟩
        · exact call_len_dT pins s σ H _ us Q I r ⟨p, kvs, rfl, h1, PostV.here k S (by simp only [Rep, List.length_map])⟩
      · simp only [Option.map_eq_some_iff, Prod.mk.injEq] at e
        obtain ⟨ys, e, rfl, rfl⟩ := e
        obtain ⟨p, vs, rfl, hp, r1⟩ := seqOf_rep (X := X) S rx e
        exact call_len_seq pins s σ H _ us Q I r ⟨p, vs, rfl, seq_SqT hp, PostV.here k S (by simp only [Rep]; rw [r1.length])⟩
  case h_2 i =>
    obtain ⟨v, rfl, rx⟩ := repL1 rl
    simp only [Option.some.injEq, Prod.mk.injEq] at e
    obtain ⟨rfl, rfl⟩ := e
    simp only [Rep] at rx; subst rx
    exact call_abs pins s σ H _ us Q I r ⟨i, rfl, PostV.here k S (by simp only [Rep])⟩
  case h_3 i =>
    obtain ⟨v, rfl, rx⟩ := repL1 rl
    simp only [Option.some.injEq, Prod.mk.injEq] at e
    obtain ⟨rfl, rfl⟩ := e
    simp only [Rep] at rx; subst rx
    exact call_int1 pins s σ H _ us Q I r (.inl ⟨i, rfl, PostV.here k S (by simp only [Rep])⟩)
  case h_4 i =>
    obtain ⟨v, rfl, rx⟩ := repL1 rl
    simp only [Option.some.injEq, Prod.mk.injEq] at e
    obtain ⟨rfl, rfl⟩ := e
    simp only [Rep] at rx; subst rx
    exact call_int1 pins s σ H _ us Q I r (.inr ⟨i, rfl, PostV.here k S (by simp only [Rep])⟩)
  case h_5 i =>
    obtain ⟨v, rfl, rx⟩ := repL1 rl
    split at e
    · rename_i hz
      simp only [Option.some.injEq, Prod.mk.injEq] at e
      obtain ⟨rfl, rfl⟩ := e
      simp only [Rep] at rx; subst rx
      exact call_str_int pins s σ H _ us Q I r ⟨i, rfl, hz, PostV.here k S (by simp only [Rep])⟩
    · cases e
  case h_6 x =>
    obtain ⟨v, rfl, rx⟩ := repL1 rl
    simp only [Option.bind_eq_some_iff, Option.map_eq_some_iff, Prod.mk.injEq] at e
    obtain ⟨ys, h1, bs, h2, rfl, rfl⟩ := e
    obtain ⟨p, vs, rfl, hp, r1⟩ := lstOf_rep S rx h1
    have hv := bls_rep h2 r1
    subst hv
    exact cr_all ok.calm pins s σ H _ us Q I r ⟨p, bs, rfl, .inl hp, PostV.here k S (by simp only [Rep])⟩
  case h_7 x =>
    obtain ⟨v, rfl, rx⟩ := repL1 rl
    simp only [Option.bind_eq_some_iff, Option.map_eq_some_iff, Prod.mk.injEq] at e
    obtain ⟨ys, h1, bs, h2, rfl, rfl⟩ := e
    obtain ⟨p, vs, rfl, hp, r1⟩ := lstOf_rep S rx h1
    have hv := bls_rep h2 r1
    subst hv
    exact cr_any ok.calm pins s σ H _ us Q I r ⟨p, bs, rfl, .inl hp, PostV.here k S (by simp only [Rep])⟩
  case h_8 x =>
    obtain ⟨v, rfl, rx⟩ := repL1 rl
    simp only [Option.bind_eq_some_iff, Option.map_eq_some_iff, Prod.mk.injEq] at e
    obtain ⟨ys, h1, bs, h2, rfl, rfl⟩ := e
    obtain ⟨p, vs, rfl, hp, r1⟩ := lstOf_rep S rx h1
    have hv := ints_rep h2 r1
    subst hv
    exact cr_sum ok.calm pins s σ H _ us Q I r ⟨p, bs, rfl, .inl hp, PostV.here k S (by simp only [Rep])⟩
  case h_9 i j =>
    obtain ⟨v, w, rfl, rx, ry⟩ := repL2 rl
    simp only [Option.some.injEq, Prod.mk.injEq] at e
    obtain ⟨rfl, rfl⟩ := e
    simp only [Rep] at rx ry; subst rx; subst ry
    exact call_min2 ok.calm pins s σ H _ us Q I r ⟨i, j, rfl, PostV.here k S (by simp only [Rep])⟩
  case h_10 i j =>
    obtain ⟨v, w, rfl, rx, ry⟩ := repL2 rl
    simp only [Option.some.injEq, Prod.mk.injEq] at e
    obtain ⟨rfl, rfl⟩ := e
    simp only [Rep] at rx ry; subst rx; subst ry
    exact call_max2 ok.calm pins s σ H _ us Q I r ⟨i, j, rfl, PostV.here k S (by simp only [Rep])⟩
  case h_11 x =>
    obtain ⟨v, rfl, rx⟩ := repL1 rl
    simp only [Option.bind_eq_some_iff] at e
    obtain ⟨ys, h1, e⟩ := e
    split at e
    · rename_i n ns h2
      simp only [Option.some.injEq, Prod.mk.injEq] at e
      obtain ⟨rfl, rfl⟩ := e
      obtain ⟨p, vs, rfl, hp, r1⟩ := lstOf_rep S rx h1
      have hv := ints_rep h2 r1
      subst hv
      refine cr_min ok.calm pins s σ H _ us Q I r ⟨p, n :: ns, rfl, .inl hp, by simp, fun q hq hle => ?_⟩
      have f := foldl_min n ns
      have e1 : q = ns.foldl min n := Int.le_antisymm (hle _ f.1) (f.2 q hq)
      exact PostV.here k S (by simp only [Rep]; rw [e1])
    · cases e
  case h_12 x =>
    obtain ⟨v, rfl, rx⟩ := repL1 rl
    simp only [Option.bind_eq_some_iff] at e
    obtain ⟨ys, h1, e⟩ := e
    split at e
    · rename_i n ns h2
      simp only [Option.some.injEq, Prod.mk.injEq] at e
      obtain ⟨rfl, rfl⟩ := e
      obtain ⟨p, vs, rfl, hp, r1⟩ := lstOf_rep S rx h1
      have hv := ints_rep h2 r1
      subst hv
      refine cr_max ok.calm pins s σ H _ us Q I r ⟨p, n :: ns, rfl, .inl hp, by simp, fun q hq hle => ?_⟩
      have f := foldl_max n ns
      have e1 : q = ns.foldl max n := Int.le_antisymm (f.2 q hq) (hle _ f.1)
      exact PostV.here k S (by simp only [Rep]; rw [e1])
    · cases e
  case h_13 x =>
    obtain ⟨v, rfl, rx⟩ := repL1 rl
    simp only [Option.map_eq_some_iff, Prod.mk.injEq] at e
    obtain ⟨ys, h1, rfl, rfl⟩ := e
    obtain ⟨p, vs, rfl, hp, r1⟩ := seqOf_rep (X := X) S rx h1
    rcases hp with hp | hp
    · exact call_tuple_of pins s σ H _ us Q I r ⟨p, vs, rfl, .inl ⟨hp, fun w hw => newT_post S r1 hw k⟩⟩
    · exact call_tuple_of pins s σ H _ us Q I r ⟨p, vs, rfl, .inr ⟨SqT.of hp, PostV.here k S (by simp only [Rep]; exact ⟨p, vs, rfl, hp, r1⟩)⟩⟩
  case h_14 x =>
    obtain ⟨v, rfl, rx⟩ := repL1 rl
    simp only [Option.map_eq_some_iff] at e
    obtain ⟨ys, h1, e⟩ := e
    obtain ⟨p, vs, rfl, hp, r1⟩ := seqOf_rep (X := X) S rx h1
    exact call_list_of pins s σ H _ us Q I r ⟨p, vs, rfl, seq_SqT hp, fun w hw => newL_post S r1 hw e k⟩
  case h_15 => cases e
theorem biT_boot {x : Str} {b : Bi} (h : biT.lookup x = some b) : bootBuiltins x = some (biV b) ∧ x ∈ freeNames := by
  simp only [biT] at h
  iterate 14 (unfold List.lookup at h; split at h; · (rename_i e; have e := eq_of_beq e; subst e; cases h; exact ⟨by decide +kernel, by decide +kernel⟩))
  cases h
theorem pe_callV {v : Value} {r : List V → Hp → VK → Prop} {x : Str} {np : Pos} {es : List Expr} {t : TA} (hv' : (∃ id, v = .builtin id) ∨ ∃ T, v = .type T) (hc : CallR X v r) (hg : Gl X x) (hm : X.mg x = none) (hv : bootBuiltins x = some v) (ha : PA X (e :: es) t) (hn : x ≠ "__name__") (hdb : (x == ("__debug__" : Str)) = false)
    (he : starEach (e :: es) X.env = (false, eval e X.env) :: starEach es X.env) (hpl : (backTo pos (starEach es X.env)).any (·.1) = false) : PE X (.Call (.Name x np) (e :: es) [] pos) (tCB r t) := by
  rcases hv' with ⟨id, rfl⟩ | ⟨T, rfl⟩
  · exact pe_callB hc hg hm hv ha hn hdb he hpl
  · exact pe_callTy hc hg hm hv ha hn hdb he hpl
theorem biV_kind (b : Bi) : (∃ id, biV b = .builtin id) ∨ ∃ T, biV b = .type T := by
  cases b <;> first | exact .inl ⟨_, rfl⟩ | exact .inr ⟨_, rfl⟩
theorem sE_bi (ok : XOk X c) {x : Str} {b : Bi} {np : Pos} {es : List Expr} {is : List IE} (hg : glB c.sc x = true) (hb : biT.lookup x = some b) (hp : (e :: es).all plainE = true) (ha : PA X (e :: es) (REs W is)) :
    PE X (.Call (.Name x np) (e :: es) [] pos) (RE W (.bi b m is)) := by
  refine ⟨fun pins s σ H Q I ⟨F, M, env, st, d, st', En, S, ev, k⟩ => ?_⟩
  simp only [evE] at ev
  split at ev
  · rename_i ds st1 e1
    obtain ⟨h1, h2⟩ := biT_boot hb
    have hp' := hp
    simp only [List.all_cons, Bool.and_eq_true] at hp'
    refine (pe_callV (biV_kind b) (cb_all (W := W) (m := m) ok b) (ok.gl hg) (ok.free x h2) h1 ha (glB_gl hg).2.2 (nmOk_d (glB_gl hg).2.1).1 (star_plain _ hp'.1) (star_none es hp'.2)).run pins s σ H Q I ?_
    exact ⟨F, M, env, st, ds, st1, En, S, e1, fun F' M' H' vs l S' r => ⟨F', M', st1, ds, d, st', S', r, ev, l.post k⟩⟩
  · cases ev
end
end Pm

/-! Pm, part B9: methods of lists. -/
namespace Pm
open PySem PySem.Spec L2
open PyProof.Rows hiding St
section
open AutoSeq1
/-- a list made longer by a tuple's items, whatever the tuple bears beside them -/
theorem ext_tup (l : Addr) (items : Array Value) (n : Nat) (b : Addr) (items2 : Array Value) (n2 : Nat) (dd : Option Addr) (sl : Array (Option Value))
    (hs0 : ¬(!items.isEmpty && Builtin.List.listTooLong (items.size + items2.size)) = true) (hs1 : items.size ≤ sizeLine) (hs2 : items.size + items2.size ≤ sizeLine + 1) :
    Meets (Builtin.«list.extend» ⟨[.ref l, .ref b], []⟩) (fun _ R s => s.heap.get? l = some { cls := .type "list", data := .seq items n } ∧
      s.heap.get? b = some { cls := .type "tuple", dict := dd, data := .seq items2 n2, slots := sl } ∧
      R (.ok (.ret Value.none)) { s with heap := s.heap.update l (Obj.mapSeq fun x => x ++ items2), toks := s.toks }) :=
  .of_wp fun prog w A R s h => by
    obtain ⟨hp, g, d, tk, os⟩ := s
    obtain ⟨hl, hb, h⟩ := h
    have f1 := AutoSeq1.idx_int
    have f2 := AutoSeq1.sub_tuple_tuple
    have f3 := AutoSeq1.sub_list_list
    have f4 := AutoSeq1.sub_tuple_list
    have f5 := AutoSeq1.sub_list_tuple
    have hz : (items ++ items2).size ≤ sizeLine + 1 := by rw [Array.size_append]; exact hs2
    wp_walk using (wpAny_updateSeq hl rfl (hz := hs1) (_hz' := hz)), wpAny_loadPart' hl, wpAny_loadPart' hb
    exact ⟨_, rfl, h⟩
end
section
variable {X : Cx} {W : Wd} {c : TC} {G : GT} {a b e d' o : Expr} {ia ib ic ie io : IE} {pos p2 : Pos} {m : Bool} {ta tb : Ts} {F M : Ads} {H : Hp} {st st' : Sto} {d : D}
theorem mt_extendT : MtR X "list.extend" (fun x vs H Q => ∃ l b xs zs, x = .ref l ∧ vs = [.ref b] ∧ H l = some (.lst xs) ∧ H b = some (.tup zs) ∧ xs.length + zs.length ≤ sizeLine ∧ Q .non (upd H l (.lst (xs ++ zs)))) := by
  intro pins s σ H x vs v us Q I rx rv ⟨l, b, xs, zs, ex, ev, hH, hB, hz, q⟩
  subst ex; subst ev
  cases rx
  obtain ⟨u, rfl, ru⟩ := rv.one
  cases ru
  obtain ⟨z, its, n, r, hl, e⟩ := I.lstM hH
  obtain ⟨its2, r2, ⟨⟨oc, od, dt, sl⟩, e2, c2, n2, d2⟩, z2⟩ := I.tuple (SqT.of hB)
  simp only at c2 d2
  subst c2; subst d2
  have l2 := r2.length
  have hsz : its.toArray.size + its2.toArray.size ≤ sizeLine := by simp only [List.size_toArray]; omega
  have hlong : ¬ (!its.toArray.isEmpty && Builtin.List.listTooLong (its.toArray.size + its2.toArray.size)) = true := by rw [notLongL hsz]; simp
  refine call_meets F.slot_list_extend ⟨_, e, rfl⟩ F.entry_list_extend (F.args_list_extend_2 _ _) (ext_tup l its.toArray n b its2.toArray n2 od sl hlong (by simp only [List.size_toArray]; omega) (by omega)) ⟨e, e2, ?_⟩
  exact ⟨.non, _, I.lset (its' := its ++ its2) hH e (by simp) (r.append r2) (by rw [List.length_append]; omega), rfl, q⟩
theorem mt_extendR : MtR X "list.extend" (fun x vs H Q => ∃ l b xs zs, x = .ref l ∧ vs = [.ref b] ∧ H l = some (.lst xs) ∧ Rd H b (.lst zs) ∧ xs.length + zs.length ≤ sizeLine ∧ Q .non (upd H l (.lst (xs ++ zs)))) := by
  intro pins s σ H x vs v us Q I rx rv ⟨l, b, xs, zs, ex, ev, hH, hB, hz, q⟩
  subst ex; subst ev
  cases rx
  obtain ⟨u, rfl, ru⟩ := rv.one
  cases ru
  obtain ⟨z, its, n, r, hl, e⟩ := I.lstM hH
  obtain ⟨z2, its2, n2, r2, e2⟩ := Inv.lstR I hB
  have l2 := r2.length
  have hsz : its.toArray.size + its2.toArray.size ≤ sizeLine := by simp only [List.size_toArray]; omega
  have hlong : ¬ (!its.toArray.isEmpty && Builtin.List.listTooLong (its.toArray.size + its2.toArray.size)) = true := by rw [notLongL hsz]; simp
  refine call_meets F.slot_list_extend ⟨_, e, rfl⟩ F.entry_list_extend (F.args_list_extend_2 _ _) (AutoSeq1.list_extend_list_list_0 l its.toArray n b its2.toArray n2 hlong (by simp only [List.size_toArray]; omega) (by omega)) ⟨e, e2, ?_⟩
  exact ⟨.non, _, I.lset (its' := its ++ its2) hH e (by simp) (r.append r2) (by rw [List.length_append]; omega), rfl, q⟩
/-- a list of the store written -/
theorem setL_post {n : Nat} {p : Addr} {vs vs' : List V} {xs' : List D} {v : V} {Q : VK} (S : SRx W H F M st) (hn : M[n]? = some p) (h : H p = some (.lst vs)) (r : RepL H F M xs' vs') (rd : Rep H F M d v)
    (k : PostV W F M H d (st.set n (.lst xs')) Q) : Q v (upd H p (.lst vs')) := by
  have l := Le.write (o := .lst vs') F M (List.mem_of_getElem? hn) h (fun _ z => nomatch z) (fun _ _ z => nomatch z)
  exact k F M _ v l (S.write hn h (fun _ z => nomatch z) (fun _ _ z => nomatch z) ⟨vs', upd_same, r.le l S.mf⟩) (rd.le l S.mf)
def bmId : Bm → String
  | .append => "list.append" | .extend => "list.extend" | .insert => "list.insert" | .pop => "list.pop" | .reverse => "list.reverse" | _ => "list.append"
def RM (W : Wd) (b : Bm) (m : Bool) : V → List V → Hp → VK → Prop := fun x xs H Q => ∃ F M st o ds d st', SRx W H F M st ∧ Rep H F M o x ∧ RepL H F M ds xs ∧ bmcall b m o ds st = some (d, st') ∧ PostV W F M H d st' Q
theorem mt_all (b : Bm) (hb : b = .append ∨ b = .extend ∨ b = .insert ∨ b = .pop ∨ b = .reverse) : MtR X (bmId b) (RM W b m) := by
  intro pins s σ H x xs v us Q I rx rs ⟨F, M, st, o, ds, d, st', S, ro, rl, e, k⟩
  unfold bmcall at e
  split at e
  · rename_i n
    simp only [Rep] at ro
    obtain ⟨p, rfl, hm⟩ := ro
    split at e
    · rename_i ys y hx
      obtain ⟨vs, hp, r⟩ := S.obs n _ p hx hm
      split at e
      · rename_i hz
        simp only [Option.some.injEq, Prod.mk.injEq] at e
        obtain ⟨rfl, rfl⟩ := e
        obtain ⟨w, rfl, rw'⟩ := repL1 rl
        have hl := r.length
        have hlt : vs.length < sizeLine := by rw [← hl]; exact Nat.lt_of_lt_of_le hz (by decide)
        exact mt_append pins s σ H _ _ v us Q I rx rs ⟨p, vs, w, rfl, rfl, hp, hlt, setL_post S hm hp (r.append (.cons rw' .nil)) (by simp only [Rep]) k⟩
      · cases e
    · rename_i ys y hx
      obtain ⟨vs, hp, r⟩ := S.obs n _ p hx hm
      simp only [Option.bind_eq_some_iff] at e
      obtain ⟨zs, hz, e⟩ := e
      split at e
      · rename_i hlen
        simp only [Option.some.injEq, Prod.mk.injEq] at e
        obtain ⟨rfl, rfl⟩ := e
        obtain ⟨w, rfl, rw'⟩ := repL1 rl
        have hl := r.length
        cases y with
        | tup ts =>
          simp only [seqOf, Option.some.injEq] at hz; subst hz
          simp only [Rep] at rw'
          obtain ⟨t, ws, rfl, ht, r2⟩ := rw'
          have hl2 := r2.length
          exact mt_extendT pins s σ H _ _ v us Q I rx rs ⟨p, t, vs, ws, rfl, rfl, hp, ht, by rw [← hl, ← hl2]; exact lim_line hlen, setL_post S hm hp (r.append r2) (by simp only [Rep]) k⟩
        | lst ts =>
          obtain ⟨t, ws, rfl, ht, r2⟩ := lstOf_rep (xs := zs) S rw' (by simpa [lstOf, seqOf] using hz)
          have hl2 := r2.length
          · exact mt_extendR pins s σ H _ _ v us Q I rx rs ⟨p, t, vs, ws, rfl, rfl, hp, ht, by rw [← hl, ← hl2]; exact lim_line hlen, setL_post S hm hp (r.append r2) (by simp only [Rep]) k⟩
        | ref q =>
          obtain ⟨t, ws, rfl, ht, r2⟩ := lstOf_rep (xs := zs) S rw' (by simpa [lstOf, seqOf] using hz)
          have hl2 := r2.length
          · exact mt_extendR pins s σ H _ _ v us Q I rx rs ⟨p, t, vs, ws, rfl, rfl, hp, ht, by rw [← hl, ← hl2]; exact lim_line hlen, setL_post S hm hp (r.append r2) (by simp only [Rep]) k⟩
        | _ => simp [seqOf] at hz
      · cases e
    · rename_i ys i y hx
      obtain ⟨vs, hp, r⟩ := S.obs n _ p hx hm
      split at e
      · rename_i hz
        simp only [Bool.and_eq_true, decide_eq_true_eq] at hz
        simp only [Option.some.injEq, Prod.mk.injEq] at e
        obtain ⟨rfl, rfl⟩ := e
        obtain ⟨w, w2, rfl, r1, r2⟩ := repL2 rl
        simp only [Rep] at r1; subst r1
        have hl := r.length
        have hlt : vs.length < sizeLine := by rw [← hl]; exact Nat.lt_of_lt_of_le hz.1.1 (by decide)
        exact mt_insert pins s σ H _ _ v us Q I rx rs ⟨p, vs, i, w2, rfl, rfl, hp, hlt, hz.1.2, by omega, setL_post S hm hp (((r.take _).append (.cons r2 .nil)).append (r.drop _)) (by simp only [Rep]) k⟩
      · cases e
    · rename_i ys hx
      obtain ⟨vs, hp, r⟩ := S.obs n _ p hx hm
      simp only [Option.map_eq_some_iff, Prod.mk.injEq] at e
      obtain ⟨y, hy, rfl, rfl⟩ := e
      simp only [RepL] at rl; subst rl
      obtain ⟨w, hw, rw'⟩ := r.get hy
      have hdl : RepL H F M ys.dropLast vs.dropLast := by
        rw [List.dropLast_eq_take, List.dropLast_eq_take, ← r.length]; exact r.take _
      exact mt_pop pins s σ H _ _ v us Q I rx rs ⟨p, vs, w, rfl, rfl, hp, by rw [← r.length]; exact hw, setL_post S hm hp hdl rw' k⟩
    · rename_i ys i hx
      obtain ⟨vs, hp, r⟩ := S.obs n _ p hx hm
      simp only [Option.bind_eq_some_iff, Option.map_eq_some_iff, Prod.mk.injEq] at e
      obtain ⟨j, hj, y, hy, rfl, rfl⟩ := e
      obtain ⟨w0, rfl, r0⟩ := repL1 rl
      simp only [Rep] at r0; subst r0
      obtain ⟨w, hw, rw'⟩ := r.get hy
      rw [ixN_eq] at hj
      obtain ⟨h1, h2, h3, h4⟩ := ixN_seq hj
      have hz := (I.lstM hp).1
      have hl := r.length
      have hs : (sizeLine : Nat) < 2 ^ 62 := by decide
      exact mt_popAt pins s σ H _ _ v us Q I rx rs ⟨p, vs, i, j, w, rfl, rfl, hp, by omega, by omega, by rw [← hl]; exact h1, hw, setL_post S hm hp (r.erase j) rw' k⟩
    · rename_i ys hx
      obtain ⟨vs, hp, r⟩ := S.obs n _ p hx hm
      simp only [Option.some.injEq, Prod.mk.injEq] at e
      obtain ⟨rfl, rfl⟩ := e
      simp only [RepL] at rl; subst rl
      exact mt_reverse pins s σ H _ _ v us Q I rx rs ⟨p, vs, rfl, rfl, hp, setL_post S hm hp r.reverse (by simp only [Rep]) k⟩
    · cases e
  · cases e

theorem attr_plain {o : Expr} {f : Str} {env : PySem.Env} (h : plainE o = true) (hc : ∀ g as ks p, o ≠ .Call g as ks p) : attributeBase o f env (eval o env) = eval o env := by
  cases o <;> first | rfl | exact absurd rfl (hc _ _ _ _)
theorem attr_ok {o : Expr} {f : Str} {env : PySem.Env} (h : notSuper o = true) : attributeBase o f env (eval o env) = eval o env := by
  unfold attributeBase
  split
  · simp [notSuper] at h
  · rfl
def bm5 (b : Bm) : Bool := match b with
  | .append => true | .extend => true | .insert => true | .pop => true | .reverse => true | _ => false
theorem bm5_or {b : Bm} (h : bm5 b = true) : b = .append ∨ b = .extend ∨ b = .insert ∨ b = .pop ∨ b = .reverse := by
  cases b <;> simp [bm5] at h <;> simp
theorem bmT_facts {x : Str} {b : Bm} (h : bmT.lookup x = some b) (h5 : bm5 b = true) : PlainAttrs "list" ∧ Slot "list" x (bmId b) ∧ typeOf (.builtin (bmId b)) = pure (.type "method_descriptor") := by
  simp only [bmT] at h
  iterate 15 (unfold List.lookup at h; split at h; · (rename_i e; have e := eq_of_beq e; subst e; cases h; first
    | exact ⟨PySem.F.plainAttrs_list, PySem.F.slot_list_append, PySem.F.type_list_append⟩
    | exact ⟨PySem.F.plainAttrs_list, PySem.F.slot_list_extend, PySem.F.type_list_extend⟩
    | exact ⟨PySem.F.plainAttrs_list, PySem.F.slot_list_insert, PySem.F.type_list_insert⟩
    | exact ⟨PySem.F.plainAttrs_list, PySem.F.slot_list_pop, PySem.F.type_list_pop⟩
    | exact ⟨PySem.F.plainAttrs_list, PySem.F.slot_list_reverse, PySem.F.type_list_reverse⟩
    | simp [bm5] at h5))
  cases h
theorem bmcall_lst {b : Bm} {o : D} {ds : List D} {r : D × Sto} (e : bmcall b m o ds st = some r) (h5 : bm5 b = true) : rkind st o = 1 := by
  unfold bmcall at e
  split at e
  · rename_i n
    split at e
    all_goals first | (simp only [rkind, lstOf]; simp_all; done) | (cases e; done)
  · cases e
theorem bmcall_5 {b : Bm} {o : D} {ds : List D} {r : D × Sto} (e : bmcall b m o ds st = some r) : bm5 b = true := by
  unfold bmcall at e
  split at e
  · split at e <;> first | rfl | cases e
  · cases e
theorem rkind_lst {K : PySem.W.Frag} {o : D} {v : V} (S : SRx W H F M st) (r : Rep H F M o v) (h : rkind st o = 1) : tyV K "list" v H := by
  unfold rkind at h
  split at h
  · rename_i xs hx
    obtain ⟨p, vs, rfl, hp, _⟩ := lstOf_rep S r hx
    exact .inl ⟨rfl, vs, .inl hp⟩
  · split at h
    · cases h
    · split at h <;> cases h
theorem sE_bm {x : Str} {b : Bm} {apos : Pos} {es : List Expr} {is : List IE} (hline : (apos.endLine == pos.line) = true) (hfew : es.length < 20) (hs : notSuper o = true) (hb : bmT.lookup x = some b) (hp : es.all plainE = true) (hil : es = [] → is = [])
    (ho : PE X o (RE W io)) (ha : PA X es (REs W is)) : PE X (.Call (.Attribute o x apos) es [] pos) (RE W (.bm b m io is)) := by
  refine ⟨fun pins s σ H Q I ⟨F, M, env, st, d, st', En, S, e, k⟩ => ?_⟩
  simp only [evE] at e
  split at e
  · rename_i y st1 e1
    split at e
    · rename_i ds st2 e2
      split at e
      · rename_i hk
        have h5 := bmcall_5 e
        obtain ⟨f1, f2, f3⟩ := bmT_facts hb h5
        have hk1 : rkind st1 y = 1 := hk.trans (bmcall_lst e h5)
        cases es with
        | nil =>
          refine (pe_bm0 f1 f2 f3 (mt_all (W := W) (m := m) b (bm5_or h5)) ho (attr_ok hs) hline).run pins s σ H Q I (.mk En S e1 fun F' M' H' v l S' r => ⟨rkind_lst S' r hk1, ?_⟩)
          have hds : ds = [] ∧ st2 = st1 := by
            have h0 := hil rfl
            subst h0
            simp only [evEs, Option.some.injEq, Prod.mk.injEq] at e2
            exact ⟨e2.1.symm, e2.2.symm⟩
          obtain ⟨rfl, rfl⟩ := hds
          exact ⟨F', M', st2, y, [], d, st', S', r, .nil, e, l.post k⟩
        | cons e0 es =>
          simp only [List.all_cons, Bool.and_eq_true] at hp
          refine (pe_bm f1 f2 f3 (mt_all (W := W) (m := m) b (bm5_or h5)) ho ha (attr_ok hs) ?_ hline (star_plain _ hp.1) (star_none es hp.2)).run pins s σ H Q I (.mk En S e1 fun F' M' H' v l S' r => ⟨rkind_lst S' r hk1, ?_⟩)
          · have h0 := star_none (e0 :: es) (env := X.env) (pos := pos) (by simp [hp])
            simp only [Bool.and_eq_true, decide_eq_true_eq]
            refine ⟨⟨?_, rfl⟩, by simp only [List.length_cons, List.length_nil, List.isEmpty_nil, if_true] at hfew ⊢; omega⟩
            rw [List.all_eq_not_any_not]
            simpa using h0
          · exact ⟨F', M', env, st1, ds, st2, En.le l S.mf, S', e2, fun F2 M2 H2 vs l2 S2 r2 => ⟨F2, M2, st2, y, ds, d, st', S2, r.le l2 S'.mf, r2, e, (l.trans l2).post k⟩⟩
      · cases e
    · cases e
  · cases e
end
end Pm

/-! Pm, part Ba: targets; what is walked. -/
namespace Pm
open PySem PySem.Spec L2
open PyProof.Rows hiding St
section
variable {X : Cx} {W : Wd} {c : TC} {G : GT} {a b e d' o : Expr} {ia ib ic ie io : IE} {pos p2 : Pos} {m : Bool} {ta tb : Ts} {F M : Ads} {H : Hp} {st st' : Sto} {d : D}

/-! ### targets -/
theorem locB_loc (ok : XOk X c) {x : Str} (h : locB c x = true) : Loc X.env.scope x ∧ (X.fn x = true ∨ X.env.scope.names.lookup x = some .local) := by
  unfold locB at h
  rw [ok.sc]
  split at h
  · rename_i e; exact ⟨.inl e, .inr e⟩
  · rename_i e; exact ⟨.inr e, .inl (ok.fn x h)⟩
  · cases h
theorem Keep.refl (L : List Nat) (σ : L2.St) : Keep L σ σ := ⟨rfl, fun _ _ => rfl⟩
theorem Keep.trans {l1 l2 : List Nat} {σ σ1 σ2 : L2.St} (a : Keep l1 σ σ1) (b : Keep l2 σ1 σ2) : Keep (l1 ++ l2) σ σ2 :=
  ⟨b.1.trans a.1, fun j hj => by
    simp only [List.mem_append, not_or] at hj
    exact (b.2 j hj.2).trans (a.2 j hj.1)⟩
theorem sG_bad {x : Expr} : PG X x (RG W (.sub .bad .bad)) := ⟨fun pins s σ H v u Q I rv ⟨F, M, env, st, d, env', st', En, S, r, e, k⟩ => by simp [asgT, evE] at e⟩
theorem sG_nm (ok : XOk X c) {x : Str} {i : Nat} (hl : locB c x = true) (hs : slot c.N x = some i) : PG X (.Name x pos) (RG W (.nm i)) := by
  refine ⟨fun pins s σ H v u Q I rv ⟨F, M, env, st, d, env', st', En, S, r, e, k⟩ => ?_⟩
  simp only [asgT] at e
  split at e
  · simp only [Option.some.injEq, Prod.mk.injEq] at e
    obtain ⟨rfl, rfl⟩ := e
    obtain ⟨h1, h2⟩ := locB_loc ok hl
    exact (pg_name (by rw [ok.n]; exact ok.nd) (by rw [ok.n]; exact slot_at hs) h1 h2).run pins s σ H v u Q I rv (k F M H _ (Le.refl F M H) S (En.set r i) ⟨by simp, fun j hj => by rw [List.getElem?_set_ne (by simp [Tg.slots] at hj; omega)]⟩)
  · cases e
theorem assignEach_plain : ∀ (es : List Expr) {env : PySem.Env}, es.all plainE = true → assignEach es env = es.map fun e => (false, assign e env)
  | [], _, _ => rfl
  | e :: es, env, h => by
    simp only [List.all_cons, Bool.and_eq_true] at h
    rw [List.map_cons, ← assignEach_plain es h.2]
    cases e <;> first | rfl | simp [plainE] at h
theorem sGs {t : Expr → Tg} : ∀ (es : List Expr), es.all plainE = true → (∀ e ∈ es, PG X e (RG W (t e))) → PGs X es (RGs W (es.map t))
  | [], _, _ => by
    refine ⟨fun pins s σ H vs us Q I rv ⟨F, M, env, st, ds, env', st', En, S, r, e, k⟩ => ?_⟩
    simp only [List.map_nil] at e
    cases ds with
    | nil =>
      simp only [asgTs, Option.some.injEq, Prod.mk.injEq] at e
      obtain ⟨rfl, rfl⟩ := e
      simp only [RepL] at r; subst r
      exact pgs_nil.run pins s σ H [] us Q I rv ⟨rfl, k F M H σ (Le.refl F M H) S En (Keep.refl _ σ)⟩
    | cons _ _ => simp [asgTs] at e
  | e :: es, hp, h => by
    have hp' := hp
    simp only [List.all_cons, Bool.and_eq_true] at hp
    have ih := sGs es hp.2 fun x hx => h x (List.mem_cons_of_mem _ hx)
    refine ⟨fun pins s σ H vs us Q I rv ⟨F, M, env, st, ds, env', st', En, S, r, ev, k⟩ => ?_⟩
    simp only [List.map_cons] at ev
    cases ds with
    | nil => simp [asgTs] at ev
    | cons d ds =>
      simp only [asgTs] at ev
      split at ev
      · rename_i env1 st1 e1
        simp only [RepL] at r
        obtain ⟨v, t0, rfl, r1, r2⟩ := r
        refine (pgs_cons (h e (List.mem_cons_self ..)) ih (by rw [assignEach_plain _ hp', assignEach_plain _ hp.2]; rfl)).run pins s σ H _ us Q I rv ⟨v, t0, rfl, ?_⟩
        refine ⟨F, M, env, st, d, env1, st1, En, S, r1, e1, fun F1 M1 H1 σ1 l1 S1 En1 k1 => ?_⟩
        exact ⟨F1, M1, env1, st1, ds, env', st', En1, S1, r2.le l1 S.mf, ev, fun F2 M2 H2 σ2 l2 S2 En2 k2 => k F2 M2 H2 σ2 (l1.trans l2) S2 En2 (k1.trans k2)⟩
      · cases ev
theorem sG_tup (ok : XOk X c) {es : List Expr} {ts : List Tg} {j : Nat} (hp : es.all plainE = true) (h : PGs X es (RGs W ts)) (hl : ts.length = es.length) : PG X (.Tuple es j pos) (RG W (.tup ts)) := by
  refine ⟨fun pins s σ H v u Q I rv ⟨F, M, env, st, d, env', st', En, S, r, e, k⟩ => ?_⟩
  simp only [asgT] at e
  split at e
  · rename_i xs
    simp only [Rep] at r
    obtain ⟨p, vs, rfl, hpp, r⟩ := r
    have hlen : ∀ {ts : List Tg} {xs : List D} {env : Env} {st : Sto} {r : Env × Sto}, asgTs W.P W.C ts xs env st = some r → xs.length = ts.length := by
      intro ts
      induction ts with
      | nil => intro xs env st r e; cases xs with
        | nil => rfl
        | cons _ _ => simp [asgTs] at e
      | cons t ts ih => intro xs env st r e; cases xs with
        | nil => simp [asgTs] at e
        | cons x xs =>
          simp only [asgTs] at e
          split at e
          · simp [ih e]
          · cases e
    refine (pg_tup (n := es.length) ok.calm h (by rw [assignEach_plain es hp, List.length_map]) (by
      rw [assignEach_plain es hp, List.findIdx?_map]
      exact List.findIdx?_eq_none_iff.mpr fun x _ => rfl)).run pins s σ H _ u Q I rv ⟨p, vs, rfl, SqT.of hpp, by rw [← r.length, hlen e, hl], ?_⟩
    exact ⟨F, M, env, st, xs, env', st', En, S, r, e, k⟩
  · cases e
theorem pset_all (ok : XOk X c) : PSet X (fun o i v H Q => ∃ F M st do_ di dv st', SRx W H F M st ∧ Rep H F M do_ o ∧ Rep H F M di i ∧ Rep H F M dv v ∧ setItem do_ di dv st = some st' ∧ ∀ F' M' H', Le F M H F' M' H' → SRx W H' F' M' st' → Q H') := by
  intro pins s σ H o i v ov iv u Q I ro ri rv ⟨F, M, st, do_, di, dv, st', S, r1, r2, r3, e, k⟩
  unfold setItem at e
  split at e
  · rename_i n
    simp only [Rep] at r1
    obtain ⟨p, rfl, hm⟩ := r1
    split at e
    · rename_i xs hx
      obtain ⟨vs, hp, r⟩ := S.obs n _ p hx hm
      split at e
      · rename_i j
        simp only [Option.map_eq_some_iff] at e
        obtain ⟨q, hq, rfl⟩ := e
        simp only [Rep] at r2
        rw [ixN_eq, r.length] at hq
        exact set_list pins s σ H _ _ v ov iv u Q I ro ri rv ⟨p, vs, j, q, rfl, r2, hp, hq, setL_post (v := .non) (d := .non) (Q := fun _ H' => Q H') S hm hp (r.set r3 q) (by simp only [Rep]) fun F' M' H' _ l S' _ => k F' M' H' l S'⟩
      · cases e
    · rename_i t ks vs hx
      split at e
      · rename_i hk
        simp only [Bool.and_eq_true, decide_eq_true_eq] at hk
        simp only [Option.some.injEq] at e; subst e
        have o0 := S.obs n _ p hx hm
        have hu : X.A.units + 1 < cLine := by have := ok.un; omega
        cases ro
        cases t with
        | false =>
          obtain ⟨kvs, hp, rfl, r⟩ := o0
          obtain ⟨key, rfl, rfl⟩ := isKey_k hk.1 r2
          obtain ⟨e1, e2⟩ := put_k keq_keyD key r3 kvs vs r
          have hlt : kvs.length < sizeLine := by have := hk.2; rw [List.length_map] at this; exact Nat.lt_of_lt_of_le this (by decide)
          refine d_setItem hu I (DPut.k hp hlt) ri rv fun s' I' => ⟨_, I', ?_⟩
          have l := Le.write (o := .dK (putK kvs key v)) F M (List.mem_of_getElem? hm) hp (fun _ z => nomatch z) (fun _ _ z => nomatch z)
          exact k F M _ l (S.write hm hp (fun _ z => nomatch z) (fun _ _ z => nomatch z) ⟨putK kvs key v, upd_same, e1, e2.le l S.mf⟩)
        | true =>
          obtain ⟨kvs, hp, rfl, r⟩ := o0
          obtain ⟨q, kk, rfl, rfl, hb⟩ := isKey_t hk.1 r2
          obtain ⟨e1, e2⟩ := put_k (g := fun l => .tup (l.map keyD)) keq_tup kk r3 kvs vs r
          have hlt : kvs.length < sizeLine := by have := hk.2; rw [List.length_map] at this; exact Nat.lt_of_lt_of_le this (by decide)
          refine d_setItem hu I (DPut.t hp hb hlt) ri rv fun s' I' => ⟨_, I', ?_⟩
          have l := Le.write (o := .dT (putK kvs kk v)) F M (List.mem_of_getElem? hm) hp (fun _ z => nomatch z) (fun _ _ z => nomatch z)
          exact k F M _ l (S.write hm hp (fun _ z => nomatch z) (fun _ _ z => nomatch z) ⟨putK kvs kk v, upd_same, e1, e2.le l S.mf⟩)
      · cases e
    · cases e
  · cases e
theorem sG_sub (ok : XOk X c) (hp : plainE b = true) (ha : PE X a (RE W ia)) (hb : PE X b (RE W ib)) : PG X (.Subscript a b pos) (RG W (.sub ia ib)) := by
  refine ⟨fun pins s σ H v u Q I rv ⟨F, M, env, st, d, env', st', En, S, r, e, k⟩ => ?_⟩
  simp only [asgT] at e
  split at e
  · rename_i x st1 e1
    split at e
    · rename_i y st2 e2
      split at e
      · rename_i st3 e3
        simp only [Option.some.injEq, Prod.mk.injEq] at e
        obtain ⟨rfl, rfl⟩ := e
        refine (pg_sub ha hb (pset_all (W := W) ok) (fun _ => by cases b <;> first | rfl | simp [plainE] at hp)).run pins s σ H v u Q I rv ?_
        refine sE_two En S e1 e2 fun F' M' H' p q l S' r1 r2 => ⟨F', M', st2, x, y, d, st3, S', r1, r2, r.le l S.mf, e3, fun F2 M2 H2 l2 S2 => ?_⟩
        exact k F2 M2 H2 σ (l.trans l2) S2 (En.le (l.trans l2) S.mf) (Keep.refl _ σ)
      · cases e
    · cases e
  · cases e

/-! ### what is walked -/
/-- the walk J goes over the items xs, as long as their objects stand -/
structure ItR (W : Wd) (F M : Ads) (H : Hp) (xs : List D) (src : Src) (J : L2.It) : Prop where
  go : ∀ F' M' H' st' i, Le F M H F' M' H' → SRx W H' F' M' st' → chk st' src = true → i < xs.length → J.go i H'
  stop : ∀ F' M' H' st', Le F M H F' M' H' → SRx W H' F' M' st' → chk st' src = true → J.stop xs.length H'
  yld : ∀ F' M' H' st' i x, Le F M H F' M' H' → SRx W H' F' M' st' → chk st' src = true → xs[i]? = some x → ∀ v H'', J.yld i H' v H'' → Le F' M' H' F' M' H'' ∧ SRx W H'' F' M' st' ∧ Rep H'' F' M' x v
def RI (W : Wd) (it : It) : TI := fun σ H R => ∃ F M env st xs src st', EnR H F M env σ ∧ SRx W H F M st ∧ evIt W.P W.C it env st = some (xs, src, st') ∧
  ∀ F' M' H' J, Le F M H F' M' H' → SRx W H' F' M' st' → ItR W F' M' H' xs src J → R J H'
theorem chk_get {st : Sto} : ∀ {s t : Src}, chk st (s ++ t) = true → chk st s = true ∧ chk st t = true
  | [], t, h => ⟨rfl, h⟩
  | p :: s, t, h => by
    simp only [List.cons_append, chk, Bool.and_eq_true] at h ⊢
    obtain ⟨h1, h2⟩ := h
    exact ⟨⟨h1, (chk_get h2).1⟩, (chk_get h2).2⟩
/-- a list's items stand as long as it is as it was -/
theorem src_list {xs : List D} {v : V} (S : SRx W H F M st) (r : Rep H F M d v) (h : lstOf st d = some xs) : ∃ p, v = .ref p ∧ ∀ F' M' H' st', Le F M H F' M' H' → SRx W H' F' M' st' → chk st' (srcOf st d) = true →
    ∃ vs, Rd H' p (.lst vs) ∧ RepL H' F' M' xs vs := by
  cases d with
  | lst ys =>
    simp only [lstOf, Option.some.injEq] at h; subst h
    have r0 := r
    simp only [Rep] at r
    obtain ⟨p, vs, rfl, _⟩ := r
    refine ⟨p, rfl, fun F' M' H' st' l S' _ => ?_⟩
    have r1 := r0.le l S.mf
    simp only [Rep] at r1
    obtain ⟨p', vs', e, h1, _, h2⟩ := r1
    cases e
    exact ⟨vs', h1, h2⟩
  | ref n =>
    simp only [Rep] at r
    obtain ⟨p, rfl, hm⟩ := r
    simp only [lstOf] at h
    split at h
    · rename_i ys hy
      simp only [Option.some.injEq] at h; subst h
      refine ⟨p, rfl, fun F' M' H' st' l S' hc => ?_⟩
      simp only [srcOf, hy, chk, Bool.and_true] at hc
      split at hc
      · rename_i zs hz
        have ez := of_decide_eq_true hc
        subst ez
        obtain ⟨vs, h1, h2⟩ := S'.obs n _ p hz (l.pre n p hm)
        exact ⟨vs, .inl h1, h2⟩
      · cases hc
    · cases h
  | _ => simp [lstOf] at h
theorem src_tup {xs : List D} {v : V} (S : SRx W H F M st) (r : Rep H F M (.tup xs) v) : ∃ p, v = .ref p ∧ ∀ F' M' H', Le F M H F' M' H' → ∃ vs, H' p = some (.tup vs) ∧ RepL H' F' M' xs vs := by
  have r0 := r
  simp only [Rep] at r
  obtain ⟨p, vs, rfl, _⟩ := r
  refine ⟨p, rfl, fun F' M' H' l => ?_⟩
  have r1 := r0.le l S.mf
  simp only [Rep] at r1
  obtain ⟨p', vs', e, h1, h2⟩ := r1
  cases e
  exact ⟨vs', h1, h2⟩
theorem seq_cases {xs : List D} (h : seqOf st d = some xs) : d = .tup xs ∨ lstOf st d = some xs := by
  cases d with
  | tup ys => simp only [seqOf, Option.some.injEq] at h; subst h; exact .inl rfl
  | lst ys => exact .inr (by simpa [seqOf, lstOf] using h)
  | ref n => exact .inr (by simpa [seqOf, lstOf] using h)
  | _ => simp [seqOf] at h
theorem itr_list {K : PySem.W.Frag} {xs : List D} {src : Src} {p : Addr} (h : ∀ F' M' H' st', Le F M H F' M' H' → SRx W H' F' M' st' → chk st' src = true → ∃ vs, Rd H' p (.lst vs) ∧ RepL H' F' M' xs vs) : ItR W F M H xs src (Itl K p) where
  go := fun F' M' H' st' i l S' hc hi => by
    obtain ⟨vs, h1, h2⟩ := h F' M' H' st' l S' hc
    obtain ⟨v, hv, _⟩ := h2.get (List.getElem?_eq_getElem hi)
    exact ⟨vs, v, .inl h1, hv⟩
  stop := fun F' M' H' st' l S' hc => by
    obtain ⟨vs, h1, h2⟩ := h F' M' H' st' l S' hc
    exact ⟨vs, .inl h1, by rw [h2.length]; exact Nat.le_refl _⟩
  yld := fun F' M' H' st' i x l S' hc hx v H'' ⟨e, hv⟩ => by
    subst e
    obtain ⟨vs, h1, h2⟩ := h F' M' H'' st' l S' hc
    obtain ⟨w, hw, rw'⟩ := h2.get hx
    have e := (hv vs (.inl h1)).symm.trans hw
    cases e
    exact ⟨Le.refl _ _ _, S', rw'⟩
theorem itr_tup {K : PySem.W.Frag} {xs : List D} {src : Src} {p : Addr} (h : ∀ F' M' H', Le F M H F' M' H' → ∃ vs, H' p = some (.tup vs) ∧ RepL H' F' M' xs vs) : ItR W F M H xs src (Itt K p) where
  go := fun F' M' H' st' i l S' hc hi => by
    obtain ⟨vs, h1, h2⟩ := h F' M' H' l
    obtain ⟨v, hv, _⟩ := h2.get (List.getElem?_eq_getElem hi)
    exact ⟨vs, v, SqT.of h1, hv⟩
  stop := fun F' M' H' st' l S' hc => by
    obtain ⟨vs, h1, h2⟩ := h F' M' H' l
    exact ⟨vs, SqT.of h1, by rw [h2.length]; exact Nat.le_refl _⟩
  yld := fun F' M' H' st' i x l S' hc hx v H'' ⟨e, hv⟩ => by
    subst e
    obtain ⟨vs, h1, h2⟩ := h F' M' H'' l
    obtain ⟨w, hw, rw'⟩ := h2.get hx
    have e := (hv vs (SqT.of h1)).symm.trans hw
    cases e
    exact ⟨Le.refl _ _ _, S', rw'⟩
theorem sI_val {tg : Expr} (ha : PE X a (RE W ia)) : PI X tg a (RI W (.val ia)) := by
  refine ⟨fun pins s σ H R I ⟨F, M, env, st, xs, src, st', En, S, e, k⟩ => ?_⟩
  simp only [evIt] at e
  split at e
  · rename_i d st1 e1
    split at e
    · rename_i ys hy
      simp only [Option.some.injEq, Prod.mk.injEq] at e
      obtain ⟨rfl, rfl, rfl⟩ := e
      rcases seq_cases hy with hd | hd
      · subst hd
        refine (pi_tup ha).run pins s σ H R I (.mk En S e1 fun F' M' H' v l S' r => ?_)
        obtain ⟨p, rfl, h⟩ := src_tup S' r
        obtain ⟨vs, h1, _⟩ := h F' M' H' (Le.refl _ _ _)
        exact ⟨p, rfl, ⟨vs, SqT.of h1⟩, k F' M' H' _ l S' (itr_tup h)⟩
      · refine (pi_list ha).run pins s σ H R I (.mk En S e1 fun F' M' H' v l S' r => ?_)
        obtain ⟨p, vs, rfl, hp, _⟩ := lstOf_rep S' r hd
        obtain ⟨p', e', h⟩ := src_list S' r hd
        cases e'
        exact ⟨p, rfl, ⟨vs, .inl hp⟩, k F' M' H' _ l S' (itr_list h)⟩
    · cases e
  · cases e
end
end Pm

/-! Pm, part Bb: range, enumerate, zip, reversed. -/
namespace Pm
open PySem PySem.Spec L2
open PyProof.Rows hiding St
section
variable {X : Cx} {W : Wd} {c : TC} {G : GT} {a b e d' o tg : Expr} {ia ib ic ie io : IE} {pos p2 np tpos : Pos} {m : Bool} {ta tb : Ts} {F M : Ads} {H : Hp} {st st' : Sto} {d : D} {elts : List Expr} {kk : Nat}
theorem len2 {α : Type} : ∀ {l : List α}, l.length = 2 → ∃ a b, l = [a, b]
  | [a, b], _ => ⟨a, b, rfl⟩
theorem len3 {α : Type} : ∀ {l : List α}, l.length = 3 → ∃ a b c, l = [a, b, c]
  | [a, b, c], _ => ⟨a, b, c, rfl⟩
theorem rangeL_len (lo c : Int) (n : Nat) : (rangeL lo c n).length = n := by
  induction n generalizing lo with
  | zero => rfl
  | succ n ih => simp [rangeL, ih]
theorem rangeL_get (lo c : Int) (n i : Nat) (h : i < n) : (rangeL lo c n)[i]? = some (.int (lo + (i : Int) * c)) := by
  induction n generalizing lo i with
  | zero => omega
  | succ n ih =>
    cases i with
    | zero => simp [rangeL]
    | succ i =>
      simp only [rangeL, List.getElem?_cons_succ]
      rw [ih (lo + c) i (by omega)]
      congr 2
      have e : ((i + 1 : Nat) : Int) * c = (i : Int) * c + c := by
        rw [Int.natCast_add, Int.add_mul]; simp
      rw [e]; omega
theorem inR_b {i : Int} (h : inR i = true) : -1000000 ≤ i ∧ i ≤ 1000000 := by simpa [inR] using h
theorem itr_itc {lo k : Int} {n : Nat} {xs : List D} (hl : xs.length = n) (hx : ∀ i, i < n → xs[i]? = some (.int (lo + (i : Int) * k))) : ItR W F M H xs [] (Itc lo k n) where
  go := fun F' M' H' st' i l S' hc hi => by rw [hl] at hi; exact hi
  stop := fun F' M' H' st' l S' hc => by rw [hl]; exact Nat.le_refl _
  yld := fun F' M' H' st' i x l S' hc he v H'' ⟨e, hv⟩ => by
    subst e
    have hi : i < n := by rw [← hl]; exact (List.getElem?_eq_some_iff.mp he).1
    rw [hx i hi] at he
    cases he
    exact ⟨Le.refl _ _ _, S', by simp only [Rep]; exact hv⟩
theorem itr_itr {lo : Int} {n : Nat} {xs : List D} (hl : xs.length = n) (hx : ∀ i, i < n → xs[i]? = some (.int (lo + (i : Int)))) : ItR W F M H xs [] (Itr lo n) where
  go := fun F' M' H' st' i l S' hc hi => by rw [hl] at hi; exact hi
  stop := fun F' M' H' st' l S' hc => by rw [hl]; exact Nat.le_refl _
  yld := fun F' M' H' st' i x l S' hc he v H'' ⟨e, hv⟩ => by
    subst e
    have hi : i < n := by rw [← hl]; exact (List.getElem?_eq_some_iff.mp he).1
    rw [hx i hi] at he
    cases he
    exact ⟨Le.refl _ _ _, S', by simp only [Rep]; exact hv⟩
theorem repInt {ds : List D} {vs : List V} (r : RepL H F M ds vs) : (∀ i, ds = [.int i] → vs = [.int i]) ∧ (∀ i j, ds = [.int i, .int j] → vs = [.int i, .int j]) ∧ (∀ i j k, ds = [.int i, .int j, .int k] → vs = [.int i, .int j, .int k]) := by
  refine ⟨?_, ?_, ?_⟩
  · rintro i rfl
    simp only [RepL, Rep] at r
    obtain ⟨v, t, rfl, rfl, rfl⟩ := r; rfl
  · rintro i j rfl
    simp only [RepL, Rep] at r
    obtain ⟨v, t, rfl, rfl, w, u, rfl, rfl, rfl⟩ := r; rfl
  · rintro i j k rfl
    simp only [RepL, Rep] at r
    obtain ⟨v, t, rfl, rfl, w, u, rfl, rfl, x, y, rfl, rfl, rfl⟩ := r; rfl
theorem sI_rng (ok : XOk X c) {es : List Expr} {is : List IE} (hg : glB c.sc "range" = true) (hp : es.all plainE = true) (hl : is.length = es.length) (ha : PA X es (REs W is)) : PI X tg (.Call (.Name "range" np) es [] pos) (RI W (.rng is)) := by
  refine ⟨fun pins s σ H R I ⟨F, M, env, st, xs, src, st', En, S, e, k⟩ => ?_⟩
  have hfree : X.mg "range" = none := ok.free _ (by decide +kernel)
  simp only [evIt] at e
  split at e
  · rename_i ds st1 e1
    have hdl := evEs_len e1
    split at e
    · rename_i ys hy
      simp only [Option.some.injEq, Prod.mk.injEq] at e
      obtain ⟨rfl, rfl, rfl⟩ := e
      unfold rng at hy
      split at hy
      · rename_i j
        split at hy
        · rename_i hb
          have hb := inR_b hb
          simp only [Option.some.injEq] at hy; subst hy
          have h1 : es.length = 1 := by rw [← hl, ← hdl]; rfl
          obtain ⟨a, rfl⟩ := List.length_eq_one_iff.mp h1
          refine (pi_range1 (ok.gl hg) hfree ha (star_plain [] (by simpa using hp))).run pins s σ H R I ⟨F, M, env, st, _, st1, En, S, e1, fun F' M' H' vs l S' r => ?_⟩
          refine ⟨j, (repInt r).1 j rfl, by omega, by omega, k F' M' H' _ l S' (itr_itr (rangeL_len ..) fun i hi => ?_)⟩
          rw [rangeL_get 0 1 _ i hi]; simp
        · cases hy
      · rename_i i j
        split at hy
        · rename_i hb
          simp only [Bool.and_eq_true] at hb
          have hb1 := inR_b hb.1
          have hb2 := inR_b hb.2
          simp only [Option.some.injEq] at hy; subst hy
          have h1 : es.length = 2 := by rw [← hl, ← hdl]; rfl
          obtain ⟨a, b, rfl⟩ := len2 h1
          simp only [List.all_cons, List.all_nil, Bool.and_true, Bool.and_eq_true] at hp
          refine (pi_range2 (ok.gl hg) hfree ha (by rw [star_plain _ hp.1, star_plain _ hp.2]; rfl) (star_plain [] hp.2)).run pins s σ H R I ⟨F, M, env, st, _, st1, En, S, e1, fun F' M' H' vs l S' r => ?_⟩
          refine ⟨i, j, (repInt r).2.1 i j rfl, ⟨by omega, by omega, by omega, by omega⟩, k F' M' H' _ l S' (itr_itr (rangeL_len ..) fun q hq => ?_)⟩
          rw [rangeL_get i 1 _ q hq]; simp
        · cases hy
      · rename_i i j cc
        split at hy
        · rename_i hb
          simp only [Bool.and_eq_true, decide_eq_true_eq] at hb
          obtain ⟨⟨rfl, hb1⟩, hb2⟩ := hb
          have hb1 := inR_b hb1
          have hb2 := inR_b hb2
          simp only [Option.some.injEq] at hy; subst hy
          have h1 : es.length = 3 := by rw [← hl, ← hdl]; rfl
          obtain ⟨a, b, d, rfl⟩ := len3 h1
          simp only [List.all_cons, List.all_nil, Bool.and_true, Bool.and_eq_true] at hp
          refine (pi_range3 (ok.gl hg) hfree ha (star_plain _ hp.1) (star_none [_, _] (by simp [hp]))).run pins s σ H R I ⟨F, M, env, st, _, st1, En, S, e1, fun F' M' H' vs l S' r => ?_⟩
          refine ⟨i, j, -1, _, (repInt r).2.2 i j (-1) rfl, RgC.neg (by omega) (by omega) (by omega) (by omega), k F' M' H' _ l S' (itr_itc (rangeL_len ..) fun q hq => ?_)⟩
          exact rangeL_get i (-1) _ q hq
        · cases hy
      · cases hy
    · cases e
  · cases e
theorem rev_get {α : Type} (xs : List α) (i : Nat) (h : i < xs.length) : xs.reverse[i]? = xs[xs.length - 1 - i]? := by
  rw [List.getElem?_reverse h]
theorem sI_revr (ok : XOk X c) {es : List Expr} {t : Expr → IE} {np2 : Pos} (hg : glB c.sc "reversed" = true) (hgr : glB c.sc "range" = true) (hp : es.all plainE = true) (ha : ∀ e ∈ es, PE X e (RE W (t e))) :
    PI X tg (.Call (.Name "reversed" np) [.Call (.Name "range" np2) es [] p2] [] pos) (RI W (.revr (es.map t))) := by
  refine ⟨fun pins s σ H R I ⟨F, M, env, st, xs, src, st', En, S, e, k⟩ => ?_⟩
  have hfr : X.mg "range" = none := ok.free _ (by decide +kernel)
  have hfv : X.mg "reversed" = none := ok.free _ (by decide +kernel)
  simp only [evIt] at e
  split at e
  · rename_i ds st1 e1
    have hdl := evEs_len e1
    rw [List.length_map] at hdl
    split at e
    · rename_i ys hy
      split at e
      · rename_i h2
        simp only [Option.some.injEq, Prod.mk.injEq] at e
        obtain ⟨rfl, rfl, rfl⟩ := e
        have fin : ∀ (lo : Int) (n : Nat), ys = rangeL lo 1 n → ∀ F' M' H', Le F M H F' M' H' → SRx W H' F' M' st1 → R (Itc (lo + ((n : Nat) : Int) - 1) (-1) n) H' := fun lo n hys F' M' H' l S' => by
          subst hys
          refine k F' M' H' _ l S' (itr_itc (by rw [List.length_reverse, rangeL_len]) fun i hi => ?_)
          rw [rev_get _ _ (by rw [rangeL_len]; exact hi), rangeL_len, rangeL_get lo 1 n _ (by omega)]
          congr 2
          have : ((n - 1 - i : Nat) : Int) = (n : Int) - 1 - i := by omega
          rw [this]; omega
        unfold rng at hy
        split at hy
        · rename_i j
          split at hy
          · rename_i hb
            have hb := inR_b hb
            simp only [Option.some.injEq] at hy
            have h1 : es.length = 1 := by rw [← hdl]; rfl
            obtain ⟨a, rfl⟩ := List.length_eq_one_iff.mp h1
            simp only [List.all_cons, List.all_nil, Bool.and_true] at hp
            have hpe := ha a (List.mem_cons_self ..)
            simp only [List.map_cons, List.map_nil, evEs] at e1
            split at e1
            · rename_i x st2 e2
              simp only [Option.some.injEq, Prod.mk.injEq, List.cons.injEq, and_true] at e1
              obtain ⟨rfl, rfl⟩ := e1
              refine (pi_revR (ok.gl hg) hfv (prg_1 (ok.gl hgr) hfr hpe (star_plain [] hp)) (by rfl)).run pins s σ H R I ?_
              refine .mk En S e2 fun F' M' H' v l S' r => ?_
              simp only [Rep] at r
              refine ⟨j, r, by omega, by omega, by omega, by omega, ?_⟩
              exact fin 0 (j - 0).toNat (by rw [← hy]; simp) F' M' H' l S'
            · cases e1
          · cases hy
        · rename_i i j
          split at hy
          · rename_i hb
            simp only [Bool.and_eq_true] at hb
            have hb1 := inR_b hb.1
            have hb2 := inR_b hb.2
            simp only [Option.some.injEq] at hy
            have h1 : es.length = 2 := by rw [← hdl]; rfl
            obtain ⟨a, b, rfl⟩ := len2 h1
            simp only [List.all_cons, List.all_nil, Bool.and_true, Bool.and_eq_true] at hp
            have hpa := ha a (by simp)
            have hpb := ha b (by simp)
            simp only [List.map_cons, List.map_nil, evEs] at e1
            split at e1
            · rename_i x st2 e2
              split at e1
              · rename_i ds3 st3 e3
                split at e3
                · rename_i y st4 e4
                  simp only [Option.some.injEq, Prod.mk.injEq] at e3
                  obtain ⟨rfl, rfl⟩ := e3
                  simp only [Option.some.injEq, Prod.mk.injEq, List.cons.injEq, and_true] at e1
                  obtain ⟨⟨rfl, rfl⟩, rfl⟩ := e1
                  refine (pi_revR (ok.gl hg) hfv (prg_2 (ok.gl hgr) hfr hpa hpb (star_plain _ hp.1) (star_plain [] hp.2) (star_none [_] (by simp [hp]))) (by rfl)).run pins s σ H R I ?_
                  refine sE_two En S e2 e4 fun F' M' H' u v l S' r1 r2 => ?_
                  simp only [Rep] at r1 r2
                  refine ⟨i, j, r1, r2, by omega, by omega, by omega, by omega, ?_⟩
                  exact fin i (j - i).toNat hy.symm F' M' H' l S'
                · cases e3
              · cases e1
            · cases e1
          · cases hy
        · simp at h2
        · cases hy
      · cases e
    · cases e
  · cases e
theorem sI_rev (ok : XOk X c) (hg : glB c.sc "reversed" = true) (hp : plainE a = true) (ha : PE X a (RE W ia)) : PI X tg (.Call (.Name "reversed" np) [a] [] pos) (RI W (.rev ia)) := by
  refine ⟨fun pins s σ H R I ⟨F, M, env, st, xs, src, st', En, S, e, k⟩ => ?_⟩
  have hfv : X.mg "reversed" = none := ok.free _ (by decide +kernel)
  simp only [evIt] at e
  split at e
  · rename_i d st1 e1
    split at e
    · rename_i ys hy
      simp only [Option.some.injEq, Prod.mk.injEq] at e
      obtain ⟨rfl, rfl, rfl⟩ := e
      refine (_root_.RT.pi_revA (ok.gl hg) hfv ha (star_plain [] hp)).run pins s σ H R I (.mk En S e1 fun F' M' H' v l S' r => ?_)
      rcases seq_cases hy with hd | hd
      · subst hd
        obtain ⟨p, rfl, h⟩ := src_tup S' r
        obtain ⟨vs, h1, h2⟩ := h F' M' H' (Le.refl _ _ _)
        refine ⟨p, vs, rfl, .inr ⟨SqT.of h1, k F' M' H' _ l S' ?_⟩⟩
        rw [← h2.length]
        exact {
          go := fun F2 M2 H2 st2 i l2 S2 hc hi => by
            rw [List.length_reverse] at hi
            obtain ⟨ws, w1, w2⟩ := h F2 M2 H2 l2
            obtain ⟨v, hv, _⟩ := w2.get (i := ys.length - 1 - i) (List.getElem?_eq_getElem (by omega))
            exact ⟨hi, ws, v, SqT.of w1, hv⟩
          stop := fun F2 M2 H2 st2 l2 S2 hc => by rw [List.length_reverse]; exact Nat.le_refl _
          yld := fun F2 M2 H2 st2 i x l2 S2 hc hx v H'' ⟨e, hv⟩ => by
            subst e
            have hi : i < ys.length := by have := (List.getElem?_eq_some_iff.mp hx).1; simpa using this
            obtain ⟨ws, w1, w2⟩ := h F2 M2 H'' l2
            rw [rev_get _ _ hi] at hx
            obtain ⟨u, hu, ru⟩ := w2.get hx
            have e := (hv ws (SqT.of w1)).symm.trans hu
            cases e
            exact ⟨Le.refl _ _ _, S2, ru⟩ }
      · obtain ⟨p, rfl, h⟩ := src_list S' r hd
        obtain ⟨p0, vs, e0, h1, h2⟩ := lstOf_rep S' r hd
        cases e0
        refine ⟨p, vs, rfl, .inl ⟨.inl h1, k F' M' H' _ l S' ?_⟩⟩
        rw [← h2.length]
        exact {
          go := fun F2 M2 H2 st2 i l2 S2 hc hi => by
            rw [List.length_reverse] at hi
            obtain ⟨ws, w1, w2⟩ := h F2 M2 H2 st2 l2 S2 hc
            obtain ⟨v, hv, _⟩ := w2.get (i := ys.length - 1 - i) (List.getElem?_eq_getElem (by omega))
            exact ⟨hi, ws, v, .inl w1, hv⟩
          stop := fun F2 M2 H2 st2 l2 S2 hc => by rw [List.length_reverse]; exact Nat.le_refl _
          yld := fun F2 M2 H2 st2 i x l2 S2 hc hx v H'' ⟨e, hv⟩ => by
            subst e
            have hi : i < ys.length := by have := (List.getElem?_eq_some_iff.mp hx).1; simpa using this
            obtain ⟨ws, w1, w2⟩ := h F2 M2 H'' st2 l2 S2 hc
            rw [rev_get _ _ hi] at hx
            obtain ⟨u, hu, ru⟩ := w2.get hx
            have e := (hv ws (.inl w1)).symm.trans hu
            cases e
            exact ⟨Le.refl _ _ _, S2, ru⟩ }
    · cases e
  · cases e

/-! ### enumerate, zip -/
theorem enumL_len (k : Nat) (xs : List D) : (enumL k xs).length = xs.length := by
  induction xs generalizing k with
  | nil => rfl
  | cons x xs ih => simp [enumL, ih]
theorem enumL_get (k : Nat) (xs : List D) (i : Nat) : (enumL k xs)[i]? = (xs[i]?).map fun x => .tup [.int ((k + i : Nat) : Int), x] := by
  induction xs generalizing k i with
  | nil => simp [enumL]
  | cons x xs ih =>
    cases i with
    | zero => simp [enumL]
    | succ i => simp only [enumL, List.getElem?_cons_succ, ih]; congr 1; funext y; congr 4; omega
theorem zipL_get (xs ys : List D) (i : Nat) : (zipL xs ys)[i]? = match xs[i]?, ys[i]? with | some x, some y => some (.tup [x, y]) | _, _ => none := by
  induction xs generalizing ys i with
  | nil => simp [zipL]
  | cons x xs ih =>
    cases ys with
    | nil => simp [zipL]
    | cons y ys => cases i with
      | zero => simp [zipL]
      | succ i => simp only [zipL, List.getElem?_cons_succ, ih]
theorem zipL_len (xs ys : List D) : (zipL xs ys).length = min xs.length ys.length := by
  induction xs generalizing ys with
  | nil => simp [zipL]
  | cons x xs ih => cases ys with
    | nil => simp [zipL]
    | cons y ys => simp only [zipL, List.length_cons, ih]; omega
/-- a new pair -/
theorem pair_new {x y : D} {u v : V} {T : Addr} (S : SRx W H F M st) (hT : H T = none) (r1 : Rep H F M x u) (r2 : Rep H F M y v) : Le F M H F M (upd H T (.tup [u, v])) ∧ SRx W (upd H T (.tup [u, v])) F M st ∧ Rep (upd H T (.tup [u, v])) F M (.tup [x, y]) (.ref T) := by
  have l := Le.fresh (o := .tup [u, v]) F M hT
  refine ⟨l, S.fresh hT, ?_⟩
  simp only [Rep]
  exact ⟨T, _, rfl, upd_same, .cons (r1.le l S.mf) (.cons (r2.le l S.mf) .nil)⟩
theorem sI_enm (ok : XOk X c) (hg : glB c.sc "enumerate" = true) (hp : plainE a = true) (ha : PE X a (RE W ia)) : PI X (.Tuple elts kk tpos) (.Call (.Name "enumerate" np) [a] [] pos) (RI W (.enm ia)) := by
  refine ⟨fun pins s σ H R I ⟨F, M, env, st, xs, src, st', En, S, e, k⟩ => ?_⟩
  have hf : X.mg "enumerate" = none := ok.free _ (by decide +kernel)
  simp only [evIt] at e
  split at e
  · rename_i d st1 e1
    split at e
    · rename_i ys hy
      simp only [Option.some.injEq, Prod.mk.injEq] at e
      obtain ⟨rfl, rfl, rfl⟩ := e
      refine (pi_enum (ok.gl hg) hf (pa_cons ha pa_nil (star_plain [] hp)) (star_plain [] hp)).run pins s σ H R I (.mk En S e1 fun F' M' H' v l S' r => ?_)
      obtain ⟨p, rfl, h⟩ := src_list S' r hy
      obtain ⟨p0, vs, e0, h1, h2⟩ := lstOf_rep S' r hy
      cases e0
      refine ⟨p, vs, rfl, .inl h1, k F' M' H' _ l S' ?_⟩
      exact {
        go := fun F2 M2 H2 st2 i l2 S2 hc hi => by
          rw [enumL_len] at hi
          obtain ⟨ws, w1, w2⟩ := h F2 M2 H2 st2 l2 S2 hc
          obtain ⟨v, hv, _⟩ := w2.get (List.getElem?_eq_getElem hi)
          exact ⟨ws, v, .inl w1, hv⟩
        stop := fun F2 M2 H2 st2 l2 S2 hc => by
          obtain ⟨ws, w1, w2⟩ := h F2 M2 H2 st2 l2 S2 hc
          exact ⟨ws, .inl w1, by rw [enumL_len, w2.length]; exact Nat.le_refl _⟩
        yld := fun F2 M2 H2 st2 i x l2 S2 hc hx v H'' ⟨T, u, ev, hT, eH, hv⟩ => by
          subst ev; subst eH
          rw [enumL_get] at hx
          simp only [Option.map_eq_some_iff, Nat.zero_add] at hx
          obtain ⟨y, hy, rfl⟩ := hx
          obtain ⟨ws, w1, w2⟩ := h F2 M2 H2 st2 l2 S2 hc
          obtain ⟨u', hu, ru⟩ := w2.get hy
          have e := (hv ws (.inl w1)).symm.trans hu
          cases e
          exact pair_new S2 hT (by simp only [Rep]) ru }
    · cases e
  · cases e
theorem sI_zip (ok : XOk X c) (hg : glB c.sc "zip" = true) (hp : plainE a = true) (hq : plainE b = true) (ha : PE X a (RE W ia)) (hb : PE X b (RE W ib)) : PI X (.Tuple elts kk tpos) (.Call (.Name "zip" np) [a, b] [] pos) (RI W (.zip ia ib)) := by
  refine ⟨fun pins s σ H R I ⟨F, M, env, st, xs, src, st', En, S, e, k⟩ => ?_⟩
  have hf : X.mg "zip" = none := ok.free _ (by decide +kernel)
  simp only [evIt] at e
  split at e
  · rename_i x st1 e1
    split at e
    · rename_i y st2 e2
      split at e
      · rename_i us ws hu hw
        split at e
        · rename_i ht
          simp only [Option.some.injEq, Prod.mk.injEq] at e
          obtain ⟨rfl, rfl, rfl⟩ := e
          refine (_root_.RZ.pi_zipA (ok.gl hg) hf (pa_cons ha (pa_cons hb pa_nil (star_plain [] hq)) (star_plain _ hp)) (star_plain _ hp) (star_none [_] (by simp [hq]))).run pins s σ H R I ?_
          refine sE_two En S e1 e2 fun F' M' H' u v l S' r1 r2 => ?_
          rcases seq_cases hu with hd | hd
          · subst hd
            rcases seq_cases hw with hd2 | hd2
            · subst hd2
              obtain ⟨p, rfl, h⟩ := src_tup S' r1
              obtain ⟨q, rfl, g⟩ := src_tup S' r2
              obtain ⟨v1, a1, a2⟩ := h F' M' H' (Le.refl _ _ _)
              obtain ⟨v2, b1, b2⟩ := g F' M' H' (Le.refl _ _ _)
              refine ⟨p, q, v1, v2, rfl, .inr ⟨SqT.of a1, SqT.of b1, k F' M' H' _ l S' ?_⟩⟩
              exact {
                go := fun F2 M2 H2 st2 i l2 S2 hc hi => by
                  rw [zipL_len] at hi
                  obtain ⟨z1, c1, c2⟩ := h F2 M2 H2 l2
                  obtain ⟨z2, d1, d2⟩ := g F2 M2 H2 l2
                  obtain ⟨x1, f1, _⟩ := c2.get (i := i) (List.getElem?_eq_getElem (by omega))
                  obtain ⟨x2, f2, _⟩ := d2.get (i := i) (List.getElem?_eq_getElem (by omega))
                  exact ⟨z1, z2, x1, x2, SqT.of c1, SqT.of d1, f1, f2⟩
                stop := fun F2 M2 H2 st2 l2 S2 hc => by
                  obtain ⟨z1, c1, c2⟩ := h F2 M2 H2 l2
                  obtain ⟨z2, d1, d2⟩ := g F2 M2 H2 l2
                  exact ⟨z1, z2, SqT.of c1, SqT.of d1, by rw [zipL_len, c2.length, d2.length]; omega⟩
                yld := fun F2 M2 H2 st2 i x l2 S2 hc hx v H'' ⟨T, x1, x2, ev, hT, eH, g1, g2⟩ => by
                  subst ev; subst eH
                  rw [zipL_get] at hx
                  split at hx
                  · rename_i y1 y2 hy1 hy2
                    cases hx
                    obtain ⟨z1, c1, c2⟩ := h F2 M2 H2 l2
                    obtain ⟨z2, d1, d2⟩ := g F2 M2 H2 l2
                    obtain ⟨w1, f1, q1⟩ := c2.get hy1
                    obtain ⟨w2, f2, q2⟩ := d2.get hy2
                    have e1 := (g1 z1 (SqT.of c1)).symm.trans f1
                    have e2 := (g2 z2 (SqT.of d1)).symm.trans f2
                    cases e1; cases e2
                    exact pair_new S2 hT q1 q2
                  · cases hx }
            · cases y <;> simp [lstOf, D.isTup] at hd2 ht
          · rcases seq_cases hw with hd2 | hd2
            · subst hd2
              cases x <;> simp [lstOf, D.isTup] at hd ht
            · obtain ⟨p, rfl, h⟩ := src_list S' r1 hd
              obtain ⟨q, rfl, g⟩ := src_list S' r2 hd2
              obtain ⟨p0, v1, e0, a1, a2⟩ := lstOf_rep S' r1 hd
              obtain ⟨q0, v2, e0', b1, b2⟩ := lstOf_rep S' r2 hd2
              cases e0; cases e0'
              refine ⟨p, q, v1, v2, rfl, .inl ⟨.inl a1, .inl b1, k F' M' H' _ l S' ?_⟩⟩
              exact {
                go := fun F2 M2 H2 st2 i l2 S2 hc hi => by
                  rw [zipL_len] at hi
                  obtain ⟨k1, k2⟩ := chk_get hc
                  obtain ⟨z1, c1, c2⟩ := h F2 M2 H2 st2 l2 S2 k1
                  obtain ⟨z2, d1, d2⟩ := g F2 M2 H2 st2 l2 S2 k2
                  obtain ⟨x1, f1, _⟩ := c2.get (i := i) (List.getElem?_eq_getElem (by omega))
                  obtain ⟨x2, f2, _⟩ := d2.get (i := i) (List.getElem?_eq_getElem (by omega))
                  exact ⟨z1, z2, x1, x2, .inl c1, .inl d1, f1, f2⟩
                stop := fun F2 M2 H2 st2 l2 S2 hc => by
                  obtain ⟨k1, k2⟩ := chk_get hc
                  obtain ⟨z1, c1, c2⟩ := h F2 M2 H2 st2 l2 S2 k1
                  obtain ⟨z2, d1, d2⟩ := g F2 M2 H2 st2 l2 S2 k2
                  exact ⟨z1, z2, .inl c1, .inl d1, by rw [zipL_len, c2.length, d2.length]; omega⟩
                yld := fun F2 M2 H2 st2 i x l2 S2 hc hx v H'' ⟨T, x1, x2, ev, hT, eH, g1, g2⟩ => by
                  subst ev; subst eH
                  rw [zipL_get] at hx
                  split at hx
                  · rename_i y1 y2 hy1 hy2
                    cases hx
                    obtain ⟨k1, k2⟩ := chk_get hc
                    obtain ⟨z1, c1, c2⟩ := h F2 M2 H2 st2 l2 S2 k1
                    obtain ⟨z2, d1, d2⟩ := g F2 M2 H2 st2 l2 S2 k2
                    obtain ⟨w1, f1, q1⟩ := c2.get hy1
                    obtain ⟨w2, f2, q2⟩ := d2.get hy2
                    have e1 := (g1 z1 (.inl c1)).symm.trans f1
                    have e2 := (g2 z2 (.inl d1)).symm.trans f2
                    cases e1; cases e2
                    exact pair_new S2 hT q1 q2
                  · cases hx }
        · cases e
      · cases e
    · cases e
  · cases e
end
end Pm

/-! Pm, part Bc: comprehensions. -/
namespace Pm
open PySem PySem.Spec L2
open PyProof.Rows hiding St
section
variable {X : Cx} {W : Wd} {c : TC} {G : GT} {a b e d' o tg iter elt : Expr} {ia ib ic ie io : IE} {pos p2 np tpos : Pos} {m : Bool} {ta tb : Ts} {F M F' M' : Ads} {H H' : Hp} {st st' : Sto} {d : D}
/-! ### an object outside the store that is being made -/
mutual
theorem Rep.subF (h : ∀ a ∈ F', a ∈ F) : ∀ (d : D) (v : V), Rep H F M d v → Rep H F' M d v
  | .non, v, r => by simp only [Rep] at r ⊢; exact r
  | .bl b, v, r => by simp only [Rep] at r ⊢; exact r
  | .int i, v, r => by simp only [Rep] at r ⊢; exact r
  | .str x, v, r => by simp only [Rep] at r ⊢; exact r
  | .tup ds, v, r => by
    simp only [Rep] at r ⊢
    obtain ⟨p, vs, e, hp, r⟩ := r
    exact ⟨p, vs, e, hp, RepL.subF h ds vs r⟩
  | .lst ds, v, r => by
    simp only [Rep] at r ⊢
    obtain ⟨p, vs, e, hp, n, r⟩ := r
    exact ⟨p, vs, e, hp, fun z => n (h _ z), RepL.subF h ds vs r⟩
  | .dct false ks ds, v, r => by
    simp only [Rep] at r ⊢
    obtain ⟨p, e, n, kvs, hp, ek, r⟩ := r
    exact ⟨p, e, fun z => n (h _ z), kvs, hp, ek, RepL.subF h ds _ r⟩
  | .dct true ks ds, v, r => by
    simp only [Rep] at r ⊢
    obtain ⟨p, e, n, kvs, hp, ek, r⟩ := r
    exact ⟨p, e, fun z => n (h _ z), kvs, hp, ek, RepL.subF h ds _ r⟩
  | .ref n, v, r => by simp only [Rep] at r ⊢; exact r
theorem RepL.subF (h : ∀ a ∈ F', a ∈ F) : ∀ (ds : List D) (vs : List V), RepL H F M ds vs → RepL H F' M ds vs
  | [], vs, r => by simp only [RepL] at r ⊢; exact r
  | d :: ds, vs, r => by
    simp only [RepL] at r ⊢
    obtain ⟨v, t, e, h1, h2⟩ := r
    exact ⟨v, t, e, Rep.subF h d v h1, RepL.subF h ds t h2⟩
end
mutual
/-- an object written that no value has -/
theorem Rep.updD {p : Addr} {vs0 : List V} {o : HO} (hF : p ∈ F) (hM : p ∉ M) (hp : H p = some (.lst vs0)) : ∀ (d : D) (v : V), Rep H F M d v → Rep (upd H p o) F M d v
  | .non, v, r => by simp only [Rep] at r ⊢; exact r
  | .bl b, v, r => by simp only [Rep] at r ⊢; exact r
  | .int i, v, r => by simp only [Rep] at r ⊢; exact r
  | .str x, v, r => by simp only [Rep] at r ⊢; exact r
  | .tup ds, v, r => by
    simp only [Rep] at r ⊢
    obtain ⟨q, vs, e, hq, r⟩ := r
    exact ⟨q, vs, e, by rw [upd_ne (fun z => by subst z; rw [hp] at hq; cases hq)]; exact hq, RepL.updD hF hM hp ds vs r⟩
  | .lst ds, v, r => by
    simp only [Rep] at r ⊢
    obtain ⟨q, vs, e, hq, n, r⟩ := r
    have hne : q ≠ p := fun z => n (by rw [z]; exact hF)
    refine ⟨q, vs, e, ?_, n, RepL.updD hF hM hp ds vs r⟩
    rcases hq with hq | ⟨ob, hq⟩
    · exact .inl (by rw [upd_ne hne]; exact hq)
    · exact .inr ⟨ob, by rw [upd_ne hne]; exact hq⟩
  | .dct false ks ds, v, r => by
    simp only [Rep] at r ⊢
    obtain ⟨q, e, n, kvs, hq, ek, r⟩ := r
    exact ⟨q, e, n, kvs, by rw [upd_ne (fun z => n (by rw [z]; exact hF))]; exact hq, ek, RepL.updD hF hM hp ds _ r⟩
  | .dct true ks ds, v, r => by
    simp only [Rep] at r ⊢
    obtain ⟨q, e, n, kvs, hq, ek, r⟩ := r
    exact ⟨q, e, n, kvs, by rw [upd_ne (fun z => n (by rw [z]; exact hF))]; exact hq, ek, RepL.updD hF hM hp ds _ r⟩
  | .ref n, v, r => by simp only [Rep] at r ⊢; exact r
theorem RepL.updD {p : Addr} {vs0 : List V} {o : HO} (hF : p ∈ F) (hM : p ∉ M) (hp : H p = some (.lst vs0)) : ∀ (ds : List D) (vs : List V), RepL H F M ds vs → RepL (upd H p o) F M ds vs
  | [], vs, r => by simp only [RepL] at r ⊢; exact r
  | d :: ds, vs, r => by
    simp only [RepL] at r ⊢
    obtain ⟨v, t, e, h1, h2⟩ := r
    exact ⟨v, t, e, Rep.updD hF hM hp d v h1, RepL.updD hF hM hp ds t h2⟩
end
theorem ObR.updD {p : Addr} {vs0 : List V} {o : HO} {cl : Nat → Addr} {fl : Nat → Str} {ob : Ob} {q : Addr} (hF : p ∈ F) (hM : p ∉ M) (hp : H p = some (.lst vs0)) (hq : q ∈ M) (h : ObR H F M cl fl ob q) : ObR (upd H p o) F M cl fl ob q := by
  have hne : q ≠ p := fun z => hM (by rw [← z]; exact hq)
  match ob, h with
  | .lst ds, ⟨vs, e, r⟩ => exact ⟨vs, by rw [upd_ne hne]; exact e, RepL.updD hF hM hp ds vs r⟩
  | .dct false ks ds, ⟨kvs, e, ek, r⟩ => exact ⟨kvs, by rw [upd_ne hne]; exact e, ek, RepL.updD hF hM hp ds _ r⟩
  | .dct true ks ds, ⟨kvs, e, ek, r⟩ => exact ⟨kvs, by rw [upd_ne hne]; exact e, ek, RepL.updD hF hM hp ds _ r⟩
  | .ins cc fs, ⟨dx, fvs, e, ek, r⟩ => exact ⟨dx, fvs, by rw [upd_ne hne]; exact e, ek, RepL.updD hF hM hp _ _ r⟩
theorem ObR.subF {cl : Nat → Addr} {fl : Nat → Str} {ob : Ob} {q : Addr} (h : ∀ a ∈ F', a ∈ F) (r : ObR H F M cl fl ob q) : ObR H F' M cl fl ob q := by
  match ob, r with
  | .lst ds, ⟨vs, e, r⟩ => exact ⟨vs, e, RepL.subF h ds vs r⟩
  | .dct false ks ds, ⟨kvs, e, ek, r⟩ => exact ⟨kvs, e, ek, RepL.subF h ds _ r⟩
  | .dct true ks ds, ⟨kvs, e, ek, r⟩ => exact ⟨kvs, e, ek, RepL.subF h ds _ r⟩
  | .ins cc fs, ⟨dx, fvs, e, ek, r⟩ => exact ⟨dx, fvs, e, ek, RepL.subF h _ _ r⟩
theorem SR.updD {p : Addr} {vs0 : List V} {o : HO} (S : SRx W H F M st) (hF : p ∈ F) (hM : p ∉ M) (hp : H p = some (.lst vs0)) : SRx W (upd H p o) F M st :=
  ⟨S.len, S.nd, S.mf, fun q hq => by
    by_cases z : q = p
    · rw [z, upd_same]; simp
    · rw [upd_ne z]; exact S.fs q hq, fun n ob q e1 e2 => (S.obs n ob q e1 e2).updD hF hM hp (List.mem_of_getElem? e2)⟩
theorem EnR.updD {p : Addr} {vs0 : List V} {o : HO} {env : Env} {σ : L2.St} (h : EnR H F M env σ) (hF : p ∈ F) (hM : p ∉ M) (hp : H p = some (.lst vs0)) : EnR (upd H p o) F M env σ :=
  ⟨h.len, fun i d e => let ⟨v, e1, r⟩ := h.at_ i d e; ⟨v, e1, Rep.updD hF hM hp d v r⟩⟩
/-- a new list being made: nobody's value has it -/
theorem Le.begin {p : Addr} {o : HO} (F M : Ads) (hp : H p = none) : Le F M H (F ++ [p]) M (upd H p o) :=
  { Le.fresh (o := o) F M hp with
    fsub := fun _ h => List.mem_append_left _ h
    fnew := fun a h => by
      rcases List.mem_append.mp h with h | h
      · exact .inl h
      · have e : a = p := by simpa using h
        subst e; exact .inr hp }
theorem SR.begin {p : Addr} {o : HO} (S : SRx W H F M st) (hp : H p = none) : SRx W (upd H p o) (F ++ [p]) M st where
  len := S.len
  nd := S.nd
  mf := fun a h => List.mem_append_left _ (S.mf a h)
  fs := fun a h => by
    rcases List.mem_append.mp h with h | h
    · exact (Le.fresh (o := o) F M hp).alive a (S.fs a h)
    · have e : a = p := by simpa using h
      subst e; rw [upd_same]; simp
  obs := fun n ob a e1 e2 => (S.obs n ob a e1 e2).le (Le.begin F M hp) S.mf fun u h => by
    rw [upd_ne (ne_of_none h hp)]; exact h
/-- .. written on -/
theorem Le.updD {p : Addr} {o : HO} {F1 M1 : Ads} {H1 : Hp} (l : Le F M H F1 M1 H1) (h0 : H p = none) : Le F M H F1 M1 (upd H1 p o) where
  ext := fun a u h n => by rw [upd_ne (ne_of_none h h0)]; exact l.ext a u h n
  alive := fun a h => by
    by_cases z : a = p
    · rw [z, upd_same]; simp
    · rw [upd_ne z]; exact l.alive a h
  tups := fun a xs h => by rw [upd_ne (ne_of_none h h0)]; exact l.tups a xs h
  frzs := fun a u w h => by rw [upd_ne (ne_of_none h h0)]; exact l.frzs a u w h
  pre := l.pre
  fsub := l.fsub
  fnew := l.fnew
  mnew := l.mnew
mutual
theorem Rep.preM (h : ∀ (n : Nat) (a : Addr), M[n]? = some a → M'[n]? = some a) : ∀ (d : D) (v : V), Rep H F M d v → Rep H F M' d v
  | .non, v, r => by simp only [Rep] at r ⊢; exact r
  | .bl b, v, r => by simp only [Rep] at r ⊢; exact r
  | .int i, v, r => by simp only [Rep] at r ⊢; exact r
  | .str x, v, r => by simp only [Rep] at r ⊢; exact r
  | .tup ds, v, r => by
    simp only [Rep] at r ⊢
    obtain ⟨p, vs, e, hp, r⟩ := r
    exact ⟨p, vs, e, hp, RepL.preM h ds vs r⟩
  | .lst ds, v, r => by
    simp only [Rep] at r ⊢
    obtain ⟨p, vs, e, hp, n, r⟩ := r
    exact ⟨p, vs, e, hp, n, RepL.preM h ds vs r⟩
  | .dct false ks ds, v, r => by
    simp only [Rep] at r ⊢
    obtain ⟨p, e, n, kvs, hp, ek, r⟩ := r
    exact ⟨p, e, n, kvs, hp, ek, RepL.preM h ds _ r⟩
  | .dct true ks ds, v, r => by
    simp only [Rep] at r ⊢
    obtain ⟨p, e, n, kvs, hp, ek, r⟩ := r
    exact ⟨p, e, n, kvs, hp, ek, RepL.preM h ds _ r⟩
  | .ref n, v, r => by
    simp only [Rep] at r ⊢
    obtain ⟨p, e, hm⟩ := r
    exact ⟨p, e, h n p hm⟩
theorem RepL.preM (h : ∀ (n : Nat) (a : Addr), M[n]? = some a → M'[n]? = some a) : ∀ (ds : List D) (vs : List V), RepL H F M ds vs → RepL H F M' ds vs
  | [], vs, r => by simp only [RepL] at r ⊢; exact r
  | d :: ds, vs, r => by
    simp only [RepL] at r ⊢
    obtain ⟨v, t, e, h1, h2⟩ := r
    exact ⟨v, t, e, Rep.preM h d v h1, RepL.preM h ds t h2⟩
end
theorem ObR.preM {cl : Nat → Addr} {fl : Nat → Str} {ob : Ob} {q : Addr} (h : ∀ (n : Nat) (a : Addr), M[n]? = some a → M'[n]? = some a) (r : ObR H F M cl fl ob q) : ObR H F M' cl fl ob q := by
  match ob, r with
  | .lst ds, ⟨vs, e, r⟩ => exact ⟨vs, e, RepL.preM h ds vs r⟩
  | .dct false ks ds, ⟨kvs, e, ek, r⟩ => exact ⟨kvs, e, ek, RepL.preM h ds _ r⟩
  | .dct true ks ds, ⟨kvs, e, ek, r⟩ => exact ⟨kvs, e, ek, RepL.preM h ds _ r⟩
  | .ins cc fs, ⟨dx, fvs, e, ek, r⟩ => exact ⟨dx, fvs, e, ek, RepL.preM h _ _ r⟩
/-- .. done: a list of the store, or one that nobody writes -/
theorem done_post {p : Addr} {F1 M1 : Ads} {H1 : Hp} {ds : List D} {vs : List V} {Q : VK} {st0 : Sto} (l : Le F M H F1 M1 H1) (S : SRx W H F M st0) (S1 : SRx W H1 F1 M1 st) (h0 : H p = none) (hF : p ∈ F1) (hM : p ∉ M1) (hp : H1 p = some (.lst vs)) (r : RepL H1 F1 M1 ds vs)
    {st2 : Sto} (e : newL m ds st = (d, st2)) (k : PostV W F M H d st2 Q) : Q (.ref p) H1 := by
  cases m with
  | true =>
    simp only [newL, if_true, Prod.mk.injEq] at e
    obtain ⟨rfl, rfl⟩ := e
    have hpre : ∀ (n : Nat) (a : Addr), M1[n]? = some a → (M1 ++ [p])[n]? = some a := fun n a h => by
      rw [List.getElem?_append_left (List.getElem?_eq_some_iff.mp h).1]; exact h
    have l2 : Le F M H F1 (M1 ++ [p]) H1 := { l with
      pre := fun n a h => hpre n a (l.pre n a h)
      mnew := fun a h => by
        rcases List.mem_append.mp h with h | h
        · exact l.mnew a h
        · have e : a = p := by simpa using h
          subst e; exact .inr h0 }
    refine k F1 (M1 ++ [p]) H1 _ l2 ?_ ?_
    · refine ⟨by simp [S1.len], ?_, fun a h => ?_, S1.fs, fun n ob a e1 e2 => ?_⟩
      · rw [List.nodup_append]
        exact ⟨S1.nd, by simp, fun a ha b hb e => by
          have e2 : b = p := by simpa using hb
          subst e2; subst e; exact hM ha⟩
      · rcases List.mem_append.mp h with h | h
        · exact S1.mf a h
        · have e : a = p := by simpa using h
          subst e; exact hF
      · by_cases hn : n < st.length
        · rw [List.getElem?_append_left hn] at e1
          rw [List.getElem?_append_left (by rw [S1.len]; exact hn)] at e2
          exact (S1.obs n ob a e1 e2).preM hpre
        · have en : n = st.length := by
            have := (List.getElem?_eq_some_iff.mp e1).1
            simp at this; omega
          subst en
          rw [List.getElem?_append_right (Nat.le_refl _)] at e1
          rw [List.getElem?_append_right (by rw [S1.len]; exact Nat.le_refl _), S1.len] at e2
          simp at e1 e2
          subst e1; subst e2
          exact ⟨vs, hp, RepL.preM hpre ds vs r⟩
    · simp only [Rep]
      exact ⟨p, rfl, by rw [← S1.len]; simp⟩
  | false =>
    simp only [newL, Bool.false_eq_true, if_false, Prod.mk.injEq] at e
    obtain ⟨rfl, rfl⟩ := e
    have hs : ∀ a ∈ F1.filter (fun a => decide (a ≠ p)), a ∈ F1 := fun a h => (List.mem_filter.mp h).1
    have hnp : p ∉ F1.filter (fun a => decide (a ≠ p)) := fun h => by
      have := (List.mem_filter.mp h).2
      simp at this
    have l2 : Le F M H (F1.filter fun a => decide (a ≠ p)) M1 H1 := { l with
      fsub := fun a h => List.mem_filter.mpr ⟨l.fsub a h, decide_eq_true fun z => S.fs a h (by rw [z]; exact h0)⟩
      fnew := fun a h => l.fnew a (hs a h) }
    refine k _ M1 H1 _ l2 ⟨S1.len, S1.nd, fun a h => List.mem_filter.mpr ⟨S1.mf a h, decide_eq_true fun z => hM (by rw [← z]; exact h)⟩, fun a h => S1.fs a (hs a h), fun n ob a e1 e2 => (S1.obs n ob a e1 e2).subF hs⟩ ?_
    simp only [Rep]
    exact ⟨p, vs, rfl, .inl hp, hnp, RepL.subF hs ds vs r⟩

/-! ### the comprehension -/
theorem XOk.blk (ok : XOk X c) {s : Shared} {H : Hp} {scope : Scope} {cl : List (Str × Addr)} {C : Addr} {fp : List Addr} : XOk (X.blk s H scope (compEnvC scope cl C X.env) fp) (c.blk scope) where
  n := ok.n
  sc := by
    show relabel scope X.env = relS scope c.sc
    unfold relabel relS Env.kindOf
    rw [ok.sc]
  nd := ok.nd
  calm := ok.calm
  fn := fun x h => h
  xe := rfl
  un := ok.un
  gd := ok.gd
  free := ok.free
theorem wipe_keep {σ σ' : L2.St} {vs L : List Nat} (h : ∀ j ∈ L, j ∈ vs) (k : Keep L σ σ') : L2.wipe σ' vs = L2.wipe σ vs := by
  apply List.ext_getElem?
  intro j
  have wg : ∀ (τ : L2.St) (vs : List Nat) (j : Nat), (L2.wipe τ vs)[j]? = if j ∈ vs then (if j < τ.length then some none else none) else τ[j]? := by
    intro τ vs
    induction vs with
    | nil => intro j; simp [L2.wipe]
    | cons v vs ih =>
      intro j
      simp only [L2.wipe]
      by_cases e : j = v
      · subst e
        by_cases hl : j < τ.length
        · rw [List.getElem?_set_self (by rw [wipe_length]; exact hl)]; simp [hl]
        · rw [List.getElem?_eq_none (by rw [List.length_set, wipe_length]; omega)]; simp [hl]
      · rw [List.getElem?_set_ne (Ne.symm e), ih]
        simp [e]
  rw [wg, wg, k.1]
  by_cases hj : j ∈ vs
  · simp [hj]
  · simp only [hj, if_false]
    exact k.2 j fun z => hj (h j z)
theorem wipe_wipe (σ : L2.St) (vs : List Nat) : L2.wipe (L2.wipe σ vs) vs = L2.wipe σ vs := by
  apply List.ext_getElem?
  intro j
  have wg : ∀ (τ : L2.St) (vs : List Nat) (j : Nat), (L2.wipe τ vs)[j]? = if j ∈ vs then (if j < τ.length then some none else none) else τ[j]? := by
    intro τ vs
    induction vs with
    | nil => intro j; simp [L2.wipe]
    | cons v vs ih =>
      intro j
      simp only [L2.wipe]
      by_cases e : j = v
      · subst e
        by_cases hl : j < τ.length
        · rw [List.getElem?_set_self (by rw [wipe_length]; exact hl)]; simp [hl]
        · rw [List.getElem?_eq_none (by rw [List.length_set, wipe_length]; omega)]; simp [hl]
      · rw [List.getElem?_set_ne (Ne.symm e), ih]
        simp [e]
  rw [wg, wg, wipe_length]
  by_cases hj : j ∈ vs <;> simp [hj]
theorem RepL.snoc {ds : List D} {vs : List V} {v : V} (h : RepL H F M ds vs) (r : Rep H F M d v) : RepL H F M (ds ++ [d]) (vs ++ [v]) := h.append (.cons r .nil)
variable {it : It} {t : Tg} {cs : List Ts} {own : List Nat}
/-- the reading of a comprehension from what its parts come to -/
theorem comp_rd {K : PySem.W.Frag} {σ : L2.St} {Q : VK} {env : Env} (En : EnR H F M env σ) (S : SRx W H F M st) (ho : ∀ j ∈ t.slots, j ∈ own) (e : evE W.P W.C (.comp m own t it cs ie) env st = some (d, st')) (k : PostV W F M H d st' Q) :
    tLc (RI W it) (RG W t) (RTs W cs) (RE W ie) own σ H Q := by
  simp only [evE] at e
  split at e
  · rename_i xs src st1 e1
    split at e
    · rename_i hlim
      split at e
      · rename_i ds st2 e2
        simp only [Option.some.injEq] at e
        refine ⟨F, M, env, st, xs, src, st1, En, S, e1, fun F1 M1 H1 J l1 S1 hJ => fun p hp => ?_⟩
        have En1 := (En.le l1 S.mf).wipe own
        refine ⟨fun i n H' => i + n = xs.length ∧ ∃ F' M' st'' acc vs rest, Le F1 M1 H1 F' M' H' ∧ SRx W H' F' M' st'' ∧ EnR H' F' M' (wipe env own) (L2.wipe σ own) ∧ p ∈ F' ∧ p ∉ M' ∧ H' p = some (.lst vs) ∧ RepL H' F' M' acc vs ∧ acc.length ≤ i ∧
          compL (fun d env st => asgT W.P W.C t d env st) (fun env st => evTs W.P W.C cs env st) (fun env st => evE W.P W.C ie env st) src (wipe env own) (xs.drop i) st'' = some (rest, st2) ∧ acc ++ rest = ds, ⟨xs.length, ?_⟩, fun i n H' hW => ?_⟩
        · have lb := Le.begin (o := .lst []) F1 M1 hp
          exact ⟨by omega, F1 ++ [p], M1, st1, [], [], ds, lb, S1.begin hp, En1.le lb S1.mf, List.mem_append_right _ (by simp), fun z => S1.fs p (S1.mf p z) hp, upd_same, .nil, Nat.le_refl _, by simpa using e2, rfl⟩
        · obtain ⟨hin, F', M', st'', acc, vs, rest, l', S', En', pF, pM, hpp, r, hai, ec, hd⟩ := hW
          by_cases hi : i < xs.length
          · right
            have hdrop : xs.drop i = xs[i] :: xs.drop (i + 1) := List.drop_eq_getElem_cons hi
            rw [hdrop] at ec
            simp only [compL] at ec
            split at ec
            · cases ec
            · rename_i hchk
              have hchk : chk st'' src = true := by simpa using hchk
              refine ⟨hJ.go F' M' H' st'' i l' S' hchk hi, fun H5 => ∃ F5 M5 st5 acc5 vs5 rest5, Le F1 M1 H1 F5 M5 H5 ∧ SRx W H5 F5 M5 st5 ∧ EnR H5 F5 M5 (wipe env own) (L2.wipe σ own) ∧ p ∈ F5 ∧ p ∉ M5 ∧ H5 p = some (.lst vs5) ∧ RepL H5 F5 M5 acc5 vs5 ∧ acc5.length ≤ i + 1 ∧
                compL (fun d env st => asgT W.P W.C t d env st) (fun env st => evTs W.P W.C cs env st) (fun env st => evE W.P W.C ie env st) src (wipe env own) (xs.drop (i + 1)) st5 = some (rest5, st2) ∧ acc5 ++ rest5 = ds, fun H5 h5 => ⟨n - 1, by omega, by omega, h5⟩, fun v H2 hy => ?_⟩
              obtain ⟨l2, S2, rv⟩ := hJ.yld F' M' H' st'' i _ l' S' hchk (List.getElem?_eq_getElem hi) v H2 hy
              have En2 := En'.le l2 S'.mf
              have l02 := l'.trans l2
              have hp2 : H2 p = some (.lst vs) := l2.ext p _ hpp pM
              have r2 := r.le l2 S'.mf
              split at ec
              · cases ec
              · rename_i env1 st3 e3
                refine ⟨F', M', wipe env own, st'', xs[i], env1, st3, En2, S2, rv, e3, fun F3 M3 H3 σ3 l3 S3 En3 hk => ⟨?_, ?_⟩⟩
                · rw [wipe_keep ho hk, wipe_wipe]
                · have hne : H2 p ≠ none := by rw [hp2]; simp
                  have pF3 : p ∈ F3 := l3.fsub p pF
                  have pM3 : p ∉ M3 := fun z => (l3.mnew p z).elim pM hne
                  have hp3 : H3 p = some (.lst vs) := l3.ext p _ hp2 pM
                  have r3 := r2.le l3 S2.mf
                  have l03 := l02.trans l3
                  have EnW := En2.le l3 S2.mf
                  split at ec
                  · cases ec
                  · rename_i st4 e4
                    refine ⟨F3, M3, env1, st3, false, st4, En3, S3, e4, fun F4 M4 H4 l4 S4 => ?_⟩
                    refine iteF ?_
                    have hne3 : H3 p ≠ none := by rw [hp3]; simp
                    exact ⟨F4, M4, st4, acc, vs, rest, l03.trans l4, S4, EnW.le l4 S3.mf, l4.fsub p pF3, fun z => (l4.mnew p z).elim pM3 hne3, l4.ext p _ hp3 pM3, r3.le l4 S3.mf, by omega, ec, hd⟩
                  · rename_i st4 e4
                    refine ⟨F3, M3, env1, st3, true, st4, En3, S3, e4, fun F4 M4 H4 l4 S4 => ?_⟩
                    refine iteT ?_
                    have hne3 : H3 p ≠ none := by rw [hp3]; simp
                    have pF4 := l4.fsub p pF3
                    have pM4 : p ∉ M4 := fun z => (l4.mnew p z).elim pM3 hne3
                    have hp4 : H4 p = some (.lst vs) := l4.ext p _ hp3 pM3
                    have hne4 : H4 p ≠ none := by rw [hp4]; simp
                    have r4 := r3.le l4 S3.mf
                    split at ec
                    · cases ec
                    · rename_i dd st5 e5
                      split at ec
                      · cases ec
                      · rename_i rest5 st6 e6
                        simp only [Option.some.injEq, Prod.mk.injEq] at ec
                        obtain ⟨rfl, rfl⟩ := ec
                        refine .mk (En3.le l4 S3.mf) S4 e5 fun F5 M5 H5 y l5 S5 ry => ?_
                        have pF5 := l5.fsub p pF4
                        have pM5 : p ∉ M5 := fun z => (l5.mnew p z).elim pM4 hne4
                        have hp5 : H5 p = some (.lst vs) := l5.ext p _ hp4 pM4
                        have r5 := r4.le l5 S4.mf
                        have hlen : vs.length < sizeLine := by
                          rw [← r5.length]
                          exact Nat.lt_of_le_of_lt hai (Nat.lt_trans hi (Nat.lt_of_lt_of_le hlim (by decide)))
                        refine ⟨vs, hp5, hlen, ?_⟩
                        have hfresh : H1 p = none := hp
                        exact ⟨F5, M5, st5, acc ++ [dd], vs ++ [y], rest5, ((l03.trans l4).trans l5).updD hfresh, S5.updD pF5 pM5 hp5, ((EnW.le l4 S3.mf).le l5 S4.mf).updD pF5 pM5 hp5, pF5, pM5, upd_same,
                          RepL.updD pF5 pM5 hp5 _ _ (r5.snoc ry), by simp; omega, e6, by rw [List.append_assoc]; exact hd⟩
          · left
            have hiL : i = xs.length := by omega
            subst hiL
            rw [List.drop_length] at ec
            simp only [compL] at ec
            split at ec
            · rename_i hchk
              simp only [Option.some.injEq, Prod.mk.injEq] at ec
              obtain ⟨rfl, rfl⟩ := ec
              rw [List.append_nil] at hd
              subst hd
              exact ⟨hJ.stop F' M' H' st'' l' S' hchk, done_post l' S1 S' hp pF pM hpp r e (l1.post k)⟩
            · cases ec
      · cases e
    · cases e
  · cases e
theorem sTs {ts : Expr → Ts} : ∀ (ifs : List Expr), ifs.length ≤ 1 → (∀ e ∈ ifs, PT X e (RT W (ts e))) → PTs X ifs (RTs W (ifs.map ts))
  | [], _, _ => by
    refine ⟨fun pins s σ H Q I ⟨F, M, env, st, b, st', En, S, e, k⟩ => ?_⟩
    simp only [List.map_nil, evTs, Option.some.injEq, Prod.mk.injEq] at e
    obtain ⟨rfl, rfl⟩ := e
    exact pts_nil.run pins s σ H Q I (k F M H (Le.refl F M H) S)
  | [x], _, h => by
    refine ⟨fun pins s σ H Q I ⟨F, M, env, st, b, st', En, S, e, k⟩ => ?_⟩
    simp only [List.map_cons, List.map_nil, evTs] at e
    exact (pts_one (h x (List.mem_cons_self ..))).run pins s σ H Q I ⟨F, M, env, st, b, st', En, S, e, k⟩
  | _ :: _ :: _, h, _ => by simp at h
theorem folded_plain {x : Expr} {env : PySem.Env} (h : plainE x = true) (v : Value) : foldedSetIterable x env v = pure v := by
  cases x <;> first | rfl | simp [plainE] at h
theorem sE_comp (ok : XOk X c) {ifs : List Expr} {scope : Scope} (hb : blkC c.N c.sc scope (ownOf c.N scope) = true) (ho : ∀ j ∈ t.slots, j ∈ (ownOf c.N scope).map (·.2)) (hp : plainE iter = true) (hi : PI X tg iter (RI W it))
    (hg : ∀ (s : Shared) (H : Hp) (C : Addr) (cl : List (Str × Addr)) (fp : List Addr), PG (X.blk s H scope (compEnvC scope cl C X.env) fp) tg (RG W t))
    (ht : ∀ (s : Shared) (H : Hp) (C : Addr) (cl : List (Str × Addr)) (fp : List Addr), PTs (X.blk s H scope (compEnvC scope cl C X.env) fp) ifs (RTs W cs))
    (he : ∀ (s : Shared) (H : Hp) (C : Addr) (cl : List (Str × Addr)) (fp : List Addr), PE (X.blk s H scope (compEnvC scope cl C X.env) fp) elt (RE W ie)) :
    PE X (.ListComp elt [⟨tg, iter, ifs, 0⟩] scope pos) (RE W (.comp m ((ownOf c.N scope).map (·.2)) t it cs ie)) := by
  have hbk : BlkOk X.N X.env.scope scope (ownOf c.N scope) := by rw [ok.n, ok.sc]; exact blkOk_by hb
  refine ⟨fun pins s σ H Q I ⟨F, M, env, st, d, st', En, S, e, k⟩ => ?_⟩
  exact (pe_lc ok.calm (by rw [ok.n]; exact ok.nd) hi hbk hg ht he (folded_plain hp)).run pins s σ H Q I (comp_rd (K := X.K) En S ho e k)
end
end Pm

/-! Pm, part Bd: statements. -/
namespace Pm
open PySem PySem.Spec L2
open PyProof.Rows hiding St
section
variable {X : Cx} {W : Wd} {c : TC} {G : GT} {a b e d' o tg iter elt : Expr} {ia ib ic ie io : IE} {pos p2 np tpos : Pos} {m : Bool} {ta tb : Ts} {F M F' M' : Ads} {H H' : Hp} {st st' : Sto} {d : D} {t : Tg} {it : It} {sa sb : List IS} {s1 : IS}
theorem OutR.le {Dn : Ends} {o : Out} (l : Le F M H F' M' H') (h : OutR W F M H Dn o) : OutR W F' M' H' Dn o := by
  cases o with
  | nx env st => exact fun F2 M2 H2 σ2 l2 S2 E2 => h F2 M2 H2 σ2 (l.trans l2) S2 E2
  | bk env st => exact fun F2 M2 H2 σ2 l2 S2 E2 => h F2 M2 H2 σ2 (l.trans l2) S2 E2
  | ct env st => exact fun F2 M2 H2 σ2 l2 S2 E2 => h F2 M2 H2 σ2 (l.trans l2) S2 E2
  | rt d st => exact fun F2 M2 H2 v l2 S2 r2 => h F2 M2 H2 v (l.trans l2) S2 r2
theorem sS_bad {x : Stmt} : PS X x (RS W .bad) := ⟨fun pins s σ H Dn I ⟨F, M, env, st, o, En, S, e, k⟩ => by simp [exS] at e⟩
theorem sS_pass : PS X (.Pass pos) (RS W .pass) := by
  refine ⟨fun pins s σ H Dn I ⟨F, M, env, st, o, En, S, e, k⟩ => ?_⟩
  simp only [exS, Option.some.injEq] at e; subst e
  exact ps_pass.run pins s σ H Dn I (k F M H σ (Le.refl F M H) S En)
theorem sS_brk : PS X (.Break pos) (RS W .brk) := by
  refine ⟨fun pins s σ H Dn I ⟨F, M, env, st, o, En, S, e, k⟩ => ?_⟩
  simp only [exS, Option.some.injEq] at e; subst e
  exact ps_break.run pins s σ H Dn I (k F M H σ (Le.refl F M H) S En)
theorem sS_cnt : PS X (.Continue pos) (RS W .cnt) := by
  refine ⟨fun pins s σ H Dn I ⟨F, M, env, st, o, En, S, e, k⟩ => ?_⟩
  simp only [exS, Option.some.injEq] at e; subst e
  exact ps_continue.run pins s σ H Dn I (k F M H σ (Le.refl F M H) S En)
theorem sS_ret (ha : PE X a (RE W ia)) : PS X (.Return (some a) pos) (RS W (.ret ia)) := by
  refine ⟨fun pins s σ H Dn I ⟨F, M, env, st, o, En, S, e, k⟩ => ?_⟩
  simp only [exS] at e
  split at e
  · rename_i d st1 e1
    simp only [Option.some.injEq] at e; subst e
    exact (ps_ret ha).run pins s σ H Dn I (.mk En S e1 k)
  · cases e
theorem sS_retN : PS X (.Return none pos) (RS W (.ret (.cst .non))) := by
  refine ⟨fun pins s σ H Dn I ⟨F, M, env, st, o, En, S, e, k⟩ => ?_⟩
  simp only [exS, evE, Option.some.injEq] at e; subst e
  exact ps_retN.run pins s σ H Dn I (k F M H _ (Le.refl F M H) S (by simp only [Rep]))
theorem swaps_plain {x : Expr} {tgt : Option Expr} {n : Nat} {env : PySem.Env} (h1 : ∀ a b c d, x ≠ .ListComp a b c d) (h2 : ∀ a b c d, x ≠ .SetComp a b c d) (h3 : ∀ a b c d e, x ≠ .DictComp a b c d e) : swapsWith x tgt n env = pure false := by
  cases x <;> first | rfl | exact absurd rfl (h1 _ _ _ _) | exact absurd rfl (h2 _ _ _ _) | exact absurd rfl (h3 _ _ _ _ _)
theorem sS_expr {f : Expr} {as : List Expr} {ks : List Keyword} (ha : PE X (.Call f as ks p2) (RE W ia)) : PS X (.Expr (.Call f as ks p2) pos) (RS W (.expr ia)) := by
  refine ⟨fun pins s σ H Dn I ⟨F, M, env, st, o, En, S, e, k⟩ => ?_⟩
  simp only [exS] at e
  split at e
  · rename_i d st1 e1
    simp only [Option.some.injEq] at e; subst e
    exact (ps_expr ha rfl).run pins s σ H Dn I (.mk En S e1 fun F' M' H' v l S' _ => k F' M' H' σ l S' (En.le l S.mf))
  · cases e
theorem sSs {ts : Stmt → IS} : ∀ (b : List Stmt), (∀ s ∈ b, PS X s (RS W (ts s))) → PSs X b (RSs W (b.map ts))
  | [], _ => by
    refine ⟨fun pins s σ H Dn I ⟨F, M, env, st, o, En, S, e, k⟩ => ?_⟩
    simp only [List.map_nil, exSs, Option.some.injEq] at e; subst e
    exact pss_nil.run pins s σ H Dn I (k F M H σ (Le.refl F M H) S En)
  | x :: b, h => by
    have ih := sSs b fun s hs => h s (List.mem_cons_of_mem _ hs)
    refine ⟨fun pins s σ H Dn I ⟨F, M, env, st, o, En, S, e, k⟩ => ?_⟩
    simp only [List.map_cons, exSs] at e
    refine (pss_cons (h x (List.mem_cons_self ..)) ih).run pins s σ H Dn I ?_
    split at e
    · rename_i env1 st1 e1
      refine ⟨F, M, env, st, .nx env1 st1, En, S, e1, fun F1 M1 H1 σ1 l1 S1 En1 => ?_⟩
      exact ⟨F1, M1, env1, st1, o, En1, S1, e, k.le l1⟩
    · rename_i r hne
      refine ⟨F, M, env, st, o, En, S, e, ?_⟩
      cases o with
      | nx env1 st1 => exact absurd e (hne env1 st1)
      | _ => exact k
theorem sS_if {x : Expr} {p q : List Stmt} (ht : PT X x (RT W ta)) (hp : PSs X p (RSs W sa)) (hq : PSs X q (RSs W sb)) : PS X (.If x p q pos) (RS W (.ife ta sa sb)) := by
  refine ⟨fun pins s σ H Dn I ⟨F, M, env, st, o, En, S, e, k⟩ => ?_⟩
  simp only [exS] at e
  split at e
  · rename_i st1 e1
    exact (ps_if ht hp hq).run pins s σ H Dn I (RT.mk En S e1 fun F' M' H' l S' => iteT ⟨F', M', env, st1, o, En.le l S.mf, S', e, k.le l⟩)
  · rename_i st1 e1
    exact (ps_if ht hp hq).run pins s σ H Dn I (RT.mk En S e1 fun F' M' H' l S' => iteF ⟨F', M', env, st1, o, En.le l S.mf, S', e, k.le l⟩)
  · cases e

/-! ### stores -/
/-- a target is stored from a value -/
theorem asg_rd {σ : L2.St} {Dn : Ends} {env : Env} {o : Out} (En : EnR H F M env σ) (S : SRx W H F M st) (e : exS W.P W.C (.asg t ie) env st = some o) (k : OutR W F M H Dn o) : tAsg (RE W ie) (RG W t) Dn σ H := by
  simp only [exS] at e
  split at e
  · rename_i d st1 e1
    split at e
    · rename_i env1 st2 e2
      simp only [Option.some.injEq] at e; subst e
      refine .mk En S e1 fun F1 M1 H1 v l1 S1 r1 => ?_
      exact ⟨F1, M1, env, st1, d, env1, st2, En.le l1 S.mf, S1, r1, e2, fun F2 M2 H2 σ2 l2 S2 En2 _ => k F2 M2 H2 σ2 (l1.trans l2) S2 En2⟩
    · cases e
  · cases e
theorem swst_none {env : PySem.Env} (h : (isTupE tg && isTupE e) = false) (hl : ∀ es p, tg ≠ .List es p) : swappedStores [tg] e env = pure none := by
  cases tg with
  | Tuple ts k p => cases e <;> first | rfl | simp [isTupE] at h
  | List es p => exact absurd rfl (hl es p)
  | _ => rfl
theorem sS_asg (ok : XOk X c) (hpt : plainE tg = true) (hp : plainE e = true) (hn : (isTupE tg && isTupE e) = false) (hl : ∀ es p, tg ≠ .List es p) (hc : ∀ a b c d, e ≠ .SetComp a b c d) (hc2 : ∀ a b c d f, e ≠ .DictComp a b c d f) (hcomp : ∀ a b c d, e = .ListComp a b c d → ∀ x p, tg ≠ .Name x p)
    (he : PE X e (RE W ie)) (hg : PG X tg (RG W t)) : PS X (.Assign [tg] e pos) (RS W (.asg t ie)) := by
  refine ⟨fun pins s σ H Dn I ⟨F, M, env, st, o, En, S, ev, k⟩ => ?_⟩
  refine (ps_asg he hg ?_ (swst_none hn hl) (by rw [assignEach_plain [tg] (by simp [hpt])]; rfl)).run pins s σ H Dn I (asg_rd En S ev k)
  show swapsWith e (some tg) pos.line X.env = pure false
  by_cases h1 : ∃ a b c d, e = .ListComp a b c d
  · obtain ⟨a, b, c, d, rfl⟩ := h1
    have := hcomp a b c d rfl
    cases tg <;> first | rfl | exact absurd rfl (this _ _)
  · exact swaps_plain (fun a b c d h => h1 ⟨a, b, c, d, h⟩) hc hc2
/-- name = [.. for ..] -/
theorem sS_setLc (ok : XOk X c) {cs : List Ts} {x : Str} {i : Nat} {py : Pos} {ifs : List Expr} {scope : Scope} (hlo : locB c x = true) (hsl : slot c.N x = some i) (hb : blkC c.N c.sc scope (ownOf c.N scope) = true) (ho : ∀ j ∈ t.slots, j ∈ (ownOf c.N scope).map (·.2)) (hp : plainE iter = true) (hi : PI X tg iter (RI W it))
    (hg : ∀ (s : Shared) (H : Hp) (C : Addr) (cl : List (Str × Addr)) (fp : List Addr), PG (X.blk s H scope (compEnvC scope cl C X.env) fp) tg (RG W t))
    (ht : ∀ (s : Shared) (H : Hp) (C : Addr) (cl : List (Str × Addr)) (fp : List Addr), PTs (X.blk s H scope (compEnvC scope cl C X.env) fp) ifs (RTs W cs))
    (he : ∀ (s : Shared) (H : Hp) (C : Addr) (cl : List (Str × Addr)) (fp : List Addr), PE (X.blk s H scope (compEnvC scope cl C X.env) fp) elt (RE W ie)) :
    PS X (.Assign [.Name x py] (.ListComp elt [⟨tg, iter, ifs, 0⟩] scope p2) pos) (RS W (.asg (.nm i) (.comp m ((ownOf c.N scope).map (·.2)) t it cs ie))) := by
  have hbk : BlkOk X.N X.env.scope scope (ownOf c.N scope) := by rw [ok.n, ok.sc]; exact blkOk_by hb
  have hN : X.N.Nodup := by rw [ok.n]; exact ok.nd
  have hix : X.N[i]? = some x := by rw [ok.n]; exact slot_at hsl
  obtain ⟨b, hbq, hbl⟩ : ∃ b : Bool, swapsWith (.ListComp elt [⟨tg, iter, ifs, 0⟩] scope p2) (some (.Name x py)) pos.line X.env = pure b ∧ (b = true → X.env.scope.names.lookup x = some .local) := by
    refine ⟨X.env.blockKind == .function && X.env.kindOf x == some .local && py.line == p2.line && !(scope.names.any fun (n, k) => n == x && (k == .local || k == .cell)), rfl, fun h => ?_⟩
    simp only [Bool.and_eq_true] at h
    exact eq_of_beq h.1.1.2
  cases b with
  | false =>
    refine ⟨fun pins s σ H Dn I ⟨F, M, env, st, o, En, S, ev, k⟩ => ?_⟩
    exact (ps_asg (sE_comp (pos := p2) (m := m) ok hb ho hp hi hg ht he) (sG_nm (pos := py) ok hlo hsl) hbq rfl).run pins s σ H Dn I (asg_rd En S ev k)
  | true =>
    refine ⟨fun pins s σ H Dn I ⟨F, M, env, st, o, En, S, ev, k⟩ => ?_⟩
    refine (ps_setLc ok.calm hN hix (hbl rfl) hbq hi hbk hg ht he (folded_plain hp)).run pins s σ H Dn I ?_
    simp only [exS] at ev
    split at ev
    · rename_i d st1 e1
      split at ev
      · rename_i env1 st2 e2
        simp only [Option.some.injEq] at ev; subst ev
        refine comp_rd (K := X.K) En S ho e1 fun F1 M1 H1 v l1 S1 r1 => ?_
        simp only [asgT] at e2
        split at e2
        · simp only [Option.some.injEq, Prod.mk.injEq] at e2
          obtain ⟨rfl, rfl⟩ := e2
          exact k F1 M1 H1 _ l1 S1 ((En.le l1 S.mf).set r1 i)
        · cases e2
      · cases ev
    · cases ev

/-! ### op= -/
theorem iop_arith {o : Bop} : OpR X (inplaceOp (opP o)) (fun x y H Q => ∃ i j k, x = .int i ∧ y = .int j ∧ arith o i j = some k ∧ o ≠ .pow ∧ Q (.int k) H) := by
  intro pins s σ H x y v u Q I rx ry h
  obtain ⟨i, j, k, rfl, rfl, e, hne, q⟩ := h
  cases o with
  | add => simp only [arith, Option.some.injEq] at e; subst e; exact iop_add pins s σ H _ _ v u Q I rx ry ⟨i, j, rfl, rfl, q⟩
  | sub => simp only [arith, Option.some.injEq] at e; subst e; exact iop_sub pins s σ H _ _ v u Q I rx ry ⟨i, j, rfl, rfl, q⟩
  | mul =>
    simp only [arith] at e
    split at e
    · rename_i hb
      simp only [Option.some.injEq] at e; subst e
      refine iop_mul pins s σ H _ _ v u Q I rx ry ⟨i, j, rfl, rfl, ?_, q⟩
      simp only [Bool.or_eq_true, decide_eq_true_eq] at hb
      unfold CMul
      have e64 : (2 : Int) ^ 64 = 18446744073709551616 := by decide
      rw [e64]
      omega
    · cases e
  | fdiv =>
    simp only [arith] at e
    split at e
    · rename_i hb
      simp only [Option.some.injEq] at e; subst e
      simp only [Bool.and_eq_true, decide_eq_true_eq] at hb
      exact iop_fdiv pins s σ H _ _ v u Q I rx ry ⟨i, j, rfl, rfl, hb, q⟩
    · cases e
  | mod =>
    simp only [arith] at e
    split at e
    · rename_i hb
      simp only [Option.some.injEq] at e; subst e
      exact iop_mod pins s σ H _ _ v u Q I rx ry ⟨i, j, rfl, rfl, hb, q⟩
    · cases e
  | pow => exact absurd rfl hne
theorem pip_aug {op : Operator} {o : Bop} (ho : bopOf op = some o) : PIp X op (fun x y H Q => ∃ a b d, Rep H [] [] a x ∧ Rep H [] [] b y ∧ augop o a b = some d ∧ ∀ v, Rep H [] [] d v → Q v H) := by
  intro pins s σ H x y v u Q I rx ry ⟨a, b, d, ra, rb, e, q⟩
  obtain rfl := bopOf_op ho
  unfold augop at e
  split at e
  · rename_i i j
    split at e
    · cases e
    · rename_i hne
      simp only [Option.map_eq_some_iff] at e
      obtain ⟨k, e, rfl⟩ := e
      simp only [Rep] at ra rb
      exact iop_arith pins s σ H x y v u Q I rx ry ⟨i, j, k, ra, rb, e, hne, q _ (by simp only [Rep])⟩
  · cases e
theorem augop_int {o : Bop} {x y z : D} (h : augop o x y = some z) : ∃ i j k, x = .int i ∧ y = .int j ∧ z = .int k := by
  unfold augop at h
  split at h
  · rename_i i j
    split at h
    · cases h
    · simp only [Option.map_eq_some_iff] at h
      obtain ⟨k, _, rfl⟩ := h
      exact ⟨i, j, k, rfl, rfl, rfl⟩
  · cases h
theorem int_any {F1 M1 : Ads} {i : Int} {v : V} {H1 : Hp} (r : Rep H F M (.int i) v) : Rep H1 F1 M1 (.int i) v := by simp only [Rep] at r ⊢; exact r
theorem sS_aug (ok : XOk X c) {op : Operator} {o : Bop} {x : Str} {i : Nat} (ho : bopOf op = some o) (hl : locB c x = true) (hs : slot c.N x = some i) (he : PE X e (RE W ie)) : PS X (.AugAssign (.Name x p2) op e pos) (RS W (.aug i o ie)) := by
  refine ⟨fun pins s σ H Dn I ⟨F, M, env, st, ot, En, S, ev, k⟩ => ?_⟩
  simp only [exS] at ev
  split at ev
  · rename_i x0 hx0
    split at ev
    · rename_i y st1 e1
      split at ev
      · rename_i z e2
        simp only [Option.some.injEq] at ev; subst ev
        obtain ⟨h1, h2⟩ := locB_loc ok hl
        obtain ⟨v0, hv0, r0⟩ := En.at_ i _ hx0
        refine (ps_aug (by rw [ok.n]; exact ok.nd) (by rw [ok.n]; exact slot_at hs) h1 he (pip_aug ho) h2).run pins s σ H Dn I ⟨v0, hv0, .mk En S e1 fun F1 M1 H1 v l1 S1 r1 => ?_⟩
        obtain ⟨p, q, r, rfl, rfl, rfl⟩ := augop_int e2
        refine ⟨_, _, _, int_any r0, int_any r1, e2, fun w rw' => ?_⟩
        exact k F1 M1 H1 _ l1 S1 ((En.le l1 S.mf).set (int_any rw') i)
      · cases ev
    · cases ev
  · cases ev
theorem pget_all (ok : XOk X c) : PGet X (fun x y H Q => ∃ F M st n i d, SRx W H F M st ∧ Rep H F M (.ref n) x ∧ Rep H F M i y ∧ index st (.ref n) i = some d ∧ ∀ v, Rep H F M d v → Q v H) := by
  intro pins s σ H x y ov iv Q I rx ry ⟨F, M, st, n, i, d, S, ra, ri, e, q⟩
  have hu : X.A.units + 1 < cLine := by have := ok.un; omega
  unfold index at e
  split at e
  · rename_i t ks vs hd
    split at e
    · rename_i hk
      obtain ⟨p, o, rfl, g, lr⟩ := dget_rep S ra hd hk ri
      rw [e] at lr
      cases o with
      | none => exact lr.elim
      | some w =>
        cases rx
        exact d_getItem hu I g ry fun w' s' I' rw' => ⟨w, H, I', rw', q w lr⟩
    · cases e
  · split at e
    · rename_i xs k hx
      obtain ⟨p, vs, rfl, hp, r⟩ := lstOf_rep (xs := xs) S ra (by simpa [lstOf, seqOf] using hx)
      simp only [Rep] at ri
      subst ri
      simp only [Option.bind_eq_some_iff] at e
      obtain ⟨j, ej, e⟩ := e
      obtain ⟨w, ew, rw'⟩ := r.get e
      rw [ixN_eq, r.length] at ej
      obtain ⟨h1, h2, h3, h4⟩ := ixN_seq ej
      cases rx
      obtain ⟨t, rfl⟩ := ry
      obtain ⟨its, rv, pl, hz⟩ := I.list (.inl hp)
      obtain ⟨u, eu, ru⟩ := rv.get ew
      have hl := rv.length
      have hn := line63
      have fin : EP X pins σ Q u s := ⟨w, H, I, ru, q w rw'⟩
      by_cases h0 : 0 ≤ k
      · have hj : k.toNat = j := by
          rw [seqIndex_of h0 h4] at h1
          exact Option.some.inj h1
        exact wpAny_getItem_list pl.isList h0 (by omega) (by rw [hj]; simpa using eu) fin
      · have hj : (k + (its.toArray.size : Int)).toNat = j := by
          rw [seqIndex_neg (by omega) h3] at h1
          rw [List.size_toArray, ← hl]
          exact Option.some.inj h1
        exact wpAny_getItem_list_neg pl.isList (by omega) (by rw [List.size_toArray]; omega) (by omega) (by rw [hj]; simpa using eu) fin
    · split at e
      · exact nomatch ‹D.ref n = D.str _›
      · cases e
theorem aug_plain {i : Expr} (h : plainE i = true) (ov iv new : Value) : augStore i ov iv new = (do holding [new, ov, iv] (PySem.setItem ov iv new); release [new, ov, iv] []; pure .next) := by
  cases i <;> first | rfl | simp [plainE] at h
theorem setItem_ref {x k w : D} {st' : Sto} (h : setItem x k w st = some st') : ∃ n, x = .ref n := by
  cases x <;> simp [setItem] at h
  exact ⟨_, rfl⟩
theorem sS_augS (ok : XOk X c) {op : Operator} {p : Bop} (hop : bopOf op = some p) (hpl : plainE b = true) (ha : PE X a (RE W ia)) (hb : PE X b (RE W ib)) (he : PE X e (RE W ie)) : PS X (.AugAssign (.Subscript a b p2) op e pos) (RS W (.augS ia ib p ie)) := by
  refine ⟨fun pins s σ H Dn I ⟨F, M, env, st, ot, En, S, ev, k⟩ => ?_⟩
  simp only [exS] at ev
  split at ev
  · rename_i x st1 e1
    split at ev
    · rename_i y st2 e2
      split at ev
      · rename_i g e3
        split at ev
        · rename_i z st3 e4
          split at ev
          · rename_i w e5
            split at ev
            · rename_i st4 e6
              simp only [Option.some.injEq] at ev; subst ev
              obtain ⟨n, rfl⟩ := setItem_ref e6
              refine (ps_augS ha hb (pget_all (W := W) ok) he (pip_aug hop) (pset_all (W := W) ok) (aug_plain hpl)).run pins s σ H Dn I ?_
              refine sE_two En S e1 e2 fun F2 M2 H2 u v l2 S2 r1 r2 => ⟨F2, M2, st2, n, y, g, S2, r1, r2, e3, fun vg rg => ?_⟩
              refine .mk (En.le l2 S.mf) S2 e4 fun F3 M3 H3 vz l3 S3 rz => ?_
              obtain ⟨i1, i2, i3, rfl, rfl, rfl⟩ := augop_int e5
              refine ⟨_, _, _, int_any rg, int_any rz, e5, fun vw rw' => ?_⟩
              refine ⟨F3, M3, st3, .ref n, y, .int i3, st4, S3, r1.le l3 S2.mf, r2.le l3 S2.mf, int_any rw', e6, fun F4 M4 H4 l4 S4 => ?_⟩
              exact k F4 M4 H4 σ ((l2.trans l3).trans l4) S4 (En.le ((l2.trans l3).trans l4) S.mf)
            · cases ev
          · cases ev
        · cases ev
      · cases ev
    · cases ev
  · cases ev

/-! ### loops -/
theorem sS_for (ok : XOk X c) {body : List Stmt} (hp : plainE iter = true) (hi : PI X tg iter (RI W it)) (hg : PG X tg (RG W t)) (hb : PSs X body (RSs W sb)) : PS X (.For tg iter body [] pos) (RS W (.for_ t it sb)) := by
  refine ⟨fun pins s σ H Dn I ⟨F, M, env, st, o, En, S, e, k⟩ => ?_⟩
  simp only [exS] at e
  split at e
  · rename_i xs src st1 e1
    have hpn : PassesOwn (model X.prog X.w) X.A X.env X.xe := by rw [ok.xe]; exact PassesOwn.never
    refine (ps_for hpn ok.calm hi hg hb (folded_plain hp)).run pins s σ H Dn I ⟨F, M, env, st, xs, src, st1, En, S, e1, fun F1 M1 H1 J l1 S1 hJ => ?_⟩
    refine ⟨fun i n σ' H' => i + n = xs.length ∧ ∃ F' M' env' st', Le F1 M1 H1 F' M' H' ∧ SRx W H' F' M' st' ∧ EnR H' F' M' env' σ' ∧ forL (fun d env st => asgT W.P W.C t d env st) (fun env st => exSs W.P W.C sb env st) src (xs.drop i) env' st' = some o ∧ OutR W F' M' H' Dn o,
      ⟨xs.length, by omega, F1, M1, env, st1, Le.refl _ _ _, S1, En.le l1 S.mf, by simpa using e, k.le l1⟩, fun i n σ' H' hW => ?_⟩
    obtain ⟨hin, F', M', env', st', l', S', En', ef, k'⟩ := hW
    by_cases hlt : i < xs.length
    · right
      rw [List.drop_eq_getElem_cons hlt] at ef
      simp only [forL] at ef
      split at ef
      · cases ef
      · rename_i hchk
        have hchk : chk st' src = true := by simpa using hchk
        refine ⟨hJ.go F' M' H' st' i l' S' hchk hlt, fun σ5 H5 => ∃ F5 M5 env5 st5, Le F1 M1 H1 F5 M5 H5 ∧ SRx W H5 F5 M5 st5 ∧ EnR H5 F5 M5 env5 σ5 ∧ forL (fun d env st => asgT W.P W.C t d env st) (fun env st => exSs W.P W.C sb env st) src (xs.drop (i + 1)) env5 st5 = some o ∧ OutR W F5 M5 H5 Dn o,
          fun σ5 H5 h5 => ⟨n - 1, by omega, by omega, h5⟩, fun v H2 hy => ?_⟩
        obtain ⟨l2, S2, rv⟩ := hJ.yld F' M' H' st' i _ l' S' hchk (List.getElem?_eq_getElem hlt) v H2 hy
        split at ef
        · cases ef
        · rename_i env1 st3 e3
          refine ⟨F', M', env', st', xs[i], env1, st3, En'.le l2 S'.mf, S2, rv, e3, fun F3 M3 H3 σ3 l3 S3 En3 _ => ?_⟩
          have l03 := (l'.trans l2).trans l3
          have k3 := (k'.le l2).le l3
          split at ef
          · rename_i en s4 e4
            exact ⟨F3, M3, env1, st3, _, En3, S3, e4, fun F4 M4 H4 σ4 l4 S4 En4 => ⟨F4, M4, en, s4, l03.trans l4, S4, En4, ef, k3.le l4⟩⟩
          · rename_i en s4 e4
            exact ⟨F3, M3, env1, st3, _, En3, S3, e4, fun F4 M4 H4 σ4 l4 S4 En4 => ⟨F4, M4, en, s4, l03.trans l4, S4, En4, ef, k3.le l4⟩⟩
          · rename_i en s4 e4
            simp only [Option.some.injEq] at ef; subst ef
            exact ⟨F3, M3, env1, st3, _, En3, S3, e4, fun F4 M4 H4 σ4 l4 S4 En4 => k3 F4 M4 H4 σ4 l4 S4 En4⟩
          · rename_i dd s4 e4
            simp only [Option.some.injEq] at ef; subst ef
            exact ⟨F3, M3, env1, st3, _, En3, S3, e4, fun F4 M4 H4 v4 l4 S4 r4 => k3 F4 M4 H4 v4 l4 S4 r4⟩
          · cases ef
    · left
      have hiL : i = xs.length := by omega
      subst hiL
      rw [List.drop_length] at ef
      simp only [forL] at ef
      split at ef
      · rename_i hchk
        simp only [Option.some.injEq] at ef; subst ef
        exact ⟨hJ.stop F' M' H' st' l' S' hchk, k' F' M' H' σ' (Le.refl _ _ _) S' En'⟩
      · cases ef
  · cases e
theorem sS_whl (ok : XOk X c) {x : Expr} {body : List Stmt} (ht : PT X x (RT W ta)) (hb : PSs X body (RSs W sb)) : PS X (.While x body [] pos) (RS W (.whl ta sb)) := by
  refine ⟨fun pins s σ H Dn I ⟨F, M, env, st, o, En, S, e, k⟩ => ?_⟩
  simp only [exS] at e
  have hpn : PassesOwn (model X.prog X.w) X.A X.env X.xe := by rw [ok.xe]; exact PassesOwn.never
  refine (ps_while hpn ht hb).run pins s σ H Dn I ?_
  refine ⟨fun n σ' H' => ∃ F' M' env' st', SRx W H' F' M' st' ∧ EnR H' F' M' env' σ' ∧ whlL (fun env st => evT W.P W.C ta env st) (fun env st => exSs W.P W.C sb env st) n env' st' = some o ∧ OutR W F' M' H' Dn o, ⟨wfuel, F, M, env, st, S, En, e, k⟩, fun n σ' H' hW => ?_⟩
  obtain ⟨F', M', env', st', S', En', ef, k'⟩ := hW
  cases n with
  | zero => simp [whlL] at ef
  | succ n =>
    simp only [whlL] at ef
    split at ef
    · cases ef
    · rename_i st1 e1
      simp only [Option.some.injEq] at ef; subst ef
      exact RT.mk En' S' e1 fun F1 M1 H1 l1 S1 => iteF (k' F1 M1 H1 σ' l1 S1 (En'.le l1 S'.mf))
    · rename_i st1 e1
      refine RT.mk En' S' e1 fun F1 M1 H1 l1 S1 => iteT ?_
      refine ⟨fun σ5 H5 => ∃ F5 M5 env5 st5, SRx W H5 F5 M5 st5 ∧ EnR H5 F5 M5 env5 σ5 ∧ whlL (fun env st => evT W.P W.C ta env st) (fun env st => exSs W.P W.C sb env st) n env5 st5 = some o ∧ OutR W F5 M5 H5 Dn o, fun σ5 H5 h5 => ⟨n, by omega, h5⟩, ?_⟩
      have k1 := k'.le l1
      split at ef
      · rename_i en s4 e4
        exact ⟨F1, M1, env', st1, _, En'.le l1 S'.mf, S1, e4, fun F4 M4 H4 σ4 l4 S4 En4 => ⟨F4, M4, en, s4, S4, En4, ef, k1.le l4⟩⟩
      · rename_i en s4 e4
        exact ⟨F1, M1, env', st1, _, En'.le l1 S'.mf, S1, e4, fun F4 M4 H4 σ4 l4 S4 En4 => ⟨F4, M4, en, s4, S4, En4, ef, k1.le l4⟩⟩
      · rename_i en s4 e4
        simp only [Option.some.injEq] at ef; subst ef
        exact ⟨F1, M1, env', st1, _, En'.le l1 S'.mf, S1, e4, fun F4 M4 H4 σ4 l4 S4 En4 => k1 F4 M4 H4 σ4 l4 S4 En4⟩
      · rename_i dd s4 e4
        simp only [Option.some.injEq] at ef; subst ef
        exact ⟨F1, M1, env', st1, _, En'.le l1 S'.mf, S1, e4, fun F4 M4 H4 v4 l4 S4 r4 => k1 F4 M4 H4 v4 l4 S4 r4⟩
      · cases ef
end
end Pm

/-! Pm, part Be: own defs and their calls. -/
namespace Pm
open PySem PySem.Spec L2
open PyProof.Rows hiding St

abbrev Sq := List V → Hp → VK → Prop
def CN : CXT := fun _ _ _ _ _ _ => False
def EN : XK := fun _ _ _ => False
/-- a def of the text keeps a promise, where no guard stands about the call -/
structure FnG (P : Program) (w : World) (K : PySem.W.Frag) (mg : Str → Option Value) (base : Heap) (k : Nat) (f : Addr) (fd : FuncData) (ps : List Str) (sp : Sq) : Prop where
  len : ∀ vs H Q, sp vs H Q → vs.length = ps.length
  run : ∀ (A : Around) (outer : List PySem.Env) (s : Shared) (H : Hp) (args : Args) (us : List Value) (vs : List V) (Q : VK), A.guards = some [] → Room k A → Env0 P w K mg base A outer s H → BindsTo s fd args (ps.zip us) → Vals vs us → sp vs H Q →
    codeAny (model P w) A (.call (.ref f) args) (CR CN outer P w H s Q EN) s

section
variable {P : Program} {w : World} {K : PySem.W.Frag} {mg : Str → Option Value} {base : Heap} {k : Nat} {f : Addr} {fd : FuncData} {N ps : List Str} {x qual : Str} {params : Arguments} {body : List Stmt} {scope : Scope} {dvs : List V} {kws : List (Str × V)} {sp : Sq}
/-- by its body -/
theorem fnG_of (D : FunD K x qual params body scope dvs kws f fd) (S : FnScope N ps scope) (len : ∀ vs H Q, sp vs H Q → vs.length = ps.length)
    (hb : ∀ (cdv : Value) (A : Around) (outer : List PySem.Env) (s : Shared) (H : Hp) (vs : List V) (Q : VK), A.guards = some [] → Room k (A.deeper (envOfC qual scope s.heap.objs.size f cdv)) → sp vs H Q →
      ∃ t, PSs (cxOf CN P w K mg base N qual scope f cdv A outer s H EN).nox body t ∧ t { nx := fun _ H' => Q .non H', rt := Q } (start N vs) H) :
    FnG P w K mg base (k + 1) f fd ps sp := by
  obtain ⟨oc, od, dV, kV, doc, pm, an, cdv, ct, osl, rfl, lk, hcd, _, _⟩ := D.ex
  refine ⟨len, fun A outer s H args us vs Q hg hr e0 hbd r hsp => ?_⟩
  have hl := len _ _ _ hsp
  have keep0 : ∀ b o, base.get? b = some o → s.heap.get? b = some o := fun b o e => (e0.bs b o e).1
  have KX : K.In s.heap := e0.mod.kin.keeps keep0
  have nol : s.heap.NoLimit := e0.mod.nolimit.keeps keep0
  have hkind : ∀ y ∈ ps.zip us, scope.names.lookup y.1 = some .local ∨ (scope.names.lookup y.1 = some .cell ∧ ((cellsFrom (s.heap.objs.size + 1) scope.names []).lookup y.1).isSome = true) := by
    rintro ⟨n, v⟩ hy
    rcases S.par n (List.of_mem_zip hy).1 with q | q
    · exact Or.inl q
    · exact Or.inr (And.intro q (PySem.W.cellsFrom_some _ _ _ (.inl q)))
  refine codeAny_call_function hr.depth (KX _ _ lk) rfl S.co S.gen rfl (PySem.W.codeRec_of KX hcd) (hbd _ _ _ _ (wpAny_newFunctionEnv_cells S.kind hkind fun env he s1 x1 => ?_))
  subst he
  refine And.intro (nol.keeps x1.toInCall.keep) (codeAny_func ?_)
  obtain ⟨t, ht, hq⟩ := hb cdv A outer s H vs Q hg (hr.deeper _) hsp
  have I : Inv (cxOf CN P w K mg base N qual scope f cdv A outer s H EN) [] (start N vs) H s1 := inv_start S hr.hd e0 hl r x1
  refine wpAny_mono ((PSs.nox ht).run [] s1 (start N vs) H _ I hq) (fun fl s' hs => ?_) fun e s' hs => hs
  have fin : ∀ {σ' : L2.St} {H' : Hp} {v : V} {u : Value}, Inv (cxOf CN P w K mg base N qual scope f cdv A outer s H EN) [] σ' H' s' → RelV v u → Q v H' → CE outer P w H s Q u s' := by
    intro σ' H' v u J rv q
    exact ⟨v, H', J.os, J.bare, J.base, J.hok, rv, q⟩
  cases fl with
  | ret u => obtain ⟨v, σ', H', J, rv, q⟩ := hs; exact fin J rv q
  | next => obtain ⟨σ', H', J, q⟩ := hs; exact fin (v := V.non) (u := Value.none) J rfl q
  | brk => obtain ⟨_, _, _, q⟩ := hs; exact q.elim
  | cont => obtain ⟨_, _, _, q⟩ := hs; exact q.elim
end

section
variable {X : Cx} {k : Nat} {f : Addr} {fd : FuncData} {ps : List Str} {sp : Sq}
theorem runG {pins : List (Addr × Obj)} {σ : L2.St} {H : Hp} {s : Shared} {Q : VK} {us : List Value} {vs : List V} (F : FnG X.prog X.w X.K X.mg X.base k f fd ps sp) (hg : X.A.guards = some []) (hr : Room k X.A) (hb : Binds X.K fd ps [])
    (I : Inv X pins σ H s) (r : Vals vs us) (h : sp vs H Q) : wpAny (model X.prog X.w) X.A (call (.ref f) us) (EP X pins σ Q) X.xe s := by
  have hl : us.length = ps.length := by rw [← r.length]; exact F.len _ _ _ h
  have hb' : BindsTo s fd ⟨us, []⟩ (ps.zip us) := by
    have q := hb s us I.kIn (by rw [List.append_nil]; exact hl)
    rw [List.append_nil] at q
    exact q
  refine wpAny_call (codeAny_mono (F.run X.A X.stack s H ⟨us, []⟩ us vs Q hg hr I.env0 hb' r h) ?_)
  intro r s' hq
  match r, hq with
  | .ok (.ret u), hq => exact I.after hq
  | .ok .next, hq => exact hq.elim
  | .ok .brk, hq => exact hq.elim
  | .ok .cont, hq => exact hq.elim
  | .error e, hq => exact hq.elim
end

/-! ### what a call of an own def comes to -/
/-- the promise that stands for the numbers' meaning -/
def spD (W : Wd) (j : Nat) : Sq := fun vs H Q => ∃ F M ds st d st', RepL H F M ds vs ∧ SRx W H F M st ∧ W.C j ds st = some (d, st') ∧ PostV W F M H d st' Q
structure TOk (G : GT) (W : Wd) (k : Nat) (X : Cx) : Prop where
  room : Room k X.A
  fns : ∀ (x : Str) (j : Nat) (eff : Bool), G.fns.lookup x = some (j, eff) → ∃ f fd ps, X.mg x = some (.ref f) ∧ PySem.W.keepIn X.K (.ref f) = true ∧ Binds X.K fd ps [] ∧ FnG X.prog X.w X.K X.mg X.base k f fd ps (spD W j)
  cons : ∀ (x : Str) (d : D), G.cons.lookup x = some d → ∃ u v, X.mg x = some u ∧ RelV v u ∧ d.plain = true ∧ Rep (fun _ => none) [] [] d v
  nofl : G.flds = []
  nomt : G.mths = []
  nocl : G.cls = []

theorem Rep.plain {d : D} {v : V} {H H' : Hp} {F M F' M' : Ads} (h : d.plain = true) (r : Rep H F M d v) : Rep H' F' M' d v := by
  cases d <;> first | (simp only [Rep] at r ⊢; exact r) | simp [D.plain] at h

section
variable {H : Hp} {F M : Ads}
mutual
/-- what the callee sees: none of the store's objects, and nothing that is handed in may be written -/
theorem Rep.sub {F' M' : Ads} (hf : ∀ a, a ∈ F' → a ∈ F) : ∀ (d : D) (v : V), d.noRef = true → Rep H F M d v → Rep H F' M' d v
  | .non, _, _, h => by simp only [Rep] at h ⊢; exact h
  | .bl _, _, _, h => by simp only [Rep] at h ⊢; exact h
  | .int _, _, _, h => by simp only [Rep] at h ⊢; exact h
  | .str _, _, _, h => by simp only [Rep] at h ⊢; exact h
  | .tup ds, v, n, h => by
    simp only [Rep] at h ⊢
    simp only [D.noRef] at n
    obtain ⟨a, vs, e, s, r⟩ := h
    exact ⟨a, vs, e, s, RepL.sub hf ds vs n r⟩
  | .lst ds, v, n, h => by
    simp only [Rep] at h ⊢
    simp only [D.noRef] at n
    obtain ⟨a, vs, e, s, na, r⟩ := h
    exact ⟨a, vs, e, s, fun z => na (hf a z), RepL.sub hf ds vs n r⟩
  | .dct false ks ds, v, n, h => by
    simp only [Rep] at h ⊢
    simp only [D.noRef, Bool.and_eq_true] at n
    obtain ⟨a, e, na, kvs, s, ek, r⟩ := h
    exact ⟨a, e, fun z => na (hf a z), kvs, s, ek, RepL.sub hf ds _ n.2 r⟩
  | .dct true ks ds, v, n, h => by
    simp only [Rep] at h ⊢
    simp only [D.noRef, Bool.and_eq_true] at n
    obtain ⟨a, e, na, kvs, s, ek, r⟩ := h
    exact ⟨a, e, fun z => na (hf a z), kvs, s, ek, RepL.sub hf ds _ n.2 r⟩
  | .ref _, _, n, _ => by simp [D.noRef] at n
theorem RepL.sub {F' M' : Ads} (hf : ∀ a, a ∈ F' → a ∈ F) : ∀ (ds : List D) (vs : List V), noRefL ds = true → RepL H F M ds vs → RepL H F' M' ds vs
  | [], _, _, h => by simp only [RepL] at h ⊢; exact h
  | d :: ds, vs, n, h => by
    simp only [RepL] at h ⊢
    simp only [noRefL, Bool.and_eq_true] at n
    obtain ⟨v, r, e, h1, h2⟩ := h
    exact ⟨v, r, e, Rep.sub hf d v n.1 h1, RepL.sub hf ds r n.2 h2⟩
end
mutual
/-- no list within: it does not matter who writes -/
theorem Rep.noL {F' M' : Ads} : ∀ (d : D) (v : V), d.noLst = true → Rep H F M d v → Rep H F' M' d v
  | .non, _, _, h => by simp only [Rep] at h ⊢; exact h
  | .bl _, _, _, h => by simp only [Rep] at h ⊢; exact h
  | .int _, _, _, h => by simp only [Rep] at h ⊢; exact h
  | .str _, _, _, h => by simp only [Rep] at h ⊢; exact h
  | .tup ds, v, n, h => by
    simp only [Rep] at h ⊢
    simp only [D.noLst] at n
    obtain ⟨a, vs, e, s, r⟩ := h
    exact ⟨a, vs, e, s, RepL.noL ds vs n r⟩
  | .lst ds, v, n, h => by simp [D.noLst] at n
  | .dct _ ks ds, v, n, h => by simp [D.noLst] at n
  | .ref _, _, n, _ => by simp [D.noLst] at n
theorem RepL.noL {F' M' : Ads} : ∀ (ds : List D) (vs : List V), noLstL ds = true → RepL H F M ds vs → RepL H F' M' ds vs
  | [], _, _, h => by simp only [RepL] at h ⊢; exact h
  | d :: ds, vs, n, h => by
    simp only [RepL] at h ⊢
    simp only [noLstL, Bool.and_eq_true] at n
    obtain ⟨v, r, e, h1, h2⟩ := h
    exact ⟨v, r, e, Rep.noL d v n.1 h1, RepL.noL ds r n.2 h2⟩
end
end

/-- the objects that are handed in -/
def refsOf (M : Ads) : List D → Ads
  | [] => []
  | .ref n :: ds => (match M[n]? with | some a => [a] | none => []) ++ refsOf M ds
  | _ :: ds => refsOf M ds
theorem refsOf_ref {M : Ads} {n : Nat} {a : Addr} (h : M[n]? = some a) : ∀ {ds : List D}, D.ref n ∈ ds → a ∈ refsOf M ds
  | d :: ds, hm => by
    rcases List.mem_cons.mp hm with e | hm
    · subst e
      simp only [refsOf, h, List.mem_append]
      exact .inl (by simp)
    · have ih := refsOf_ref h hm
      cases d <;> simp only [refsOf, List.mem_append] <;> first | exact ih | exact .inr ih
theorem refsOf_none {M : Ads} : ∀ {ds : List D}, ds.all D.noRef = true → refsOf M ds = []
  | [], _ => rfl
  | d :: ds, h => by
    simp only [List.all_cons, Bool.and_eq_true] at h
    cases d <;> simp only [refsOf] <;> first | exact refsOf_none h.2 | simp [D.noRef] at h

section
variable {W : Wd} {F M : Ads} {H : Hp} {st : Sto} {X : Cx}
theorem deref_rep {F' : Ads} (hf : ∀ a, a ∈ F' → a ∈ F) {d e : D} {v : V} (S : SRx W H F M st) (r : Rep H F M d v) (h : deref st d = some e) (hr : ∀ n a, d = .ref n → M[n]? = some a → a ∉ F') : Rep H F' [] e v := by
  unfold deref at h
  split at h
  · rename_i hn
    simp only [Option.some.injEq] at h; subst h
    exact Rep.sub hf d v hn r
  · split at h
    · rename_i n hn
      simp only [Rep] at r
      obtain ⟨a, rfl, hm⟩ := r
      have na := hr n a rfl hm
      split at h
      · rename_i xs hx
        split at h
        · rename_i hq
          simp only [Option.some.injEq] at h; subst h
          obtain ⟨vs, h1, h2⟩ := S.obs n _ a hx hm
          simp only [Rep]
          exact ⟨a, vs, rfl, .inl h1, na, RepL.sub hf xs vs hq h2⟩
        · cases h
      · rename_i t ks vs hx
        split at h
        · rename_i hq
          simp only [Bool.and_eq_true] at hq
          simp only [Option.some.injEq] at h; subst h
          have o := S.obs n _ a hx hm
          cases t with
          | false =>
            obtain ⟨kvs, h1, h2, h3⟩ := o
            simp only [Rep]
            exact ⟨a, rfl, na, kvs, h1, h2, RepL.sub hf _ _ hq.2 h3⟩
          | true =>
            obtain ⟨kvs, h1, h2, h3⟩ := o
            simp only [Rep]
            exact ⟨a, rfl, na, kvs, h1, h2, RepL.sub hf _ _ hq.2 h3⟩
        · cases h
      · cases h
    · cases h
theorem deref_all {F' : Ads} (hf : ∀ a, a ∈ F' → a ∈ F) (S : SRx W H F M st) : ∀ {ds es : List D} {vs : List V}, RepL H F M ds vs → ds.mapM (deref st) = some es → (∀ n a, D.ref n ∈ ds → M[n]? = some a → a ∉ F') → RepL H F' [] es vs
  | [], es, vs, r, h, _ => by
    simp only [List.mapM_nil, Option.pure_def, Option.some.injEq] at h; subst h
    simpa only [RepL] using r
  | d :: ds, es, vs, r, h, hr => by
    simp only [List.mapM_cons, Option.bind_eq_bind, Option.bind_eq_some_iff, Option.pure_def, Option.some.injEq] at h
    obtain ⟨e, he, es', hes, rfl⟩ := h
    simp only [RepL] at r ⊢
    obtain ⟨v, vs', rfl, r1, r2⟩ := r
    exact ⟨v, vs', rfl, deref_rep hf S r1 he fun n a e1 e2 => hr n a (by rw [e1]; exact List.mem_cons_self ..) e2, deref_all hf S r2 hes fun n a e1 e2 => hr n a (List.mem_cons_of_mem _ e1) e2⟩
/-- a pure call, from the callee's promise -/
theorem pcall_sp {j : Nat} {ds : List D} {vs : List V} {w : D} {Q : VK} (S : SRx W H F M st) (r : RepL H F M ds vs) (e : pcall W.C j ds st = some w) (k : PostV W F M H w st Q) : spD W j vs H Q := by
  unfold pcall at e
  simp only [Option.bind_eq_bind, Option.bind_eq_some_iff] at e
  obtain ⟨es, he, ⟨v', st'⟩, hc, w', hw, e⟩ := e
  split at e
  · rename_i hcond
    simp only [Option.some.injEq] at e; subst e
    have hf : ∀ a, a ∈ F.filter (fun a => !(refsOf M ds).contains a) → a ∈ F := fun a h => (List.mem_filter.mp h).1
    have hn : ∀ n a, D.ref n ∈ ds → M[n]? = some a → a ∉ F.filter (fun a => !(refsOf M ds).contains a) := fun n a h1 h2 h3 => by
      have q := (List.mem_filter.mp h3).2
      have z := refsOf_ref h2 h1
      simp [z] at q
    have S0 : SRx W H (F.filter (fun a => !(refsOf M ds).contains a)) [] [] := ⟨rfl, List.nodup_nil, fun a h => (nomatch h), fun a h => S.fs a (hf a h), fun n ob a h => by simp at h⟩
    refine ⟨_, [], es, [], v', st', deref_all hf S r he hn, S0, hc, fun F' M' H' val l S' rv => ?_⟩
    have l2 : Le F M H F M H' := ⟨fun a o h _ => l.ext a o h (by simp), l.alive, l.tups, l.frzs, fun _ _ h => h, fun _ h => h, fun _ h => .inl h, fun _ h => .inl h⟩
    have S2 : SRx W H' F M st := ⟨S.len, S.nd, S.mf, fun a h => l.alive a (S.fs a h), fun n ob a h1 h2 => (S.obs n ob a h1 h2).le l2 S.mf fun o h => l.ext a o h (by simp)⟩
    refine k F M H' val l2 S2 ?_
    rcases Bool.or_eq_true_iff.mp hcond with hall | hnl
    · -- nothing of the store is handed in
      have hF : F.filter (fun a => !(refsOf M ds).contains a) = F := by
        rw [refsOf_none hall]
        exact List.filter_eq_self.mpr fun a _ => by simp
      rw [hF] at l
      -- what may be written now and was there, or is new
      have hsub : ∀ a, a ∈ F → a ∈ F' := l.fsub
      have rw' := deref_rep (F' := F) hsub S' rv hw fun n a _ hm ha => by
        rcases l.mnew a (List.mem_of_getElem? hm) with z | z
        · cases z
        · exact S.fs a ha z
      have hnr : w'.noRef = true := by
        unfold deref at hw
        split at hw
        · rename_i q; simp only [Option.some.injEq] at hw; subst hw; exact q
        · split at hw
          · split at hw
            · split at hw
              · rename_i q; simp only [Option.some.injEq] at hw; subst hw; simpa [D.noRef] using q
              · cases hw
            · split at hw
              · rename_i q; simp only [Option.some.injEq] at hw; subst hw; simpa [D.noRef] using q
              · cases hw
            · cases hw
          · cases hw
      exact Rep.sub (fun a h => h) w' val hnr rw'
    · have hv : v' = w' := by
        unfold deref at hw
        split at hw
        · simpa using hw
        · split at hw
          · split at hw
            · split at hw
              · simp only [Option.some.injEq] at hw; subst hw; simp [D.noLst] at hnl
              · cases hw
            · split at hw
              · simp only [Option.some.injEq] at hw; subst hw; simp [D.noLst] at hnl
              · cases hw
            · cases hw
          · cases hw
      subst hv
      exact Rep.noL v' val hnl rv
  · cases e
variable {c : TC} {G : GT} {pos np : Pos}
/-- f(e, ..), f an own def -/
theorem sE_call {k j : Nat} {eff : Bool} (ok : XOk X c) (tk : TOk G W k X) {x : Str} {e : Expr} {es : List Expr} {is : List IE} (hg : glB c.sc x = true) (hf : G.fns.lookup x = some (j, eff)) (hp : (e :: es).all plainE = true) (ha : PA X (e :: es) (REs W is)) :
    PE X (.Call (.Name x np) (e :: es) [] pos) (RE W (.call j eff is)) := by
  refine ⟨fun pins s σ H Q I ⟨F, M, env, st, d, st', En, S, ev, q⟩ => ?_⟩
  obtain ⟨f, fd, ps, hm, hk, hb, FG⟩ := tk.fns x j eff hf
  have hp' := hp
  simp only [List.all_cons, Bool.and_eq_true] at hp'
  simp only [evE] at ev
  split at ev
  · rename_i ds st1 e1
    have hsp : ∀ F' M' H' vs, Le F M H F' M' H' → SRx W H' F' M' st1 → RepL H' F' M' ds vs → spD W j vs H' Q := fun F' M' H' vs l S' r => by
      cases eff with
      | true => exact ⟨F', M', ds, st1, d, st', r, S', ev, l.post q⟩
      | false =>
        simp only at ev
        split at ev
        · rename_i v ev2
          simp only [Option.some.injEq, Prod.mk.injEq] at ev
          obtain ⟨rfl, rfl⟩ := ev
          exact pcall_sp S' r ev2 (l.post q)
        · cases ev
    refine wpAny_Call_Name_kw (ld_glob I (ok.gl hg) hm ?_ (nmOk_d (glB_gl hg).2.1).1)
    refine PySem.W.callWith_K (h₀ := X.base) I.ok.mod.kin hk (thn (ha.run pos pins s σ H (fun vs H1 => spD W j vs H1 Q) I ⟨F, M, env, st, ds, st1, En, S, e1, hsp⟩) fun us s1 ⟨vs, H1, I1, r, q2⟩ => And.intro I1.kIn ?_) (star_plain es hp'.1) (star_none es hp'.2)
    exact runG FG ok.gd tk.room hb I1 r q2
  · cases ev
theorem sE_con {k : Nat} (ok : XOk X c) (tk : TOk G W k X) {x : Str} {d : D} (hg : glB c.sc x = true) (hf : G.cons.lookup x = some d) : PE X (.Name x pos) (RE W (.cst d)) := by
  refine ⟨fun pins s σ H Q I ⟨F, M, env, st, d', st', En, S, ev, q⟩ => ?_⟩
  obtain ⟨u, v, hm, hr, hpl, rp⟩ := tk.cons x d hf
  simp only [evE, Option.some.injEq, Prod.mk.injEq] at ev
  obtain ⟨rfl, rfl⟩ := ev
  refine (pe_glob (ok.gl hg) hm hr (nmOk_d (glB_gl hg).2.1).1).run pins s σ H Q I ?_
  exact q F M H v (Le.refl F M H) S (Rep.plain hpl rp)
end
end Pm

/-! Pm, part Bf: the text's terms and their translations agree. -/
namespace Pm
open PySem PySem.Spec L2
open PyProof.Rows hiding St
section
variable {X : Cx} {W : Wd} {c : TC} {G : GT} {t : Expr → IE} {tt : Expr → Ts}
theorem snd_and : ∀ {es : List Expr} {pos : Pos}, (∀ e, PE X e (RE W (t e))) → PE X (.BoolOp .And es pos) (RE W (trAnd t es))
  | [], _, _ => sE_bad rfl
  | [a], _, h => pe_one (h a)
  | a :: b :: r, _, h => sE_and (h a) (snd_and h)
theorem snd_or : ∀ {es : List Expr} {pos : Pos}, (∀ e, PE X e (RE W (t e))) → PE X (.BoolOp .Or es pos) (RE W (trOr t es))
  | [], _, _ => sE_bad rfl
  | [a], _, h => pe_one (h a)
  | a :: b :: r, _, h => sE_or (h a) (snd_or h)
theorem snd_andT : ∀ {a : Expr} {es : List Expr} {pos : Pos}, (∀ e, PT X e (RT W (tt e))) → PW X (.BoolOp .And (a :: es) pos) (RT W (trAndT tt (a :: es)))
  | a, [], _, h => sW_one (h a)
  | a, b :: r, _, h => sW_and (h a) (snd_andT h)
theorem snd_orT : ∀ {a : Expr} {es : List Expr} {pos : Pos}, (∀ e, PT X e (RT W (tt e))) → PW X (.BoolOp .Or (a :: es) pos) (RT W (trOrT tt (a :: es)))
  | a, [], _, h => sW_one (h a)
  | a, b :: r, _, h => sW_or (h a) (snd_orT h)
theorem snd_cmp (ok : XOk X c) {a : Expr} {ops : List CmpOp} {bs : List Expr} {pos : Pos} (h : ∀ e, PE X e (RE W (t e))) : PE X (.Compare a ops bs pos) (RE W (trCmp t a ops bs)) := by
  unfold trCmp
  split
  · rename_i b
    split
    · rename_i hp; exact sE_cmp ok hp (h _) (h _)
    · exact sE_bad rfl
  · split
    · rename_i hp
      simp only [Bool.and_eq_true] at hp
      exact sE_cmp2 ok hp.2 (h _) (h _) (h _)
    · exact sE_bad rfl
  · exact sE_bad rfl
theorem snd_cmpT (ok : XOk X c) {a : Expr} {ops : List CmpOp} {bs : List Expr} {pos : Pos} (h : ∀ e, PE X e (RE W (t e))) : PT X (.Compare a ops bs pos) (RT W (.val (trCmp t a ops bs))) := by
  unfold trCmp
  split
  · rename_i b
    split
    · rename_i hp; exact sT_cmp ok hp (h _) (h _)
    · exact sT_bad
  · split
    · rename_i hp
      simp only [Bool.and_eq_true] at hp
      exact sT_cmp2 ok hp.2 (h _) (h _) (h _)
    · exact sT_bad
  · exact sT_bad
theorem snd_sub (ok : XOk X c) {a i : Expr} {pos : Pos} (h : ∀ e, PE X e (RE W (t e))) : PE X (.Subscript a i pos) (RE W (trSub G t a i pos)) := by
  unfold trSub
  split
  · exact sE_bad rfl
  · split
    · exact sE_slc (h a) (fun e _ _ => h e) (fun e _ _ => h e)
    · split
      · rename_i hn; exact sE_rev hn (h a)
      · exact sE_bad rfl
    · split
      · rename_i hp; exact sE_idx ok hp (h a) (h _)
      · exact sE_bad rfl
theorem fidx_nil {x : Str} {G : GT} (h : G.flds = []) : fidx G.flds x = none := by rw [h]; rfl
theorem fidx_nilM {x : Str} {G : GT} (h : G.mths = []) : fidx G.mths x = none := by rw [h]; rfl
theorem snd_call {k : Nat} (ok : XOk X c) (tk : TOk G W k X) {x : Str} {np pos : Pos} {args : List Expr} (h : ∀ e, PE X e (RE W (t e))) : PE X (.Call (.Name x np) args [] pos) (RE W (trCall G c t x args pos)) := by
  unfold trCall
  split
  · exact sE_bad rfl
  · rename_i h0
    simp only [Bool.or_eq_true, Bool.not_eq_true', not_or, Bool.not_eq_false, Bool.not_eq_true] at h0
    obtain ⟨hg, hne⟩ := h0
    cases args with
    | nil => simp at hne
    | cons e es =>
    split
    · exact sE_bad rfl
    · rename_i is his
      obtain ⟨h1, h2, rfl⟩ := trArgs_some his
      have ha := sEs (X := X) (W := W) (t := t) (e :: es) h2 fun e _ => h e
      split
      · rename_i j eff hf; exact sE_call ok tk hg hf h2 ha
      · split
        · rename_i hc; rw [tk.nocl] at hc; cases hc
        · split
          · rename_i hb; exact sE_bi ok hg hb h2 ha
          · split
            · rename_i hx
              obtain rfl : x = "isinstance" := eq_of_beq hx
              split
              · rename_i a ty heq
                simp only [List.cons.injEq] at heq
                obtain ⟨rfl, rfl⟩ := heq
                simp only [List.all_cons, List.all_nil, Bool.and_true, Bool.and_eq_true] at h2
                split
                · rename_i ts hts
                  split
                  · rename_i hl
                    exact sE_isi ok hg h2.1 h2.2 (h _) hts hl
                  · exact sE_bad rfl
                · exact sE_bad rfl
              · exact sE_bad rfl
            · exact sE_bad rfl
theorem snd_meth {k : Nat} (ok : XOk X c) (tk : TOk G W k X) {o : Expr} {m : Str} {apos pos : Pos} {args : List Expr} (h : ∀ e, PE X e (RE W (t e))) : PE X (.Call (.Attribute o m apos) args [] pos) (RE W (trMeth G t o m args apos pos)) := by
  unfold trMeth
  split
  · exact sE_bad rfl
  · rename_i h0
    simp only [Bool.or_eq_true, Bool.not_eq_true', not_or, Bool.not_eq_false, decide_eq_false_iff_not, Nat.not_lt, Nat.not_le] at h0
    obtain ⟨hl, hn⟩ := h0
    split
    · exact sE_bad rfl
    · rename_i is his
      obtain ⟨h1, h2, rfl⟩ := trArgs_some his
      split
      · exact sE_bad rfl
      · rename_i h3
        simp only [Bool.or_eq_true, Bool.not_eq_true', not_or, Bool.not_eq_false] at h3
        rw [fidx_nilM tk.nomt]
        simp only
        split
        · rename_i b hb
          exact sE_bm hl hn h3.2 hb h2 (fun e => by rw [e]; rfl) (h o) (sEs args h2 fun e _ => h e)
        · exact sE_bad rfl
theorem trRng_some {e : Expr} {es : List IE} (h : trRng t c e = some es) : ∃ np args pos, e = .Call (.Name "range" np) args [] pos ∧ glB c.sc "range" = true ∧ args.all plainE = true ∧ es = args.map t := by
  unfold trRng at h
  split at h
  · rename_i x np args pos
    split at h
    · rename_i hc
      simp only [Bool.and_eq_true, Bool.not_eq_true'] at hc
      obtain rfl : x = "range" := eq_of_beq hc.1.2
      obtain ⟨h1, h2, h3⟩ := trArgs_some h
      exact ⟨np, args, pos, rfl, hc.1.1, h2, h3⟩
    · cases h
  · cases h
theorem snd_it (ok : XOk X c) {tg e : Expr} (h : ∀ e, PE X e (RE W (t e))) : PI X tg e (RI W (trIt t c (isTupE tg) e)) := by
  unfold trIt
  split
  · rename_i es hr
    obtain ⟨np, args, pos, rfl, hg, hp, rfl⟩ := trRng_some hr
    exact sI_rng ok hg hp (by rw [List.length_map]) (sEs args hp fun e _ => h e)
  · split
    · rename_i x np args pos hrn
      split
      · rename_i hc
        simp only [Bool.and_eq_true] at hc
        obtain rfl : x = "enumerate" := eq_of_beq hc.1.2
        cases tg <;> try (exfalso; simpa [isTupE] using hc.2)
        split
        · split
          · rename_i hp; exact sI_enm ok hc.1.1 hp (h _)
          · exact sI_val (sE_bad rfl)
        · exact sI_val (sE_bad rfl)
      · split
        · rename_i hc
          simp only [Bool.and_eq_true] at hc
          obtain rfl : x = "zip" := eq_of_beq hc.1.2
          cases tg <;> try (exfalso; simpa [isTupE] using hc.2)
          split
          · split
            · rename_i hp
              simp only [Bool.and_eq_true] at hp
              exact sI_zip ok hc.1.1 hp.1 hp.2 (h _) (h _)
            · exact sI_val (sE_bad rfl)
          · exact sI_val (sE_bad rfl)
        · split
          · rename_i hc
            simp only [Bool.and_eq_true] at hc
            obtain rfl : x = "reversed" := eq_of_beq hc.2
            split
            · split
              · rename_i hp
                split
                · rename_i es hr
                  obtain ⟨np, args, pos, rfl, hg, hp2, rfl⟩ := trRng_some hr
                  exact sI_revr ok hc.1 hg hp2 fun e _ => h e
                · exact sI_rev ok hc.1 hp (h _)
              · exact sI_val (sE_bad rfl)
            · exact sI_val (sE_bad rfl)
          · exact sI_val (h _)
    · split
      · exact sI_val (h _)
      · exact sI_val (sE_bad rfl)
theorem sG_bad' {e : Expr} : PG X e (RG W (.sub .bad .bad)) := by
  refine ⟨fun pins s σ H v u Q I rv ⟨F, M, env, st, d, env', st', En, S, r, ev, k⟩ => ?_⟩
  simp [asgT, evE] at ev
theorem snd_tg {k : Nat} (ok : XOk X c) (tk : TOk G W k X) (h : ∀ e, PE X e (RE W (t e))) : ∀ (n : Nat) (e : Expr), PG X e (RG W (trTg G t c n e))
  | 0, e => sG_bad'
  | n + 1, e => by
    unfold trTg
    split
    · split
      · rename_i hl
        split
        · rename_i hs; exact sG_nm ok hl hs
        · exact sG_bad'
      · exact sG_bad'
    · split
      · rename_i hp
        exact sG_tup ok hp (sGs _ hp fun e _ => snd_tg ok tk h n e) (by rw [List.length_map])
      · exact sG_bad'
    · split
      · rename_i hp
        simp only [Bool.and_eq_true] at hp
        exact sG_sub ok hp.2 (h _) (h _)
      · exact sG_bad'
    · rw [fidx_nil tk.nofl]
      exact sG_bad'
    · exact sG_bad'
theorem TOk.blk {k : Nat} (tk : TOk G W k X) {s : Shared} {H : Hp} {scope : Scope} {cl : List (Str × Addr)} {C : Addr} {fp : List Addr} : TOk G W k (X.blk s H scope (compEnvC scope cl C X.env) fp) where
  room := tk.room
  fns := tk.fns
  cons := tk.cons
  nofl := tk.nofl
  nomt := tk.nomt
  nocl := tk.nocl
theorem it_bad {t : Expr → IE} {b : Bool} {e : Expr} (h : ¬ plainE e = true) : trIt t c b e = .val .bad := by
  cases e <;> first | rfl | simp [plainE] at h
/-- a comprehension, by its parts -/
theorem snd_comp (ok : XOk X c) {tg iter elt : Expr} {ifs : List Expr} {scope : Scope} {pos : Pos} {m : Bool} {t : Tg} {ti : Expr → IE} {ts : Expr → Ts} {ie : IE} (hb : blkC c.N c.sc scope (ownOf c.N scope) = true) (ho : ∀ j ∈ t.slots, j ∈ (ownOf c.N scope).map (·.2)) (hl : ifs.length ≤ 1) (hi : PI X tg iter (RI W (trIt ti c (isTupE tg) iter)))
    (hg : ∀ (s : Shared) (H : Hp) (C : Addr) (cl : List (Str × Addr)) (fp : List Addr), PG (X.blk s H scope (compEnvC scope cl C X.env) fp) tg (RG W t))
    (ht : ∀ (s : Shared) (H : Hp) (C : Addr) (cl : List (Str × Addr)) (fp : List Addr), ∀ e ∈ ifs, PT (X.blk s H scope (compEnvC scope cl C X.env) fp) e (RT W (ts e)))
    (he : ∀ (s : Shared) (H : Hp) (C : Addr) (cl : List (Str × Addr)) (fp : List Addr), PE (X.blk s H scope (compEnvC scope cl C X.env) fp) elt (RE W ie)) :
    PE X (.ListComp elt [⟨tg, iter, ifs, 0⟩] scope pos) (RE W (.comp m ((ownOf c.N scope).map (·.2)) t (trIt ti c (isTupE tg) iter) (ifs.map ts) ie)) := by
  by_cases hp : plainE iter = true
  · exact sE_comp ok hb ho hp hi hg (fun s H C cl fp => sTs ifs hl (ht s H C cl fp)) he
  · rw [it_bad hp]
    exact ⟨fun pins s σ H Q I ⟨F, M, env, st, d, st', En, S, e, k⟩ => by simp [evE, evIt] at e⟩
theorem snd_E {k : Nat} : ∀ (n : Nat) {X : Cx} {c : TC}, XOk X c → TOk G W k X → (∀ e, PE X e (RE W (trE G n c e))) ∧ (∀ e, PT X e (RT W (trT G n c e))) ∧ (∀ a ops bs pos, PT X (.Compare a ops bs pos) (RT W (.val (trE G n c (.Compare a ops bs pos)))))
  | 0, X, c, ok, tk => ⟨fun e => sE_bad rfl, fun e => sT_bad, fun _ _ _ _ => sT_bad⟩
  | n + 1, X, c, ok, tk => by
    obtain ⟨hE, hT, hC⟩ := snd_E n ok tk
    refine ⟨fun e => ?_, fun e => ?_, fun a ops bs pos => ?_⟩
    · unfold trE
      split
      · exact sE_const _
      · rename_i x pos
        unfold trName
        split
        · rename_i hv
          split
          · rename_i hn
            split
            · rename_i i hs; exact sE_var ok hv hn hs
            · exact sE_bad rfl
          · exact sE_bad rfl
        · split
          · rename_i hg
            split
            · rename_i d hd; exact sE_con ok tk hg hd
            · exact sE_bad rfl
          · exact sE_bad rfl
      · split
        · rename_i es j pos is his
          obtain ⟨h1, h2, rfl⟩ := trArgs_some his
          exact sE_tup (sEs _ h2 fun e _ => hE e) (by rw [List.length_map]; exact h1)
        · exact sE_bad rfl
      · split
        · rename_i es pos is his
          obtain ⟨h1, h2, rfl⟩ := trArgs_some his
          exact sE_lst (sEs _ h2 fun e _ => hE e) (by rw [List.length_map]; exact h1)
        · exact sE_bad rfl
      · split
        · rename_i hc
          simp only [Bool.and_eq_true, List.isEmpty_iff] at hc
          obtain ⟨rfl, rfl⟩ := hc
          exact sE_dct0
        · exact sE_bad rfl
      · split
        · rename_i o ho; exact sE_bin ho (hE _) (hE _)
        · exact sE_bad rfl
      · split
        · exact sE_neg (hE _)
        · exact sE_not (hE _)
        · exact sE_bad rfl
      · split
        · exact snd_and hE
        · exact snd_or hE
      · exact snd_cmp ok hE
      · exact sE_ife (hT _) (hE _) (hE _)
      · exact snd_sub ok hE
      · split
        · exact sE_bad rfl
        · rename_i kws pos hk
          have hk' : kws = [] := by simpa using hk
          subst hk'
          split
          · exact snd_call ok tk hE
          · exact snd_meth ok tk hE
          · exact sE_bad rfl
      · rw [fidx_nil tk.nofl]
        exact sE_bad rfl
      · split
        · split
          · rename_i hc
            simp only [Bool.and_eq_true, decide_eq_true_eq, List.all_eq_true] at hc
            obtain ⟨⟨⟨⟨h1, h2⟩, h3⟩, h4⟩, h5⟩ := hc
            exact snd_comp ok h4 (fun j hj => by simpa using h5 j hj) h1 (snd_it ok hE) (fun s H C cl fp => snd_tg ok.blk tk.blk (snd_E n ok.blk tk.blk).1 n _) (fun s H C cl fp e he => (snd_E n ok.blk tk.blk).2.1 e) (fun s H C cl fp => (snd_E n ok.blk tk.blk).1 _)
          · exact sE_bad rfl
        · exact sE_bad rfl
      · exact sE_bad rfl
    · have dflt : ∀ e, (∀ whole, isTrue e X.env whole = (do let v ← whole; standAt e.pos; holding [v] (truthy v))) → PT X e (RT W (if plainE e then .val (trE G n c e) else .val .bad)) := fun e he => by
        split
        · exact sT_val (hE e) he
        · exact sT_bad
      cases e with
      | UnaryOp op a p =>
        cases op with
        | Not => exact sT_not (hT a)
        | _ => exact dflt _ (fun _ => rfl)
      | BoolOp op es p =>
        cases op with
        | And =>
          cases es with
          | nil => exact sT_bad
          | cons a r => exact (snd_andT hT).pt
        | Or =>
          cases es with
          | nil => exact sT_bad
          | cons a r => exact (snd_orT hT).pt
      | IfExp _ _ _ _ => exact sT_bad
      | Compare a ops bs p =>
        show PT X _ (RT W (if plainE (.Compare a ops bs p) then .val (trE G n c (.Compare a ops bs p)) else .val .bad))
        split
        · exact hC _ _ _ _
        · exact sT_bad
      | _ => exact dflt _ (fun _ => rfl)
    · unfold trE
      exact snd_cmpT ok hE
/-- statements -/
theorem tTup_not {e : Expr} (h : isTupE e = true) : ∃ es j p, e = .Tuple es j p := by
  cases e <;> first | exact ⟨_, _, _, rfl⟩ | simp [isTupE] at h
theorem snd_S {k : Nat} (ok : XOk X c) (tk : TOk G W k X) : ∀ (n : Nat) (s : Stmt), PS X s (RS W (trS G n c s))
  | 0, s => sS_bad
  | n + 1, s => by
    obtain ⟨hE, hT, hC⟩ := snd_E (G := G) (W := W) n ok tk
    have hG := fun e => snd_tg ok tk hE n e
    have hS := snd_S ok tk n
    cases s with
    | Assign tgs e pos =>
      show PS X _ (RS W (match tgs with
        | [tg] => if !plainE e then .bad else if isTupE tg && isTupE e then .bad else .asg (trTg G (trE G n c) c n tg) (trE G n c e)
        | _ => .bad))
      split
      · rename_i tg
        split
        · exact sS_bad
        · rename_i hp
          have hp : plainE e = true := by simpa using hp
          split
          · exact sS_bad
          · rename_i hn
            have hn : (isTupE tg && isTupE e) = false := by simpa using hn
            have vac1 : trTg G (trE G n c) c n tg = .sub .bad .bad → PS X (.Assign [tg] e pos) (RS W (.asg (trTg G (trE G n c) c n tg) (trE G n c e))) := fun h => by
              rw [h]
              refine ⟨fun pins s σ H Dn I ⟨F, M, env, st, o, En, S, ev, k⟩ => ?_⟩
              simp only [exS, asgT, evE] at ev
              split at ev <;> simp at ev
            have vac2 : trE G n c e = .bad → PS X (.Assign [tg] e pos) (RS W (.asg (trTg G (trE G n c) c n tg) (trE G n c e))) := fun h => by
              rw [h]
              exact ⟨fun pins s σ H Dn I ⟨F, M, env, st, o, En, S, ev, k⟩ => by simp [exS, evE] at ev⟩
            have main := fun h1 h2 h3 h4 h5 => sS_asg (pos := pos) (e := e) (tg := tg) ok h1 hp hn h2 h3 h4 h5 (hE e) (hG tg)
            cases tg with
            | List es p => exact vac1 (by cases n <;> rfl)
            | Starred _ _ => exact vac1 (by cases n <;> rfl)
            | Slice _ _ _ _ => exact vac1 (by cases n <;> rfl)
            | Set _ _ => exact vac1 (by cases n <;> rfl)
            | Name x px =>
              cases e with
              | SetComp _ _ _ _ => exact vac2 (by cases n <;> rfl)
              | DictComp _ _ _ _ _ => exact vac2 (by cases n <;> rfl)
              | ListComp elt gens scope p2 =>
                cases n with
                | zero => exact vac1 rfl
                | succ n =>
                  obtain ⟨hE', hT', _⟩ := snd_E (G := G) (W := W) n ok tk
                  have e1 : trTg G (trE G (n + 1) c) c (n + 1) (.Name x px) = (if locB c x then match slot c.N x with | some i => .nm i | none => .sub .bad .bad else .sub .bad .bad) := rfl
                  rw [e1] at vac1 ⊢
                  split
                  · rename_i hlo
                    split
                    · rename_i i hs
                      unfold trE at vac2 ⊢
                      simp only at vac2 ⊢
                      split
                      · rename_i tg iter ifs _ _
                        split
                        · rename_i hc
                          simp only [Bool.and_eq_true, decide_eq_true_eq, List.all_eq_true] at hc
                          obtain ⟨⟨⟨⟨h1, h2⟩, h3⟩, h4⟩, h5⟩ := hc
                          by_cases hpi : plainE iter = true
                          · exact sS_setLc ok hlo hs h4 (fun j hj => by simpa using h5 j hj) hpi (snd_it ok hE') (fun s H C cl fp => snd_tg ok.blk tk.blk (snd_E n ok.blk tk.blk).1 n _) (fun s H C cl fp => sTs ifs h1 fun e he => (snd_E n ok.blk tk.blk).2.1 e) (fun s H C cl fp => (snd_E n ok.blk tk.blk).1 _)
                          · rw [it_bad hpi]
                            exact ⟨fun pins s σ H Dn I ⟨F, M, env, st, o, En, S, ev, k⟩ => by simp [exS, evE, evIt] at ev⟩
                        · exact ⟨fun pins s σ H Dn I ⟨F, M, env, st, o, En, S, ev, k⟩ => by simp [exS, evE] at ev⟩
                      · exact ⟨fun pins s σ H Dn I ⟨F, M, env, st, o, En, S, ev, k⟩ => by simp [exS, evE] at ev⟩
                    · refine ⟨fun pins s σ H Dn I ⟨F, M, env, st, o, En, S, ev, k⟩ => ?_⟩
                      simp only [exS, asgT, evE] at ev
                      split at ev <;> simp at ev
                  · refine ⟨fun pins s σ H Dn I ⟨F, M, env, st, o, En, S, ev, k⟩ => ?_⟩
                    simp only [exS, asgT, evE] at ev
                    split at ev <;> simp at ev
              | _ => exact main rfl (fun _ _ h => nomatch h) (fun _ _ _ _ h => nomatch h) (fun _ _ _ _ _ h => nomatch h) (fun _ _ _ _ h => nomatch h)
            | _ =>
              cases e with
              | SetComp _ _ _ _ => exact vac2 (by cases n <;> rfl)
              | DictComp _ _ _ _ _ => exact vac2 (by cases n <;> rfl)
              | _ => exact main rfl (fun _ _ h => nomatch h) (fun _ _ _ _ h => nomatch h) (fun _ _ _ _ _ h => nomatch h) (fun _ _ _ _ _ _ _ h => nomatch h)
      · exact sS_bad
    | AugAssign tg op e pos =>
      show PS X _ (RS W (match bopOf op with
        | none => .bad
        | some o => match tg with
          | .Name x _ => if locB c x then match slot c.N x with | some i => .aug i o (trE G n c e) | none => .bad else .bad
          | .Subscript a i _ => if plainE a && plainE i then .augS (trE G n c a) (trE G n c i) o (trE G n c e) else .bad
          | .Attribute a f _ => match fidx G.flds f with | some j => .augF (trE G n c a) j o (trE G n c e) | none => .bad
          | _ => .bad))
      split
      · exact sS_bad
      · rename_i o ho
        split
        · split
          · rename_i hl
            split
            · rename_i hs; exact sS_aug ok ho hl hs (hE e)
            · exact sS_bad
          · exact sS_bad
        · split
          · rename_i hp
            simp only [Bool.and_eq_true] at hp
            exact sS_augS ok ho hp.2 (hE _) (hE _) (hE e)
          · exact sS_bad
        · rw [fidx_nil tk.nofl]; exact sS_bad
        · exact sS_bad
    | Expr e pos =>
      cases e with
      | Call f as ks p => exact sS_expr (hE _)
      | _ => exact sS_bad
    | Return v pos =>
      cases v with
      | none => exact sS_retN
      | some e =>
        show PS X _ (RS W (if plainE e then .ret (trE G n c e) else .bad))
        split
        · exact sS_ret (hE e)
        · exact sS_bad
    | If t a b pos => exact sS_if (hT t) (sSs a fun s _ => hS s) (sSs b fun s _ => hS s)
    | For tg iter body orelse pos =>
      cases orelse with
      | cons _ _ => exact sS_bad
      | nil =>
        show PS X _ (RS W (.for_ (trTg G (trE G n c) c n tg) (trIt (trE G n c) c (isTupE tg) iter) (body.map (trS G n c))))
        by_cases hp : plainE iter = true
        · exact sS_for ok hp (snd_it ok hE) (hG tg) (sSs body fun s _ => hS s)
        · rw [it_bad hp]
          exact ⟨fun pins s σ H Dn I ⟨F, M, env, st, o, En, S, e, k⟩ => by simp [exS, evE, evIt] at e⟩
    | While t body orelse pos =>
      cases orelse with
      | cons _ _ => exact sS_bad
      | nil => exact sS_whl ok (hT t) (sSs body fun s _ => hS s)
    | Pass pos => exact sS_pass
    | Break pos => exact sS_brk
    | Continue pos => exact sS_cnt
    | _ => exact sS_bad
end
end Pm

/-! Pm, part Bg: the levels, the law's end. -/
namespace Pm
open PySem PySem.Spec L2
open PyProof.Rows hiding St

/-- a def of the text -/
structure Df where
  x : Str
  ps : List Str
  N : List Str
  params : Arguments
  body : List Stmt
  scope : Scope
def Df.dd (d : Df) : He.DefD := ⟨(d.x, none), d.x, d.x, d.params, d.body, d.scope, [], []⟩
def Df.tc (d : Df) : TC := ⟨d.N, d.scope, fun _ => true⟩
def Df.fn (G : GT) (n : Nat) (d : Df) : Fn := ⟨d.ps.length, d.N.length, d.body.map (trS G n d.tc)⟩
/-- what is known of the module -/
structure ModOk (K : PySem.W.Frag) (mg : Str → Option Value) (G : GT) (n : Nat) (fns : Nat → Option Fn) : Prop where
  defs : ∀ (x : Str) (j : Nat) (eff : Bool), G.fns.lookup x = some (j, eff) → ∃ (d : Df) (f : Addr) (fd : FuncData), d.x = x ∧ fns j = some (d.fn G n) ∧ FnScope d.N d.ps d.scope ∧ FunD K d.x d.x d.params d.body d.scope [] [] f fd ∧ mg x = some (.ref f) ∧ Binds K fd d.ps []
  free : ∀ x ∈ freeNames, mg x = none
  cons : ∀ (x : Str) (d : D), G.cons.lookup x = some d → ∃ u v, mg x = some u ∧ RelV v u ∧ d.plain = true ∧ Rep (fun _ => none) [] [] d v
  nofl : G.flds = []
  nomt : G.mths = []
  nocl : G.cls = []

section
variable {Pr : Program} {w : World} {K : PySem.W.Frag} {mg : Str → Option Value} {base : Heap} {G : GT} {n : Nat} {fns : Nat → Option Fn} {cl : Nat → Addr} {fl : Nat → Str} {P : Pg}
abbrev wd (cl : Nat → Addr) (fl : Nat → Str) (P : Pg) (fns : Nat → Option Fn) (k : Nat) : Wd := ⟨cl, fl, P, callN P fns k⟩
theorem start_env {H : Hp} {F M : Ads} {ds : List D} {vs : List V} {N : List Str} {np : Nat} (r : RepL H F M ds vs) (h : ds.length = np) : EnR H F M (ds.map some ++ List.replicate (N.length - np) none) (L2.start N vs) := by
  have hl := r.length
  refine ⟨?_, fun i d e => ?_⟩
  · unfold L2.start
    simp only [List.length_append, List.length_map, List.length_replicate]
    omega
  · unfold L2.start
    by_cases hi : i < ds.length
    · rw [List.getElem?_append_left (by simpa using hi), List.getElem?_map] at e
      rw [List.getElem?_append_left (by simpa [← hl] using hi), List.getElem?_map]
      obtain ⟨x, hx, e⟩ := Option.map_eq_some_iff.mp e
      simp only [Option.some.injEq] at e
      subst e
      obtain ⟨v, h1, h2⟩ := r.get hx
      exact ⟨v, by rw [h1]; rfl, h2⟩
    · rw [List.getElem?_append_right (by simpa using hi), List.getElem?_replicate] at e
      split at e <;> simp at e
/-- one level up -/
theorem level_up {k : Nat} {d : Df} {f : Addr} {fd : FuncData} {j : Nat} (mo : ModOk K mg G n fns) (hj : fns j = some (d.fn G n)) (S : FnScope d.N d.ps d.scope) (FD : FunD K d.x d.x d.params d.body d.scope [] [] f fd)
    (ih : ∀ (x : Str) (j : Nat) (eff : Bool), G.fns.lookup x = some (j, eff) → ∃ f fd ps, mg x = some (.ref f) ∧ PySem.W.keepIn K (.ref f) = true ∧ Binds K fd ps [] ∧ FnG Pr w K mg base k f fd ps (spD (wd cl fl P fns k) j)) :
    FnG Pr w K mg base (k + 1) f fd d.ps (spD (wd cl fl P fns (k + 1)) j) := by
  refine fnG_of FD S (fun vs H Q h => ?_) fun cdv A outer s H vs Q hg hr h => ?_
  · obtain ⟨F, M, ds, st, v, st', r, _, e, _⟩ := h
    simp only [callN, hj, runFn] at e
    split at e
    · rename_i hl
      rw [← r.length, hl]
      rfl
    · cases e
  · obtain ⟨F, M, ds, st, v, st', r, Sr, e, q⟩ := h
    simp only [callN, hj, runFn] at e
    split at e
    · rename_i hl
      have ok : XOk (cxOf CN Pr w K mg base d.N d.x d.scope f cdv A outer s H EN).nox d.tc := { n := rfl, sc := rfl, nd := S.nd, calm := rfl, fn := fun _ _ => rfl, xe := rfl, un := by have := hr.un; show (A.deeper _).units + 200 < _; omega, gd := hg, free := mo.free }
      have tk : TOk G (wd cl fl P fns k) k (cxOf CN Pr w K mg base d.N d.x d.scope f cdv A outer s H EN).nox := { room := hr, fns := ih, cons := mo.cons, nofl := mo.nofl, nomt := mo.nomt, nocl := mo.nocl }
      refine ⟨_, sSs d.body fun s _ => snd_S ok tk n s, ?_⟩
      generalize hx : exSs P (callN P fns k) (d.fn G n).body (ds.map some ++ List.replicate ((d.fn G n).ns - (d.fn G n).np) none) st = o at e
      cases o with
      | none => simp [fin] at e
      | some o =>
        refine ⟨F, M, _, st, o, start_env (N := d.N) r hl, Sr, hx, ?_⟩
        cases o with
        | nx env s1 =>
          simp only [fin, Option.some.injEq, Prod.mk.injEq] at e
          obtain ⟨rfl, rfl⟩ := e
          exact fun F' M' H' σ' l S' _ => q F' M' H' .non l S' (by simp only [Rep])
        | rt d1 s1 =>
          simp only [fin, Option.some.injEq, Prod.mk.injEq] at e
          obtain ⟨rfl, rfl⟩ := e
          exact fun F' M' H' v l S' r' => q F' M' H' v l S' r'
        | bk env s1 => simp [fin] at e
        | ct env s1 => simp [fin] at e
    · cases e
theorem levels (mo : ModOk K mg G n fns) : ∀ (k : Nat) (x : Str) (j : Nat) (eff : Bool), G.fns.lookup x = some (j, eff) → ∃ f fd ps, mg x = some (.ref f) ∧ PySem.W.keepIn K (.ref f) = true ∧ Binds K fd ps [] ∧ FnG Pr w K mg base k f fd ps (spD (wd cl fl P fns k) j)
  | 0, x, j, eff, h => by
    obtain ⟨d, f, fd, _, hj, S, FD, hm, hb⟩ := mo.defs x j eff h
    refine ⟨f, fd, d.ps, hm, FD.kp, hb, ⟨fun vs H Q h => ?_, fun A outer s H args us vs Q _ _ _ _ _ h => ?_⟩⟩
    · obtain ⟨F, M, ds, st, v, st', r, _, e, _⟩ := h
      cases e
    · obtain ⟨F, M, ds, st, v, st', r, _, e, _⟩ := h
      cases e
  | k + 1, x, j, eff, h => by
    obtain ⟨d, f, fd, _, hj, S, FD, hm, hb⟩ := mo.defs x j eff h
    exact ⟨f, fd, d.ps, hm, FD.kp, hb, level_up mo hj S FD (levels mo k)⟩
end

/-! ### the end -/
def lstO (o : Obj) : Bool := match o.cls with
  | .type c => decide (c = "list")
  | _ => false
def NoLs (K : PySem.W.Frag) : Prop := ∀ a o, K.lookup a = some o → lstO o = false
section
variable {P : Program} {w : World} {K : PySem.W.Frag} {mg mb : Str → Option Value} {k : Nat} {fa a : Addr} {fd : FuncData} {x : Str} {sp : Sq} {s₁ : Shared} {vs : List Value} {ns : List Int}
/-- the law's def is called: the script is a list of the caller's -/
theorem end_call (KX : K.In s₁.heap) (nl : NoLs K) (hns : s₁.heap.Ns mainGlobals mg) (hb : s₁.heap.Ns builtinsNs mb) (hbb : ∀ x : Str, x ≠ "__name__" → mb x = bootBuiltins x) (hlim : s₁.heap.NoLimit) (hg : s₁.gens = #[])
    (ha : s₁.heap.get? a = some { cls := .type "list", data := .seq vs.toArray }) (hi : IntsAre vs ns) (hl : ns.length ≤ sizeLine) (hr : Room k callerA)
    (F : ∀ base : Heap, FnG P w K mg base k fa fd [x] sp) (hbind : ∀ (s : Shared) (u : Value), BindsTo s fd ⟨[u], []⟩ [(x, u)])
    (hsp : ∀ H : Hp, Rd H a (.lst (ns.map V.int)) → sp [.ref a] H (fun v _ => v = .bl true)) :
    codeAny (model P w) callerA (.call (.ref fa) ⟨[.ref a], []⟩) (fun r s' => r = .ok (.ret (.bool true)) ∧ OldK s₁.heap s'.heap ∧ s'.os = s₁.os ∧ AllBare s'.gens) s₁ := by
  have rv := vals_ints hi
  generalize hH : (fun b => if b = a then some (HO.frz { cls := .type "list", data := .seq vs.toArray } (.lst (ns.map V.int))) else none : Hp) = H
  have Ha : H a = some (.frz { cls := .type "list", data := .seq vs.toArray } (.lst (ns.map V.int))) := by rw [← hH]; exact if_pos rfl
  have Hn : ∀ b, b ≠ a → H b = none := fun b z => by rw [← hH]; exact if_neg z
  have hK : K.lookup a = none := by
    cases q : K.lookup a with
    | none => rfl
    | some o =>
      have e := KX a o q
      rw [ha] at e
      cases e
      exact absurd (nl a _ q) (fun z => nomatch (show true = false from z))
  have hok : HOk P w H s₁.heap := fun b u z => by
    by_cases h : b = a
    · subst h
      rw [Ha] at z; cases z
      exact ⟨ha, by rw [List.length_map]; exact hl, vs, _, rv, ha⟩
    · rw [Hn b h] at z; cases z
  have dictN : ∀ {b : Addr} {o : Obj} {es : Array DictEntry} {ep : Nat}, s₁.heap.get? b = some o → o.data = .dict es ep → b ≠ a := fun {b o es ep} e d z => by
    subst z
    rw [ha] at e; cases e; cases d
  have nsH : ∀ {b : Addr} {m : Str → Option Value}, s₁.heap.Ns b m → (hidT s₁.heap H).Ns b m := fun {b m} ⟨o, es, ep, e, d, r⟩ => ⟨o, es, ep, hidT_get e (Hn _ (dictN e d)), d, r⟩
  have inH : K.In (hidT s₁.heap H) := fun b o e => hidT_get (KX b o e) (Hn b fun z => by rw [z, hK] at e; cases e)
  have mod : Mod K mg (hidT s₁.heap H) := ⟨inH, nsH hns, ⟨mb, nsH hb, hbb⟩, by obtain ⟨mc, h1, h2⟩ := hlim; exact ⟨mc, nsH h1, h2⟩⟩
  have e0 : Env0 P w K mg (hidT s₁.heap H) callerA [] s₁ H := { frames := rfl, mod := mod, bs := fun b o e => of_hidT e, bsz := Nat.le_of_eq (hidT_size _ _), funs := trivial, frf := fun b hb => absurd (show b ∈ ([] : List Addr) from hb) (by simp), hok := hok, bare := .of_eq hg }
  refine codeAny_mono ((F (hidT s₁.heap H)).run callerA [] s₁ H ⟨[.ref a], []⟩ [.ref a] [.ref a] _ rfl hr e0 (hbind s₁ (.ref a)) (.cons rfl .nil) (hsp H (.inr ⟨_, Ha⟩))) ?_
  intro r s' h
  match r, h with
  | .error e, h => exact h.elim
  | .ok .next, h => exact h.elim
  | .ok .brk, h => exact h.elim
  | .ok .cont, h => exact h.elim
  | .ok (.ret u), ⟨v, H', os, bare, un, hok', r', q⟩ =>
    have q' : v = .bl true := q
    subst q'
    obtain rfl : u = Value.bool true := r'
    refine ⟨rfl, OldK.of_keep fun b o e => ?_, os, bare⟩
    by_cases h : b = a
    · subst h
      have z2 := un.frzs b _ _ Ha
      obtain ⟨e2, _⟩ := hok' b _ z2
      rw [e] at ha; cases ha
      exact e2
    · exact un.keep b o e (Hn b h) (by intro z; exact absurd (show b ∈ ([] : List Addr) from z) (by simp)) (by simp)
end

/-! ### the head's facts -/
def noL (g : Addr → Option Obj) (as : List Addr) : List Addr := as.filter fun a => match g a with
  | some o => !lstO o
  | none => true
theorem lk_mem {β : Type} {a : Addr} {o : β} : ∀ {l : List (Addr × β)}, l.lookup a = some o → (a, o) ∈ l
  | [], h => by simp at h
  | (b, u) :: l, h => by
    simp only [List.lookup_cons] at h
    split at h
    · rename_i e
      simp only [Option.some.injEq] at h
      subst h
      rw [eq_of_beq e]
      exact List.mem_cons_self ..
    · exact List.mem_cons_of_mem _ (lk_mem h)
theorem frG_noL {g : Addr → Option Obj} {as : List Addr} : NoLs (He.frG g (noL g as)) := fun a o e => by
  have m := lk_mem e
  unfold He.frG at m
  obtain ⟨b, hb, e2⟩ := List.mem_filterMap.mp m
  obtain ⟨o2, h2, e3⟩ := Option.map_eq_some_iff.mp e2
  simp only [Prod.mk.injEq] at e3
  obtain ⟨rfl, rfl⟩ := e3
  have q := (List.mem_filter.mp hb).2
  rw [h2] at q
  simpa using q
def obsM (n : Nat) (fa : List He.Fa) (fn : List He.DefD) (g : Addr → Option Obj) : He.AlD := He.obsD fa fn (He.frG g (noL g (He.asD g n)))
def hookM (n : Nat) (fa : List He.Fa) (fn : List He.DefD) : PySem.W.Hook where
  α := He.AlD
  obs := fun s => obsM n fa fn s.heap.get?
  val := fun _ => He.valD fn
  says := fun _ h => ∃ K : PySem.W.Frag, K.In h ∧ He.SaysD fa fn K ∧ NoLs K
  of := fun _ _ e => ⟨_, He.frG_in, e, frG_noL⟩
  keeps := fun _ _ _ ⟨K, hK, c, z⟩ k => ⟨K, PySem.W.Frag.In.keeps hK k, c, z⟩
theorem obsM_eq {n : Nat} {fa : List He.Fa} {fn : List He.DefD} {g : Addr → Option Obj} {s : Shared} (h : ∀ a, g a = s.heap.get? a) : obsM n fa fn g = (hookM n fa fn).obs s := by
  have e : g = s.heap.get? := funext h
  subst e
  rfl
/-! ### a text as data -/
structure Mo where
  ds : List Df
  effs : List Bool
  cons : List (Str × D)
  muts : List (Nat × Nat)
  tups : List (Nat × Nat)
def Mo.fnl : List Df → List Bool → Nat → List (Str × Nat × Bool)
  | d :: ds, b :: bs, i => (d.x, i, b) :: Mo.fnl ds bs (i + 1)
  | _, _, _ => []
def Mo.G (m : Mo) : GT := ⟨Mo.fnl m.ds m.effs 0, m.cons, [], [], [], m.muts, m.tups⟩
def conF : Str × D → He.Fa
  | (x, .int i) => .int x i
  | (x, .str z) => .str x z
  | (x, _) => .code (x, none) x
def Mo.fa (m : Mo) : List He.Fa := m.ds.map (fun d => .glo d.x) ++ freeNames.map .free ++ m.cons.map conF
def Mo.fn (m : Mo) : List He.DefD := m.ds.map Df.dd
def conOk : D → Bool
  | .int _ => true | .str _ => true | _ => false
/-- all names differ, the scopes serve -/
def Mo.ok (m : Mo) : Bool := m.ds.all (fun d => C8.scC d.N d.ps d.scope) && m.cons.all (fun p => conOk p.2)
/-- every parameter is given -/
def BindQ (d : Df) : Prop := ∀ (kV doc pm : Value) (an : Option Addr) (cdv ct : Value) (us : List Value), us.length = d.ps.length → bindArgs (PySem.W.fnOf d.x d.x d.params d.body d.scope .none kV doc pm an cdv ct) ⟨us, []⟩ = pure (d.ps.zip us)
theorem fnl_at {x : Str} {j : Nat} {b : Bool} : ∀ {ds : List Df} {bs : List Bool} {i : Nat}, (Mo.fnl ds bs i).lookup x = some (j, b) → ∃ d, ds[j - i]? = some d ∧ d.x = x ∧ i ≤ j
  | [], _, _, h => by simp [Mo.fnl] at h
  | d :: ds, [], _, h => by simp [Mo.fnl] at h
  | d :: ds, e :: bs, i, h => by
    simp only [Mo.fnl, List.lookup_cons] at h
    split at h
    · rename_i hx
      simp only [Option.some.injEq, Prod.mk.injEq] at h
      obtain ⟨rfl, rfl⟩ := h
      exact ⟨d, by simp, (eq_of_beq hx).symm, Nat.le_refl _⟩
    · obtain ⟨d', h1, h2, h3⟩ := fnl_at h
      refine ⟨d', ?_, h2, by omega⟩
      have : j - i = (j - (i + 1)) + 1 := by omega
      rw [this]
      exact h1
section
variable {K : PySem.W.Frag} {h : Heap} {mg : Str → Option Value} {m : Mo} {n : Nat} {fns : Nat → Option Fn}
theorem modOk (KX : K.In h) (Gn : h.Ns mainGlobals mg) (c : He.SaysD m.fa m.fn K) (ok : m.ok = true) (hb : ∀ d ∈ m.ds, BindQ d) (hf : ∀ j d, m.ds[j]? = some d → fns j = some (d.fn m.G n)) : ModOk K mg m.G n fns := by
  unfold Mo.ok at ok
  simp only [Bool.and_eq_true, List.all_eq_true] at ok
  have glo : ∀ d ∈ m.ds, mg d.x = some (.ref (He.ga K d.x)) := fun d hd => He.glo_ok KX Gn (c.facts (f := .glo d.x) (by
    unfold Mo.fa
    simp only [List.mem_append, List.mem_map]
    exact .inl (.inl ⟨d, hd, rfl⟩)))
  refine ⟨fun x j eff hl => ?_, fun x hx => ?_, fun x d hd => ?_, rfl, rfl, rfl⟩
  · obtain ⟨d, h1, h2, _⟩ := fnl_at (i := 0) hl
    have hm : d ∈ m.ds := List.mem_of_getElem? h1
    have hdd : d.dd ∈ m.fn := List.mem_map.mpr ⟨d, hm, rfl⟩
    obtain ⟨fd, FD⟩ := c.defs hdd
    have FD' : FunD K d.x d.x d.params d.body d.scope [] [] (He.ga K d.x) fd := FD
    exact ⟨d, _, fd, h2, hf j d h1, C8.fnScope_by (ok.1 d hm), FD', by rw [← h2]; exact glo d hm, FD'.bindsN (hb d hm)⟩
  · exact He.free_ok KX Gn (c.facts (f := .free x) (by
      unfold Mo.fa
      simp only [List.mem_append, List.mem_map]
      exact .inl (.inr ⟨x, hx, rfl⟩)))
  · have hmem : (x, d) ∈ m.cons := PySem.mem_of_lookup hd
    have hc := ok.2 _ hmem
    have hfa : conF (x, d) ∈ m.fa := by
      unfold Mo.fa
      simp only [List.mem_append, List.mem_map]
      exact .inr ⟨(x, d), hmem, rfl⟩
    have hk := c.facts hfa
    cases d <;> simp only [conOk, Bool.false_eq_true] at hc
    · obtain ⟨t, ht⟩ := He.int_ok KX Gn hk
      exact ⟨_, .int _, ht, ⟨t, rfl⟩, rfl, by simp only [Rep]⟩
    · obtain ⟨t, ht⟩ := He.str_ok KX Gn hk
      exact ⟨_, .str _, ht, ⟨t, rfl⟩, rfl, by simp only [Rep]⟩
end
/-- the walk of a law, from what its text comes to -/
theorem pm_walk {l : PySem.W.OpenLaw} {nn k fu j : Nat} {q : Program} {loose : List Str} {XP : (Str → Option Value) → Heap → Prop} {d : DefRec} {m : Mo} {u : Nat} {x : Str} {eff : Bool} {fns : Nat → Option Fn} {P : Pg}
    (hn : l.most = some nn) (hn2 : nn ≤ sizeLine) (hdf : d.params.defaults = []) (hr : Room (k + 1) callerA) (ok : m.ok = true) (hb : ∀ d ∈ m.ds, BindQ d) (hf : ∀ j d, m.ds[j]? = some d → fns j = some (d.fn m.G fu))
    (hlk : m.G.fns.lookup d.name = some (j, eff)) (hps : (m.ds[j]?.map Df.ps) = some [x])
    (law : ∀ ns : List Int, ns.length ≤ nn → ∃ st, callN P fns (k + 1) j [.lst (ns.map D.int)] [] = some (.bl true, st)) :
    PySem.W.WalkO q loose XP (hookM u m.fa m.fn).says l.row.toRowW d [] (fun f vs => PySem.call f vs) := by
  refine Att.attach_call hn hdf fun w s₀ s₁ mg mb fa o pm cd doc a vs ns G Y ho hd hcd hmg hobj hints hlen hg => ?_
  obtain ⟨K, KX, c, nl⟩ := Y
  have mo := modOk (fns := fns) (n := fu) KX G.T.g c ok hb hf
  obtain ⟨dd, h1, h2, _⟩ := fnl_at (i := 0) hlk
  simp only [Nat.sub_zero] at h1
  have hm : dd ∈ m.ds := List.mem_of_getElem? h1
  have hdd : dd.dd ∈ m.fn := List.mem_map.mpr ⟨dd, hm, rfl⟩
  obtain ⟨fd, FD⟩ := c.defs hdd
  have FD' : FunD K dd.x dd.x dd.params dd.body dd.scope [] [] (He.ga K dd.x) fd := FD
  have hp : dd.ps = [x] := by rw [h1] at hps; simpa using hps
  have ok' := ok
  unfold Mo.ok at ok'
  simp only [Bool.and_eq_true, List.all_eq_true] at ok'
  have glo : mg dd.x = some (.ref (He.ga K dd.x)) := He.glo_ok KX G.T.g (c.facts (f := .glo dd.x) (by
    unfold Mo.fa
    simp only [List.mem_append, List.mem_map]
    exact .inl (.inl ⟨dd, hm, rfl⟩)))
  have efa : fa = He.ga K dd.x := by
    rw [h2, hmg] at glo
    cases glo
    rw [h2]
  have Fg : ∀ base : Heap, FnG l.prog w K mg base (k + 1) (He.ga K dd.x) fd [x] (spD (wd (fun _ => 0) (fun _ => "") P fns (k + 1)) j) := fun base => by
    rw [← hp]
    exact level_up mo (hf j dd h1) (C8.fnScope_by (ok'.1 dd hm)) FD' (levels mo k)
  rw [efa]
  refine end_call KX nl G.T.g G.T.b G.T.builtins G.T.nolimit hg hobj hints (Nat.le_trans hlen hn2) hr Fg (fun s u => ?_) fun H hS => ?_
  · have z := FD'.bindsA (hb dd hm) s [u] (by rw [hp]; rfl)
    rw [hp] at z
    exact z
  · obtain ⟨st, e⟩ := law ns hlen
    refine ⟨[], [], [.lst (ns.map D.int)], [], _, st, ?_, ⟨rfl, List.nodup_nil, fun a h => (nomatch h), fun a h => (nomatch h), fun n ob a h => by simp at h⟩, e, fun F' M' H' v l S' r => by simpa only [Rep] using r⟩
    refine .cons ?_ .nil
    simp only [Rep]
    refine ⟨a, ns.map V.int, rfl, hS, by simp, RepL.of_get (by simp) fun i d v h1 h2 => ?_⟩
    rw [List.getElem?_map] at h1 h2
    obtain ⟨z, hz, rfl⟩ := Option.map_eq_some_iff.mp h1
    rw [hz] at h2
    simp only [Option.map_some, Option.some.injEq] at h2
    subst h2
    simp only [Rep]
end Pm

/-! Pm, part C: plain laws of the helpers that the laws' texts share. -/
namespace Pm
open PySem (Str PyData)
/-! ### walks -/
theorem compL_ind {a : D → Env → Sto → Option (Env × Sto)} {c : Env → Sto → Option (Bool × Sto)} {e : Env → Sto → Rv} {src : Src} {env : Env} {N : Nat} (R : D → Prop) (I : Nat → Sto → Prop)
    (hc : ∀ i st, I i st → chk st src = true) : ∀ (xs : List D) (i : Nat) (st : Sto), i + xs.length ≤ N →
    (∀ x ∈ xs, ∀ i st, i < N → I i st → ∃ env1 d st3, a x env st = some (env1, st) ∧ c env1 st = some (true, st) ∧ e env1 st = some (d, st3) ∧ R d ∧ I (i + 1) st3) → I i st →
    ∃ ds st', compL a c e src env xs st = some (ds, st') ∧ ds.length = xs.length ∧ (∀ d ∈ ds, R d) ∧ I (i + xs.length) st'
  | [], i, st, _, _, hI => ⟨[], st, by simp [compL, hc i st hI], rfl, by simp, hI⟩
  | x :: xs, i, st, hN, h, hI => by
    rw [List.length_cons] at hN
    obtain ⟨env1, d, st3, h1, h2, h3, h4, h5⟩ := h x (List.mem_cons_self ..) i st (by omega) hI
    obtain ⟨ds, st', e1, e2, e3, e4⟩ := compL_ind (N := N) R I hc xs (i + 1) st3 (by omega) (fun x hx => h x (List.mem_cons_of_mem _ hx)) h5
    refine ⟨d :: ds, st', by simp [compL, hc i st hI, h1, h2, h3, e1], by simp [e2], ?_, by rw [List.length_cons, show i + (xs.length + 1) = i + 1 + xs.length by omega]; exact e4⟩
    intro y hy
    rcases List.mem_cons.mp hy with rfl | hy
    · exact h4
    · exact e3 y hy
/-- without effect -/
theorem compL_map {a : D → Env → Sto → Option (Env × Sto)} {c : Env → Sto → Option (Bool × Sto)} {e : Env → Sto → Rv} {src : Src} {env : Env} {st : Sto} (f : D → D) (hc : chk st src = true) : ∀ (xs : List D),
    (∀ x ∈ xs, ∃ env1, a x env st = some (env1, st) ∧ c env1 st = some (true, st) ∧ e env1 st = some (f x, st)) → compL a c e src env xs st = some (xs.map f, st)
  | [], _ => by simp [compL, hc]
  | x :: xs, h => by
    obtain ⟨env1, h1, h2, h3⟩ := h x (List.mem_cons_self ..)
    have ih := compL_map (a := a) (c := c) (e := e) (env := env) f hc xs fun x hx => h x (List.mem_cons_of_mem _ hx)
    simp [compL, hc, h1, h2, h3, ih]
/-- a loop that is not left -/
theorem forL_ind {a : D → Env → Sto → Option (Env × Sto)} {b : Env → Sto → Option Out} {src : Src} {N : Nat} (I : Nat → Env → Sto → Prop) (hc : ∀ i env st, I i env st → chk st src = true) : ∀ (xs : List D) (i : Nat) (env : Env) (st : Sto), i + xs.length ≤ N →
    (∀ x ∈ xs, ∀ i env st, i < N → I i env st → ∃ env1 st1 env2 st2, a x env st = some (env1, st1) ∧ b env1 st1 = some (.nx env2 st2) ∧ I (i + 1) env2 st2) → I i env st →
    ∃ env' st', forL a b src xs env st = some (.nx env' st') ∧ I (i + xs.length) env' st'
  | [], i, env, st, _, _, hI => ⟨env, st, by simp [forL, hc i env st hI], hI⟩
  | x :: xs, i, env, st, hN, h, hI => by
    rw [List.length_cons] at hN
    obtain ⟨env1, st1, env2, st2, h1, h2, h3⟩ := h x (List.mem_cons_self ..) i env st (by omega) hI
    obtain ⟨env', st', e1, e2⟩ := forL_ind (N := N) I hc xs (i + 1) env2 st2 (by omega) (fun x hx => h x (List.mem_cons_of_mem _ hx)) h3
    refine ⟨env', st', by simp [forL, hc i env st hI, h1, h2, e1], by rw [List.length_cons, show i + (xs.length + 1) = i + 1 + xs.length by omega]; exact e2⟩
theorem rangeL_length (lo c : Int) : ∀ n, (rangeL lo c n).length = n
  | 0 => rfl
  | n + 1 => by simp [rangeL, rangeL_length]
theorem rangeL_mem {x : D} : ∀ {n : Nat} {lo : Int}, x ∈ rangeL lo 1 n → ∃ i : Int, x = .int i ∧ lo ≤ i ∧ i < lo + n
  | 0, _, h => by simp [rangeL] at h
  | n + 1, lo, h => by
    simp only [rangeL, List.mem_cons] at h
    rcases h with rfl | h
    · exact ⟨lo, rfl, by omega, by omega⟩
    · obtain ⟨i, h1, h2, h3⟩ := rangeL_mem h
      exact ⟨i, h1, by omega, by omega⟩
/-! ### steps -/
theorem callN_at {P : Pg} {fns : Nat → Option Fn} {j k : Nat} {F : Fn} {ds : List D} {st : Sto} (h : fns j = some F) : callN P fns (k + 1) j ds st = runFn P (callN P fns k) F ds st := by simp [callN, h]
theorem ev_comp {P : Pg} {C : Call} {m : Bool} {own : List Nat} {t : Tg} {it : It} {cs : List Ts} {e : IE} {env : Env} {st st1 st2 : Sto} {xs ds : List D} {src : Src} (h1 : evIt P C it env st = some (xs, src, st1)) (h2 : xs.length < lim)
    (h3 : compL (asgT P C t) (evTs P C cs) (evE P C e) src (wipe env own) xs st1 = some (ds, st2)) : evE P C (.comp m own t it cs e) env st = some (newL m ds st2) := by
  rw [evE, h1]
  simp only
  rw [if_pos h2, h3]
theorem ex_for {P : Pg} {C : Call} {t : Tg} {it : It} {b : List IS} {env : Env} {st st1 : Sto} {xs : List D} {src : Src} {o : Option Out} (h1 : evIt P C it env st = some (xs, src, st1))
    (h3 : forL (asgT P C t) (exSs P C b) src xs env st1 = o) : exS P C (.for_ t it b) env st = o := by
  rw [exS, h1]
  exact h3
/-! ### draws -/
def pg0 : Pg := ⟨fun _ _ => none, fun _ => none⟩
def fMix : Fn := ⟨2, 3, [(.asg (.nm 2) (.bin .mod false (.bin .mul false (.bin .add false (.bin .add false (.bin .mod false (.var 0) (.cst (.int (2147483629)))) (.bin .mul false (.bin .mul false (.var 1) (.var 1)) (.cst (.int (7919))))) (.cst (.int (11)))) (.cst (.int (48271)))) (.cst (.int (2147483647))))),
  (.ret (.bin .mod false (.bin .mul false (.var 2) (.var 2)) (.cst (.int (1999999973)))))]⟩
def fLeft : Fn := ⟨2, 3, [(.asg (.nm 2) (.ife (.val (.cmp .lt (.var 1) (.bi .len false [(.var 0)]))) (.idx (.var 0) (.var 1)) (.cst (.int (0))))),
  (.ret (.lst true [(.bin .mul false (.bi .abs false [(.var 2)]) (.bi .int false [(.cmp .ge (.bi .abs false [(.var 2)]) (.bin .pow false (.cst (.int (10))) (.cst (.int (18)))))])), (.bin .add false (.var 2) (.bin .mul false (.cst (.int (1000003))) (.var 1))), (.cst (.int (0)))]))]⟩
def fPick (jm : Nat) : Fn := ⟨2, 3, [(.asg (.sub (.var 0) (.cst (.int (2)))) (.bin .add false (.idx (.var 0) (.cst (.int (2)))) (.cst (.int (1))))),
  (.ife (.val (.cmp .gt (.idx (.var 0) (.cst (.int (0)))) (.cst (.int (0))))) [(.asg (.nm 2) (.bin .mod false (.idx (.var 0) (.cst (.int (0)))) (.var 1))), (.asg (.sub (.var 0) (.cst (.int (0)))) (.bin .fdiv false (.idx (.var 0) (.cst (.int (0)))) (.var 1))), (.ret (.var 2))] []),
  (.ret (.bin .mod false (.bin .fdiv false (.call jm false [(.call jm false [(.idx (.var 0) (.cst (.int (1)))), (.idx (.var 0) (.cst (.int (2))))]), (.bin .add false (.idx (.var 0) (.cst (.int (2)))) (.cst (.int (64))))]) (.cst (.int (64)))) (.var 1)))]⟩
section
variable {fns : Nat → Option Fn}
def mixI (cell k : Int) : Int := let m := (cell % 2147483629 + k * k * 7919 + 11) * 48271 % 2147483647
  m * m % 1999999973
theorem mix_sp {j k : Nat} {cell n : Int} {st : Sto} (hj : fns j = some fMix) (h0 : 0 ≤ n) (h1 : n < 1000000000000) : callN pg0 fns (k + 1) j [.int cell, .int n] st = some (.int (mixI cell n), st) := by
  have b0 : ¬ (18446744073709551616 ≤ n.natAbs) := by omega
  have m1 : ∀ z : Int, 0 ≤ z % 2147483647 := fun z => by omega
  have m2 : ∀ z : Int, (z % 2147483647).natAbs < 18446744073709551616 := fun z => by omega
  rw [callN_at hj]
  simp [runFn, exSs, exS, evE, evEs, evT, evTs, evIt, asgT, asgTs, binop, arith, fin, index, dctOf, seqOf, lstOf, ixN, cmpop, tru, bicall, setItem, rng, srcOf, chk, wipe, intsD, blsD, isiOk, isTy, augop, Int.emod_nonneg, fMix, mixI, m2, show n.natAbs < 18446744073709551616 by omega]
theorem mixI_r (c n : Int) : 0 ≤ mixI c n ∧ mixI c n < 1999999973 := by
  unfold mixI
  simp only
  omega
theorem mix_pc {j k : Nat} {cell n : Int} {st : Sto} (hj : fns j = some fMix) (h0 : 0 ≤ n) (h1 : n < 1000000000000) : pcall (callN pg0 fns (k + 1)) j [.int cell, .int n] st = some (.int (mixI cell n)) := by
  simp [pcall, deref, D.noRef, mix_sp hj h0 h1]
/-- what is left to draw from: a list at r; n: how often was drawn at most -/
def Lf (st : Sto) (r n : Nat) : Prop := ∃ a b c : Int, st[r]? = some (.lst [.int a, .int b, .int c]) ∧ 0 ≤ c ∧ c ≤ n
/-- all but the object at r stand as they were -/
structure Fr (r : Nat) (st st' : Sto) : Prop where
  len : st.length ≤ st'.length
  same : ∀ i, i ≠ r → i < st.length → st'[i]? = st[i]?
theorem Fr.refl (r : Nat) (st : Sto) : Fr r st st := ⟨Nat.le_refl _, fun _ _ _ => rfl⟩
theorem Fr.trans {r : Nat} {a b c : Sto} (p : Fr r a b) (q : Fr r b c) : Fr r a c := ⟨Nat.le_trans p.len q.len, fun i h1 h2 => (q.same i h1 (Nat.lt_of_lt_of_le h2 p.len)).trans (p.same i h1 h2)⟩
theorem Fr.set (r : Nat) (st : Sto) (o : Ob) : Fr r st (st.set r o) := ⟨by simp, fun i h1 h2 => by rw [List.getElem?_set_ne (Ne.symm h1)]⟩
theorem Fr.push (r : Nat) (st : Sto) (o : Ob) : Fr r st (st ++ [o]) := ⟨by simp, fun i h1 h2 => by rw [List.getElem?_append_left h2]⟩
theorem Lf.lt {st : Sto} {r n : Nat} (h : Lf st r n) : r < st.length := by
  obtain ⟨a, b, c, h, _⟩ := h
  exact (List.getElem?_eq_some_iff.mp h).1
theorem Lf.mono {st : Sto} {r n m : Nat} (h : Lf st r n) (hn : n ≤ m) : Lf st r m := by
  obtain ⟨a, b, c, h, h1, h2⟩ := h
  exact ⟨a, b, c, h, h1, by omega⟩
/-- a draw below m -/
theorem pick_sp {j jm k r n : Nat} {m : Int} {st : Sto} (hj : fns j = some (fPick jm)) (hm : fns jm = some fMix) (L : Lf st r n) (hn : n < 1000000000) (h0 : 0 < m) (h1 : m < 1000000) :
    ∃ (d : Int) (st' : Sto), callN pg0 fns (k + 2) j [.ref r, .int m] st = some (.int d, st') ∧ 0 ≤ d ∧ d < m ∧ Lf st' r (n + 1) ∧ Fr r st st' ∧ st'.length = st.length := by
  obtain ⟨a, b, c, hs, hc0, hc1⟩ := L
  have hr : r < st.length := (List.getElem?_eq_some_iff.mp hs).1
  have g1 : ∀ o : Ob, (st.set r o)[r]? = some o := fun o => by rw [List.getElem?_set_self hr]
  by_cases ha : 0 < a
  · refine ⟨a % m, (st.set r (.lst [.int (a / m), .int b, .int (c + 1)])), ?_, Int.emod_nonneg _ (by omega), Int.emod_lt_of_pos a h0, ⟨_, _, _, g1 _, by omega, by omega⟩, Fr.set _ _ _, by simp⟩
    rw [callN_at hj]
    simp [runFn, exSs, exS, evE, evEs, evT, evTs, evIt, asgT, asgTs, binop, arith, fin, index, dctOf, seqOf, lstOf, ixN, cmpop, tru, bicall, setItem, rng, srcOf, chk, wipe, intsD, blsD, isiOk, isTy, augop, Int.emod_nonneg, fPick, hs, g1, ha, h0, show m < 1073741824 by omega]
  · refine ⟨mixI (mixI b (c + 1)) (c + 1 + 64) / 64 % m, (st.set r (.lst [.int a, .int b, .int (c + 1)])), ?_, Int.emod_nonneg _ (by omega), Int.emod_lt_of_pos _ h0, ⟨_, _, _, g1 _, by omega, by omega⟩, Fr.set _ _ _, by simp⟩
    have p1 : ∀ st : Sto, pcall (callN pg0 fns (k + 1)) jm [.int b, .int (c + 1)] st = some (.int (mixI b (c + 1))) := fun st => mix_pc hm (by omega) (by omega)
    have p2 : ∀ st : Sto, ∀ z, pcall (callN pg0 fns (k + 1)) jm [.int z, .int (c + 1 + 64)] st = some (.int (mixI z (c + 1 + 64))) := fun st z => mix_pc hm (by omega) (by omega)
    rw [callN_at hj]
    simp [runFn, exSs, exS, evE, evEs, evT, evTs, evIt, asgT, asgTs, binop, arith, fin, index, dctOf, seqOf, lstOf, ixN, cmpop, tru, bicall, setItem, rng, srcOf, chk, wipe, intsD, blsD, isiOk, isTy, augop, Int.emod_nonneg, fPick, hs, g1, ha, h0, show m < 1073741824 by omega, p1, p2]
theorem left_sp {j k : Nat} {xs : List Int} {n : Int} {st : Sto} (hj : fns j = some fLeft) (h0 : 0 ≤ n) (h1 : n < 1000000) (hl : xs.length < 1000) :
    ∃ a b : Int, callN pg0 fns (k + 1) j [.lst (xs.map D.int), .int n] st = some (.ref st.length, st ++ [.lst [.int a, .int b, .int 0]]) := by
  have fin1 : ∀ x : Int, ∃ a b : Int, a = (if x < 0 then -x else x) * (if (1000000000000000000 : Int) ≤ (if x < 0 then -x else x) then 1 else 0) ∧ b = x + 1000003 * n := fun x => ⟨_, _, rfl, rfl⟩
  rw [callN_at hj]
  by_cases h : n < xs.length
  · have hlt : n.toNat < xs.length := by omega
    obtain ⟨a, b, ea, eb⟩ := fin1 (xs[n.toNat]'hlt)
    refine ⟨a, b, ?_⟩
    by_cases hc : (1000000000000000000 : Int) ≤ (if xs[n.toNat]'hlt < 0 then -xs[n.toNat]'hlt else xs[n.toNat]'hlt)
    · rw [if_pos hc] at ea
      simp [runFn, exSs, exS, evE, evEs, evT, evTs, evIt, asgT, asgTs, binop, arith, fin, index, dctOf, seqOf, lstOf, ixN, cmpop, tru, bicall, setItem, rng, srcOf, chk, wipe, intsD, blsD, isiOk, isTy, augop, Int.emod_nonneg, fLeft, h, h0, newL, hc, ea, eb]
    · rw [if_neg hc] at ea
      simp [runFn, exSs, exS, evE, evEs, evT, evTs, evIt, asgT, asgTs, binop, arith, fin, index, dctOf, seqOf, lstOf, ixN, cmpop, tru, bicall, setItem, rng, srcOf, chk, wipe, intsD, blsD, isiOk, isTy, augop, Int.emod_nonneg, fLeft, h, h0, newL, hc, ea, eb]
  · obtain ⟨a, b, ea, eb⟩ := fin1 0
    refine ⟨a, b, ?_⟩
    simp [runFn, exSs, exS, evE, evEs, evT, evTs, evIt, asgT, asgTs, binop, arith, fin, index, dctOf, seqOf, lstOf, ixN, cmpop, tru, bicall, setItem, rng, srcOf, chk, wipe, intsD, blsD, isiOk, isTy, augop, Int.emod_nonneg, fLeft, h, h0, newL, ea, eb]
/-! ### the law's own comparison -/
def fSame (js : Nat) : Fn := ⟨2, 4, [(.ife (.val (.isi (.var 1) [.list, .tuple])) [(.ife (.or (.val (.cmp .ne (.isi (.var 0) [.list]) (.isi (.var 1) [.list]))) (.val (.cmp .ne (.isi (.var 0) [.tuple]) (.isi (.var 1) [.tuple])))) [(.ret (.cst (.bl false)))] []), (.ret (.and (.cmp .eq (.bi .len false [(.var 0)]) (.bi .len false [(.var 1)])) (.bi .all false [(.comp false [2, 3] (.tup [(.nm 2), (.nm 3)]) (.zip (.var 0) (.var 1)) [] (.call js false [(.var 2), (.var 3)]))])))] []),
  (.ife (.or (.val (.cmp .is (.var 1) (.cst (.non)))) (.val (.isi (.var 1) [.str]))) [(.ret (.and (.cmp .eq (.var 0) (.var 1)) (.cmp .eq (.isi (.var 0) [.str]) (.isi (.var 1) [.str]))))] []),
  (.ife (.val (.isi (.var 1) [.bool])) [(.ret (.and (.isi (.var 0) [.bool]) (.cmp .eq (.var 0) (.var 1))))] []),
  (.ret (.and (.isi (.var 0) [.int]) (.and (.not (.isi (.var 0) [.bool])) (.cmp .eq (.var 0) (.var 1)))))]⟩
/-- data that is told the same as itself, so deep -/
def smB : Nat → D → Bool
  | 0, .lst _ => false
  | 0, .tup _ => false
  | n + 1, .lst xs => xs.length < lim && xs.all (smB n)
  | n + 1, .tup xs => xs.length < lim && xs.all (smB n)
  | _, .str s => (D.str s).ok
  | _, .int _ => true
  | _, .bl _ => true
  | _, .non => true
  | _, _ => false
theorem noRefL_all : ∀ {xs : List D}, xs.all D.noRef = true → noRefL xs = true
  | [], _ => rfl
  | x :: xs, h => by
    simp only [List.all_cons, Bool.and_eq_true] at h
    simp only [noRefL, h.1, noRefL_all h.2, Bool.and_self]
theorem smB_noRef : ∀ (n : Nat) (d : D), smB n d = true → d.noRef = true
  | 0, d, h => by cases d <;> simp [smB] at h <;> rfl
  | n + 1, d, h => by
    cases d <;> simp only [smB, Bool.and_eq_true, List.all_eq_true] at h <;> first
      | rfl
      | exact noRefL_all (List.all_eq_true.mpr fun x hx => smB_noRef n x (h.2 x hx))
      | simp at h
theorem eqD_int (i j : Int) : eqD (.int i) (.int j) = some (i == j) := rfl
theorem eqD_bl (i j : Bool) : eqD (.bl i) (.bl j) = some (i == j) := by cases i <;> cases j <;> rfl
theorem eqD_non : eqD .non .non = some true := rfl
theorem eqD_str {i j : Str} (h : (D.str i).ok = true) (h' : (D.str j).ok = true) : eqD (.str i) (.str j) = some (i == j) := by
  simp only [eqD, h, h', Bool.and_self, if_true]
  rfl
theorem zipS_len : ∀ (xs ys : List D), xs.length = ys.length → (zipL xs ys).length = xs.length
  | [], [], _ => rfl
  | x :: xs, y :: ys, h => by simp only [zipL, List.length_cons] at h ⊢; rw [zipS_len xs ys (by omega)]
  | [], _ :: _, h => by simp at h
  | _ :: _, [], h => by simp at h
theorem zipL_same : ∀ {xs : List D} {z : D}, z ∈ zipL xs xs → ∃ x ∈ xs, z = .tup [x, x]
  | [], z, h => by simp [zipL] at h
  | x :: xs, z, h => by
    simp only [zipL, List.mem_cons] at h
    rcases h with rfl | h
    · exact ⟨x, List.mem_cons_self .., rfl⟩
    · obtain ⟨y, h1, h2⟩ := zipL_same h
      exact ⟨y, List.mem_cons_of_mem _ h1, h2⟩
theorem blsD_true : ∀ n, blsD (List.replicate n (.bl true)) = some (List.replicate n true)
  | 0 => rfl
  | n + 1 => by simp [List.replicate_succ, blsD, blsD_true n]
theorem map_const {α β : Type} (b : β) : ∀ l : List α, l.map (fun _ => b) = List.replicate l.length b
  | [] => rfl
  | a :: l => by simp [List.replicate_succ, map_const b l]
theorem same_sp {js : Nat} (hj : fns js = some (fSame js)) : ∀ (n : Nat) (d : D) (k : Nat), smB n d = true → callN pg0 fns (k + n + 1) js [d, d] [] = some (.bl true, [])
  | n, .int i, k, h => by
    rw [callN_at hj]
    simp [runFn, exSs, exS, evE, evEs, evT, evTs, evIt, asgT, asgTs, binop, arith, fin, index, dctOf, seqOf, lstOf, ixN, cmpop, tru, bicall, setItem, rng, srcOf, chk, wipe, intsD, blsD, isiOk, isTy, augop, Int.emod_nonneg, fSame, deref, D.noRef, eqD_int, eqD_bl]
  | n, .bl b, k, h => by
    rw [callN_at hj]
    simp [runFn, exSs, exS, evE, evEs, evT, evTs, evIt, asgT, asgTs, binop, arith, fin, index, dctOf, seqOf, lstOf, ixN, cmpop, tru, bicall, setItem, rng, srcOf, chk, wipe, intsD, blsD, isiOk, isTy, augop, Int.emod_nonneg, fSame, deref, D.noRef, eqD_int, eqD_bl]
  | n, .non, k, h => by
    rw [callN_at hj]
    simp [runFn, exSs, exS, evE, evEs, evT, evTs, evIt, asgT, asgTs, binop, arith, fin, index, dctOf, seqOf, lstOf, ixN, cmpop, tru, bicall, setItem, rng, srcOf, chk, wipe, intsD, blsD, isiOk, isTy, augop, Int.emod_nonneg, fSame, deref, D.noRef, eqD_non, eqD_bl]
  | n, .str s, k, h => by
    have h : (D.str s).ok = true := by cases n <;> exact h
    rw [callN_at hj]
    simp [runFn, exSs, exS, evE, evEs, evT, evTs, evIt, asgT, asgTs, binop, arith, fin, index, dctOf, seqOf, lstOf, ixN, cmpop, tru, bicall, setItem, rng, srcOf, chk, wipe, intsD, blsD, isiOk, isTy, augop, Int.emod_nonneg, fSame, deref, D.noRef, eqD_str h h, eqD_bl]
  | 0, .lst xs, k, h => by simp [smB] at h
  | 0, .tup xs, k, h => by simp [smB] at h
  | n + 1, .lst xs, k, h => by
    simp only [smB, Bool.and_eq_true, List.all_eq_true, decide_eq_true_eq] at h
    rw [callN_at hj]
    have hcomp : evE pg0 (callN pg0 fns (k + (n + 1))) (.comp false [2, 3] (.tup [(.nm 2), (.nm 3)]) (.zip (.var 0) (.var 1)) [] (.call js false [(.var 2), (.var 3)])) [some (.lst xs), some (.lst xs), none, none] [] = some (newL false ((zipL xs xs).map fun _ => .bl true) []) := by
      refine ev_comp (src := []) (xs := zipL xs xs) (st1 := []) (by simp [runFn, exSs, exS, evE, evEs, evT, evTs, evIt, asgT, asgTs, binop, arith, fin, index, dctOf, seqOf, lstOf, ixN, cmpop, tru, bicall, setItem, rng, srcOf, chk, wipe, intsD, blsD, isiOk, isTy, augop, Int.emod_nonneg, D.isTup]) (by rw [zipS_len _ _ rfl]; exact h.1) (compL_map (fun _ => .bl true) rfl _ fun z hz => ?_)
      obtain ⟨x, hx, rfl⟩ := zipL_same hz
      have nr := smB_noRef n x (h.2 x hx)
      have ih : callN pg0 fns (k + (n + 1)) js [x, x] [] = some (.bl true, []) := same_sp hj n x k (h.2 x hx)
      refine ⟨[some (.lst xs), some (.lst xs), some x, some x], by simp [runFn, exSs, exS, evE, evEs, evT, evTs, evIt, asgT, asgTs, binop, arith, fin, index, dctOf, seqOf, lstOf, ixN, cmpop, tru, bicall, setItem, rng, srcOf, chk, wipe, intsD, blsD, isiOk, isTy, augop, Int.emod_nonneg], by simp [runFn, exSs, exS, evE, evEs, evT, evTs, evIt, asgT, asgTs, binop, arith, fin, index, dctOf, seqOf, lstOf, ixN, cmpop, tru, bicall, setItem, rng, srcOf, chk, wipe, intsD, blsD, isiOk, isTy, augop, Int.emod_nonneg], ?_⟩
      simp [runFn, exSs, exS, evE, evEs, evT, evTs, evIt, asgT, asgTs, binop, arith, fin, index, dctOf, seqOf, lstOf, ixN, cmpop, tru, bicall, setItem, rng, srcOf, chk, wipe, intsD, blsD, isiOk, isTy, augop, Int.emod_nonneg, pcall, deref, nr, ih, D.noRef]
    simp [runFn, exSs, exS, evE, evEs, evT, evTs, evIt, asgT, asgTs, binop, arith, fin, index, dctOf, seqOf, lstOf, ixN, cmpop, tru, bicall, setItem, rng, srcOf, chk, wipe, intsD, blsD, isiOk, isTy, augop, Int.emod_nonneg, fSame, deref, D.noRef, eqD_int, eqD_bl, ↓hcomp, newL, map_const, zipS_len, blsD_true]
  | n + 1, .tup xs, k, h => by
    simp only [smB, Bool.and_eq_true, List.all_eq_true, decide_eq_true_eq] at h
    rw [callN_at hj]
    have hcomp : evE pg0 (callN pg0 fns (k + (n + 1))) (.comp false [2, 3] (.tup [(.nm 2), (.nm 3)]) (.zip (.var 0) (.var 1)) [] (.call js false [(.var 2), (.var 3)])) [some (.tup xs), some (.tup xs), none, none] [] = some (newL false ((zipL xs xs).map fun _ => .bl true) []) := by
      refine ev_comp (src := []) (xs := zipL xs xs) (st1 := []) (by simp [runFn, exSs, exS, evE, evEs, evT, evTs, evIt, asgT, asgTs, binop, arith, fin, index, dctOf, seqOf, lstOf, ixN, cmpop, tru, bicall, setItem, rng, srcOf, chk, wipe, intsD, blsD, isiOk, isTy, augop, Int.emod_nonneg, D.isTup]) (by rw [zipS_len _ _ rfl]; exact h.1) (compL_map (fun _ => .bl true) rfl _ fun z hz => ?_)
      obtain ⟨x, hx, rfl⟩ := zipL_same hz
      have nr := smB_noRef n x (h.2 x hx)
      have ih : callN pg0 fns (k + (n + 1)) js [x, x] [] = some (.bl true, []) := same_sp hj n x k (h.2 x hx)
      refine ⟨[some (.tup xs), some (.tup xs), some x, some x], by simp [runFn, exSs, exS, evE, evEs, evT, evTs, evIt, asgT, asgTs, binop, arith, fin, index, dctOf, seqOf, lstOf, ixN, cmpop, tru, bicall, setItem, rng, srcOf, chk, wipe, intsD, blsD, isiOk, isTy, augop, Int.emod_nonneg], by simp [runFn, exSs, exS, evE, evEs, evT, evTs, evIt, asgT, asgTs, binop, arith, fin, index, dctOf, seqOf, lstOf, ixN, cmpop, tru, bicall, setItem, rng, srcOf, chk, wipe, intsD, blsD, isiOk, isTy, augop, Int.emod_nonneg], ?_⟩
      simp [runFn, exSs, exS, evE, evEs, evT, evTs, evIt, asgT, asgTs, binop, arith, fin, index, dctOf, seqOf, lstOf, ixN, cmpop, tru, bicall, setItem, rng, srcOf, chk, wipe, intsD, blsD, isiOk, isTy, augop, Int.emod_nonneg, pcall, deref, nr, ih, D.noRef]
    simp [runFn, exSs, exS, evE, evEs, evT, evTs, evIt, asgT, asgTs, binop, arith, fin, index, dctOf, seqOf, lstOf, ixN, cmpop, tru, bicall, setItem, rng, srcOf, chk, wipe, intsD, blsD, isiOk, isTy, augop, Int.emod_nonneg, fSame, deref, D.noRef, eqD_int, eqD_bl, ↓hcomp, newL, map_const, zipS_len, blsD_true]
  | 0, .dct _ _ _, _, h => by simp [smB] at h
  | n + 1, .dct _ _ _, _, h => by simp [smB] at h
  | 0, .ref _, _, h => by simp [smB] at h
  | n + 1, .ref _, _, h => by simp [smB] at h
theorem same_pc {js n k : Nat} {d : D} {st : Sto} (hj : fns js = some (fSame js)) (h : smB n d = true) (hk : n < k) : pcall (callN pg0 fns k) js [d, d] st = some (.bl true) := by
  obtain ⟨m, rfl⟩ : ∃ m, k = m + n + 1 := ⟨k - n - 1, by omega⟩
  have nr := smB_noRef n d h
  simp [pcall, deref, nr, same_sp hj n d m h, D.noRef]
end
end Pm

namespace Pm.K03
open PySem (Str PyData)
/-- whole_size -/
def f0 : Fn := ⟨1, 1, [(.ret (.bin .add false (.cst (.int (1))) (.bi .len false [(.var 0)])))]⟩
/-- piece_size -/
def f1 : Fn := ⟨1, 1, [(.ret (.ife (.val (.cmp .eq (.idx (.var 0) (.cst (.int (0)))) (.cst (.str "keep")))) (.cst (.int (2))) (.bin .add false (.cst (.int (1))) (.bi .len false [(.idx (.var 0) (.cst (.int (1))))]))))]⟩
/-- change_size -/
def f2 : Fn := ⟨1, 2, [(.ret (.bin .add false (.cst (.int (1))) (.bi .sum false [(.comp false [1] (.nm 1) (.val (.var 0)) [] (.call 1 false [(.var 1)]))])))]⟩
/-- _law_mix -/
def f3 : Fn := ⟨2, 3, [(.asg (.nm 2) (.bin .mod false (.bin .mul false (.bin .add false (.bin .add false (.bin .mod false (.var 0) (.cst (.int (2147483629)))) (.bin .mul false (.bin .mul false (.var 1) (.var 1)) (.cst (.int (7919))))) (.cst (.int (11)))) (.cst (.int (48271)))) (.cst (.int (2147483647))))),
  (.ret (.bin .mod false (.bin .mul false (.var 2) (.var 2)) (.cst (.int (1999999973)))))]⟩
/-- _law_left -/
def f4 : Fn := ⟨2, 3, [(.asg (.nm 2) (.ife (.val (.cmp .lt (.var 1) (.bi .len false [(.var 0)]))) (.idx (.var 0) (.var 1)) (.cst (.int (0))))),
  (.ret (.lst true [(.bin .mul false (.bi .abs false [(.var 2)]) (.bi .int false [(.cmp .ge (.bi .abs false [(.var 2)]) (.bin .pow false (.cst (.int (10))) (.cst (.int (18)))))])), (.bin .add false (.var 2) (.bin .mul false (.cst (.int (1000003))) (.var 1))), (.cst (.int (0)))]))]⟩
/-- _law_pick -/
def f5 : Fn := ⟨2, 3, [(.asg (.sub (.var 0) (.cst (.int (2)))) (.bin .add false (.idx (.var 0) (.cst (.int (2)))) (.cst (.int (1))))),
  (.ife (.val (.cmp .gt (.idx (.var 0) (.cst (.int (0)))) (.cst (.int (0))))) [(.asg (.nm 2) (.bin .mod false (.idx (.var 0) (.cst (.int (0)))) (.var 1))), (.asg (.sub (.var 0) (.cst (.int (0)))) (.bin .fdiv false (.idx (.var 0) (.cst (.int (0)))) (.var 1))), (.ret (.var 2))] []),
  (.ret (.bin .mod false (.bin .fdiv false (.call 3 false [(.call 3 false [(.idx (.var 0) (.cst (.int (1)))), (.idx (.var 0) (.cst (.int (2))))]), (.bin .add false (.idx (.var 0) (.cst (.int (2)))) (.cst (.int (64))))]) (.cst (.int (64)))) (.var 1)))]⟩
/-- _law_same -/
def f6 : Fn := ⟨2, 4, [(.ife (.val (.isi (.var 1) [.list, .tuple])) [(.ife (.or (.val (.cmp .ne (.isi (.var 0) [.list]) (.isi (.var 1) [.list]))) (.val (.cmp .ne (.isi (.var 0) [.tuple]) (.isi (.var 1) [.tuple])))) [(.ret (.cst (.bl false)))] []), (.ret (.and (.cmp .eq (.bi .len false [(.var 0)]) (.bi .len false [(.var 1)])) (.bi .all false [(.comp false [2, 3] (.tup [(.nm 2), (.nm 3)]) (.zip (.var 0) (.var 1)) [] (.call 6 false [(.var 2), (.var 3)]))])))] []),
  (.ife (.or (.val (.cmp .is (.var 1) (.cst (.non)))) (.val (.isi (.var 1) [.str]))) [(.ret (.and (.cmp .eq (.var 0) (.var 1)) (.cmp .eq (.isi (.var 0) [.str]) (.isi (.var 1) [.str]))))] []),
  (.ife (.val (.isi (.var 1) [.bool])) [(.ret (.and (.isi (.var 0) [.bool]) (.cmp .eq (.var 0) (.var 1))))] []),
  (.ret (.and (.isi (.var 0) [.int]) (.and (.not (.isi (.var 0) [.bool])) (.cmp .eq (.var 0) (.var 1)))))]⟩
/-- _law_cells -/
def f7 : Fn := ⟨2, 4, [(.asg (.nm 2) (.idx (.lst false [(.cst (.int (2))), (.cst (.int (3))), (.cst (.int (1000))), (.cst (.int (5)))]) (.call 5 true [(.var 0), (.cst (.int (4)))]))),
  (.ret (.bi .tuple false [(.comp false [3] (.nm 3) (.rng [(.var 1)]) [] (.call 5 true [(.var 0), (.var 2)]))]))]⟩
/-- _law_thing -/
def f8 : Fn := ⟨1, 2, [(.asg (.nm 1) (.ife (.val (.cmp .gt (.call 5 true [(.var 0), (.cst (.int (8)))]) (.cst (.int (0))))) (.call 5 true [(.var 0), (.cst (.int (9)))]) (.bin .add false (.cst (.int (9))) (.call 5 true [(.var 0), (.cst (.int (16)))])))),
  (.ret (.call 7 true [(.var 0), (.var 1)]))]⟩
/-- _law_a_change -/
def f9 : Fn := ⟨2, 5, [(.asg (.nm 2) (.lst true [])),
  (.for_ (.nm 3) (.rng [(.call 5 true [(.var 0), (.cst (.int (6)))])]) [(.ife (.and (.val (.cmp .gt (.bi .len false [(.var 1)]) (.cst (.int (0))))) (.val (.cmp .gt (.call 5 true [(.var 0), (.cst (.int (3)))]) (.cst (.int (0)))))) [(.asg (.nm 4) (.call 5 true [(.var 0), (.bi .len false [(.var 1)])])), (.expr (.bm .append false (.var 2) [(.tup [(.cst (.str "keep")), (.var 4), (.bin .add false (.cst (.int (1))) (.call 5 true [(.var 0), (.bi .min false [(.bin .sub false (.bi .len false [(.var 1)]) (.var 4)), (.cst (.int (8)))])]))])]))] [(.expr (.bm .append false (.var 2) [(.tup [(.cst (.str "put")), (.call 7 true [(.var 0), (.bin .add false (.cst (.int (1))) (.call 5 true [(.var 0), (.cst (.int (3)))]))])])]))])]),
  (.ret (.bi .tuple false [(.var 2)]))]⟩
/-- _law_takes -/
def f10 : Fn := ⟨1, 2, [(.ret (.bin .add false (.cst (.int (1))) (.bi .sum false [(.comp false [1] (.nm 1) (.val (.var 0)) [] (.ife (.val (.cmp .eq (.idx (.var 1) (.cst (.int (0)))) (.cst (.str "keep")))) (.cst (.int (2))) (.bin .add false (.cst (.int (1))) (.bi .len false [(.idx (.var 1) (.cst (.int (1))))]))))])))]⟩
/-- law -/
def f11 : Fn := ⟨1, 8, [(.for_ (.nm 1) (.rng [(.bin .add false (.bi .min false [(.cst (.int (8))), (.bi .len false [(.var 0)])]) (.cst (.int (1))))]) [(.asg (.nm 2) (.call 4 true [(.var 0), (.var 1)])), (.for_ (.nm 3) (.rng [(.cst (.int (5)))]) [(.asg (.nm 4) (.call 8 true [(.var 2)])), (.asg (.nm 5) (.call 9 true [(.var 2), (.var 4)])), (.asg (.nm 6) (.lst false [(.bin .add false (.cst (.int (1))) (.bi .len false [(.var 4)])), (.call 10 false [(.var 5)])])), (.for_ (.nm 7) (.rng [(.cst (.int (2)))]) [(.ife (.not (.val (.call 6 false [(.lst false [(.call 0 false [(.var 4)]), (.call 2 false [(.var 5)])]), (.var 6)]))) [(.ret (.cst (.bl false)))] [])])])]),
  (.ret (.call 6 false [(.lst false [(.call 0 false [(.tup [])]), (.call 2 false [(.tup [])]), (.call 2 false [(.tup [(.tup [(.cst (.str "keep")), (.cst (.int (0))), (.cst (.int (24)))])])])]), (.lst false [(.cst (.int (1))), (.cst (.int (1))), (.cst (.int (3)))])]))]⟩
def fnl : List Fn := [f0, f1, f2, f3, f4, f5, f6, f7, f8, f9, f10, f11]
def fns (i : Nat) : Option Fn := fnl[i]?
theorem h3 : fns 3 = some fMix := rfl
theorem h4 : fns 4 = some fLeft := rfl
theorem h5 : fns 5 = some (fPick 3) := rfl
theorem h6 : fns 6 = some (fSame 6) := rfl
theorem h7 : fns 7 = some f7 := rfl
theorem h8 : fns 8 = some f8 := rfl
theorem h9 : fns 9 = some f9 := rfl
theorem h10 : fns 10 = some f10 := rfl
theorem h11 : fns 11 = some f11 := rfl
theorem h0 : fns 0 = some f0 := rfl
theorem h1 : fns 1 = some f1 := rfl
theorem h2 : fns 2 = some f2 := rfl
theorem pick {k r n : Nat} {m : Int} {st : Sto} (L : Lf st r n) (hn : n < 1000000000) (h0 : 0 < m) (h1 : m < 1000000) :
    ∃ (d : Int) (st' : Sto), callN pg0 fns (k + 2) 5 [.ref r, .int m] st = some (.int d, st') ∧ 0 ≤ d ∧ d < m ∧ Lf st' r (n + 1) ∧ Fr r st st' ∧ st'.length = st.length := pick_sp h5 h3 L hn h0 h1
def Sm (v : D) : Prop := ∃ i : Int, v = .int i
theorem cells {k r n : Nat} {m : Int} {st : Sto} (L : Lf st r n) (hn : n < 10000) (h0 : 0 ≤ m) (h1 : m < 1000) :
    ∃ (vs : List D) (st' : Sto), callN pg0 fns (k + 3) 7 [.ref r, .int m] st = some (.tup vs, st') ∧ noRefL vs = true ∧ vs.length = m.toNat ∧ Lf st' r (n + 1 + m.toNat) ∧ Fr r st st' ∧ st'.length = st.length := by
  obtain ⟨d, st1, e1, d0, d1, L1, F1, len1⟩ := pick (k := k) L (by omega) (show (0 : Int) < 4 by decide) (by decide)
  have hs1 : ∃ few : Int, exS pg0 (callN pg0 fns (k + 2)) (.asg (.nm 2) (.idx (.lst false [(.cst (.int (2))), (.cst (.int (3))), (.cst (.int (1000))), (.cst (.int (5)))]) (.call 5 true [(.var 0), (.cst (.int (4)))]))) [some (.ref r), some (.int m), none, none] st = some (.nx [some (.ref r), some (.int m), some (.int few), none] st1) ∧ 0 < few ∧ few < 1000000 := by
    have : d = 0 ∨ d = 1 ∨ d = 2 ∨ d = 3 := by omega
    rcases this with rfl | rfl | rfl | rfl
    · exact ⟨2, by simp [runFn, exSs, exS, evE, evEs, evT, evTs, evIt, asgT, asgTs, binop, arith, fin, index, dctOf, seqOf, lstOf, ixN, cmpop, tru, bicall, setItem, rng, srcOf, chk, wipe, intsD, blsD, isiOk, isTy, augop, Int.emod_nonneg, e1, newL], by decide, by decide⟩
    · exact ⟨3, by simp [runFn, exSs, exS, evE, evEs, evT, evTs, evIt, asgT, asgTs, binop, arith, fin, index, dctOf, seqOf, lstOf, ixN, cmpop, tru, bicall, setItem, rng, srcOf, chk, wipe, intsD, blsD, isiOk, isTy, augop, Int.emod_nonneg, e1, newL], by decide, by decide⟩
    · exact ⟨1000, by simp [runFn, exSs, exS, evE, evEs, evT, evTs, evIt, asgT, asgTs, binop, arith, fin, index, dctOf, seqOf, lstOf, ixN, cmpop, tru, bicall, setItem, rng, srcOf, chk, wipe, intsD, blsD, isiOk, isTy, augop, Int.emod_nonneg, e1, newL], by decide, by decide⟩
    · exact ⟨5, by simp [runFn, exSs, exS, evE, evEs, evT, evTs, evIt, asgT, asgTs, binop, arith, fin, index, dctOf, seqOf, lstOf, ixN, cmpop, tru, bicall, setItem, rng, srcOf, chk, wipe, intsD, blsD, isiOk, isTy, augop, Int.emod_nonneg, e1, newL], by decide, by decide⟩
  obtain ⟨few, hs1, f0, f1⟩ := hs1
  rw [callN_at h7]
  obtain ⟨ds, st2, e2, l2, nr, L2, F2, len2⟩ := compL_ind (N := m.toNat) (a := asgT pg0 (callN pg0 fns (k + 2)) (.nm 3)) (c := evTs pg0 (callN pg0 fns (k + 2)) []) (e := evE pg0 (callN pg0 fns (k + 2)) (.call 5 true [(.var 0), (.var 2)])) (src := []) (env := [some (.ref r), some (.int m), some (.int few), none]) (fun d => d.noRef = true)
    (fun i s => Lf s r (n + 1 + i) ∧ Fr r st1 s ∧ s.length = st1.length) (fun _ _ _ => rfl) (rangeL 0 1 m.toNat) 0 st1 (by rw [rangeL_length]; omega) (fun x hx i s hi ⟨hL, hF, hl⟩ => by
      obtain ⟨d, s', p1, _, _, p2, p3, p4⟩ := pick (k := k) hL (by omega) f0 f1
      exact ⟨[some (.ref r), some (.int m), some (.int few), some x], .int d, s', by simp [runFn, exSs, exS, evE, evEs, evT, evTs, evIt, asgT, asgTs, binop, arith, fin, index, dctOf, seqOf, lstOf, ixN, cmpop, tru, bicall, setItem, rng, srcOf, chk, wipe, intsD, blsD, isiOk, isTy, augop, Int.emod_nonneg], by simp [runFn, exSs, exS, evE, evEs, evT, evTs, evIt, asgT, asgTs, binop, arith, fin, index, dctOf, seqOf, lstOf, ixN, cmpop, tru, bicall, setItem, rng, srcOf, chk, wipe, intsD, blsD, isiOk, isTy, augop, Int.emod_nonneg], by simp [runFn, exSs, exS, evE, evEs, evT, evTs, evIt, asgT, asgTs, binop, arith, fin, index, dctOf, seqOf, lstOf, ixN, cmpop, tru, bicall, setItem, rng, srcOf, chk, wipe, intsD, blsD, isiOk, isTy, augop, Int.emod_nonneg, p1], rfl, p2, hF.trans p3, p4.trans hl⟩) ⟨L1, Fr.refl _ _, rfl⟩
  rw [rangeL_length] at l2 L2
  have hcomp : evE pg0 (callN pg0 fns (k + 2)) (.comp false [3] (.nm 3) (.rng [(.var 1)]) [] (.call 5 true [(.var 0), (.var 2)])) [some (.ref r), some (.int m), some (.int few), none] st1 = some (newL false ds st2) :=
    ev_comp (src := []) (xs := rangeL 0 1 m.toNat) (st1 := st1) (by simp [runFn, exSs, exS, evE, evEs, evT, evTs, evIt, asgT, asgTs, binop, arith, fin, index, dctOf, seqOf, lstOf, ixN, cmpop, tru, bicall, setItem, rng, srcOf, chk, wipe, intsD, blsD, isiOk, isTy, augop, Int.emod_nonneg, inR, show (-1000000 : Int) ≤ m by omega, show m ≤ 1000000 by omega]) (by rw [rangeL_length]; unfold lim; omega) e2
  refine ⟨ds, st2, ?_, noRefL_all (List.all_eq_true.mpr nr), l2, by simpa using L2, F1.trans F2, len2.trans len1⟩
  simp [runFn, exSs, exS, evE, evEs, evT, evTs, evIt, asgT, asgTs, binop, arith, fin, index, dctOf, seqOf, lstOf, ixN, cmpop, tru, bicall, setItem, rng, srcOf, chk, wipe, intsD, blsD, isiOk, isTy, augop, Int.emod_nonneg, f7, ↓hs1, ↓hcomp, newL]
theorem thing {k r n : Nat} {st : Sto} (L : Lf st r n) (hn : n < 5000) :
    ∃ (vs : List D) (st' : Sto), callN pg0 fns (k + 4) 8 [.ref r] st = some (.tup vs, st') ∧ noRefL vs = true ∧ vs.length ≤ 24 ∧ Lf st' r (n + 30) ∧ Fr r st st' ∧ st'.length = st.length := by
  obtain ⟨d, st1, e1, d0, d1, L1, F1, len1⟩ := pick (k := k + 1) L (by omega) (show (0 : Int) < 8 by decide) (by decide)
  have hs : ∃ (m : Int) (st2 : Sto), exS pg0 (callN pg0 fns (k + 3)) (.asg (.nm 1) (.ife (.val (.cmp .gt (.call 5 true [(.var 0), (.cst (.int (8)))]) (.cst (.int (0))))) (.call 5 true [(.var 0), (.cst (.int (9)))]) (.bin .add false (.cst (.int (9))) (.call 5 true [(.var 0), (.cst (.int (16)))])))) [some (.ref r), none] st = some (.nx [some (.ref r), some (.int m)] st2) ∧ 0 ≤ m ∧ m ≤ 24 ∧ Lf st2 r (n + 2) ∧ Fr r st st2 ∧ st2.length = st.length := by
    by_cases hd : 0 < d
    · obtain ⟨m, st2, e2, m0, m1, L2, F2, len2⟩ := pick (k := k + 1) L1 (by omega) (show (0 : Int) < 9 by decide) (by decide)
      exact ⟨m, st2, by simp [runFn, exSs, exS, evE, evEs, evT, evTs, evIt, asgT, asgTs, binop, arith, fin, index, dctOf, seqOf, lstOf, ixN, cmpop, tru, bicall, setItem, rng, srcOf, chk, wipe, intsD, blsD, isiOk, isTy, augop, Int.emod_nonneg, e1, hd, e2], m0, by omega, L2, F1.trans F2, len2.trans len1⟩
    · obtain ⟨m, st2, e2, m0, m1, L2, F2, len2⟩ := pick (k := k + 1) L1 (by omega) (show (0 : Int) < 16 by decide) (by decide)
      exact ⟨9 + m, st2, by simp [runFn, exSs, exS, evE, evEs, evT, evTs, evIt, asgT, asgTs, binop, arith, fin, index, dctOf, seqOf, lstOf, ixN, cmpop, tru, bicall, setItem, rng, srcOf, chk, wipe, intsD, blsD, isiOk, isTy, augop, Int.emod_nonneg, e1, hd, e2], by omega, by omega, L2, F1.trans F2, len2.trans len1⟩
  obtain ⟨m, st2, e2, m0, m1, L2, F2, len2⟩ := hs
  obtain ⟨vs, st3, e3, nr3, l3, L3, F3, len3⟩ := cells (k := k) L2 (by omega) m0 (by omega)
  refine ⟨vs, st3, ?_, nr3, by omega, L3.mono (by omega), F2.trans F3, len3.trans len2⟩
  rw [callN_at h8]
  simp [runFn, exSs, exS, evE, evEs, evT, evTs, evIt, asgT, asgTs, binop, arith, fin, index, dctOf, seqOf, lstOf, ixN, cmpop, tru, bicall, setItem, rng, srcOf, chk, wipe, intsD, blsD, isiOk, isTy, augop, Int.emod_nonneg, f8, ↓e2, e3]
/-- a piece of a change -/
def Pc (q : D) : Prop := (∃ a b : Int, q = .tup [.str "keep", .int a, .int b]) ∨ ∃ vs : List D, q = .tup [.str "put", .tup vs] ∧ vs.length < 1000 ∧ noRefL vs = true
def bTurn : List IS := [(.ife (.and (.val (.cmp .gt (.bi .len false [(.var 1)]) (.cst (.int (0))))) (.val (.cmp .gt (.call 5 true [(.var 0), (.cst (.int (3)))]) (.cst (.int (0)))))) [(.asg (.nm 4) (.call 5 true [(.var 0), (.bi .len false [(.var 1)])])), (.expr (.bm .append false (.var 2) [(.tup [(.cst (.str "keep")), (.var 4), (.bin .add false (.cst (.int (1))) (.call 5 true [(.var 0), (.bi .min false [(.bin .sub false (.bi .len false [(.var 1)]) (.var 4)), (.cst (.int (8)))])]))])]))] [(.expr (.bm .append false (.var 2) [(.tup [(.cst (.str "put")), (.call 7 true [(.var 0), (.bin .add false (.cst (.int (1))) (.call 5 true [(.var 0), (.cst (.int (3)))]))])])]))])]
theorem put_turn {k r p n : Nat} {st : Sto} {old ps : List D} {x3 : D} {e4 : Option D} (L : Lf st r n) (hn : n < 5000) (hp : st[p]? = some (.lst ps)) (hpr : p ≠ r) (hps : ps.length < 1000) :
    ∃ (q : D) (st' : Sto), exSs pg0 (callN pg0 fns (k + 3)) [(.expr (.bm .append false (.var 2) [(.tup [(.cst (.str "put")), (.call 7 true [(.var 0), (.bin .add false (.cst (.int (1))) (.call 5 true [(.var 0), (.cst (.int (3)))]))])])]))] [some (.ref r), some (.tup old), some (.ref p), some x3, e4] st = some (.nx [some (.ref r), some (.tup old), some (.ref p), some x3, e4] st') ∧ Pc q ∧ st'[p]? = some (.lst (ps ++ [q])) ∧ Lf st' r (n + 5) := by
  obtain ⟨d, st1, e1, d0, d1, L1, F1, len1⟩ := pick (k := k + 1) L (by omega) (show (0 : Int) < 3 by decide) (by decide)
  obtain ⟨vs, st2, e2, nr2, l2, L2, F2, len2⟩ := cells (k := k) (m := 1 + d) L1 (by omega) (by omega) (by omega)
  have hpl : p < st.length := (List.getElem?_eq_some_iff.mp hp).1
  have hp2 : st2[p]? = some (.lst ps) := by rw [(F1.trans F2).same p hpr hpl]; exact hp
  refine ⟨.tup [.str "put", .tup vs], st2.set p (.lst (ps ++ [.tup [.str "put", .tup vs]])), ?_, .inr ⟨vs, rfl, by omega, nr2⟩, by rw [List.getElem?_set_self (by omega)], ?_⟩
  · simp [runFn, exSs, exS, evE, evEs, evT, evTs, evIt, asgT, asgTs, binop, arith, fin, index, dctOf, seqOf, lstOf, ixN, cmpop, tru, bicall, setItem, rng, srcOf, chk, wipe, intsD, blsD, isiOk, isTy, augop, Int.emod_nonneg, e1, e2, rkind, hp, hp2, bmcall, show ps.length < lim by unfold lim; omega]
  · obtain ⟨a, b, c, h1, h2, h3⟩ := L2
    exact ⟨a, b, c, by rw [List.getElem?_set_ne hpr]; exact h1, h2, by omega⟩
theorem turn {k r p n : Nat} {st : Sto} {old ps : List D} {x3 : D} {e4 : Option D} (L : Lf st r n) (hn : n < 4000) (hp : st[p]? = some (.lst ps)) (hpr : p ≠ r) (hps : ps.length < 1000) (ho : old.length < 1000) :
    ∃ (q : D) (e4' : Option D) (st' : Sto), exSs pg0 (callN pg0 fns (k + 3)) bTurn [some (.ref r), some (.tup old), some (.ref p), some x3, e4] st = some (.nx [some (.ref r), some (.tup old), some (.ref p), some x3, e4'] st') ∧ Pc q ∧ st'[p]? = some (.lst (ps ++ [q])) ∧ Lf st' r (n + 6) := by
  have hpl : p < st.length := (List.getElem?_eq_some_iff.mp hp).1
  by_cases h0 : 0 < old.length
  · obtain ⟨d, st1, e1, d0, d1, L1, F1, len1⟩ := pick (k := k + 1) L (by omega) (show (0 : Int) < 3 by decide) (by decide)
    have hp1 : st1[p]? = some (.lst ps) := by rw [F1.same p hpr hpl]; exact hp
    by_cases hd : 0 < d
    · obtain ⟨at_, st2, e2, a0, a1, L2, F2, len2⟩ := pick (k := k + 1) (m := (old.length : Int)) L1 (by omega) (by omega) (by omega)
      obtain ⟨w, st3, e3, w0, w1, L3, F3, len3⟩ := pick (k := k + 1) (m := if 8 < (old.length : Int) - at_ then 8 else (old.length : Int) - at_) L2 (by omega) (by split <;> omega) (by split <;> omega)
      have hp2 : st2[p]? = some (.lst ps) := by rw [F2.same p hpr (by omega)]; exact hp1
      have hp3 : st3[p]? = some (.lst ps) := by rw [F3.same p hpr (by omega)]; exact hp2
      refine ⟨.tup [.str "keep", .int at_, .int (1 + w)], some (.int at_), st3.set p (.lst (ps ++ [.tup [.str "keep", .int at_, .int (1 + w)]])), ?_, .inl ⟨_, _, rfl⟩, by rw [List.getElem?_set_self (by omega)], ?_⟩
      · have h0' : (0 : Int) < (old.length : Int) := by omega
        simp [runFn, exSs, exS, evE, evEs, evT, evTs, evIt, asgT, asgTs, binop, arith, fin, index, dctOf, seqOf, lstOf, ixN, cmpop, tru, bicall, setItem, rng, srcOf, chk, wipe, intsD, blsD, isiOk, isTy, augop, Int.emod_nonneg, bTurn, e1, e2, e3, rkind, hp2, hp3, bmcall, h0, h0', hd, show ps.length < lim by unfold lim; omega]
      · obtain ⟨a, b, c, h1, h2, h3⟩ := L3
        exact ⟨a, b, c, by rw [List.getElem?_set_ne hpr]; exact h1, h2, by omega⟩
    · obtain ⟨q, st', e, hq, hp', L'⟩ := put_turn (k := k) (old := old) (x3 := x3) (e4 := e4) L1 (by omega) hp1 hpr hps
      refine ⟨q, e4, st', ?_, hq, hp', L'⟩
      simp [runFn, exSs, exS, evE, evEs, evT, evTs, evIt, asgT, asgTs, binop, arith, fin, index, dctOf, seqOf, lstOf, ixN, cmpop, tru, bicall, setItem, rng, srcOf, chk, wipe, intsD, blsD, isiOk, isTy, augop, Int.emod_nonneg, bTurn, e1, hd, h0, ↓e]
  · obtain ⟨q, st', e, hq, hp', L'⟩ := put_turn (k := k) (old := old) (x3 := x3) (e4 := e4) L (by omega) hp hpr hps
    refine ⟨q, e4, st', ?_, hq, hp', L'.mono (by omega)⟩
    simp [runFn, exSs, exS, evE, evEs, evT, evTs, evIt, asgT, asgTs, binop, arith, fin, index, dctOf, seqOf, lstOf, ixN, cmpop, tru, bicall, setItem, rng, srcOf, chk, wipe, intsD, blsD, isiOk, isTy, augop, Int.emod_nonneg, bTurn, h0, ↓e]
theorem change {k r n : Nat} {st : Sto} {old : List D} (L : Lf st r n) (hn : n < 3000) (ho : old.length < 1000) :
    ∃ (qs : List D) (st' : Sto), callN pg0 fns (k + 4) 9 [.ref r, .tup old] st = some (.tup qs, st') ∧ (∀ q ∈ qs, Pc q) ∧ qs.length < 1000 ∧ Lf st' r (n + 100) := by
  have hr := L.lt
  have L0 : Lf (st ++ [.lst []]) r n := by
    obtain ⟨a, b, c, h1, h2, h3⟩ := L
    exact ⟨a, b, c, by rw [List.getElem?_append_left hr]; exact h1, h2, h3⟩
  obtain ⟨m, st1, e1, m0, m1, L1, F1, len1⟩ := pick (k := k + 1) L0 (by omega) (show (0 : Int) < 6 by decide) (by decide)
  have hp1 : st1[st.length]? = some (.lst []) := by rw [F1.same _ (by omega) (by simp)]; simp
  have hit : evIt pg0 (callN pg0 fns (k + 3)) (.rng [(.call 5 true [(.var 0), (.cst (.int (6)))])]) [some (.ref r), some (.tup old), some (.ref st.length), none, none] (st ++ [.lst []]) = some (rangeL 0 1 m.toNat, [], st1) := by
    simp [runFn, exSs, exS, evE, evEs, evT, evTs, evIt, asgT, asgTs, binop, arith, fin, index, dctOf, seqOf, lstOf, ixN, cmpop, tru, bicall, setItem, rng, srcOf, chk, wipe, intsD, blsD, isiOk, isTy, augop, Int.emod_nonneg, e1, inR, show (-1000000 : Int) ≤ m by omega, show m ≤ 1000000 by omega]
  obtain ⟨env', st2, e2, h2⟩ := forL_ind (N := m.toNat) (a := asgT pg0 (callN pg0 fns (k + 3)) (.nm 3)) (b := exSs pg0 (callN pg0 fns (k + 3)) bTurn) (src := []) (fun i env s => ∃ x3 e4 ps, env = [some (.ref r), some (.tup old), some (.ref st.length), x3, e4] ∧ s[st.length]? = some (.lst ps) ∧ ps.length = i ∧ (∀ q ∈ ps, Pc q) ∧ Lf s r (n + 1 + 6 * i)) (fun _ _ _ _ => rfl)
    (rangeL 0 1 m.toNat) 0 [some (.ref r), some (.tup old), some (.ref st.length), none, none] st1 (by rw [rangeL_length]; omega) (fun x hx i env s hi ⟨x3, e4, ps, he, hp, hl, hq, hL⟩ => by
      subst he
      obtain ⟨q, e4', st', f1, f2, f3, f4⟩ := turn (k := k) (x3 := x) (e4 := e4) hL (by omega) hp (by omega) (by omega) ho
      refine ⟨[some (.ref r), some (.tup old), some (.ref st.length), some x, e4], s, _, st', by simp [runFn, exSs, exS, evE, evEs, evT, evTs, evIt, asgT, asgTs, binop, arith, fin, index, dctOf, seqOf, lstOf, ixN, cmpop, tru, bicall, setItem, rng, srcOf, chk, wipe, intsD, blsD, isiOk, isTy, augop, Int.emod_nonneg], f1, some x, e4', ps ++ [q], rfl, f3, by simp [hl], ?_, f4.mono (by omega)⟩
      intro z hz
      rcases List.mem_append.mp hz with hz | hz
      · exact hq z hz
      · obtain rfl := List.mem_singleton.mp hz
        exact f2) ⟨none, none, [], rfl, hp1, rfl, by simp, L1⟩
  obtain ⟨x3, e4, ps, he, hp, hl, hq, hL⟩ := h2
  rw [rangeL_length] at hl hL
  subst he
  refine ⟨ps, st2, ?_, hq, by omega, hL.mono (by omega)⟩
  have hfor : exS pg0 (callN pg0 fns (k + 3)) (.for_ (.nm 3) (.rng [(.call 5 true [(.var 0), (.cst (.int (6)))])]) bTurn) [some (.ref r), some (.tup old), some (.ref st.length), none, none] (st ++ [.lst []]) = _ := ex_for hit e2
  unfold bTurn at hfor
  rw [callN_at h9]
  simp [runFn, exSs, exS, evE, evEs, evT, evTs, evIt, asgT, asgTs, binop, arith, fin, index, dctOf, seqOf, lstOf, ixN, cmpop, tru, bicall, setItem, rng, srcOf, chk, wipe, intsD, blsD, isiOk, isTy, augop, Int.emod_nonneg, f9, newL, ↓hfor, hp]
/-- what a piece takes -/
def tk : D → Int
  | .tup [_, .tup vs] => 1 + vs.length
  | _ => 2
theorem okStr : (D.str ("keep" : Str)).ok = true ∧ (D.str ("put" : Str)).ok = true := by decide +kernel
theorem sumD : ∀ (qs : List D), intsD (qs.map fun q => .int (tk q)) = some (qs.map tk)
  | [] => rfl
  | q :: qs => by simp [intsD, sumD qs]
theorem neq : ((("put" : Str) == ("keep" : Str)) = false) := by decide +kernel
theorem takes {k : Nat} {qs : List D} {st : Sto} (hq : ∀ q ∈ qs, Pc q) (hl : qs.length < 1000) : callN pg0 fns (k + 1) 10 [.tup qs] st = some (.int (1 + (qs.map tk).sum), st) := by
  have hcomp : evE pg0 (callN pg0 fns k) (.comp false [1] (.nm 1) (.val (.var 0)) [] (.ife (.val (.cmp .eq (.idx (.var 1) (.cst (.int (0)))) (.cst (.str "keep")))) (.cst (.int (2))) (.bin .add false (.cst (.int (1))) (.bi .len false [(.idx (.var 1) (.cst (.int (1))))])))) [some (.tup qs), none] st = some (newL false (qs.map fun q => .int (tk q)) st) := by
    refine ev_comp (src := []) (xs := qs) (st1 := st) (by simp [runFn, exSs, exS, evE, evEs, evT, evTs, evIt, asgT, asgTs, binop, arith, fin, index, dctOf, seqOf, lstOf, ixN, cmpop, tru, bicall, setItem, rng, srcOf, chk, wipe, intsD, blsD, isiOk, isTy, augop, Int.emod_nonneg]) (by unfold lim; omega) (compL_map _ rfl _ fun q hq' => ⟨[some (.tup qs), some q], by simp [runFn, exSs, exS, evE, evEs, evT, evTs, evIt, asgT, asgTs, binop, arith, fin, index, dctOf, seqOf, lstOf, ixN, cmpop, tru, bicall, setItem, rng, srcOf, chk, wipe, intsD, blsD, isiOk, isTy, augop, Int.emod_nonneg], by simp [runFn, exSs, exS, evE, evEs, evT, evTs, evIt, asgT, asgTs, binop, arith, fin, index, dctOf, seqOf, lstOf, ixN, cmpop, tru, bicall, setItem, rng, srcOf, chk, wipe, intsD, blsD, isiOk, isTy, augop, Int.emod_nonneg], ?_⟩)
    rcases hq q hq' with ⟨a, b, rfl⟩ | ⟨vs, rfl, _⟩
    · simp [runFn, exSs, exS, evE, evEs, evT, evTs, evIt, asgT, asgTs, binop, arith, fin, index, dctOf, seqOf, lstOf, ixN, cmpop, tru, bicall, setItem, rng, srcOf, chk, wipe, intsD, blsD, isiOk, isTy, augop, Int.emod_nonneg, deref, D.noRef, eqD_str okStr.1 okStr.1, tk]
    · simp [runFn, exSs, exS, evE, evEs, evT, evTs, evIt, asgT, asgTs, binop, arith, fin, index, dctOf, seqOf, lstOf, ixN, cmpop, tru, bicall, setItem, rng, srcOf, chk, wipe, intsD, blsD, isiOk, isTy, augop, Int.emod_nonneg, deref, D.noRef, eqD_str okStr.2 okStr.1, tk, neq]
  rw [callN_at h10]
  simp [runFn, exSs, exS, evE, evEs, evT, evTs, evIt, asgT, asgTs, binop, arith, fin, index, dctOf, seqOf, lstOf, ixN, cmpop, tru, bicall, setItem, rng, srcOf, chk, wipe, intsD, blsD, isiOk, isTy, augop, Int.emod_nonneg, f10, ↓hcomp, newL, sumD]
theorem Pc.nr {q : D} (h : Pc q) : q.noRef = true := by
  rcases h with ⟨a, b, rfl⟩ | ⟨vs, rfl, _, h⟩
  · rfl
  · simp [D.noRef, noRefL, h]
theorem psize {k : Nat} {q : D} {st : Sto} (hq : Pc q) : pcall (callN pg0 fns (k + 1)) 1 [q] st = some (.int (tk q)) := by
  have nr := hq.nr
  rcases hq with ⟨a, b, rfl⟩ | ⟨vs, rfl, _⟩
  · simp only [pcall, List.mapM_cons, List.mapM_nil, deref, nr]
    rw [show callN pg0 fns (k + 1) 1 = runFn pg0 (callN pg0 fns k) f1 from by funext ds st; exact callN_at h1]
    simp [runFn, exSs, exS, evE, evEs, evT, evTs, evIt, asgT, asgTs, binop, arith, fin, index, dctOf, seqOf, lstOf, ixN, cmpop, tru, bicall, setItem, rng, srcOf, chk, wipe, intsD, blsD, isiOk, isTy, augop, Int.emod_nonneg, f1, deref, D.noRef, D.noLst, eqD_str okStr.1 okStr.1, tk]
  · simp only [pcall, List.mapM_cons, List.mapM_nil, deref, nr]
    rw [show callN pg0 fns (k + 1) 1 = runFn pg0 (callN pg0 fns k) f1 from by funext ds st; exact callN_at h1]
    simp [runFn, exSs, exS, evE, evEs, evT, evTs, evIt, asgT, asgTs, binop, arith, fin, index, dctOf, seqOf, lstOf, ixN, cmpop, tru, bicall, setItem, rng, srcOf, chk, wipe, intsD, blsD, isiOk, isTy, augop, Int.emod_nonneg, f1, deref, D.noRef, D.noLst, eqD_str okStr.2 okStr.1, tk, neq]
theorem tupNr {vs : List D} (h : noRefL vs = true) : (D.tup vs).noRef = true := h
theorem pcsNr : ∀ {qs : List D}, (∀ q ∈ qs, Pc q) → noRefL qs = true := fun h => noRefL_all (List.all_eq_true.mpr fun q hq => (h q hq).nr)
/-- a call of a pure def by what it comes to -/
theorem pcall_of {C : Call} {f : Nat} {ds : List D} {v : D} {st : Sto} (hn : ds.all D.noRef = true) (h : C f ds [] = some (v, [])) (hv : v.noRef = true) : pcall C f ds st = some v := by
  have hm : ∀ ds : List D, ds.all D.noRef = true → ds.mapM (deref st) = some ds := by
    intro ds
    induction ds with
    | nil => intro _; rfl
    | cons d ds ih =>
      intro hn
      simp only [List.all_cons, Bool.and_eq_true] at hn
      simp [deref, hn.1, ih hn.2]
  simp [pcall, hm ds hn, h, deref, hv, hn]
theorem csize {k : Nat} {qs : List D} {st : Sto} (hq : ∀ q ∈ qs, Pc q) (hl : qs.length < 1000) : pcall (callN pg0 fns (k + 2)) 2 [.tup qs] st = some (.int (1 + (qs.map tk).sum)) := by
  refine pcall_of (by simp [D.noRef, pcsNr hq]) ?_ rfl
  have hcomp : evE pg0 (callN pg0 fns (k + 1)) (.comp false [1] (.nm 1) (.val (.var 0)) [] (.call 1 false [(.var 1)])) [some (.tup qs), none] [] = some (newL false (qs.map fun q => .int (tk q)) []) := by
    refine ev_comp (src := []) (xs := qs) (st1 := []) (by simp [runFn, exSs, exS, evE, evEs, evT, evTs, evIt, asgT, asgTs, binop, arith, fin, index, dctOf, seqOf, lstOf, ixN, cmpop, tru, bicall, setItem, rng, srcOf, chk, wipe, intsD, blsD, isiOk, isTy, augop, Int.emod_nonneg]) (by unfold lim; omega) (compL_map _ rfl _ fun q hq' => ⟨[some (.tup qs), some q], by simp [runFn, exSs, exS, evE, evEs, evT, evTs, evIt, asgT, asgTs, binop, arith, fin, index, dctOf, seqOf, lstOf, ixN, cmpop, tru, bicall, setItem, rng, srcOf, chk, wipe, intsD, blsD, isiOk, isTy, augop, Int.emod_nonneg], by simp [runFn, exSs, exS, evE, evEs, evT, evTs, evIt, asgT, asgTs, binop, arith, fin, index, dctOf, seqOf, lstOf, ixN, cmpop, tru, bicall, setItem, rng, srcOf, chk, wipe, intsD, blsD, isiOk, isTy, augop, Int.emod_nonneg], by simp [runFn, exSs, exS, evE, evEs, evT, evTs, evIt, asgT, asgTs, binop, arith, fin, index, dctOf, seqOf, lstOf, ixN, cmpop, tru, bicall, setItem, rng, srcOf, chk, wipe, intsD, blsD, isiOk, isTy, augop, Int.emod_nonneg, psize (hq q hq')]⟩)
  rw [callN_at h2]
  simp [runFn, exSs, exS, evE, evEs, evT, evTs, evIt, asgT, asgTs, binop, arith, fin, index, dctOf, seqOf, lstOf, ixN, cmpop, tru, bicall, setItem, rng, srcOf, chk, wipe, intsD, blsD, isiOk, isTy, augop, Int.emod_nonneg, f2, ↓hcomp, newL, sumD]
theorem ptakes {k : Nat} {qs : List D} {st : Sto} (hq : ∀ q ∈ qs, Pc q) (hl : qs.length < 1000) : pcall (callN pg0 fns (k + 1)) 10 [.tup qs] st = some (.int (1 + (qs.map tk).sum)) :=
  pcall_of (by simp [D.noRef, pcsNr hq]) (takes hq hl) rfl
theorem wsize {k : Nat} {vs : List D} {st : Sto} (h : noRefL vs = true) : pcall (callN pg0 fns (k + 1)) 0 [.tup vs] st = some (.int (1 + vs.length)) := by
  refine pcall_of (by simp [D.noRef, h]) ?_ rfl
  rw [callN_at h0]
  simp [runFn, exSs, exS, evE, evEs, evT, evTs, evIt, asgT, asgTs, binop, arith, fin, index, dctOf, seqOf, lstOf, ixN, cmpop, tru, bicall, setItem, rng, srcOf, chk, wipe, intsD, blsD, isiOk, isTy, augop, Int.emod_nonneg, f0]
def bAgain : List IS := [(.ife (.not (.val (.call 6 false [(.lst false [(.call 0 false [(.var 4)]), (.call 2 false [(.var 5)])]), (.var 6)]))) [(.ret (.cst (.bl false)))] [])]
def bOne : List IS := [(.asg (.nm 4) (.call 8 true [(.var 2)])), (.asg (.nm 5) (.call 9 true [(.var 2), (.var 4)])), (.asg (.nm 6) (.lst false [(.bin .add false (.cst (.int (1))) (.bi .len false [(.var 4)])), (.call 10 false [(.var 5)])])), (.for_ (.nm 7) (.rng [(.cst (.int (2)))]) bAgain)]
def bAll : List IS := [(.asg (.nm 2) (.call 4 true [(.var 0), (.var 1)])), (.for_ (.nm 3) (.rng [(.cst (.int (5)))]) bOne)]
theorem one {k r n : Nat} {st : Sto} {s x1 x3 : D} {e4 e5 e6 e7 : Option D} (L : Lf st r n) (hn : n < 1000) :
    ∃ (g4 g5 g6 g7 : Option D) (st' : Sto), exSs pg0 (callN pg0 fns (k + 4)) bOne [some s, some x1, some (.ref r), some x3, e4, e5, e6, e7] st = some (.nx [some s, some x1, some (.ref r), some x3, g4, g5, g6, g7] st') ∧ Lf st' r (n + 130) := by
  obtain ⟨vs, st1, t1, nr, l1, L1, F1, len1⟩ := thing (k := k) L (by omega)
  obtain ⟨qs, st2, t2, hq, l2, L2⟩ := change (k := k) L1 (by omega) (show vs.length < 1000 by omega)
  obtain ⟨env', st3, t3, e7', rfl, rfl⟩ := forL_ind (N := 2) (a := asgT pg0 (callN pg0 fns (k + 4)) (.nm 7)) (b := exSs pg0 (callN pg0 fns (k + 4)) bAgain) (src := [])
    (fun i env s' => ∃ e7, env = [some s, some x1, some (.ref r), some x3, some (.tup vs), some (.tup qs), some (.lst [.int (1 + vs.length), .int (1 + (qs.map tk).sum)]), e7] ∧ s' = st2) (fun _ _ _ _ => rfl)
    [.int 0, .int 1] 0 [some s, some x1, some (.ref r), some x3, some (.tup vs), some (.tup qs), some (.lst [.int (1 + vs.length), .int (1 + (qs.map tk).sum)]), e7] st2 (by decide) (fun x hx i env s' hi ⟨e7, he, hs⟩ => by
      subst he; subst hs
      have p1 := wsize (k := k + 3) (st := s') nr
      have p2 := csize (k := k + 2) (st := s') hq l2
      have p3 := same_pc (k := k + 4) (n := 1) (d := .lst [.int (1 + vs.length), .int (1 + (qs.map tk).sum)]) (st := s') h6 (by rfl) (by omega)
      exact ⟨[some s, some x1, some (.ref r), some x3, some (.tup vs), some (.tup qs), some (.lst [.int (1 + vs.length), .int (1 + (qs.map tk).sum)]), some x], s', _, s', by simp [runFn, exSs, exS, evE, evEs, evT, evTs, evIt, asgT, asgTs, binop, arith, fin, index, dctOf, seqOf, lstOf, ixN, cmpop, tru, bicall, setItem, rng, srcOf, chk, wipe, intsD, blsD, isiOk, isTy, augop, Int.emod_nonneg], by simp [runFn, exSs, exS, evE, evEs, evT, evTs, evIt, asgT, asgTs, binop, arith, fin, index, dctOf, seqOf, lstOf, ixN, cmpop, tru, bicall, setItem, rng, srcOf, chk, wipe, intsD, blsD, isiOk, isTy, augop, Int.emod_nonneg, bAgain, newL, p1, p2, p3], some x, rfl, rfl⟩) ⟨e7, rfl, rfl⟩
  refine ⟨some (.tup vs), some (.tup qs), some (.lst [.int (1 + vs.length), .int (1 + (qs.map tk).sum)]), e7', st3, ?_, L2.mono (by omega)⟩
  · have p4 := ptakes (k := k + 3) (st := st3) hq l2
    have hfor := ex_for (P := pg0) (C := callN pg0 fns (k + 4)) (t := .nm 7) (it := .rng [(.cst (.int (2)))]) (b := bAgain) (env := [some s, some x1, some (.ref r), some x3, some (.tup vs), some (.tup qs), some (.lst [.int (1 + vs.length), .int (1 + (qs.map tk).sum)]), e7]) (st := st3) (src := []) (xs := [.int 0, .int 1]) (by simp [runFn, exSs, exS, evE, evEs, evT, evTs, evIt, asgT, asgTs, binop, arith, fin, index, dctOf, seqOf, lstOf, ixN, cmpop, tru, bicall, setItem, rng, srcOf, chk, wipe, intsD, blsD, isiOk, isTy, augop, Int.emod_nonneg, inR, rangeL]) t3
    simp [runFn, exSs, exS, evE, evEs, evT, evTs, evIt, asgT, asgTs, binop, arith, fin, index, dctOf, seqOf, lstOf, ixN, cmpop, tru, bicall, setItem, rng, srcOf, chk, wipe, intsD, blsD, isiOk, isTy, augop, Int.emod_nonneg, bOne, t1, t2, newL, p4, ↓hfor]
theorem all {k : Nat} {xs : List Int} {st : Sto} {n : Int} {e2 e3 e4 e5 e6 e7 : Option D} (h0 : 0 ≤ n) (h1 : n < 1000000) (hl : xs.length < 1000) :
    ∃ (g2 g3 g4 g5 g6 g7 : Option D) (st' : Sto), exSs pg0 (callN pg0 fns (k + 4)) bAll [some (.lst (xs.map D.int)), some (.int n), e2, e3, e4, e5, e6, e7] st = some (.nx [some (.lst (xs.map D.int)), some (.int n), g2, g3, g4, g5, g6, g7] st') := by
  obtain ⟨a, b, e1⟩ := left_sp (k := k + 3) (st := st) h4 h0 h1 hl
  have L0 : Lf (st ++ [.lst [.int a, .int b, .int 0]]) st.length 0 := ⟨a, b, 0, by simp, by omega, by omega⟩
  obtain ⟨env', st3, t3, x3, g4, g5, g6, g7, rfl, _⟩ := forL_ind (N := 5) (a := asgT pg0 (callN pg0 fns (k + 4)) (.nm 3)) (b := exSs pg0 (callN pg0 fns (k + 4)) bOne) (src := [])
    (fun i env s' => ∃ x3 e4 e5 e6 e7, env = [some (.lst (xs.map D.int)), some (.int n), some (.ref st.length), x3, e4, e5, e6, e7] ∧ Lf s' st.length (130 * i)) (fun _ _ _ _ => rfl)
    [.int 0, .int 1, .int 2, .int 3, .int 4] 0 [some (.lst (xs.map D.int)), some (.int n), some (.ref st.length), e3, e4, e5, e6, e7] (st ++ [.lst [.int a, .int b, .int 0]]) (by decide) (fun x hx i env s' hi ⟨x3, e4, e5, e6, e7, he, hL⟩ => by
      subst he
      obtain ⟨g4, g5, g6, g7, st', u1, u2⟩ := one (k := k) (s := .lst (xs.map D.int)) (x1 := .int n) (x3 := x) (e4 := e4) (e5 := e5) (e6 := e6) (e7 := e7) hL (by omega)
      exact ⟨_, s', _, st', by simp [runFn, exSs, exS, evE, evEs, evT, evTs, evIt, asgT, asgTs, binop, arith, fin, index, dctOf, seqOf, lstOf, ixN, cmpop, tru, bicall, setItem, rng, srcOf, chk, wipe, intsD, blsD, isiOk, isTy, augop, Int.emod_nonneg], u1, some x, g4, g5, g6, g7, rfl, u2.mono (by omega)⟩) ⟨e3, e4, e5, e6, e7, rfl, L0⟩
  have hfor := ex_for (P := pg0) (C := callN pg0 fns (k + 4)) (t := .nm 3) (it := .rng [(.cst (.int (5)))]) (b := bOne) (env := [some (.lst (xs.map D.int)), some (.int n), some (.ref st.length), e3, e4, e5, e6, e7]) (st := (st ++ [.lst [.int a, .int b, .int 0]])) (src := []) (xs := [.int 0, .int 1, .int 2, .int 3, .int 4]) (by simp [runFn, exSs, exS, evE, evEs, evT, evTs, evIt, asgT, asgTs, binop, arith, fin, index, dctOf, seqOf, lstOf, ixN, cmpop, tru, bicall, setItem, rng, srcOf, chk, wipe, intsD, blsD, isiOk, isTy, augop, Int.emod_nonneg, inR, rangeL]) t3
  exact ⟨some (.ref st.length), x3, g4, g5, g6, g7, st3, by simp [runFn, exSs, exS, evE, evEs, evT, evTs, evIt, asgT, asgTs, binop, arith, fin, index, dctOf, seqOf, lstOf, ixN, cmpop, tru, bicall, setItem, rng, srcOf, chk, wipe, intsD, blsD, isiOk, isTy, augop, Int.emod_nonneg, bAll, e1, ↓hfor]⟩
theorem law (xs : List Int) (hl : xs.length ≤ 63) : ∃ st, callN pg0 fns 9 11 [.lst (xs.map D.int)] [] = some (.bl true, st) := by
  have hm : ∃ m : Int, (if (xs.length : Int) < 8 then (xs.length : Int) else 8) + 1 = m ∧ 0 ≤ m ∧ m ≤ 9 := ⟨_, rfl, by split <;> omega, by split <;> omega⟩
  obtain ⟨m, em, m0, m1⟩ := hm
  obtain ⟨env', st3, t3, x1, g2, g3, g4, g5, g6, g7, rfl⟩ := forL_ind (N := m.toNat) (a := asgT pg0 (callN pg0 fns 8) (.nm 1)) (b := exSs pg0 (callN pg0 fns 8) bAll) (src := [])
    (fun i env s' => ∃ x1 e2 e3 e4 e5 e6 e7, env = [some (.lst (xs.map D.int)), x1, e2, e3, e4, e5, e6, e7]) (fun _ _ _ _ => rfl)
    (rangeL 0 1 m.toNat) 0 [some (.lst (xs.map D.int)), none, none, none, none, none, none, none] [] (by rw [rangeL_length]; omega) (fun x hx i env s' hi ⟨x1, e2, e3, e4, e5, e6, e7, he⟩ => by
      subst he
      obtain ⟨n, rfl, n0, n1⟩ := rangeL_mem hx
      obtain ⟨g2, g3, g4, g5, g6, g7, st', u1⟩ := all (k := 4) (st := s') (e2 := e2) (e3 := e3) (e4 := e4) (e5 := e5) (e6 := e6) (e7 := e7) n0 (by omega) (show xs.length < 1000 by omega)
      exact ⟨_, s', _, st', by simp [runFn, exSs, exS, evE, evEs, evT, evTs, evIt, asgT, asgTs, binop, arith, fin, index, dctOf, seqOf, lstOf, ixN, cmpop, tru, bicall, setItem, rng, srcOf, chk, wipe, intsD, blsD, isiOk, isTy, augop, Int.emod_nonneg], u1, some (.int n), g2, g3, g4, g5, g6, g7, rfl⟩) ⟨none, none, none, none, none, none, none, rfl⟩
  have hfor := ex_for (P := pg0) (C := callN pg0 fns 8) (t := .nm 1) (it := .rng [(.bin .add false (.bi .min false [(.cst (.int (8))), (.bi .len false [(.var 0)])]) (.cst (.int (1))))]) (b := bAll) (env := [some (.lst (xs.map D.int)), none, none, none, none, none, none, none]) (st := []) (src := []) (xs := rangeL 0 1 m.toNat) (by simp [runFn, exSs, exS, evE, evEs, evT, evTs, evIt, asgT, asgTs, binop, arith, fin, index, dctOf, seqOf, lstOf, ixN, cmpop, tru, bicall, setItem, rng, srcOf, chk, wipe, intsD, blsD, isiOk, isTy, augop, Int.emod_nonneg, em, inR, show (-1000000 : Int) ≤ m by omega, show m ≤ 1000000 by omega]) t3
  have w := wsize (k := 7) (vs := []) (st := st3) rfl
  have c0 := csize (k := 6) (qs := []) (st := st3) (by simp) (by simp)
  have c1 := csize (k := 6) (qs := [.tup [.str "keep", .int 0, .int 24]]) (st := st3) (by intro q hq; obtain rfl := List.mem_singleton.mp hq; exact .inl ⟨_, _, rfl⟩) (by simp)
  have sm := same_pc (k := 8) (n := 1) (d := .lst [.int 1, .int 1, .int 3]) (st := st3) h6 (by rfl) (by omega)
  refine ⟨st3, ?_⟩
  rw [callN_at h11]
  unfold bAll bOne bAgain at hfor
  simp [tk] at w c0 c1
  simp [runFn, exSs, exS, evE, evEs, evT, evTs, evIt, asgT, asgTs, binop, arith, fin, index, dctOf, seqOf, lstOf, ixN, cmpop, tru, bicall, setItem, rng, srcOf, chk, wipe, intsD, blsD, isiOk, isTy, augop, Int.emod_nonneg, f11, ↓hfor, w, c0, c1, newL, sm]
end Pm.K03

namespace Pm.K03
open PySem PySem.Spec L2
def top (i : Nat) : Stmt := PySem.Challenge.pw_keepwhole_k03_what_they_take.main.body.getD i (.Pass ⟨0, 0, 0, 0⟩)
/-- 0: whole_size -/
def d0 : Df := ⟨"whole_size", ["thing"], ["thing"], defArgs (top 2), defBody (top 2), defScope (top 2)⟩
/-- 1: piece_size -/
def d1 : Df := ⟨"piece_size", ["piece"], ["piece"], defArgs (top 3), defBody (top 3), defScope (top 3)⟩
/-- 2: change_size -/
def d2 : Df := ⟨"change_size", ["change"], ["change", "piece"], defArgs (top 4), defBody (top 4), defScope (top 4)⟩
/-- 3: _law_mix -/
def d3 : Df := ⟨"_law_mix", ["_law_cell", "_law_k"], ["_law_cell", "_law_k", "_law_m"], defArgs (top 6), defBody (top 6), defScope (top 6)⟩
/-- 4: _law_left -/
def d4 : Df := ⟨"_law_left", ["_law_script", "_law_k"], ["_law_script", "_law_k", "_law_cell"], defArgs (top 7), defBody (top 7), defScope (top 7)⟩
/-- 5: _law_pick -/
def d5 : Df := ⟨"_law_pick", ["_law_left_here", "_law_many"], ["_law_left_here", "_law_many", "_law_digit"], defArgs (top 8), defBody (top 8), defScope (top 8)⟩
/-- 6: _law_same -/
def d6 : Df := ⟨"_law_same", ["_law_found", "_law_due"], ["_law_found", "_law_due", "_law_one", "_law_other"], defArgs (top 9), defBody (top 9), defScope (top 9)⟩
/-- 7: _law_cells -/
def d7 : Df := ⟨"_law_cells", ["_law_left_here", "_law_many"], ["_law_left_here", "_law_many", "_law_few", "_law_k"], defArgs (top 10), defBody (top 10), defScope (top 10)⟩
/-- 8: _law_thing -/
def d8 : Df := ⟨"_law_thing", ["_law_left_here"], ["_law_left_here", "_law_many"], defArgs (top 11), defBody (top 11), defScope (top 11)⟩
/-- 9: _law_a_change -/
def d9 : Df := ⟨"_law_a_change", ["_law_left_here", "_law_old"], ["_law_left_here", "_law_old", "_law_pieces", "_law_turn", "_law_at"], defArgs (top 12), defBody (top 12), defScope (top 12)⟩
/-- 10: _law_takes -/
def d10 : Df := ⟨"_law_takes", ["_law_change"], ["_law_change", "_law_piece"], defArgs (top 13), defBody (top 13), defScope (top 13)⟩
/-- 11: law -/
def d11 : Df := ⟨"law", ["_law_script"], ["_law_script", "_law_k", "_law_left_here", "_law_turn", "_law_old", "_law_change", "_law_due", "_law_again"], defArgs (top 14), defBody (top 14), defScope (top 14)⟩
def mo : Mo := ⟨[d0, d1, d2, d3, d4, d5, d6, d7, d8, d9, d10, d11], [false, false, false, false, true, true, false, true, true, true, false, false], [("KEEP", .str "keep")], [(15, 11), (40, 18)], []⟩
theorem b0 : BindQ d0 := fun _ _ _ _ _ _ us hl => match us, hl with | [_], _ => rfl
theorem b1 : BindQ d1 := fun _ _ _ _ _ _ us hl => match us, hl with | [_], _ => rfl
theorem b2 : BindQ d2 := fun _ _ _ _ _ _ us hl => match us, hl with | [_], _ => rfl
theorem b3 : BindQ d3 := fun _ _ _ _ _ _ us hl => match us, hl with | [_, _], _ => rfl
theorem b4 : BindQ d4 := fun _ _ _ _ _ _ us hl => match us, hl with | [_, _], _ => rfl
theorem b5 : BindQ d5 := fun _ _ _ _ _ _ us hl => match us, hl with | [_, _], _ => rfl
theorem b6 : BindQ d6 := fun _ _ _ _ _ _ us hl => match us, hl with | [_, _], _ => rfl
theorem b7 : BindQ d7 := fun _ _ _ _ _ _ us hl => match us, hl with | [_, _], _ => rfl
theorem b8 : BindQ d8 := fun _ _ _ _ _ _ us hl => match us, hl with | [_], _ => rfl
theorem b9 : BindQ d9 := fun _ _ _ _ _ _ us hl => match us, hl with | [_, _], _ => rfl
theorem b10 : BindQ d10 := fun _ _ _ _ _ _ us hl => match us, hl with | [_], _ => rfl
theorem b11 : BindQ d11 := fun _ _ _ _ _ _ us hl => match us, hl with | [_], _ => rfl
theorem bq : ∀ d ∈ mo.ds, BindQ d := by
  intro d hd
  simp only [mo, List.mem_cons, List.not_mem_nil, or_false] at hd
  rcases hd with rfl | rfl | rfl | rfl | rfl | rfl | rfl | rfl | rfl | rfl | rfl | rfl
  · exact b0
  · exact b1
  · exact b2
  · exact b3
  · exact b4
  · exact b5
  · exact b6
  · exact b7
  · exact b8
  · exact b9
  · exact b10
  · exact b11
end Pm.K03

namespace Pm.K03
open PySem PySem.Spec L2
theorem irs : mo.ds.map (fun d => d.fn mo.G 40) = fnl := by kernel_rfl
theorem hf (j : Nat) (d : Df) (h : mo.ds[j]? = some d) : fns j = some (d.fn mo.G 40) := by
  have e : (mo.ds.map fun d => d.fn mo.G 40)[j]? = fnl[j]? := by rw [irs]
  rw [List.getElem?_map, h] at e
  exact e.symm
abbrev R : PySem.W.OpenRow := PySem.W.OpenLaw.row PySem.Challenge.rw_keepwhole_k03_what_they_take
abbrev hk : PySem.W.Hook := hookM 4 mo.fa mo.fn
def ob (s : PySem.W.SharedT) : He.AlD := obsM 4 mo.fa mo.fn (HandSHeadRun.getT s)
theorem ob_eq (s : PySem.W.SharedT) : ob s = hk.obs s.abs := obsM_eq (HandSHeadRun.getT_eq s)
def loose : List PySem.Str := (["whole_size", "piece_size", "change_size", "_law_mix", "_law_left", "_law_pick", "_law_same", "_law_cells", "_law_thing", "_law_a_change", "_law_takes", "KEEP"] : List PySem.Str)
theorem run (w : World) : HandSHeadRun.RunEq R (PySem.W.view R.prog [14]) hk ob 4000 loose w := by
  intro os
  kernel_rfl
end Pm.K03
open PySem PySem.W PySem.Calls PyProof.Rows
theorem PySem.Challenge.cw_keepwhole_k03_what_they_take_holds : PySem.Challenge.rw_keepwhole_k03_what_they_take.Holds := by
  w_on; o_law
  refine HandSHeadRun.head_any (r := OpenLaw.row PySem.Challenge.rw_keepwhole_k03_what_they_take) (q := view (OpenLaw.row PySem.Challenge.rw_keepwhole_k03_what_they_take).prog [14]) (H := Pm.K03.hk) (ob := Pm.K03.ob) (M := 4000) (loose := Pm.K03.loose) (d := HandSHeadRun.topDef (OpenLaw.row PySem.Challenge.rw_keepwhole_k03_what_they_take).prog 14) (kwd := []) Pm.K03.ob_eq
    (by kernel_rfl) (fun s => by kernel_rfl) Pm.K03.run (by kernel_rfl) (by kernel_rfl) (by kernel_rfl) (by rfl) (by first | assumption | decide +kernel) (by decide +kernel) ⟨rfl, rfl, rfl, rfl, rfl, by decide +kernel⟩ ?hw ?hc
  case hw => w_witness2
  case hc =>
    exact Pm.pm_walk (l := PySem.Challenge.rw_keepwhole_k03_what_they_take) (nn := 63) (k := 8) (fu := 40) (j := 11) (m := Pm.K03.mo) (u := 4) (x := "_law_script") (eff := false) (fns := Pm.K03.fns) (P := Pm.pg0) rfl (by decide) (by kernel_rfl) ⟨rfl, by decide, by decide⟩ (by decide +kernel) Pm.K03.bq Pm.K03.hf (by kernel_rfl) (by kernel_rfl) Pm.K03.law

