import PyProof.Rows.All
import Wide.All
import OpenK.AllK
import Wide.FinOn
import HandS.ForMost
import HandS.Exc
import HandS.CallSlots
import HandS.ExcOwn
import HandS.TupAny
import HandS.TupMul
import HandS.Style
import HandS.Deep
import HandS.IsInst
import HandS.Flow
import HandS.NoneIn
import HandS.Text
import HandS.TupLen
import KE.KDictPairs
import HandS.SortOrd
import HandS.DictTup
import HandS.SortKw
import HandS.Conv
import PyProof.Rows.ReprOcc
import HandS.WordsExc
import HandS.More
import HandS.Walk
import HandS.TryMany
import HandS.Ends
import KE.GoesMore
import KE.GoesEnum
import PySem.Challenge.RW_treecarry_k16_at_the_edges
set_option Elab.async false
set_option linter.all false
set_option maxRecDepth 100000
set_option maxHeartbeats 4000000
namespace Mini
open PySem L2

/-- data -/
inductive D where
  | non | bl (b : Bool) | int (i : Int) | str (s : Str)
  | tup (xs : List D)
  | loc (l : Nat)
  | fl (xs : List D)
  | fd (t : Bool) (ks : List (List Key)) (vs : List D)
  /-- a tuple that is known to be plain (what dict asks) -/
  | ztup (xs : List D)
  /-- a tuple of the text's own -/
  | ktup (xs : List D)
  /-- the script -/
  | scr (ns : List Int)
  deriving Inhabited

/-- what may change -/
inductive O where
  | lst (xs : List D)
  | dct (t : Bool) (kvs : List (List Key × D))
  | ins (c : Nat) (fs : List (Nat × D))

abbrev Sto := List O
abbrev Ev := List (Option D)

inductive R (α : Type) where
  | ok (a : α) (S : Sto)
  | exc (c : Nat) (S : Sto)
  | stuck

@[inline] def R.bind {α β : Type} (r : R α) (f : α → Sto → R β) : R β :=
  match r with
  | .ok a S => f a S
  | .exc c S => .exc c S
  | .stuck => .stuck

@[simp] theorem R.bind_ok {α β : Type} (a : α) (S : Sto) (f : α → Sto → R β) : (R.ok a S).bind f = f a S := rfl
@[simp] theorem R.bind_exc {α β : Type} (c : Nat) (S : Sto) (f : α → Sto → R β) : (R.exc c S).bind f = .exc c S := rfl
@[simp] theorem R.bind_stuck {α β : Type} (f : α → Sto → R β) : (R.stuck : R α).bind f = .stuck := rfl

/-- in a comprehension nothing is raised -/
def R.noExc {α : Type} (r : R α) : R α := match r with | .ok a S => .ok a S | _ => .stuck
@[simp] theorem R.noExc_ok {α : Type} (a : α) (S : Sto) : (R.ok a S).noExc = .ok a S := rfl
@[simp] theorem R.noExc_exc {α : Type} (c : Nat) (S : Sto) : (R.exc c S : R α).noExc = .stuck := rfl
@[simp] theorem R.noExc_stuck {α : Type} : (R.stuck : R α).noExc = .stuck := rfl
def R.opt {α : Type} (o : Option α) (S : Sto) : R α := match o with | some a => .ok a S | none => .stuck
@[simp] theorem R.opt_some {α : Type} (a : α) (S : Sto) : R.opt (some a) S = .ok a S := rfl
@[simp] theorem R.opt_none {α : Type} (S : Sto) : (R.opt none S : R α) = .stuck := rfl

mutual
def D.noLoc : D → Bool
  | .non => true | .bl _ => true | .int _ => true | .str _ => true
  | .tup xs => noLocs xs
  | .loc _ => false
  | .fl xs => noLocs xs
  | .fd _ _ vs => noLocs vs
  | .scr _ => true
  | .ktup xs => noLocs xs
  | .ztup xs => noLocs xs
def D.noLocs : List D → Bool
  | [] => true
  | x :: xs => x.noLoc && noLocs xs
end

/-- no list or text or tuple is longer -/
def LIM : Nat := 1000000

/-- the items of a list -/
def getL (S : Sto) : D → Option (List D)
  | .fl xs => some xs
  | .loc l => match S[l]? with | some (.lst xs) => some xs | _ => none
  | _ => none
/-- the items of a list or a tuple -/
def getS (S : Sto) : D → Option (List D)
  | .scr ns => some (ns.map .int)
  | .ktup xs => some xs
  | .ztup xs => some xs
  | .tup xs => some xs
  | .fl xs => some xs
  | .loc l => match S[l]? with | some (.lst xs) => some xs | _ => none
  | _ => none
/-- the entries of a dict, and of which keys it is -/
def getD (S : Sto) : D → Option (Bool × List (List Key × D))
  | .fd t ks vs => some (t, ks.zip vs)
  | .loc l => match S[l]? with | some (.dct t kvs) => some (t, kvs) | _ => none
  | _ => none

def newL (m : Bool) (xs : List D) (S : Sto) : R D := if xs.length ≤ LIM then (if m then .ok (.loc S.length) (S ++ [.lst xs]) else .ok (.fl xs) S) else .stuck
def newD (m : Bool) (t : Bool) (kvs : List (List Key × D)) (S : Sto) : R D :=
  if kvs.length ≤ LIM then (if m then .ok (.loc S.length) (S ++ [.dct t kvs]) else .ok (.fd t (kvs.map (·.1)) (kvs.map (·.2))) S) else .stuck

/-- to data as the library tells it; n: how deep at most -/
def toP : Nat → Sto → D → Option PyData
  | _, _, .non => some .none
  | _, _, .bl b => some (.bool b)
  | _, _, .int i => some (.int i)
  | _, _, .str s => some (.str s)
  | n + 1, S, .tup xs => (xs.mapM (toP n S)).map .tuple
  | n + 1, S, .ktup xs => (xs.mapM (toP n S)).map .tuple
  | n + 1, S, .ztup xs => (xs.mapM (toP n S)).map .tuple
  | n + 1, S, .fl xs => (xs.mapM (toP n S)).map .list
  | n + 1, S, .loc l => match S[l]? with
    | some (.lst xs) => (xs.mapM (toP n S)).map .list
    | _ => none
  | _, _, _ => none
def DEEP : Nat := 30

def eqD (S : Sto) (a b : D) : Option Bool := match toP DEEP S a, toP DEEP S b with
  | some p, some q => some (PyData.eqv p q)
  | _, _ => none

/-- what is told without anything that changes -/
def freeze : Nat → Sto → D → Option D
  | _, _, .non => some .non
  | _, _, .bl b => some (.bl b)
  | _, _, .int i => some (.int i)
  | _, _, .str s => some (.str s)
  | n + 1, S, .tup xs => (xs.mapM (freeze n S)).map .tup
  | n + 1, S, .ktup xs => (xs.mapM (freeze n S)).map .ktup
  | n + 1, S, .ztup xs => (xs.mapM (freeze n S)).map .ztup
  | _, _, .scr ns => some (.scr ns)
  | n + 1, S, .fl xs => (xs.mapM (freeze n S)).map .fl
  | n + 1, S, .fd t ks vs => (vs.mapM (freeze n S)).map (.fd t ks)
  | n + 1, S, .loc l => match S[l]? with
    | some (.lst xs) => (xs.mapM (freeze n S)).map .fl
    | some (.dct t kvs) => ((kvs.map (·.2)).mapM (freeze n S)).map (.fd t (kvs.map (·.1)))
    | _ => none
  | _, _, _ => none

def truth (S : Sto) : D → Option Bool
  | .non => some false
  | .bl b => some b
  | .int i => some (i != 0)
  | .str s => if s.length ≤ LIM then some ((s.length : Int) != 0) else none
  | .tup xs => some (!xs.isEmpty)
  | .ztup xs => some (!xs.isEmpty)
  | .ktup xs => some (!xs.isEmpty)
  | .fl xs => some (!xs.isEmpty)
  | .loc l => match S[l]? with
    | some (.lst xs) => some (!xs.isEmpty)
    | some (.dct false kvs) => some (!kvs.isEmpty)
    | _ => none
  | _ => none

/-! ### keys -/
def keyOf1 : D → Option Key
  | .int i => some (.inl i)
  | .str s => some (.inr s)
  | _ => none
/-- a key of a dict of kind t -/
def keyOf (t : Bool) : D → Option (List Key)
  | .int i => if t then none else some [.inl i]
  | .str s => if t then none else some [.inr s]
  | .tup xs => if t then xs.mapM keyOf1 else none
  | _ => none
def keyD1 : Key → D
  | .inl i => .int i
  | .inr s => .str s
def keyD (t : Bool) (k : List Key) : D := if t then .tup (k.map keyD1) else match k with | [x] => keyD1 x | _ => .non

def lookK (kvs : List (List Key × D)) (k : List Key) : Option D := (kvs.find? fun kv => decide (kv.1 = k)).map (·.2)
def putK (kvs : List (List Key × D)) (k : List Key) (v : D) : List (List Key × D) :=
  if (kvs.any fun kv => decide (kv.1 = k)) then kvs.map (fun kv => if kv.1 = k then (kv.1, v) else kv) else kvs ++ [(k, v)]
def dropK (kvs : List (List Key × D)) (k : List Key) : List (List Key × D) := kvs.filter fun kv => decide (kv.1 ≠ k)
end Mini

namespace Mini
open PySem L2

inductive BOp where | add | addz | sub | mul | fdiv | mod | pow deriving DecidableEq
inductive COp where | eq | ne | lt | le | gt | ge | isN | notN | isB | notB | isin | notin deriving DecidableEq
/-- calls of built-ins with one argument; m: what comes may be changed later -/
inductive F1 where
  | len | str | int | sum | max | maxd (d : Int)
  | tuple (z : Bool) | list (m : Bool) | dict (m t : Bool)
  | srtP (m : Bool) | srtS (m : Bool) | srtI (m : Bool) | srtItems (m : Bool)
  | isi (T : String)
  deriving DecidableEq
inductive F2 where | max2 | min2 deriving DecidableEq
inductive M0 where | pop | strip | lstrip | isdigit deriving DecidableEq
inductive M1 where | append | extend | update | join | split (m : Bool) | index | count | pop1 deriving DecidableEq

mutual
inductive C where
  | var (i : Nat)
  | lit (d : D)
  | gbl (x : Nat)
  | gidx (x : Nat) (i : C)
  | tup (z : Bool) (es : Cs)
  | lst (m : Bool) (es : Cs)
  | dct (m t : Bool) (kvs : Cs)
  | bin (op : BOp) (a b : C)
  | neg (a : C)
  | cmp (op : COp) (a b : C)
  | chain (op op' : COp) (a b c : C)
  | not (a : C)
  | bool (isAnd : Bool) (es : Cs)
  | ite (t a b : C)
  | idx (a i : C)
  | slc (a : C) (lo hi : Co)
  | rev (m : Bool) (a : C)
  | fld (a : C) (f : Nat)
  | call (f : Nat) (es : Cs)
  | meth (cl m f : Nat) (a : C) (es : Cs)
  | make (cl f : Nat) (es : Cs)
  | f1 (f : F1) (a : C)
  | f2 (f : F2) (a b : C)
  | m0 (f : M0) (a : C)
  | m1 (f : M1) (a b : C)
  | get (a k d : C)
  | comp (m : Bool) (e : C) (tg : List Nat) (it : It) (cond : Co)
  | never
inductive Cs where
  | nil
  | cons (e : C) (es : Cs)
inductive Co where
  | none
  | some (e : C)
/-- what is walked -/
inductive It where
  | seq (a : C)
  | rng1 (a : C) | rng2 (a b : C) | rng3 (a b c : C)
  | enum (a : C)
  | vals (a : C)
end

mutual
inductive Tg where
  | name (i : Nat)
  | fld (o : C) (f : Nat)
  | sub (o i : C)
  | tup (ts : Tgs)
inductive Tgs where
  | nil
  | cons (t : Tg) (ts : Tgs)
end

mutual
inductive CS where
  | expr (e : C) | ret (e : C) | retN | pass | brk | cnt
  | asg (t : Tg) (e : C)
  | aug (i : Nat) (e : C)
  | ite (t : C) (a b : CSs)
  | whl (fuel : Nat) (t : C) (b : CSs)
  | fo (tg : List Nat) (it : It) (b : CSs)
  | raise (cl : Nat)
  | tr (b : CSs) (hs : Hs)
inductive CSs where
  | nil
  | cons (s : CS) (ss : CSs)
inductive Hs where
  | nil
  | cons (cl : Nat) (b : CSs) (hs : Hs)
end

/-! ### operations -/
def LOG : Int := 2 ^ 64
def isTup : D → Bool
  | .tup _ => true | .ztup _ => true | .ktup _ => true
  | _ => false
def mkTup (z : Bool) (xs : List D) : D := if z then .ztup xs else .tup xs
def sBin (op : BOp) (S : Sto) (a b : D) : R D :=
  match op with
  | .add => match a, b with
    | .int i, .int j => .ok (.int (i + j)) S
    | .str x, .str y => if x.length + y.length ≤ LIM then .ok (.str (x ++ y)) S else .stuck
    | .tup xs, .tup ys => if xs.length + ys.length ≤ LIM then .ok (.tup (xs ++ ys)) S else .stuck
    | a, b => match getL S a, getL S b with
      | some xs, some ys => newL false (xs ++ ys) S
      | _, _ => .stuck
  | .addz => match getS S a, getS S b with
    | some xs, some ys => if xs.length + ys.length ≤ LIM ∧ isTup a ∧ isTup b ∧ ys ≠ [] ∧ xs ≠ [] then .ok (.ztup (xs ++ ys)) S else .stuck
    | _, _ => .stuck
  | .sub => match a, b with
    | .int i, .int j => .ok (.int (i - j)) S
    | _, _ => .stuck
  | .mul => match a, b with
    | .int i, .int j => if (decide (-LOG < i) && decide (i < LOG)) || (decide (-LOG < j) && decide (j < LOG)) then .ok (.int (i * j)) S else .stuck
    | .str x, .int k => if 1 ≤ k ∧ k ≤ 1000 ∧ x.length ≤ 1000 then .ok (.str ⟨(List.replicate k.toNat x.cps.toList).flatten.toArray⟩) S else .stuck
    | .tup xs, .int k => if 1 ≤ k ∧ k ≤ 1000 ∧ xs.length ≤ 1000 ∧ xs ≠ [] then .ok (.tup (List.replicate k.toNat xs).flatten) S else .stuck
    | a, .int k => match getL S a with
      | some xs => if 0 ≤ k ∧ k ≤ 1000 ∧ xs.length ≤ 1000 then newL false (List.replicate k.toNat xs).flatten S else .stuck
      | none => .stuck
    | _, _ => .stuck
  | .fdiv => match a, b with
    | .int i, .int j => if 0 < j ∧ j < 1073741824 then .ok (.int (i / j)) S else .stuck
    | _, _ => .stuck
  | .mod => match a, b with
    | .int i, .int j => if 0 < j then .ok (.int (i % j)) S else .stuck
    | _, _ => .stuck
  | .pow => match a, b with
    | .int i, .int j => if 0 ≤ j ∧ j ≤ 1000 ∧ -LOG < i ∧ i < LOG then .ok (.int (i ^ j.toNat)) S else .stuck
    | _, _ => .stuck

def strLt (a b : Str) : Bool := decide (a.cps.toList < b.cps.toList)
def isNon : D → Bool | .non => true | _ => false
def ordD (p : Int → Int → Bool) (q : Str → Str → Bool) : D → D → Option Bool
  | .int i, .int j => some (p i j)
  | .str i, .str j => some (q i j)
  | _, _ => none
def blD (f : Bool → Bool → Bool) : D → D → Option Bool
  | .bl i, .bl j => some (f i j)
  | _, _ => none
/-- x in y -/
def sIn (S : Sto) (x y : D) : Option Bool :=
  match y with
  | .str z => match x with
    | .str s => if s.length = 1 then some (z.cps.toList.any fun c => decide (s.cps[0]? = some c)) else none
    | _ => none
  | y => match getD S y with
    | some (t, kvs) => (keyOf t x).map fun k => (lookK kvs k).isSome
    | none => match toP DEEP S x, getS S y with
      | some p, some ys => (ys.mapM (toP DEEP S)).map fun qs => qs.any fun z => PyData.eqv z p
      | _, _ => none
def sCmp (op : COp) (S : Sto) (a b : D) : Option Bool :=
  match op with
  | .eq => eqD S a b
  | .ne => (eqD S a b).map (!·)
  | .isN => if isNon b then some (isNon a) else none
  | .notN => if isNon b then some (!isNon a) else none
  | .isB => blD (fun x y => decide (x = y)) a b
  | .notB => blD (fun x y => !decide (x = y)) a b
  | .isin => sIn S a b
  | .notin => (sIn S a b).map (!·)
  | .lt => ordD (fun i j => decide (i < j)) strLt a b
  | .le => ordD (fun i j => decide (i ≤ j)) (fun i j => !strLt j i) a b
  | .gt => ordD (fun i j => decide (j < i)) (fun i j => strLt j i) a b
  | .ge => ordD (fun i j => decide (j ≤ i)) (fun i j => !strLt i j) a b

def sIdx (S : Sto) (a i : D) : Option D :=
  match a with
  | .str z => match i with
    | .int k => if z.length ≤ LIM then (atI z.cps.toList k).map fun c => .str ⟨#[c]⟩ else none
    | _ => none
  | a => match getD S a with
    | some (t, kvs) => (keyOf t i).bind (lookK kvs)
    | none => match getS S a, i with
      | some xs, .int k => atI xs k
      | _, _ => none
def cutL {α : Type} (xs : List α) (lo hi : Option Int) : List α := (xs.drop (HT.sIx xs.length 0 lo)).take (HT.sIx xs.length xs.length hi - HT.sIx xs.length 0 lo)
def sSlc (S : Sto) (a : D) (lo hi : Option Int) : R D :=
  match a with
  | .str z => if z.length ≤ LIM then .ok (.str ⟨(cutL z.cps.toList lo hi).toArray⟩) S else .stuck
  | .tup xs => .ok (.tup (cutL xs lo hi)) S
  | a => match getL S a with
    | some xs => newL false (cutL xs lo hi) S
    | none => .stuck
def sRev (m : Bool) (S : Sto) (a : D) : R D :=
  if isTup a then match getS S a with
    | some xs => .ok (.tup xs.reverse) S
    | none => .stuck
  else match getL S a with
    | some xs => newL m xs.reverse S
    | none => .stuck

/-! ### sorting -/
def ins1 {α : Type} (lt : α → α → Bool) (x : α) : List α → List α
  | [] => [x]
  | y :: ys => if lt x y then x :: y :: ys else y :: ins1 lt x ys
def isort {α : Type} (lt : α → α → Bool) : List α → List α
  | [] => []
  | x :: xs => ins1 lt x (isort lt xs)
def fstS : D → Option Str
  | .tup (.str s :: _ :: []) => some s
  | _ => none
def asStr : D → Option Str | .str s => some s | _ => none
def asInt : D → Option Int | .int i => some i | _ => none
def nodupS : List Str → Bool
  | [] => true
  | x :: xs => !(xs.any fun y => decide (y = x)) && nodupS xs
def fstLt (a b : D) : Bool := match fstS a, fstS b with | some x, some y => strLt x y | _, _ => false

def isiD (S : Sto) (T : String) (d : D) : Option Bool :=
  match d with
  | .non => some (T == "NoneType")
  | .bl _ => some (T == "bool" || T == "int")
  | .int _ => some (T == "int")
  | .str _ => some (T == "str")
  | .tup _ => some (T == "tuple")
  | .fl _ => some (T == "list")
  | .fd _ _ _ => none
  | .scr _ => some (T == "list")
  | .ktup _ => some (T == "tuple")
  | .ztup _ => some (T == "tuple")
  | .loc l => match S[l]? with
    | some (.lst _) => some (T == "list")
    | some (.dct _ _) => some (T == "dict")
    | _ => none
def pairOf (t : Bool) : D → Option (List Key × D)
  | .tup [k, v] => (keyOf t k).map fun k => (k, v)
  | _ => none
/-- what dict() takes -/
def getP (S : Sto) : D → Option (List D)
  | .ztup xs => some xs
  | d => getL S d
def sF1 (f : F1) (S : Sto) (a : D) : R D :=
  match f with
  | .len => match a with
    | .str z => if z.length ≤ LIM then .ok (.int z.length) S else .stuck
    | a => match getD S a with
      | some (_, kvs) => .ok (.int kvs.length) S
      | none => match getS S a with
        | some xs => .ok (.int xs.length) S
        | none => .stuck
  | .str => match a with
    | .int i => if -LOG < i ∧ i < LOG then .ok (.str (toString i : String)) S else .stuck
    | _ => .stuck
  | .int => match a with
    | .int i => .ok (.int i) S
    | .bl b => .ok (.int (if b then 1 else 0)) S
    | _ => .stuck
  | .sum => match getL S a with
    | some xs => match xs.mapM asInt with | some ns => .ok (.int ns.sum) S | none => .stuck
    | none => .stuck
  | .max => match getL S a with
    | some xs => match xs.mapM asInt with | some (n :: ns) => .ok (.int (ns.foldl max n)) S | _ => .stuck
    | none => .stuck
  | .maxd d => match getL S a with
    | some xs => match xs.mapM asInt with | some (n :: ns) => .ok (.int (ns.foldl max n)) S | some [] => .ok (.int d) S | none => .stuck
    | none => .stuck
  | .tuple z => match getL S a with
    | some xs => if xs.length ≤ LIM then .ok (mkTup z xs) S else .stuck
    | none => .stuck
  | .list m => match getS S a with
    | some xs => newL m xs S
    | none => match getD S a with
      | some (t, kvs) => newL m (kvs.map fun kv => keyD t kv.1) S
      | none => .stuck
  | .dict m t => match getP S a with
    | some xs => match xs.mapM (pairOf t) with
      | some ps => newD m t (ps.foldl (fun acc kv => putK acc kv.1 kv.2) []) S
      | none => .stuck
    | none => match getD S a with
      | some (t', kvs) => if t' = t then newD m t' kvs S else .stuck
      | none => .stuck
  | .srtP m => match getL S a with
    | some xs => match xs.mapM fstS with
      | some ss => if nodupS ss && decide (xs.length ≤ 1000) then newL m (isort fstLt xs) S else .stuck
      | none => .stuck
    | none => .stuck
  | .srtS m => match getL S a with
    | some xs => match xs.mapM asStr with
      | some ss => if xs.length ≤ 1000 then newL m ((isort strLt ss).map .str) S else .stuck
      | none => .stuck
    | none => .stuck
  | .srtI m => match getL S a with
    | some xs => match xs.mapM asInt with
      | some ns => if xs.length ≤ 1000 then newL m ((isort (fun i j => decide (i < j)) ns).map .int) S else .stuck
      | none => .stuck
    | none => .stuck
  | .srtItems m => match getD S a with
    | some (false, kvs) =>
      if kvs.length ≤ 1000 ∧ (kvs.all fun kv => match kv.1 with | [.inr _] => true | _ => false) then newL m (isort fstLt (kvs.map fun kv => .tup [keyD false kv.1, kv.2])) S else .stuck
    | _ => .stuck
  | .isi T => match isiD S T a with | some b => .ok (.bl b) S | none => .stuck
def sF2 (f : F2) (S : Sto) (a b : D) : R D :=
  match a, b with
  | .int i, .int j => .ok (.int (match f with | .max2 => (if j > i then j else i) | .min2 => (if j < i then j else i))) S
  | _, _ => .stuck
def sM0 (f : M0) (S : Sto) (a : D) : R D :=
  match f with
  | .pop => match a with
    | .loc l => match S[l]? with
      | some (.lst xs) => match xs.getLast? with
        | some y => .ok y (S.set l (.lst xs.dropLast))
        | none => .stuck
      | _ => .stuck
    | _ => .stuck
  | _ => .stuck
def strsOf (S : Sto) (a : D) : Option (List Str) := (getS S a).bind fun xs => xs.mapM asStr
def joinS (sep : Str) : List Str → Str
  | [] => Str.empty
  | [x] => x
  | x :: y :: ys => x ++ sep ++ joinS sep (y :: ys)
def notLoc (l : Nat) : D → Bool
  | .loc l' => decide (l' ≠ l)
  | _ => true
def sM1 (f : M1) (S : Sto) (a b : D) : R D :=
  match f with
  | .append => match a with
    | .loc l => match S[l]? with
      | some (.lst xs) => if xs.length < LIM then .ok .non (S.set l (.lst (xs ++ [b]))) else .stuck
      | _ => .stuck
    | _ => .stuck
  | .extend => match a with
    | .loc l => match S[l]?, getL S b with
      | some (.lst xs), some ys => if xs.length + ys.length ≤ LIM ∧ notLoc l b = true then .ok .non (S.set l (.lst (xs ++ ys))) else .stuck
      | _, _ => .stuck
    | _ => .stuck
  | .pop1 => match a with
    | .loc l => match S[l]? with
      | some (.dct false kvs) => match keyOf false b with
        | some k => match lookK kvs k with
          | some v => .ok v (S.set l (.dct false (dropK kvs k)))
          | none => .stuck
        | none => .stuck
      | _ => .stuck
    | _ => .stuck
  | .update => match a with
    | .loc l => match S[l]?, getD S b with
      | some (.dct t kvs), some (t', kvs') => if t = t' ∧ kvs.length + kvs'.length ≤ LIM ∧ notLoc l b = true then .ok .non (S.set l (.dct t (kvs'.foldl (fun acc kv => putK acc kv.1 kv.2) kvs))) else .stuck
      | _, _ => .stuck
    | _ => .stuck
  | .join => match a, strsOf S b with
    | .str sep, some ss => if (ss.map Str.length).sum + ss.length * sep.length ≤ LIM then .ok (.str (joinS sep ss)) S else .stuck
    | _, _ => .stuck
  | .index => .stuck
  | .count => .stuck
  | .split _ => .stuck
/-- a method is looked up ahead of its argument -/
def okM1 (f : M1) (S : Sto) (x : D) : Bool :=
  match f with
  | .append => (getL S x).isSome
  | .extend => (getL S x).isSome
  | .index => (getL S x).isSome
  | .count => (getL S x).isSome
  | .join => match x with | .str _ => true | _ => false
  | .split _ => match x with | .str _ => true | _ => false
  | .update => (getD S x).isSome
  | .pop1 => (getD S x).isSome
def sGet (S : Sto) (a k d : D) : Option D :=
  match getD S a with
  | some (t, kvs) => (keyOf t k).map fun k => (lookK kvs k).getD d
  | none => none

/-! ### the interpreter -/
/-- what may be called: name, arguments, store -/
abbrev Orc := Nat → List D → Sto → R D
/-- the text's constants -/
abbrev Gv := Nat → Option D

def setTg (tg : List Nat) (d : D) (env : Ev) : Option Ev :=
  match tg with
  | [i] => some (env.set i (some d))
  | is => match d with
    | .tup xs => if xs.length = is.length then some ((is.zip xs).foldl (fun e p => e.set p.1 (some p.2)) env) else none
    | _ => none
def rngL (lo hi c : Int) : List D := (List.range ((if 0 < c then (hi - lo + c - 1) / c else (lo - hi + (-c) - 1) / (-c))).toNat).map fun (i : Nat) => D.int (lo + (i : Int) * c)
def okR (i : Int) : Bool := decide (-1000000 ≤ i) && decide (i ≤ 1000000)

/-- a walk: what each turn reads, and whether it may end -/
structure WD where
  its : List (Sto → Option D)
  fin : Sto → Bool
def litW (xs : List D) : WD := ⟨xs.map fun x _ => some x, fun _ => true⟩
def dynAt (l n i : Nat) (S : Sto) : Option D := match S[l]? with
  | some (.lst xs) => if xs.length = n then xs[i]? else none
  | _ => none
def dynW (l n : Nat) : WD := ⟨(List.range n).map fun i S => dynAt l n i S, fun S => match S[l]? with | some (.lst xs) => decide (xs.length = n) | _ => false⟩
/-- a list, a tuple, a text -/
def walkOf (S : Sto) (d : D) : Option WD :=
  match d with
  | .str z => some (litW (z.cps.toList.map fun c => .str ⟨#[c]⟩))
  | .loc l => match S[l]? with | some (.lst xs) => some (dynW l xs.length) | _ => none
  | d => (getS S d).map litW

/-- key, value, key, value .. -/
def pairUp (t : Bool) : List D → Option (List (List Key × D))
  | [] => some []
  | k :: v :: r => match keyOf t k, pairUp t r with
    | some k, some ps => some ((k, v) :: ps)
    | _, _ => none
  | _ => none
def wipeE (env : Ev) : List Nat → Ev
  | [] => env
  | i :: is => (wipeE env is).set i none
def lcLoop (c : Ev → Sto → R Bool) (e : Ev → Sto → R D) (tg : List Nat) (env : Ev) (fin : Sto → Bool) : List (Sto → Option D) → List D → Sto → R (List D)
  | [], acc, S => if fin S = true then .ok acc S else .stuck
  | x :: xs, acc, S => match x S with
    | none => .stuck
    | some d => match setTg tg d env with
      | none => .stuck
      | some env' => (c env' S).noExc.bind fun k S => if k = true then (e env' S).noExc.bind fun y S => if acc.length < LIM then lcLoop c e tg env fin xs (acc ++ [y]) S else .stuck else lcLoop c e tg env fin xs acc S

mutual
def evE (cl : Orc) (gv : Gv) : C → Ev → Sto → R D
  | .var i, env, S => match env[i]? with | some (some d) => .ok d S | _ => .stuck
  | .lit d, _, S => .ok d S
  | .gbl x, _, S => match gv x with
      | some (.fd _ _ _) => .stuck
      | some d => .ok d S
      | none => .stuck
  | .gidx x i, env, S => (evE cl gv i env S).bind fun y S => match gv x, y with
      | some (.fd false ks vs), .str z => R.opt (lookK (ks.zip vs) [.inr z]) S
      | _, _ => .stuck
  | .tup z es, env, S => (evEs cl gv es env S).bind fun ds S => if ds.length ≤ LIM then .ok (mkTup z ds) S else .stuck
  | .lst m es, env, S => (evEs cl gv es env S).bind fun ds S => newL m ds S
  | .dct m t kvs, env, S => (evEs cl gv kvs env S).bind fun ds S => match pairUp t ds with
      | some ps => newD m t (ps.foldl (fun acc kv => putK acc kv.1 kv.2) []) S
      | none => .stuck
  | .bin op a b, env, S => (evE cl gv a env S).bind fun x S => (evE cl gv b env S).bind fun y S => sBin op S x y
  | .neg a, env, S => (evE cl gv a env S).bind fun x S => match x with | .int i => .ok (.int (-i)) S | _ => .stuck
  | .cmp op a b, env, S => (evE cl gv a env S).bind fun x S => (evE cl gv b env S).bind fun y S => (R.opt (sCmp op S x y) S).bind fun k S => .ok (.bl k) S
  | .chain op op' a b c, env, S => (evE cl gv a env S).bind fun x S => (evE cl gv b env S).bind fun y S => (R.opt (sCmp op S x y) S).bind fun k S =>
      if k then (evE cl gv c env S).bind fun z S => (R.opt (sCmp op' S y z) S).bind fun k S => .ok (.bl k) S else .ok (.bl false) S
  | .not a, env, S => (evE cl gv a env S).bind fun x S => (R.opt (truth S x) S).bind fun k S => .ok (.bl (!k)) S
  | .bool isAnd es, env, S => evB cl gv es isAnd env S
  | .ite t a b, env, S => (evE cl gv t env S).bind fun x S => (R.opt (truth S x) S).bind fun k S => if k then evE cl gv a env S else evE cl gv b env S
  | .idx a i, env, S => (evE cl gv a env S).bind fun x S => (evE cl gv i env S).bind fun y S => R.opt (sIdx S x y) S
  | .slc a lo hi, env, S => (evE cl gv a env S).bind fun x S => (evO cl gv lo env S).bind fun l S => (evO cl gv hi env S).bind fun h S => sSlc S x l h
  | .rev m a, env, S => (evE cl gv a env S).bind fun x S => sRev m S x
  | .fld a f, env, S => (evE cl gv a env S).bind fun x S => match x with
      | .loc l => match S[l]? with
        | some (.ins _ fs) => R.opt (fs.lookup f) S
        | _ => .stuck
      | _ => .stuck
  | .call f es, env, S => (evEs cl gv es env S).bind fun ds S => cl f ds S
  | .meth c m f a es, env, S => (evE cl gv a env S).bind fun x S => match x with
      | .loc l => match S[l]? with
        | some (.ins c' fs) => if c' = c ∧ fs.lookup m = none then (evEs cl gv es env S).bind fun ds S => cl f (x :: ds) S else .stuck
        | _ => .stuck
      | _ => .stuck
  | .make c f es, env, S => (evEs cl gv es env S).bind fun ds S => (cl f (.loc S.length :: ds) (S ++ [.ins c []])).bind fun r S' => match r with
      | .non => .ok (.loc S.length) S'
      | _ => .stuck
  | .f1 f a, env, S => (evE cl gv a env S).bind fun x S => sF1 f S x
  | .f2 f a b, env, S => (evE cl gv a env S).bind fun x S => (evE cl gv b env S).bind fun y S => sF2 f S x y
  | .m0 f a, env, S => (evE cl gv a env S).bind fun x S => sM0 f S x
  | .m1 f a b, env, S => (evE cl gv a env S).bind fun x S => if okM1 f S x = true then (evE cl gv b env S).bind fun y S => sM1 f S x y else .stuck
  | .get a k d, env, S => (evE cl gv a env S).bind fun x S => if (getD S x).isSome = true then (evE cl gv k env S).bind fun y S => (evE cl gv d env S).bind fun z S => R.opt (sGet S x y z) S else .stuck
  | .comp m e tg it cond, env, S => (evI cl gv it env S).bind fun w S =>
      (lcLoop (fun env S => evC cl gv cond env S) (fun env S => evE cl gv e env S) tg (wipeE env tg) w.fin w.its [] S).bind fun ys S => newL m ys S
  | .never, _, _ => .stuck
termination_by structural c => c
def evEs (cl : Orc) (gv : Gv) : Cs → Ev → Sto → R (List D)
  | .nil, _, S => .ok [] S
  | .cons e es, env, S => (evE cl gv e env S).bind fun x S => (evEs cl gv es env S).bind fun xs S => .ok (x :: xs) S
termination_by structural es => es
def evB (cl : Orc) (gv : Gv) : Cs → Bool → Ev → Sto → R D
  | .nil, _, _, _ => .stuck
  | .cons e es, isAnd, env, S => match es with
    | .nil => evE cl gv e env S
    | es' => (evE cl gv e env S).bind fun x S => (R.opt (truth S x) S).bind fun k S => if k = isAnd then evB cl gv es isAnd env S else .ok x S
termination_by structural es => es
def evO (cl : Orc) (gv : Gv) : Co → Ev → Sto → R (Option Int)
  | .none, _, S => .ok none S
  | .some e, env, S => (evE cl gv e env S).bind fun x S => match x with | .int i => .ok (some i) S | _ => .stuck
def evC (cl : Orc) (gv : Gv) : Co → Ev → Sto → R Bool
  | .none, _, S => .ok true S
  | .some e, env, S => (evE cl gv e env S).bind fun x S => R.opt (truth S x) S
def evI (cl : Orc) (gv : Gv) : It → Ev → Sto → R WD
  | .seq a, env, S => (evE cl gv a env S).bind fun x S => R.opt (walkOf S x) S
  | .rng1 a, env, S => (evE cl gv a env S).bind fun x S => match x with | .int n => if okR n then .ok (litW (rngL 0 n 1)) S else .stuck | _ => .stuck
  | .rng2 a b, env, S => (evE cl gv a env S).bind fun x S => (evE cl gv b env S).bind fun y S => match x, y with | .int i, .int j => if okR i && okR j then .ok (litW (rngL i j 1)) S else .stuck | _, _ => .stuck
  | .rng3 a b c, env, S => (evE cl gv a env S).bind fun x S => (evE cl gv b env S).bind fun y S => (evE cl gv c env S).bind fun z S => match x, y, z with
      | .int i, .int j, .int k => if okR i && okR j && decide (k = -1) then .ok (litW (rngL i j (-1))) S else .stuck | _, _, _ => .stuck
  | .enum a, env, S => (evE cl gv a env S).bind fun x S => match x with
      | .fl xs => .ok (litW ((List.range xs.length).zip xs |>.map fun p => .tup [.int p.1, p.2])) S
      | .tup xs => .ok (litW ((List.range xs.length).zip xs |>.map fun p => .tup [.int p.1, p.2])) S
      | _ => .stuck
  | .vals a, env, S => (evE cl gv a env S).bind fun x S => match x with | .fd false _ vs => .ok (litW vs) S | _ => .stuck
end

/-! ### statements -/
inductive Out where
  | next (env : Ev) (S : Sto) | ret (d : D) (S : Sto) | brk (env : Ev) (S : Sto) | cnt (env : Ev) (S : Sto) | exc (c : Nat) (env : Ev) (S : Sto) | stuck

def R.out {α : Type} (r : R α) (env : Ev) (k : α → Sto → Out) : Out :=
  match r with
  | .ok a S => k a S
  | .exc c S => .exc c env S
  | .stuck => .stuck
@[simp] theorem R.out_ok {α : Type} (a : α) (S : Sto) (env : Ev) (k : α → Sto → Out) : (R.ok a S).out env k = k a S := rfl
@[simp] theorem R.out_exc {α : Type} (c : Nat) (S : Sto) (env : Ev) (k : α → Sto → Out) : (R.exc c S : R α).out env k = .exc c env S := rfl
@[simp] theorem R.out_stuck {α : Type} (env : Ev) (k : α → Sto → Out) : (R.stuck : R α).out env k = .stuck := rfl

/-- behind a statement -/
def Out.seq (o : Out) (k : Ev → Sto → Out) : Out :=
  match o with
  | .next env S => k env S
  | o => o
@[simp] theorem Out.seq_next (env : Ev) (S : Sto) (k : Ev → Sto → Out) : (Out.next env S).seq k = k env S := rfl
@[simp] theorem Out.seq_ret (d : D) (S : Sto) (k : Ev → Sto → Out) : (Out.ret d S).seq k = .ret d S := rfl
@[simp] theorem Out.seq_brk (env : Ev) (S : Sto) (k : Ev → Sto → Out) : (Out.brk env S).seq k = .brk env S := rfl
@[simp] theorem Out.seq_cnt (env : Ev) (S : Sto) (k : Ev → Sto → Out) : (Out.cnt env S).seq k = .cnt env S := rfl
@[simp] theorem Out.seq_exc (c : Nat) (env : Ev) (S : Sto) (k : Ev → Sto → Out) : (Out.exc c env S).seq k = .exc c env S := rfl
@[simp] theorem Out.seq_stuck (k : Ev → Sto → Out) : Out.stuck.seq k = .stuck := rfl

def putFd (f : Nat) (v : D) : List (Nat × D) → List (Nat × D)
  | [] => [(f, v)]
  | (g, x) :: r => if g = f then (g, v) :: r else (g, x) :: putFd f v r

/-- behind a loop's turn: on to the next turn, or out -/
def Out.turn (o : Out) (k : Ev → Sto → Out) : Out :=
  match o with
  | .next env S => k env S
  | .cnt env S => k env S
  | .brk env S => .next env S
  | o => o
@[simp] theorem Out.turn_next (env : Ev) (S : Sto) (k : Ev → Sto → Out) : (Out.next env S).turn k = k env S := rfl
@[simp] theorem Out.turn_ret (d : D) (S : Sto) (k : Ev → Sto → Out) : (Out.ret d S).turn k = .ret d S := rfl
@[simp] theorem Out.turn_brk (env : Ev) (S : Sto) (k : Ev → Sto → Out) : (Out.brk env S).turn k = .next env S := rfl
@[simp] theorem Out.turn_cnt (env : Ev) (S : Sto) (k : Ev → Sto → Out) : (Out.cnt env S).turn k = k env S := rfl
@[simp] theorem Out.turn_exc (c : Nat) (env : Ev) (S : Sto) (k : Ev → Sto → Out) : (Out.exc c env S).turn k = .exc c env S := rfl
@[simp] theorem Out.turn_stuck (k : Ev → Sto → Out) : Out.stuck.turn k = .stuck := rfl

def whLoop (t : Ev → Sto → R Bool) (b : Ev → Sto → Out) : Nat → Ev → Sto → Out
  | 0, _, _ => .stuck
  | n + 1, env, S => (t env S).out env fun k S => if k then (b env S).turn (whLoop t b n) else .next env S
def foLoop (b : Ev → Sto → Out) (tg : List Nat) (fin : Sto → Bool) : List (Sto → Option D) → Ev → Sto → Out
  | [], env, S => if fin S = true then .next env S else .stuck
  | x :: xs, env, S => match x S with
    | none => .stuck
    | some d => match setTg tg d env with
      | none => .stuck
      | some env' => (b env' S).turn (foLoop b tg fin xs)

def setItem (S : Sto) (x y d : D) : Option Sto :=
  match x with
  | .loc l => match S[l]? with
    | some (.lst xs) => match y with
      | .int k => (ixN xs.length k).map fun j => S.set l (.lst (xs.set j d))
      | _ => none
    | some (.dct t kvs) => match keyOf t y with
      | some k => if kvs.length < LIM then some (S.set l (.dct t (putK kvs k d))) else none
      | none => none
    | _ => none
  | _ => none
mutual
def asg (cl : Orc) (gv : Gv) : Tg → D → Ev → Sto → R Ev
  | .name i, d, env, S => .ok (env.set i (some d)) S
  | .fld o f, d, env, S => (evE cl gv o env S).bind fun x S => match x with
      | .loc l => match S[l]? with
        | some (.ins c fs) => if fs.length < 100 then .ok env (S.set l (.ins c (putFd f d fs))) else .stuck
        | _ => .stuck
      | _ => .stuck
  | .sub o i, d, env, S => (evE cl gv o env S).bind fun x S => (evE cl gv i env S).bind fun y S => match setItem S x y d with
      | some S' => .ok env S'
      | none => .stuck
  | .tup ts, d, env, S => if isTup d = true then match getS S d with
      | some xs => asgs cl gv ts xs env S
      | none => .stuck
      else .stuck
termination_by structural t => t
def asgs (cl : Orc) (gv : Gv) : Tgs → List D → Ev → Sto → R Ev
  | .nil, ds, env, S => match ds with | [] => .ok env S | _ => .stuck
  | .cons t ts, ds, env, S => match ds with
    | d :: ds => (asg cl gv t d env S).bind fun env S => asgs cl gv ts ds env S
    | [] => .stuck
termination_by structural ts => ts
end

mutual
def exS (cl : Orc) (gv : Gv) : CS → Ev → Sto → Out
  | .expr e, env, S => (evE cl gv e env S).out env fun _ S => .next env S
  | .ret e, env, S => (evE cl gv e env S).out env fun d S => .ret d S
  | .retN, _, S => .ret .non S
  | .pass, env, S => .next env S
  | .brk, env, S => .brk env S
  | .cnt, env, S => .cnt env S
  | .asg t e, env, S => (evE cl gv e env S).out env fun d S => (asg cl gv t d env S).out env fun env S => .next env S
  | .aug i e, env, S => match env[i]? with
      | some (some (.int x)) => (evE cl gv e env S).out env fun d S => match d with
        | .int y => .next (env.set i (some (.int (x + y)))) S
        | _ => .stuck
      | _ => .stuck
  | .ite t a b, env, S => (evC cl gv (.some t) env S).out env fun k S => if k then exSs cl gv a env S else exSs cl gv b env S
  | .whl n t b, env, S => whLoop (fun env S => evC cl gv (.some t) env S) (fun env S => exSs cl gv b env S) n env S
  | .fo tg it b, env, S => (evI cl gv it env S).out env fun w S => foLoop (fun env S => exSs cl gv b env S) tg w.fin w.its env S
  | .raise c, env, S => .exc c env S
  | .tr b hs, env, S => match exSs cl gv b env S with
      | .exc c env S => exH cl gv hs c env S
      | o => o
termination_by structural s => s
def exSs (cl : Orc) (gv : Gv) : CSs → Ev → Sto → Out
  | .nil, env, S => .next env S
  | .cons s ss, env, S => (exS cl gv s env S).seq fun env S => exSs cl gv ss env S
termination_by structural ss => ss
def exH (cl : Orc) (gv : Gv) : Hs → Nat → Ev → Sto → Out
  | .nil, c, env, S => .exc c env S
  | .cons c' b hs, c, env, S => if c = c' then (match exSs cl gv b env S with | .exc _ _ _ => .stuck | o => o) else exH cl gv hs c env S
termination_by structural hs => hs
end

def ofNames : List Nat → Tgs
  | [] => .nil
  | i :: is => .cons (.name i) (ofNames is)
def nameSet : List Nat → List D → Ev → Option Ev
  | [], [], env => some env
  | i :: is, d :: ds, env => nameSet is ds (env.set i (some d))
  | _, _, _ => none
theorem asgs_names {cl : Orc} {gv : Gv} : ∀ (is : List Nat) (ds : List D) (env : Ev) (S : Sto), asgs cl gv (ofNames is) ds env S = match nameSet is ds env with | some env' => .ok env' S | none => .stuck
  | [], [], env, S => by simp [ofNames, asgs, nameSet]
  | [], _ :: _, env, S => by simp [ofNames, asgs, nameSet]
  | _ :: _, [], env, S => by simp [ofNames, asgs, nameSet]
  | i :: is, d :: ds, env, S => by
    simp only [ofNames, asgs, nameSet, asg, R.bind_ok]
    exact asgs_names is ds _ S

structure Fn where
  params : Nat
  slots : Nat
  pure : Bool
  body : CSs

def callD (fns : Nat → Option Fn) (gv : Gv) : Nat → Orc
  | 0 => fun _ _ _ => .stuck
  | d + 1 => fun f args S =>
    match fns f with
    | none => .stuck
    | some F =>
      if args.length = F.params then
        if F.pure then
          if D.noLocs args then
            match exSs (callD fns gv d) gv F.body (args.map some ++ List.replicate (F.slots - F.params) none) [] with
            | .ret v S1 => match freeze DEEP S1 v with
              | some v' => .ok v' S
              | none => .stuck
            | .next _ _ => .ok .non S
            | .exc c _ _ => .exc c S
            | _ => .stuck
          else .stuck
        else
          match exSs (callD fns gv d) gv F.body (args.map some ++ List.replicate (F.slots - F.params) none) S with
          | .ret v S1 => .ok v S1
          | .next _ S1 => .ok .non S1
          | .exc c _ S1 => .exc c S1
          | _ => .stuck
      else .stuck
end Mini

namespace Mini
open PySem L2

/-- the names of fields, the addresses of classes and of exception classes -/
structure Tb where
  fldN : Nat → Str
  clsA : Nat → Option Addr
  excA : Nat → Option Addr

/-- where the store's things lie; what is not to be told (a list that is being made, a caller's things) -/
structure Rho where
  loc : List Addr
  hid : List Addr
instance : Membership Addr Rho := ⟨fun ρ p => p ∈ ρ.loc ∨ p ∈ ρ.hid⟩
theorem Rho.mem {ρ : Rho} {p : Addr} : p ∈ ρ ↔ p ∈ ρ.loc ∨ p ∈ ρ.hid := Iff.rfl
def Rho.push (ρ : Rho) (p : Addr) : Rho := ⟨ρ.loc ++ [p], ρ.hid⟩

/-- the entries of a dict, at p -/
def DcR (R : HO → Prop) (t : Bool) (ks : List (List Key)) (vs : List V) : Prop :=
  if t = true then R (.dT (ks.zip vs)) else ∃ k1 : List Key, ks = k1.map (fun k => [k]) ∧ R (.dK (k1.zip vs))

section
variable (K : PySem.W.Frag) (ρ : Rho) (H : Hp)
mutual
def VR : D → V → Prop
  | .non, v => v = .non
  | .bl b, v => v = .bl b
  | .int i, v => v = .int i
  | .str s, v => v = .str s ∧ PyData.strOk s = true
  | .tup xs, v => ∃ p vs, v = .ref p ∧ H p = some (.tup vs) ∧ VRs xs vs
  | .ktup xs, v => ∃ p vs, v = .ref p ∧ SqT K H p vs ∧ VRs xs vs
  | .ztup xs, v => ∃ p o vs, v = .ref p ∧ H p = some (.frz o (.tup vs)) ∧ o.dict = none ∧ VRs xs vs
  | .loc l, v => ∃ p, ρ.loc[l]? = some p ∧ v = .ref p
  | .fl xs, v => ∃ p vs, v = .ref p ∧ p ∉ ρ ∧ H p = some (.lst vs) ∧ VRs xs vs
  | .fd t ks ds, v => ∃ p vs, v = .ref p ∧ p ∉ ρ ∧ DcR (Rd H p) t ks vs ∧ ks.length = ds.length ∧ VRs ds vs
  | .scr ns, v => ∃ p, v = .ref p ∧ ((p ∉ ρ ∧ Rd H p (.lst (ns.map V.int))) ∨ ∀ H' : Hp, SqL K H' p (ns.map V.int))
def VRs : List D → List V → Prop
  | [], vs => vs = []
  | d :: ds, vs => ∃ v r, vs = v :: r ∧ VR d v ∧ VRs ds r
end
end

structure Ext0 (ρ : Rho) (H : Hp) (ρ' : Rho) (H' : Hp) : Prop where
  pre : ∀ (l : Nat) (p : Addr), ρ.loc[l]? = some p → ρ'.loc[l]? = some p
  new : ∀ p, p ∈ ρ' → p ∈ ρ ∨ H p = none
  kp : ∀ p o, H p = some o → (p ∉ ρ ∨ ¬ Mut (some o)) → H' p = some o
structure Ext (ρ : Rho) (H : Hp) (ρ' : Rho) (H' : Hp) : Prop extends Ext0 ρ H ρ' H' where
  newL : ∀ p ∈ ρ'.loc, p ∈ ρ.loc ∨ H p = none
  hup : ∀ p ∈ ρ.hid, p ∈ ρ'.hid
  hk : ∀ p ∈ ρ.hid, H' p = H p

section
variable {K : PySem.W.Frag} {ρ ρ' ρ'' : Rho} {H H' H'' : Hp}
theorem Ext.refl : Ext ρ H ρ H := ⟨⟨fun _ _ h => h, fun _ h => .inl h, fun _ _ h _ => h⟩, fun _ h => .inl h, fun _ h => h, fun _ _ => rfl⟩
theorem Ext0.notin (x : Ext0 ρ H ρ' H') {p : Addr} {o : HO} (h : H p = some o) (n : p ∉ ρ) : p ∉ ρ' := fun m => by
  rcases x.new p m with q | q
  · exact n q
  · rw [h] at q; cases q
theorem Ext.back (x : Ext ρ H ρ' H') {p : Addr} (h : H' p = none) : p ∈ ρ.loc ∨ H p = none := by
  cases e : H p with
  | none => exact .inr rfl
  | some o =>
    by_cases n : p ∈ ρ
    · rcases n with n | n
      · exact .inl n
      · have := x.hk p n
        rw [h, e] at this; cases this
    · have := x.kp p o e (.inl n)
      rw [h] at this; cases this
theorem Ext.trans (x : Ext ρ H ρ' H') (y : Ext ρ' H' ρ'' H'') : Ext ρ H ρ'' H'' where
  pre := fun l p h => y.pre l p (x.pre l p h)
  newL := fun p m => by
    rcases y.newL p m with q | q
    · exact x.newL p q
    · exact x.back q
  new := fun p m => by
    rcases y.new p m with q | q
    · exact x.new p q
    · rcases x.back q with q | q
      · exact .inl (.inl q)
      · exact .inr q
  kp := fun p o h n => by
    have h1 := x.kp p o h n
    refine y.kp p o h1 ?_
    rcases n with n | n
    · exact .inl (x.notin h n)
    · exact .inr n
  hup := fun p m => y.hup p (x.hup p m)
  hk := fun p m => (y.hk p (x.hup p m)).trans (x.hk p m)
theorem Ext0.rd (x : Ext0 ρ H ρ' H') {p : Addr} {u : HO} (h : Rd H p u) (n : p ∉ ρ) : Rd H' p u ∧ p ∉ ρ' := by
  rcases h with h | ⟨o, h⟩
  · exact ⟨.inl (x.kp p _ h (.inl n)), x.notin h n⟩
  · exact ⟨.inr ⟨o, x.kp p _ h (.inl n)⟩, x.notin h n⟩
theorem Ext0.tup (x : Ext0 ρ H ρ' H') {p : Addr} {vs : List V} (h : SqT K H p vs) : SqT K H' p vs := by
  rcases h with (h | ⟨o, h⟩) | h
  · exact .inl (.inl (x.kp p _ h (.inr (fun z => z))))
  · exact .inl (.inr ⟨o, x.kp p _ h (.inr (fun z => z))⟩)
  · exact .inr h
theorem DcR.imp {R R' : HO → Prop} {t : Bool} {ks : List (List Key)} {vs : List V} (h : DcR R t ks vs) (i : ∀ o, R o → R' o) : DcR R' t ks vs := by
  unfold DcR at h ⊢
  split at h
  · rename_i e; rw [if_pos e]; exact i _ h
  · rename_i e; rw [if_neg e]; obtain ⟨k, e1, e2⟩ := h; exact ⟨k, e1, i _ e2⟩

mutual
theorem VR.mono0 (x : Ext0 ρ H ρ' H') : ∀ (d : D) (v : V), VR K ρ H d v → VR K ρ' H' d v
  | .non, _, h => h
  | .bl _, _, h => h
  | .int _, _, h => h
  | .str _, _, h => h
  | .tup xs, v, h => by
    simp only [VR] at h ⊢
    obtain ⟨p, vs, e, t, r⟩ := h
    exact ⟨p, vs, e, x.kp p _ t (.inr (fun z => z)), VRs.mono0 x xs vs r⟩
  | .ztup xs, v, h => by
    simp only [VR] at h ⊢
    obtain ⟨p, o, vs, e, t, d, r⟩ := h
    exact ⟨p, o, vs, e, x.kp p _ t (.inr (fun z => z)), d, VRs.mono0 x xs vs r⟩
  | .ktup xs, v, h => by
    simp only [VR] at h ⊢
    obtain ⟨p, vs, e, t, r⟩ := h
    exact ⟨p, vs, e, x.tup t, VRs.mono0 x xs vs r⟩
  | .loc l, v, h => by
    simp only [VR] at h ⊢
    obtain ⟨p, e, q⟩ := h
    exact ⟨p, x.pre l p e, q⟩
  | .fl xs, v, h => by
    simp only [VR] at h ⊢
    obtain ⟨p, vs, e, n, t, r⟩ := h
    exact ⟨p, vs, e, x.notin t n, x.kp p _ t (.inl n), VRs.mono0 x xs vs r⟩
  | .fd t ks ds, v, h => by
    simp only [VR] at h ⊢
    obtain ⟨p, vs, e, n, q, l, r⟩ := h
    refine ⟨p, vs, e, ?_, q.imp fun o z => (x.rd z n).1, l, VRs.mono0 x ds vs r⟩
    unfold DcR at q
    split at q
    · exact (x.rd q n).2
    · obtain ⟨_, _, q⟩ := q; exact (x.rd q n).2
  | .scr ns, v, h => by
    simp only [VR] at h ⊢
    obtain ⟨p, e, q⟩ := h
    refine ⟨p, e, ?_⟩
    rcases q with ⟨n, q⟩ | q
    · exact .inl ⟨(x.rd q n).2, (x.rd q n).1⟩
    · exact .inr q
theorem VRs.mono0 (x : Ext0 ρ H ρ' H') : ∀ (ds : List D) (vs : List V), VRs K ρ H ds vs → VRs K ρ' H' ds vs
  | [], _, h => h
  | d :: ds, vs, h => by
    simp only [VRs] at h ⊢
    obtain ⟨v, r, e, h1, h2⟩ := h
    exact ⟨v, r, e, VR.mono0 x d v h1, VRs.mono0 x ds r h2⟩
end
theorem VR.mono (x : Ext ρ H ρ' H') (d : D) (v : V) (h : VR K ρ H d v) : VR K ρ' H' d v := VR.mono0 x.toExt0 d v h
theorem VRs.mono (x : Ext ρ H ρ' H') (ds : List D) (vs : List V) (h : VRs K ρ H ds vs) : VRs K ρ' H' ds vs := VRs.mono0 x.toExt0 ds vs h
end

section
variable {K : PySem.W.Frag} {ρ : Rho} {H : Hp}
theorem VRs.nil : VRs K ρ H [] [] := by simp only [VRs]
theorem VRs.cons {d : D} {v : V} {ds : List D} {vs : List V} (h : VR K ρ H d v) (t : VRs K ρ H ds vs) : VRs K ρ H (d :: ds) (v :: vs) := by
  simp only [VRs]; exact ⟨v, vs, rfl, h, t⟩
theorem VRs.inv {d : D} {v : V} {ds : List D} {vs : List V} (h : VRs K ρ H (d :: ds) (v :: vs)) : VR K ρ H d v ∧ VRs K ρ H ds vs := by
  simp only [VRs] at h
  obtain ⟨_, _, e, h1, h2⟩ := h
  cases e; exact ⟨h1, h2⟩
theorem VRs.length : ∀ {ds : List D} {vs : List V}, VRs K ρ H ds vs → ds.length = vs.length
  | [], vs, h => by simp only [VRs] at h; subst h; rfl
  | d :: ds, vs, h => by
    simp only [VRs] at h
    obtain ⟨v, r, e, _, h2⟩ := h
    rw [e, List.length_cons, List.length_cons, VRs.length h2]
theorem VRs.get : ∀ {ds : List D} {vs : List V} {i : Nat} {d : D}, VRs K ρ H ds vs → ds[i]? = some d → ∃ v, vs[i]? = some v ∧ VR K ρ H d v
  | [], _, _, _, _, e => by simp at e
  | x :: ds, vs, i, d, h, e => by
    simp only [VRs] at h
    obtain ⟨v, r, rfl, h1, h2⟩ := h
    cases i with
    | zero => simp at e; subst e; exact ⟨v, rfl, h1⟩
    | succ i => simp at e; obtain ⟨w, e1, e2⟩ := VRs.get h2 e; exact ⟨w, by simpa using e1, e2⟩
theorem VRs.get' : ∀ {ds : List D} {vs : List V} {i : Nat} {v : V}, VRs K ρ H ds vs → vs[i]? = some v → ∃ d, ds[i]? = some d ∧ VR K ρ H d v
  | [], vs, _, _, h, e => by simp only [VRs] at h; subst h; simp at e
  | x :: ds, vs, i, d, h, e => by
    simp only [VRs] at h
    obtain ⟨v, r, rfl, h1, h2⟩ := h
    cases i with
    | zero => simp at e; subst e; exact ⟨x, rfl, h1⟩
    | succ i => simp at e; obtain ⟨w, e1, e2⟩ := VRs.get' h2 e; exact ⟨w, by simpa using e1, e2⟩
theorem VRs.append : ∀ {ds es : List D} {vs ws : List V}, VRs K ρ H ds vs → VRs K ρ H es ws → VRs K ρ H (ds ++ es) (vs ++ ws)
  | [], _, _, _, h, t => by simp only [VRs] at h; subst h; exact t
  | x :: ds, _, vs, _, h, t => by
    simp only [VRs] at h
    obtain ⟨v, r, rfl, h1, h2⟩ := h
    exact VRs.cons h1 (VRs.append h2 t)
theorem VRs.of_get : ∀ {ds : List D} {vs : List V}, ds.length = vs.length → (∀ (i : Nat) (d : D) (v : V), ds[i]? = some d → vs[i]? = some v → VR K ρ H d v) → VRs K ρ H ds vs
  | [], [], _, _ => VRs.nil
  | [], _ :: _, e, _ => by simp at e
  | _ :: _, [], e, _ => by simp at e
  | d :: ds, v :: vs, e, h => VRs.cons (h 0 d v rfl rfl) (VRs.of_get (by simpa using e) fun i d' v' h1 h2 => h (i + 1) d' v' (by simpa using h1) (by simpa using h2))
theorem VRs.take {ds : List D} {vs : List V} (h : VRs K ρ H ds vs) (n : Nat) : VRs K ρ H (ds.take n) (vs.take n) := by
  refine VRs.of_get (by simp [h.length]) fun i d v h1 h2 => ?_
  rw [List.getElem?_take] at h1 h2
  split at h1
  · rename_i hi
    rw [if_pos hi] at h2
    obtain ⟨w, e1, e2⟩ := h.get h1
    rw [h2] at e1; cases e1; exact e2
  · cases h1
theorem VRs.drop {ds : List D} {vs : List V} (h : VRs K ρ H ds vs) (n : Nat) : VRs K ρ H (ds.drop n) (vs.drop n) := by
  refine VRs.of_get (by simp [h.length]) fun i d v h1 h2 => ?_
  rw [List.getElem?_drop] at h1 h2
  obtain ⟨w, e1, e2⟩ := h.get h1
  rw [h2] at e1; cases e1; exact e2
theorem VRs.reverse : ∀ {ds : List D} {vs : List V}, VRs K ρ H ds vs → VRs K ρ H ds.reverse vs.reverse
  | [], _, h => by simp only [VRs] at h; subst h; exact VRs.nil
  | x :: ds, vs, h => by
    simp only [VRs] at h
    obtain ⟨v, r, rfl, h1, h2⟩ := h
    rw [List.reverse_cons, List.reverse_cons]
    exact VRs.append (VRs.reverse h2) (VRs.cons h1 VRs.nil)
theorem VRs.set {ds : List D} {vs : List V} (h : VRs K ρ H ds vs) (n : Nat) {d : D} {v : V} (r : VR K ρ H d v) : VRs K ρ H (ds.set n d) (vs.set n v) := by
  refine VRs.of_get (by simp [h.length]) fun i d' v' h1 h2 => ?_
  have hl := h.length
  rw [List.getElem?_set] at h1 h2
  by_cases e : n = i
  · subst e
    simp only [if_true] at h1 h2
    split at h1
    · rename_i hn
      rw [if_pos (by omega)] at h2
      cases h1; cases h2; exact r
    · cases h1
  · simp only [if_neg e] at h1 h2
    obtain ⟨w, e1, e2⟩ := h.get h1
    rw [h2] at e1; cases e1; exact e2
end

/-- what lies at p -/
def OR (T : Tb) (K : PySem.W.Frag) (ρ : Rho) (H : Hp) (p : Addr) : O → Prop
  | .lst xs => ∃ vs, H p = some (.lst vs) ∧ VRs K ρ H xs vs
  | .dct t kvs => ∃ vs, DcR (fun o => H p = some o) t (kvs.map (·.1)) vs ∧ VRs K ρ H (kvs.map (·.2)) vs
  | .ins c fs => ∃ C dx vs, H p = some (.ins C dx ((fs.map fun f => T.fldN f.1).zip vs)) ∧ T.clsA c = some C ∧ VRs K ρ H (fs.map (·.2)) vs

structure Rel (T : Tb) (K : PySem.W.Frag) (ρ : Rho) (S : Sto) (H : Hp) : Prop where
  len : ρ.loc.length = S.length
  nd : ρ.loc.Nodup
  hd : ∀ p ∈ ρ.hid, p ∉ ρ.loc ∧ H p ≠ none
  ob : ∀ (l : Nat) (o : O) (p : Addr), S[l]? = some o → ρ.loc[l]? = some p → OR T K ρ H p o

def EvR (K : PySem.W.Frag) (ρ : Rho) (H : Hp) (env : Ev) (σ : L2.St) : Prop :=
  env.length = σ.length ∧ ∀ (i : Nat) (d : D), env[i]? = some (some d) → ∃ v, σ[i]? = some (some v) ∧ VR K ρ H d v

section
variable {T : Tb} {K : PySem.W.Frag} {ρ ρ' : Rho} {H H' : Hp} {S : Sto} {env : Ev} {σ : L2.St}
theorem EvR.mono (h : EvR K ρ H env σ) (x : Ext ρ H ρ' H') : EvR K ρ' H' env σ := ⟨h.1, fun i d e => by
  obtain ⟨v, e1, e2⟩ := h.2 i d e
  exact ⟨v, e1, VR.mono x d v e2⟩⟩
theorem EvR.set (h : EvR K ρ H env σ) (i : Nat) {d : D} {v : V} (r : VR K ρ H d v) : EvR K ρ H (env.set i (some d)) (σ.set i (some v)) := by
  refine ⟨by simp [h.1], fun j d' e => ?_⟩
  have hl := h.1
  rw [List.getElem?_set] at e ⊢
  by_cases q : i = j
  · subst q
    simp only [if_true] at e ⊢
    split at e
    · rename_i hn
      rw [if_pos (by omega)]
      cases e; exact ⟨v, rfl, r⟩
    · cases e
  · simp only [if_neg q] at e ⊢
    exact h.2 j d' e
theorem Rel.addr (r : Rel T K ρ S H) {l : Nat} {o : O} (e : S[l]? = some o) : ∃ p, ρ.loc[l]? = some p ∧ OR T K ρ H p o := by
  have h1 : l < S.length := (List.getElem?_eq_some_iff.mp e).1
  have h2 : l < ρ.loc.length := by rw [r.len]; exact h1
  refine ⟨ρ.loc[l], by simp [h2], r.ob l o _ e (by simp [h2])⟩
theorem OR.mut {p : Addr} {o : O} (q : OR T K ρ H p o) : ∃ o, H p = some o ∧ Mut (some o) := by
  cases o with
  | lst xs => obtain ⟨vs, h, _⟩ := q; exact ⟨_, h, trivial⟩
  | dct t kvs =>
    obtain ⟨vs, h, _⟩ := q
    unfold DcR at h
    split at h
    · exact ⟨_, h, trivial⟩
    · obtain ⟨_, _, h⟩ := h; exact ⟨_, h, trivial⟩
  | ins c fs => obtain ⟨C, dx, vs, h, _⟩ := q; exact ⟨_, h, trivial⟩
theorem Rel.there (r : Rel T K ρ S H) {p : Addr} (m : p ∈ ρ.loc) : ∃ o, H p = some o ∧ Mut (some o) := by
  obtain ⟨l, hl, e⟩ := List.getElem_of_mem m
  have h1 : l < S.length := by rw [← r.len]; exact hl
  exact (r.ob l S[l] p (by simp [h1]) (by simp [hl, e])).mut
theorem Rel.fresh (r : Rel T K ρ S H) {p : Addr} (h : H p = none) : p ∉ ρ := fun m => by
  rcases m with m | m
  · obtain ⟨o, e, _⟩ := r.there m
    rw [h] at e; cases e
  · exact (r.hd p m).2 h
theorem OR.mono0 {p : Addr} {o : O} (h : OR T K ρ H p o) (x : Ext0 ρ H ρ' H') (e : ∀ u, H p = some u → H' p = some u) : OR T K ρ' H' p o := by
  cases o with
  | lst xs => obtain ⟨vs, h1, h2⟩ := h; exact ⟨vs, e _ h1, VRs.mono0 x xs vs h2⟩
  | dct t kvs => obtain ⟨vs, h1, h2⟩ := h; exact ⟨vs, h1.imp fun o z => e o z, VRs.mono0 x _ vs h2⟩
  | ins c fs => obtain ⟨C, dx, vs, h1, h2, h3⟩ := h; exact ⟨C, dx, vs, e _ h1, h2, VRs.mono0 x _ vs h3⟩
theorem OR.mono {p : Addr} {o : O} (h : OR T K ρ H p o) (x : Ext ρ H ρ' H') (e : ∀ u, H p = some u → H' p = some u) : OR T K ρ' H' p o := h.mono0 x.toExt0 e
/-- a new object that is not in the store -/
theorem Ext.upd {p : Addr} {o : HO} (h : H p = none) (hh : p ∉ ρ.hid := by first | assumption | exact fun m => (Rel.hd ‹_› _ m).2 ‹_›) : Ext ρ H ρ (upd H p o) :=
  ⟨⟨fun _ _ e => e, fun _ m => .inl m, fun q u e _ => by rw [upd_ne (ne_of_none e h)]; exact e⟩, fun _ m => .inl m, fun _ m => m, fun q m => upd_ne fun e => hh (e ▸ m)⟩
theorem Rel.new (r : Rel T K ρ S H) {p : Addr} {o : HO} (h : H p = none) : Rel T K ρ S (L2.upd H p o) :=
  ⟨r.len, r.nd, fun q m => ⟨(r.hd q m).1, by
      obtain ⟨_, n⟩ := r.hd q m
      have hx : q ≠ p := by rintro rfl; exact n h
      rw [upd_ne hx]; exact n⟩, fun l u q e1 e2 => (r.ob l u q e1 e2).mono (Ext.upd h) fun w e => by rw [upd_ne (ne_of_none e h)]; exact e⟩
/-- a new object of the store -/
theorem Ext.alloc {p : Addr} {o : HO} (h : H p = none) (hh : p ∉ ρ.hid := by first | assumption | exact fun m => (Rel.hd ‹_› _ m).2 ‹_›) : Ext ρ H (ρ.push p) (L2.upd H p o) :=
  ⟨⟨fun l q e => by
      show (ρ.loc ++ [p])[l]? = some q
      rw [List.getElem?_append_left (List.getElem?_eq_some_iff.mp e).1]; exact e, fun q m => by
    rcases m with m | m
    · rcases List.mem_append.mp (show q ∈ ρ.loc ++ [p] from m) with m | m
      · exact .inl (.inl m)
      · simp at m; subst m; exact .inr h
    · exact .inl (.inr m), fun q u e _ => by rw [upd_ne (ne_of_none e h)]; exact e⟩, fun q m => by
    rcases List.mem_append.mp (show q ∈ ρ.loc ++ [p] from m) with m | m
    · exact .inl m
    · simp at m; subst m; exact .inr h, fun _ m => m, fun q m => upd_ne fun e => hh (e ▸ m)⟩
theorem Rel.alloc (r : Rel T K ρ S H) {p : Addr} {o : HO} {u : O} (h : H p = none) (q : OR T K (ρ.push p) (L2.upd H p o) p u) : Rel T K (ρ.push p) (S ++ [u]) (L2.upd H p o) := by
  refine ⟨by simp [Rho.push, r.len], ?_, fun x m => ?_, fun l w a e1 e2 => ?_⟩
  · refine List.nodup_append.mpr ⟨r.nd, by simp, fun a ha b hb => ?_⟩
    simp at hb; subst hb
    rintro rfl
    exact r.fresh h (.inl ha)
  · obtain ⟨n1, n2⟩ := r.hd x m
    have hx : x ≠ p := fun e => n2 (e ▸ h)
    refine ⟨fun z => ?_, by rw [upd_ne hx]; exact n2⟩
    rcases List.mem_append.mp (show x ∈ ρ.loc ++ [p] from z) with z | z
    · exact n1 z
    · simp at z; exact hx z
  · have e2 : (ρ.loc ++ [p])[l]? = some a := e2
    by_cases hl : l < S.length
    · rw [List.getElem?_append_left hl] at e1
      rw [List.getElem?_append_left (by rw [r.len]; exact hl)] at e2
      exact (r.ob l w a e1 e2).mono (Ext.alloc h) fun w e => by rw [upd_ne (ne_of_none e h)]; exact e
    · rw [List.getElem?_append_right (by omega)] at e1
      rw [List.getElem?_append_right (by rw [r.len]; omega), r.len] at e2
      cases hk : l - S.length with
      | zero => rw [hk] at e1 e2; simp at e1 e2; subst e1; subst e2; exact q
      | succ n => rw [hk] at e1; simp at e1
/-- an object of the store is another one from now on -/
theorem Ext.write {p : Addr} {o o' : HO} (r : Rel T K ρ S H) (m : p ∈ ρ.loc) (h : H p = some o) (mu : Mut (some o)) : Ext ρ H ρ (L2.upd H p o') :=
  ⟨⟨fun _ _ e => e, fun _ m => .inl m, fun q u e n => by
    have : q ≠ p := by
      rintro rfl
      rw [h] at e; cases e
      rcases n with n | n
      · exact n (.inl m)
      · exact n mu
    rw [upd_ne this]; exact e⟩, fun _ m => .inl m, fun _ m => m, fun q mq => upd_ne fun e => (r.hd q mq).1 (e ▸ m)⟩
theorem Rel.write (r : Rel T K ρ S H) {l : Nat} {p : Addr} {u w : O} {o' : HO} (e : ρ.loc[l]? = some p) (e' : S[l]? = some u) (q : OR T K ρ (L2.upd H p o') p w) : Rel T K ρ (S.set l w) (L2.upd H p o') := by
  have m : p ∈ ρ.loc := List.mem_of_getElem? e
  obtain ⟨o, ho, mu⟩ := r.there m
  refine ⟨by simp [r.len], r.nd, fun x mx => ?_, fun k x a e1 e2 => ?_⟩
  · obtain ⟨n1, n2⟩ := r.hd x mx
    have hx : x ≠ p := by rintro rfl; exact n1 m
    exact ⟨n1, by rw [upd_ne hx]; exact n2⟩
  · rw [List.getElem?_set] at e1
    by_cases hk : l = k
    · subst hk
      simp only [if_true] at e1
      split at e1
      · cases e1; rw [e] at e2; cases e2; exact q
      · cases e1
    · simp only [if_neg hk] at e1
      have hne : a ≠ p := by
        rintro rfl
        obtain ⟨i1, j1⟩ := List.getElem?_eq_some_iff.mp e
        obtain ⟨i2, j2⟩ := List.getElem?_eq_some_iff.mp e2
        exact hk ((List.getElem_inj r.nd).mp (j1.trans j2.symm))
      exact (r.ob k x a e1 e2).mono (Ext.write r m ho mu) fun w e => by rw [upd_ne hne]; exact e
/-- a hidden thing is written -/
theorem Ext0.hidden {p : Addr} {o' : HO} (m : p ∈ ρ.hid) (h : H p = some o) (mu : Mut (some o)) : Ext0 ρ H ρ (L2.upd H p o') :=
  ⟨fun _ _ e => e, fun _ m => .inl m, fun q u e n => by
    have : q ≠ p := by
      rintro rfl
      rw [h] at e; cases e
      rcases n with n | n
      · exact n (.inr m)
      · exact n mu
    rw [upd_ne this]; exact e⟩
theorem Rel.hidden (r : Rel T K ρ S H) {p : Addr} {o o' : HO} (m : p ∈ ρ.hid) (h : H p = some o) (mu : Mut (some o)) : Rel T K ρ S (L2.upd H p o') :=
  ⟨r.len, r.nd, fun x mx => ⟨(r.hd x mx).1, by
      by_cases e : x = p
      · subst e; rw [upd_same]; simp
      · rw [upd_ne e]; exact (r.hd x mx).2⟩, fun l u q e1 e2 => (r.ob l u q e1 e2).mono0 (Ext0.hidden m h mu) fun w e => by
        have : q ≠ p := fun z => (r.hd p m).1 (z ▸ List.mem_of_getElem? e2)
        rw [upd_ne this]; exact e⟩
end
end Mini

namespace Mini
open PySem L2

/-- a result of the interpreter as a wish -/
def RG (T : Tb) (K : PySem.W.Frag) {α β : Type} (V : Rho → Hp → α → β → Prop) (ρ : Rho) (H : Hp) (r : R α) (Q : β → Hp → Prop) (E : XK) : Prop :=
  match r with
  | .ok a S' => ∀ ρ' H' b, Ext ρ H ρ' H' → Rel T K ρ' S' H' → V ρ' H' a b → Q b H'
  | .exc c S' => ∀ ρ' H' C, Ext ρ H ρ' H' → Rel T K ρ' S' H' → T.excA c = some C → E (.ref C) none H'
  | .stuck => False

section
variable {T : Tb} {K : PySem.W.Frag} {α β γ δ : Type} {V : Rho → Hp → α → β → Prop} {V2 : Rho → Hp → γ → δ → Prop} {ρ ρ' : Rho} {H H' : Hp} {E : XK}
theorem RG.weak {r : R α} {Q : β → Hp → Prop} (h : RG T K V ρ H r Q E) (x : Ext ρ H ρ' H') : RG T K V ρ' H' r Q E := by
  cases r with
  | ok a S => exact fun ρ2 H2 b e r v => h ρ2 H2 b (x.trans e) r v
  | exc c S => exact fun ρ2 H2 C e r v => h ρ2 H2 C (x.trans e) r v
  | stuck => exact h
theorem RG.imp {r : R α} {Q Q' : β → Hp → Prop} (h : RG T K V ρ H r Q E) (i : ∀ b H', Q b H' → Q' b H') : RG T K V ρ H r Q' E := by
  cases r with
  | ok a S => exact fun ρ2 H2 b e r v => i b H2 (h ρ2 H2 b e r v)
  | exc c S => exact h
  | stuck => exact h
theorem RG.bind {r : R α} {f : α → Sto → R γ} {Q : δ → Hp → Prop} (h : RG T K V2 ρ H (r.bind f) Q E) :
    RG T K V ρ H r (fun b H1 => ∃ ρ1 S1 a, Ext ρ H ρ1 H1 ∧ Rel T K ρ1 S1 H1 ∧ V ρ1 H1 a b ∧ RG T K V2 ρ1 H1 (f a S1) Q E) E := by
  cases r with
  | ok a S => exact fun ρ2 H2 b e r v => ⟨ρ2, S, a, e, r, v, RG.weak (show RG T K V2 ρ H (f a S) Q E from h) e⟩
  | exc c S => exact h
  | stuck => exact h
theorem RG.now {a : α} {b : β} {S : Sto} {Q : β → Hp → Prop} (h : RG T K V ρ H (.ok a S) Q E) (r : Rel T K ρ S H) (v : V ρ H a b) : Q b H := h ρ H b Ext.refl r v
end

section
variable {T : Tb} {K : PySem.W.Frag} {ρ : Rho} {H : Hp} {S : Sto} {E : XK}
abbrev VD (K : PySem.W.Frag) : Rho → Hp → D → V → Prop := fun ρ H => VR K ρ H
abbrev VDs (K : PySem.W.Frag) : Rho → Hp → List D → List V → Prop := fun ρ H => VRs K ρ H
abbrev VEq (α : Type) : Rho → Hp → α → α → Prop := fun _ _ a b => a = b

theorem VRs.ints : ∀ ns : List Int, VRs K ρ H (ns.map D.int) (ns.map V.int)
  | [] => VRs.nil
  | n :: ns => VRs.cons (by simp only [VR]) (VRs.ints ns)
theorem getL_ok {d : D} {v : V} {xs : List D} (e : getL S d = some xs) (r : Rel T K ρ S H) (h : VR K ρ H d v) : ∃ p vs, v = .ref p ∧ H p = some (.lst vs) ∧ VRs K ρ H xs vs := by
  cases d with
  | fl ys =>
    simp only [getL, Option.some.injEq] at e
    subst e
    simp only [VR] at h
    obtain ⟨p, vs, e, _, q, w⟩ := h
    exact ⟨p, vs, e, q, w⟩
  | loc l =>
    simp only [getL] at e
    cases o : S[l]? with
    | none => rw [o] at e; cases e
    | some u =>
      rw [o] at e
      cases u with
      | lst ys =>
        simp only [Option.some.injEq] at e
        subst e
        simp only [VR] at h
        obtain ⟨p, e1, e2⟩ := h
        obtain ⟨vs, q, w⟩ := r.ob l _ p o e1
        exact ⟨p, vs, e2, q, w⟩
      | _ => simp at e
  | _ => simp [getL] at e
theorem getS_ok {d : D} {v : V} {xs : List D} (e : getS S d = some xs) (r : Rel T K ρ S H) (h : VR K ρ H d v) : ∃ p vs, v = .ref p ∧ (SqL K H p vs ∨ SqT K H p vs) ∧ VRs K ρ H xs vs := by
  cases d with
  | fl ys =>
    obtain ⟨p, vs, e1, q, w⟩ := getL_ok (S := S) (d := .fl ys) (xs := xs) (by simpa [getS, getL] using e) r h
    exact ⟨p, vs, e1, .inl (SqL.of q), w⟩
  | loc l =>
    obtain ⟨p, vs, e1, q, w⟩ := getL_ok (S := S) (d := .loc l) (xs := xs) (by simpa only [getS, getL] using e) r h
    exact ⟨p, vs, e1, .inl (SqL.of q), w⟩
  | tup ys =>
    simp only [getS, Option.some.injEq] at e
    subst e
    simp only [VR] at h
    obtain ⟨p, vs, e1, q, w⟩ := h
    exact ⟨p, vs, e1, .inr (SqT.of q), w⟩
  | ztup ys =>
    simp only [getS, Option.some.injEq] at e
    subst e
    simp only [VR] at h
    obtain ⟨p, o, vs, e1, q, _, w⟩ := h
    exact ⟨p, vs, e1, .inr (.inl (.inr ⟨o, q⟩)), w⟩
  | ktup ys =>
    simp only [getS, Option.some.injEq] at e
    subst e
    simp only [VR] at h
    obtain ⟨p, vs, e1, q, w⟩ := h
    exact ⟨p, vs, e1, .inr q, w⟩
  | scr ns =>
    simp only [getS, Option.some.injEq] at e
    subst e
    simp only [VR] at h
    obtain ⟨p, e1, q⟩ := h
    refine ⟨p, ns.map V.int, e1, .inl ?_, VRs.ints ns⟩
    rcases q with ⟨_, q⟩ | q
    · exact .inl q
    · exact q H
  | _ => simp [getS] at e
theorem zip_map_self {α β γ : Type} (f : α → β) (g : α → γ) (l : List α) : (l.map f).zip (l.map g) = l.map fun x => (f x, g x) := by
  induction l with
  | nil => rfl
  | cons a l ih => simp [ih]
theorem getD_ok {d : D} {v : V} {t : Bool} {kvs : List (List Key × D)} (e : getD S d = some (t, kvs)) (r : Rel T K ρ S H) (h : VR K ρ H d v) :
    ∃ p vs, v = .ref p ∧ DcR (Rd H p) t (kvs.map (·.1)) vs ∧ VRs K ρ H (kvs.map (·.2)) vs := by
  cases d with
  | fd t' ks ds =>
    simp only [getD, Option.some.injEq, Prod.mk.injEq] at e
    obtain ⟨rfl, rfl⟩ := e
    simp only [VR] at h
    obtain ⟨p, vs, e1, _, q, l, w⟩ := h
    refine ⟨p, vs, e1, ?_, ?_⟩
    · rw [List.map_fst_zip (by omega)]; exact q
    · rw [List.map_snd_zip (by omega)]; exact w
  | loc l =>
    simp only [getD] at e
    cases o : S[l]? with
    | none => rw [o] at e; cases e
    | some u =>
      rw [o] at e
      cases u with
      | dct t' kv =>
        simp only [Option.some.injEq, Prod.mk.injEq] at e
        obtain ⟨rfl, rfl⟩ := e
        simp only [VR] at h
        obtain ⟨p, e1, e2⟩ := h
        obtain ⟨vs, q, w⟩ := r.ob l _ p o e1
        exact ⟨p, vs, e2, q.imp fun o z => .inl z, w⟩
      | _ => simp at e
  | _ => simp [getD] at e

/-! ### new things -/
theorem lim_line {n : Nat} (h : n ≤ LIM) : n ≤ sizeLine := by rw [sizeLine_eq]; unfold LIM at h; omega
theorem new_tup {xs : List D} {vs : List V} {Q : V → Hp → Prop} (h : RG T K (VD K) ρ H (.ok (.tup xs) S) Q E) (r : Rel T K ρ S H) (w : VRs K ρ H xs vs) {p : Addr} (hp : H p = none) : Q (.ref p) (upd H p (.tup vs)) := by
  refine h ρ _ (.ref p) (Ext.upd hp) (r.new hp) ?_
  show VR K ρ _ _ _
  simp only [VR]
  exact ⟨p, vs, rfl, upd_same, VRs.mono (Ext.upd hp) xs vs w⟩
theorem new_lst {m : Bool} {xs : List D} {vs : List V} {Q : V → Hp → Prop} (h : RG T K (VD K) ρ H (newL m xs S) Q E) (r : Rel T K ρ S H) (w : VRs K ρ H xs vs) :
    vs.length ≤ LIM ∧ ∀ p, H p = none → Q (.ref p) (upd H p (.lst vs)) := by
  unfold newL at h
  by_cases hl : xs.length ≤ LIM
  · rw [if_pos hl] at h
    refine ⟨by rw [← w.length]; exact hl, fun p hp => ?_⟩
    cases m with
    | true =>
      rw [if_pos rfl] at h
      have hn : p ∉ ρ := r.fresh hp
      refine h (ρ.push p) _ (.ref p) (Ext.alloc hp) (r.alloc hp ⟨vs, upd_same, VRs.mono (Ext.alloc hp) xs vs w⟩) ?_
      show VR K _ _ _ _
      simp only [VR]
      exact ⟨p, by rw [← r.len]; simp [Rho.push], rfl⟩
    | false =>
      rw [if_neg (by simp)] at h
      refine h ρ _ (.ref p) (Ext.upd hp) (r.new hp) ?_
      show VR K _ _ _ _
      simp only [VR]
      exact ⟨p, vs, rfl, r.fresh hp, upd_same, VRs.mono (Ext.upd hp) xs vs w⟩
  · rw [if_neg hl] at h; exact h.elim
theorem map_keys {kvs : List (List Key × D)} {k1 : List Key} (e : kvs.map (·.1) = k1.map fun k => [k]) : kvs.length = k1.length := by
  have := congrArg List.length e
  simpa using this
theorem new_dct {m t : Bool} {kvs : List (List Key × D)} {vs : List V} {Q : V → Hp → Prop} (h : RG T K (VD K) ρ H (newD m t kvs S) Q E) (r : Rel T K ρ S H) (w : VRs K ρ H (kvs.map (·.2)) vs) {o : HO}
    (ho : DcR (fun u => o = u) t (kvs.map (·.1)) vs) : vs.length ≤ LIM ∧ ∀ p, H p = none → Q (.ref p) (upd H p o) := by
  unfold newD at h
  by_cases hl : kvs.length ≤ LIM
  · rw [if_pos hl] at h
    refine ⟨by rw [← w.length, List.length_map]; exact hl, fun p hp => ?_⟩
    cases m with
    | true =>
      rw [if_pos rfl] at h
      refine h (ρ.push p) _ (.ref p) (Ext.alloc hp) (r.alloc hp ⟨vs, ho.imp fun u e => by rw [← e]; exact upd_same, VRs.mono (Ext.alloc hp) _ vs w⟩) ?_
      show VR K _ _ _ _
      simp only [VR]
      exact ⟨p, by rw [← r.len]; simp [Rho.push], rfl⟩
    | false =>
      rw [if_neg (by simp)] at h
      refine h ρ _ (.ref p) (Ext.upd hp) (r.new hp) ?_
      show VR K _ _ _ _
      simp only [VR]
      exact ⟨p, vs, rfl, r.fresh hp, ho.imp fun u e => by rw [← e]; exact .inl upd_same, by simp, VRs.mono (Ext.upd hp) _ vs w⟩
  · rw [if_neg hl] at h; exact h.elim

/-! ### data as the library tells it -/
theorem mapM_nil {α β : Type} (f : α → Option β) : ([] : List α).mapM f = some [] := rfl
theorem mapM_cons {α β : Type} (f : α → Option β) (a : α) (l : List α) : (a :: l).mapM f = (f a).bind fun b => (l.mapM f).bind fun bs => some (b :: bs) := by
  rw [List.mapM_cons]; rfl
theorem toPs_ok {f : D → Option PyData} {n : Nat} (hf : ∀ d v p, f d = some p → VR K ρ H d v → Dp K H v p ∧ p.canLay0 = true ∧ p.depth ≤ n) :
    ∀ (xs : List D) (vs : List V) (ps : List PyData), xs.mapM f = some ps → VRs K ρ H xs vs → DpAll K H vs ps ∧ PyData.canLayAll0 ps = true ∧ PyData.depthAll ps ≤ n
  | [], vs, ps, e, w => by
    rw [mapM_nil] at e
    cases e
    simp only [VRs] at w
    subst w
    exact ⟨.nil, by simp [PyData.canLayAll0], by simp [PyData.depthAll]⟩
  | x :: xs, vs, ps, e, w => by
    simp only [VRs] at w
    obtain ⟨v, r, rfl, h1, h2⟩ := w
    rw [mapM_cons] at e
    cases ex : f x with
    | none => rw [ex] at e; cases e
    | some p =>
      rw [ex] at e
      simp only [Option.bind_some] at e
      cases er : xs.mapM f with
      | none => rw [er] at e; cases e
      | some qs =>
        rw [er] at e
        simp only [Option.bind_some, Option.some.injEq] at e
        subst e
        obtain ⟨a1, a2, a3⟩ := hf x v p ex h1
        obtain ⟨b1, b2, b3⟩ := toPs_ok hf xs r qs er h2
        refine ⟨.cons a1 b1, by simp [PyData.canLayAll0, a2, b2], ?_⟩
        simp only [PyData.depthAll]
        omega
theorem toP_ok (r : Rel T K ρ S H) : ∀ (n : Nat) (d : D) (v : V) (p : PyData), toP n S d = some p → VR K ρ H d v → Dp K H v p ∧ p.canLay0 = true ∧ p.depth ≤ n
  | n, .non, v, p, e, h => by
    have : p = .none := by cases n <;> simpa [toP] using e.symm
    subst this; simp only [VR] at h; subst h; exact ⟨.non, by simp [PyData.canLay0], by simp [PyData.depth]⟩
  | n, .bl b, v, p, e, h => by
    have : p = .bool b := by cases n <;> simpa [toP] using e.symm
    subst this; simp only [VR] at h; subst h; exact ⟨.bl b, by simp [PyData.canLay0], by simp [PyData.depth]⟩
  | n, .int i, v, p, e, h => by
    have : p = .int i := by cases n <;> simpa [toP] using e.symm
    subst this; simp only [VR] at h; subst h; exact ⟨.int i, by simp [PyData.canLay0], by simp [PyData.depth]⟩
  | n, .str s, v, p, e, h => by
    have : p = .str s := by cases n <;> simpa [toP] using e.symm
    subst this; simp only [VR] at h; obtain ⟨rfl, h⟩ := h; exact ⟨.str s, by simpa [PyData.canLay0] using h, by simp [PyData.depth]⟩
  | 0, .tup xs, v, p, e, h => by simp [toP] at e
  | 0, .ktup xs, v, p, e, h => by simp [toP] at e
  | 0, .ztup xs, v, p, e, h => by simp [toP] at e
  | 0, .fl xs, v, p, e, h => by simp [toP] at e
  | 0, .loc l, v, p, e, h => by simp [toP] at e
  | n, .scr _, v, p, e, h => by cases n <;> simp [toP] at e
  | n, .fd _ _ _, v, p, e, h => by cases n <;> simp [toP] at e
  | n + 1, .tup xs, v, p, e, h => by
    simp only [toP, Option.map_eq_some_iff] at e
    obtain ⟨ps, e1, rfl⟩ := e
    simp only [VR] at h
    obtain ⟨a, vs, rfl, q, w⟩ := h
    obtain ⟨x1, x2, x3⟩ := toPs_ok (fun d v p => toP_ok r n d v p) xs vs ps e1 w
    exact ⟨.tup (SqT.of q) x1, by simp [PyData.canLay0, x2], by simp only [PyData.depth]; omega⟩
  | n + 1, .ztup xs, v, p, e, h => by
    simp only [toP, Option.map_eq_some_iff] at e
    obtain ⟨ps, e1, rfl⟩ := e
    simp only [VR] at h
    obtain ⟨a, o, vs, rfl, q, _, w⟩ := h
    obtain ⟨x1, x2, x3⟩ := toPs_ok (fun d v p => toP_ok r n d v p) xs vs ps e1 w
    exact ⟨.tup (.inl (.inr ⟨o, q⟩)) x1, by simp [PyData.canLay0, x2], by simp only [PyData.depth]; omega⟩
  | n + 1, .ktup xs, v, p, e, h => by
    simp only [toP, Option.map_eq_some_iff] at e
    obtain ⟨ps, e1, rfl⟩ := e
    simp only [VR] at h
    obtain ⟨a, vs, rfl, q, w⟩ := h
    obtain ⟨x1, x2, x3⟩ := toPs_ok (fun d v p => toP_ok r n d v p) xs vs ps e1 w
    exact ⟨.tup q x1, by simp [PyData.canLay0, x2], by simp only [PyData.depth]; omega⟩
  | n + 1, .fl xs, v, p, e, h => by
    simp only [toP, Option.map_eq_some_iff] at e
    obtain ⟨ps, e1, rfl⟩ := e
    simp only [VR] at h
    obtain ⟨a, vs, rfl, _, q, w⟩ := h
    obtain ⟨x1, x2, x3⟩ := toPs_ok (fun d v p => toP_ok r n d v p) xs vs ps e1 w
    exact ⟨.lst (SqL.of q) x1, by simp [PyData.canLay0, x2], by simp only [PyData.depth]; omega⟩
  | n + 1, .loc l, v, p, e, h => by
    simp only [toP] at e
    cases o : S[l]? with
    | none => rw [o] at e; cases e
    | some u =>
      rw [o] at e
      cases u with
      | lst xs =>
        simp only [Option.map_eq_some_iff] at e
        obtain ⟨ps, e1, rfl⟩ := e
        simp only [VR] at h
        obtain ⟨a, h1, rfl⟩ := h
        obtain ⟨vs, q, w⟩ := r.ob l _ a o h1
        obtain ⟨x1, x2, x3⟩ := toPs_ok (fun d v p => toP_ok r n d v p) xs vs ps e1 w
        exact ⟨.lst (SqL.of q) x1, by simp [PyData.canLay0, x2], by simp only [PyData.depth]; omega⟩
      | _ => simp at e
theorem toP_shaped (r : Rel T K ρ S H) {d : D} {v : V} {p : PyData} (e : toP DEEP S d = some p) (h : VR K ρ H d v) : Dp K H v p ∧ SeqAt.shaped p = true := by
  obtain ⟨a, b, c⟩ := toP_ok r DEEP d v p e h
  refine ⟨a, ?_⟩
  unfold SeqAt.shaped
  rw [b]
  unfold DEEP at c
  simp; omega
end
end Mini

namespace Mini
open PySem L2

/-! ### texts -/
theorem strOk_iff {s : Str} : PyData.strOk s = true ↔ ∀ c ∈ s.cps.toList, c < 0x110000 := by
  unfold PyData.strOk
  rw [Array.all_eq_true']
  simp
theorem strOk_of {s : Str} {l : List Nat} (h : ∀ c ∈ l, c ∈ s.cps.toList) (o : PyData.strOk s = true) : PyData.strOk ⟨l.toArray⟩ = true := by
  rw [strOk_iff] at o ⊢
  intro c hc
  exact o c (h c (by simpa using hc))
theorem strOk_append {x y : Str} (hx : PyData.strOk x = true) (hy : PyData.strOk y = true) : PyData.strOk (x ++ y) = true := by
  rw [strOk_iff] at hx hy ⊢
  intro c hc
  have : (x ++ y).cps.toList = x.cps.toList ++ y.cps.toList := by
    show (x.cps ++ y.cps).toList = _
    simp
  rw [this] at hc
  rcases List.mem_append.mp hc with h | h
  · exact hx c h
  · exact hy c h

section
variable {T : Tb} {K : PySem.W.Frag} {ρ : Rho} {H : Hp} {S : Sto} {E : XK} {a b : D} {x y : V} {Q : V → Hp → Prop}

/-! ### + -/
def rAdd (K : PySem.W.Frag) : R2 := fun x y H Q => (rI0 (fun i j => .int (i + j)) x y H Q) ∨ (∃ i j, x = .str i ∧ y = .str j ∧ i.length + j.length ≤ sizeLine ∧ Q (.str (i ++ j)) H) ∨ rCatA K x y H Q ∨ rCat x y H Q
theorem op_rAdd {X : Cx} : OpR X (binaryOp .Add) (rAdd X.K) := op_add.or (op_add_str.or (op_catA.or op_cat))
theorem cat_ok (r : Rel T K ρ S H) (va : VR K ρ H a x) (vb : VR K ρ H b y)
    (h : RG T K (VD K) ρ H (match getL S a, getL S b with | some xs, some ys => newL false (xs ++ ys) S | _, _ => .stuck) Q E) : rCat x y H Q := by
  cases e1 : getL S a with
  | none => rw [e1] at h; exact h.elim
  | some xs =>
    cases e2 : getL S b with
    | none => rw [e1, e2] at h; exact h.elim
    | some ys =>
      rw [e1, e2] at h
      obtain ⟨p, vs, rfl, q, w⟩ := getL_ok e1 r va
      obtain ⟨p', vs', rfl, q', w'⟩ := getL_ok e2 r vb
      obtain ⟨l, k⟩ := new_lst h r (w.append w')
      rw [List.length_append] at l
      exact ⟨p, p', vs, vs', rfl, rfl, q, q', lim_line l, k⟩
theorem add_ok (r : Rel T K ρ S H) (va : VR K ρ H a x) (vb : VR K ρ H b y) (h : RG T K (VD K) ρ H (sBin .add S a b) Q E) : rAdd K x y H Q := by
  unfold sBin at h
  simp only at h
  split at h
  · rename_i i j
    simp only [VR] at va vb
    subst va vb
    exact .inl ⟨i, j, rfl, rfl, RG.now h r (by simp only [VR])⟩
  · rename_i i j
    simp only [VR] at va vb
    obtain ⟨rfl, o1⟩ := va
    obtain ⟨rfl, o2⟩ := vb
    split at h
    · rename_i hl
      exact .inr (.inl ⟨i, j, rfl, rfl, lim_line hl, RG.now h r (by simp only [VR]; exact ⟨trivial, strOk_append o1 o2⟩)⟩)
    · exact h.elim
  · rename_i xs ys
    simp only [VR] at va vb
    obtain ⟨p, vs, rfl, q, w⟩ := va
    obtain ⟨p', vs', rfl, q', w'⟩ := vb
    split at h
    · rename_i hl
      have e1 := w.length
      have e2 := w'.length
      refine .inr (.inr (.inl ⟨p, p', vs, vs', rfl, rfl, SqT.of q, SqT.of q', lim_line (by omega), fun e => ?_, fun e e' => ?_, fun _ _ z hz => new_tup h r (w.append w') hz⟩))
      · subst e
        have : xs = [] := List.eq_nil_of_length_eq_zero e1
        subst this
        exact RG.now h r (by simp only [VR]; exact ⟨p', vs', rfl, q', by simpa using w'⟩)
      · subst e'
        have : ys = [] := List.eq_nil_of_length_eq_zero e2
        subst this
        exact RG.now h r (by simp only [VR]; exact ⟨p, vs, rfl, q, by simpa using w⟩)
    · exact h.elim
  · exact .inr (.inr (.inr (cat_ok r va vb h)))

/-! ### -, //, %, ** -/
theorem sub_ok (r : Rel T K ρ S H) (va : VR K ρ H a x) (vb : VR K ρ H b y) (h : RG T K (VD K) ρ H (sBin .sub S a b) Q E) : rI0 (fun i j => .int (i - j)) x y H Q := by
  unfold sBin at h
  simp only at h
  split at h
  · rename_i i j
    simp only [VR] at va vb
    subst va vb
    exact ⟨i, j, rfl, rfl, RG.now h r (by simp only [VR])⟩
  · exact h.elim
theorem fdiv_ok (r : Rel T K ρ S H) (va : VR K ρ H a x) (vb : VR K ρ H b y) (h : RG T K (VD K) ρ H (sBin .fdiv S a b) Q E) : rI CDiv (fun i j => .int (i / j)) x y H Q := by
  unfold sBin at h
  simp only at h
  split at h
  · rename_i i j
    simp only [VR] at va vb
    subst va vb
    split at h
    · rename_i hc
      exact ⟨i, j, rfl, rfl, hc, RG.now h r (by simp only [VR])⟩
    · exact h.elim
  · exact h.elim
theorem mod_ok (r : Rel T K ρ S H) (va : VR K ρ H a x) (vb : VR K ρ H b y) (h : RG T K (VD K) ρ H (sBin .mod S a b) Q E) : rI (fun _ j => 0 < j) (fun i j => .int (i % j)) x y H Q := by
  unfold sBin at h
  simp only at h
  split at h
  · rename_i i j
    simp only [VR] at va vb
    subst va vb
    split at h
    · rename_i hc
      exact ⟨i, j, rfl, rfl, hc, RG.now h r (by simp only [VR])⟩
    · exact h.elim
  · exact h.elim
theorem pow_ok (r : Rel T K ρ S H) (va : VR K ρ H a x) (vb : VR K ρ H b y) (h : RG T K (VD K) ρ H (sBin .pow S a b) Q E) : rI CPow (fun i j => .int (i ^ j.toNat)) x y H Q := by
  unfold sBin at h
  simp only at h
  split at h
  · rename_i i j
    simp only [VR] at va vb
    subst va vb
    split at h
    · rename_i hc
      have hL : LOG = 2 ^ 64 := rfl
      rw [hL] at hc
      exact ⟨i, j, rfl, rfl, ⟨hc.1, by omega, by omega⟩, RG.now h r (by simp only [VR])⟩
    · exact h.elim
  · exact h.elim

/-! ### times -/
theorem foldl_app (l : List Nat) : ∀ (n : Nat) (acc : Array Nat), (List.replicate n l.toArray).foldl (· ++ ·) acc = acc ++ (List.replicate n l).flatten.toArray
  | 0, acc => by simp
  | n + 1, acc => by
    rw [List.replicate_succ, List.foldl_cons, foldl_app l n, List.replicate_succ, List.flatten_cons]
    simp [Array.append_assoc]
def rMulS : R2 := fun x y H Q => ∃ s k, x = .str s ∧ y = .int k ∧ 1 ≤ k ∧ k ≤ 1000 ∧ s.length ≤ 1000 ∧ Q (.str ⟨(List.replicate k.toNat s.cps.toList).flatten.toArray⟩) H
theorem op_mulS {X : Cx} : OpR X (binaryOp .Mult) rMulS := by
  intro pins s σ H x y v u Q I rx ry h
  obtain ⟨z, k, rfl, rfl, h1, h2, h3, q⟩ := h
  obtain ⟨t, rfl⟩ := rx
  obtain ⟨t', rfl⟩ := ry
  have hm : ((z.length : Nat) : Int) * k ≤ 1000000 := by
    have : ((z.length : Nat) : Int) * k ≤ 1000 * k := Int.mul_le_mul_of_nonneg_right (by omega) (by omega)
    omega
  have hd : (1000000 : Int) ≤ (2 ^ 63 - 1) / k := by
    rw [Int.le_ediv_iff_mul_le (by omega)]
    omega
  have hz : ((z.length : Nat) : Int) ≤ 1000 := by omega
  refine PySem.P.mul_str (by rw [decide_eq_false (by omega), decide_eq_false (by omega)] <;> rfl) (fun _ _ => by omega) (fun _ _ => ?_) ?_
  · unfold PySem.Builtin.Str.tooLong
    rw [sizeLine_eq]
    have a1 : z.length * k.toNat ≤ 1000 * 1000 := Nat.mul_le_mul h3 (by omega)
    exact decide_eq_false (by omega)
  · rw [if_neg (by omega)]
    have hv : (List.replicate k.toNat z.cps).foldl (· ++ ·) #[] = (List.replicate k.toNat z.cps.toList).flatten.toArray := by
      have := foldl_app z.cps.toList k.toNat #[]
      simpa using this
    by_cases hb : (k == 1 || z.length == 0) = true
    · rw [if_pos hb]
      have hv2 : (⟨(List.replicate k.toNat z.cps.toList).flatten.toArray⟩ : Str) = z := by
        rcases Bool.or_eq_true_iff.mp hb with e | e
        · have e' : k = 1 := by simpa using e
          subst e'
          simp
        · have e' : z.cps.toList = [] := by
            have : z.cps.size = 0 := by simpa [Str.length] using e
            apply List.eq_nil_of_length_eq_zero
            simpa using this
          rw [e']
          have e2 : (List.replicate k.toNat ([] : List Nat)).flatten = [] := by simp
          rw [e2]
          have e3 : z.cps = #[] := by
            apply Array.ext'
            simpa using e'
          cases z with
          | mk c => simp only at e3; rw [e3]
      rw [hv2] at q
      exact ⟨.str z, H, I, ⟨_, rfl⟩, q⟩
    · rw [if_neg hb, hv]
      refine ⟨?_, ⟨.str _, H, I.tok _, ⟨_, rfl⟩, q⟩⟩
      rw [sizeLine_eq]
      show (List.replicate k.toNat z.cps.toList).flatten.toArray.size ≤ _
      rw [List.size_toArray, PyProof.Rows.lm_len_rep_flat]
      have e1 : z.cps.toList.length = z.length := by simp [Str.length]
      rw [e1]
      have a1 : k.toNat * z.length ≤ 1000 * 1000 := Nat.mul_le_mul (by omega) h3
      omega
end

/-! ### t * 1 -/
section
variable {X : Cx}
theorem tuple_mul1 (l : Addr) (items : Array Value) (n : Nat) (dd : Option Addr) (sl : Array (Option Value)) (u : Tok) :
    Meets (Builtin.«tuple.__mul__» ⟨[.ref l, .int 1 u], []⟩) (fun _ R s => s.heap.get? l = some { cls := .type "tuple", dict := dd, data := .seq items n, slots := sl } ∧ R (.ok (.ret (Value.ref l))) s) :=
  .of_wp fun prog w A R s h => by
    obtain ⟨hp, g, d, tk, os⟩ := s
    obtain ⟨hl, h⟩ := h
    have f1 := AutoSeq1.idx_int
    wp_walk using wpAny_loadPart' hl
    repeat (first
      | (refine wpAny_ite_false (by decide) ?_; wp_walk using wpAny_loadPart' hl)
      | (refine wpAny_ite_true (by simp) ?_; wp_walk using wpAny_loadPart' hl))
    exact ⟨_, rfl, h⟩
def rMulT1 (K : PySem.W.Frag) : R2 := fun x y H Q => ∃ l xs, x = .ref l ∧ y = .int 1 ∧ SqT K H l xs ∧ Q (.ref l) H
theorem op_mulT1 : OpR X (binaryOp .Mult) (rMulT1 X.K) := by
  intro pins s σ H x y v u Q I rx ry h
  obtain ⟨l, xs, rfl, rfl, hT, q⟩ := h
  cases rx
  obtain ⟨t, rfl⟩ := ry
  obtain ⟨its, r, ⟨⟨cls, dd, data, sl⟩, ho, hc, n, hd⟩, hs⟩ := I.tuple hT
  simp only at hc hd
  subst hc hd
  refine wpAny_binaryOp_repeat_ref (T := "tuple") (U := "int") (by decide) ⟨_, ho, rfl⟩ (fun s' => typeIs_int s' 1 t) noFill_tuple_mul F.fills_int_mul F.slot_int_rmul repeat_tuple F.slot_int_index.lookup ?_
  refine call_meets F.slot_int_rmul (typeIs_int s 1 t) F.entry_int_rmul (F.args_int_rmul_2 _ _) (int_rmul_tuple 1 t l its.toArray n dd sl) ⟨ho, rfl, ⟨_, ho, rfl⟩, ?_⟩
  exact call_meets F.slot_tuple_mul ⟨_, ho, rfl⟩ F.entry_tuple_mul (F.args_tuple_mul_2 _ _) (tuple_mul1 l its.toArray n dd sl t) ⟨ho, ⟨.ref l, H, I, rfl, q⟩⟩
end

section
variable {T : Tb} {K : PySem.W.Frag} {ρ : Rho} {H : Hp} {S : Sto} {E : XK} {a b : D} {x y : V} {Q : V → Hp → Prop}
def rMul (K : PySem.W.Frag) : R2 := fun x y H Q => rI CMul (fun i j => .int (i * j)) x y H Q ∨ rMulS x y H Q ∨ rRepT K x y H Q ∨ rMulT1 K x y H Q ∨ rRep x y H Q
theorem op_rMul {X : Cx} : OpR X (binaryOp .Mult) (rMul X.K) := op_mul.or (op_mulS.or (op_repT.or (op_mulT1.or op_rep)))
theorem VRs.rep {xs : List D} {vs : List V} (w : VRs K ρ H xs vs) : ∀ n : Nat, VRs K ρ H (List.replicate n xs).flatten (List.replicate n vs).flatten
  | 0 => by simpa using VRs.nil
  | n + 1 => by
    rw [List.replicate_succ, List.replicate_succ, List.flatten_cons, List.flatten_cons]
    exact w.append (VRs.rep w n)
theorem rep_ok {k : Int} (r : Rel T K ρ S H) (va : VR K ρ H a x)
    (h : RG T K (VD K) ρ H (match getL S a with | some xs => if 0 ≤ k ∧ k ≤ 1000 ∧ xs.length ≤ 1000 then newL false (List.replicate k.toNat xs).flatten S else .stuck | none => .stuck) Q E) : rRep x (.int k) H Q := by
  cases e1 : getL S a with
  | none => rw [e1] at h; exact h.elim
  | some xs =>
    rw [e1] at h
    simp only at h
    split at h
    · rename_i hc
      obtain ⟨p, vs, rfl, q, w⟩ := getL_ok e1 r va
      obtain ⟨l, kk⟩ := new_lst h r (w.rep k.toNat)
      have hl := w.length
      refine ⟨p, k, vs, rfl, rfl, q, by omega, by omega, ?_, kk⟩
      rw [sizeLine_eq]
      have a1 : vs.length * k.toNat ≤ 1000 * 1000 := Nat.mul_le_mul (by omega) (by omega)
      omega
    · exact h.elim
theorem mul_ok (r : Rel T K ρ S H) (va : VR K ρ H a x) (vb : VR K ρ H b y) (h : RG T K (VD K) ρ H (sBin .mul S a b) Q E) : rMul K x y H Q := by
  unfold sBin at h
  simp only at h
  split at h
  · rename_i i j
    simp only [VR] at va vb
    subst va vb
    split at h
    · rename_i hc
      have hL : LOG = 2 ^ 64 := rfl
      rw [hL] at hc
      refine .inl ⟨i, j, rfl, rfl, ?_, RG.now h r (by simp only [VR])⟩
      simp only [Bool.or_eq_true, Bool.and_eq_true, decide_eq_true_eq] at hc
      exact hc
    · exact h.elim
  · rename_i z k
    simp only [VR] at va vb
    obtain ⟨rfl, o⟩ := va
    subst vb
    split at h
    · rename_i hc
      refine .inr (.inl ⟨z, k, rfl, rfl, hc.1, hc.2.1, hc.2.2, RG.now h r ?_⟩)
      simp only [VR]
      refine ⟨trivial, strOk_of (s := z) (fun c hc' => ?_) o⟩
      rw [List.mem_flatten] at hc'
      obtain ⟨l, hl, hc'⟩ := hc'
      rw [List.mem_replicate] at hl
      rw [hl.2] at hc'
      exact hc'
    · exact h.elim
  · rename_i xs k
    simp only [VR] at va vb
    obtain ⟨p, vs, rfl, q, w⟩ := va
    subst vb
    split at h
    · rename_i hc
      have hl := w.length
      by_cases hk : k = 1
      · subst hk
        refine .inr (.inr (.inr (.inl ⟨p, vs, rfl, rfl, SqT.of q, RG.now h r ?_⟩)))
        simp only [VR]
        refine ⟨p, vs, rfl, q, ?_⟩
        simpa using w
      · refine .inr (.inr (.inl ⟨p, k, vs, rfl, rfl, SqT.of q, fun e => ?_, by omega, hc.2.1, by omega, fun z hz => new_tup h r (w.rep k.toNat) hz⟩))
        subst e
        exact hc.2.2.2 (List.eq_nil_of_length_eq_zero hl)
    · exact h.elim
  · rename_i k _ _ _
    simp only [VR] at vb
    subst vb
    exact .inr (.inr (.inr (.inr (rep_ok r va h))))
  · exact h.elim
end
end Mini

namespace Mini
open PySem L2

section
variable (K : PySem.W.Frag) (ρ : Rho) (H : Hp)
/-- the entries of a dict, side by side -/
inductive PK {κ : Type} (f : κ → List Key) : List (List Key × D) → List (κ × V) → Prop
  | nil : PK f [] []
  | cons {k : κ} {d : D} {v : V} {kvs : List (List Key × D)} {kws : List (κ × V)} : VR K ρ H d v → PK f kvs kws → PK f ((f k, d) :: kvs) ((k, v) :: kws)
end
def one (k : Key) : List Key := [k]
theorem one_inj {a b : Key} (h : one a = one b) : a = b := by unfold one at h; simpa using h
section
variable {K : PySem.W.Frag} {ρ ρ' : Rho} {H H' : Hp} {κ : Type} [DecidableEq κ] {f : κ → List Key}
theorem PK.mono (x : Ext ρ H ρ' H') {kvs : List (List Key × D)} {kws : List (κ × V)} (h : PK K ρ H f kvs kws) : PK K ρ' H' f kvs kws := by
  induction h with
  | nil => exact .nil
  | cons v _ ih => exact .cons (VR.mono x _ _ v) ih
theorem PK.of {ks : List κ} : ∀ {kvs : List (List Key × D)} {vs : List V} {ks : List κ}, kvs.map (·.1) = ks.map f → VRs K ρ H (kvs.map (·.2)) vs → PK K ρ H f kvs (ks.zip vs)
  | [], vs, ks, e, w => by
    have : ks = [] := by cases ks with | nil => rfl | cons _ _ => simp at e
    subst this
    exact .nil
  | (k, d) :: r, vs, ks, e, w => by
    cases ks with
    | nil => simp at e
    | cons k' ks =>
      simp only [List.map_cons, List.cons.injEq] at e
      obtain ⟨e1, e2⟩ := e
      simp only [List.map_cons, VRs] at w
      obtain ⟨v, vr, rfl, w1, w2⟩ := w
      rw [e1]
      exact .cons w1 (PK.of (ks := []) e2 w2)
theorem PK.length {kvs : List (List Key × D)} {kws : List (κ × V)} (h : PK K ρ H f kvs kws) : kvs.length = kws.length := by
  induction h with
  | nil => rfl
  | cons _ _ ih => simp [ih]
theorem PK.back {kvs : List (List Key × D)} {kws : List (κ × V)} (h : PK K ρ H f kvs kws) : kvs.map (·.1) = kws.map (fun q => f q.1) ∧ VRs K ρ H (kvs.map (·.2)) (kws.map (·.2)) := by
  induction h with
  | nil => exact ⟨rfl, VRs.nil⟩
  | cons v _ ih => exact ⟨by simp [ih.1], VRs.cons v ih.2⟩
theorem PK.append {a b : List (List Key × D)} {a' b' : List (κ × V)} (h : PK K ρ H f a a') (h' : PK K ρ H f b b') : PK K ρ H f (a ++ b) (a' ++ b') := by
  induction h with
  | nil => exact h'
  | cons v _ ih => exact .cons v ih
/-- what is at a key, side by side -/
def OV (K : PySem.W.Frag) (ρ : Rho) (H : Hp) : Option D → Option V → Prop
  | some d, some v => VR K ρ H d v
  | none, none => True
  | _, _ => False
theorem PK.look (hf : ∀ a b, f a = f b → a = b) {kvs : List (List Key × D)} {kws : List (κ × V)} (h : PK K ρ H f kvs kws) (k : κ) : OV K ρ H (lookK kvs (f k)) (valV kws k) := by
  induction h with
  | nil => exact trivial
  | @cons k' d v kvs kws w t ih =>
    unfold lookK valV at ih ⊢
    rw [List.find?_cons, List.find?_cons]
    by_cases e : k' = k
    · subst e
      simpa [OV] using w
    · have e' : ¬ f k' = f k := fun z => e (hf _ _ z)
      simp only [e, e', decide_false]
      exact ih
theorem PK.any (hf : ∀ a b, f a = f b → a = b) {kvs : List (List Key × D)} {kws : List (κ × V)} (h : PK K ρ H f kvs kws) (k : κ) : (kvs.any fun kv => decide (kv.1 = f k)) = (kws.any fun kv => decide (kv.1 = k)) := by
  induction h with
  | nil => rfl
  | @cons k' d v kvs kws w t ih =>
    rw [List.any_cons, List.any_cons, ih]
    by_cases e : k' = k
    · subst e; simp
    · have e' : ¬ f k' = f k := fun z => e (hf _ _ z)
      simp [e, e']
theorem PK.repl (hf : ∀ a b, f a = f b → a = b) {kvs : List (List Key × D)} {kws : List (κ × V)} (h : PK K ρ H f kvs kws) (k : κ) {d : D} {v : V} (w : VR K ρ H d v) :
    PK K ρ H f (kvs.map fun kv => if kv.1 = f k then (kv.1, d) else kv) (kws.map fun kv => if kv.1 = k then (kv.1, v) else kv) := by
  induction h with
  | nil => exact .nil
  | @cons k' d' v' kvs kws w' t ih =>
    rw [List.map_cons, List.map_cons]
    by_cases e : k' = k
    · subst e
      rw [if_pos rfl, if_pos rfl]
      exact .cons w ih
    · have e' : ¬ f k' = f k := fun z => e (hf _ _ z)
      rw [if_neg e, if_neg e']
      exact .cons w' ih
theorem PK.put (hf : ∀ a b, f a = f b → a = b) {kvs : List (List Key × D)} {kws : List (κ × V)} (h : PK K ρ H f kvs kws) (k : κ) {d : D} {v : V} (w : VR K ρ H d v) : PK K ρ H f (putK kvs (f k) d) (L2.putK kws k v) := by
  unfold putK L2.putK
  rw [h.any hf k]
  split
  · exact h.repl hf k w
  · exact h.append (.cons w .nil)
theorem PK.drop (hf : ∀ a b, f a = f b → a = b) {kvs : List (List Key × D)} {kws : List (κ × V)} (h : PK K ρ H f kvs kws) (k : κ) : PK K ρ H f (dropK kvs (f k)) (L2.dropK kws k) := by
  unfold dropK L2.dropK
  induction h with
  | nil => exact .nil
  | @cons k' d' v' kvs kws w' t ih =>
    rw [List.filter_cons, List.filter_cons]
    by_cases e : k' = k
    · subst e
      simpa using ih
    · have e' : ¬ f k' = f k := fun z => e (hf _ _ z)
      simp only [ne_eq, e, e', not_false_eq_true, decide_true, if_true]
      exact .cons w' ih
theorem length_putK (kvs : List (List Key × D)) (k : List Key) (v : D) : (putK kvs k v).length ≤ kvs.length + 1 := by
  unfold putK
  split <;> simp
theorem PK.merge (hf : ∀ a b, f a = f b → a = b) {more : List (List Key × D)} {more' : List (κ × V)} (h : PK K ρ H f more more') : ∀ {kvs : List (List Key × D)} {kws : List (κ × V)}, PK K ρ H f kvs kws →
    PK K ρ H f (more.foldl (fun acc kv => putK acc kv.1 kv.2) kvs) (more'.foldl (fun acc kv => L2.putK acc kv.1 kv.2) kws) := by
  induction h with
  | nil => exact fun h => h
  | cons w t ih => exact fun h => ih (h.put hf _ w)
theorem dc_view {R : HO → Prop} {t : Bool} {kvs : List (List Key × D)} {vs : List V} (h : DcR R t (kvs.map (·.1)) vs) (w : VRs K ρ H (kvs.map (·.2)) vs) :
    (t = true ∧ ∃ kws : List (List Key × V), R (.dT kws) ∧ PK K ρ H id kvs kws) ∨ (t = false ∧ ∃ kws : List (Key × V), R (.dK kws) ∧ PK K ρ H one kvs kws) := by
  unfold DcR at h
  split at h
  · rename_i e
    exact .inl ⟨e, _, h, PK.of (ks := []) (by simp) w⟩
  · rename_i e
    obtain ⟨k1, e1, h⟩ := h
    exact .inr ⟨by simpa using e, _, h, PK.of (ks := []) e1 w⟩
theorem dc_t {R : HO → Prop} {kvs : List (List Key × D)} {kws : List (List Key × V)} (h : R (.dT kws)) (p : PK K ρ H id kvs kws) : ∃ vs, DcR R true (kvs.map (·.1)) vs ∧ VRs K ρ H (kvs.map (·.2)) vs := by
  obtain ⟨e1, e2⟩ := p.back
  refine ⟨_, ?_, e2⟩
  unfold DcR
  rw [if_pos rfl, e1]
  have : (kws.map fun q => id q.1).zip (kws.map (·.2)) = kws := by rw [zip_map_self]; simp
  rw [this]; exact h
theorem dc_k {R : HO → Prop} {kvs : List (List Key × D)} {kws : List (Key × V)} (h : R (.dK kws)) (p : PK K ρ H one kvs kws) : ∃ vs, DcR R false (kvs.map (·.1)) vs ∧ VRs K ρ H (kvs.map (·.2)) vs := by
  obtain ⟨e1, e2⟩ := p.back
  refine ⟨_, ?_, e2⟩
  unfold DcR
  rw [if_neg (by simp)]
  refine ⟨kws.map (·.1), by rw [e1]; simp [one, Function.comp_def], ?_⟩
  have : (kws.map (·.1)).zip (kws.map (·.2)) = kws := by rw [zip_map_self]; simp
  rw [this]; exact h
end

section
variable {T : Tb} {K : PySem.W.Frag} {ρ : Rho} {H : Hp} {S : Sto} {E : XK} {a b : D} {x y : V} {Q : V → Hp → Prop}
theorem key1_ok {d : D} {k : Key} {v : V} (e : keyOf1 d = some k) (h : VR K ρ H d v) : v = kV k := by
  cases d with
  | int i => simp only [keyOf1, Option.some.injEq] at e; subst e; simpa only [VR, kV] using h
  | str s => simp only [keyOf1, Option.some.injEq] at e; subst e; simp only [VR] at h; exact h.1
  | _ => simp [keyOf1] at e
theorem keys1_ok : ∀ {xs : List D} {k : List Key} {vs : List V}, xs.mapM keyOf1 = some k → VRs K ρ H xs vs → vs = k.map kV
  | [], k, vs, e, w => by
    rw [mapM_nil] at e
    cases e
    simp only [VRs] at w
    exact w
  | x :: xs, k, vs, e, w => by
    rw [mapM_cons] at e
    cases e1 : keyOf1 x with
    | none => rw [e1] at e; cases e
    | some k1 =>
      rw [e1] at e
      simp only [Option.bind_some] at e
      cases e2 : xs.mapM keyOf1 with
      | none => rw [e2] at e; cases e
      | some ks =>
        rw [e2] at e
        simp only [Option.bind_some, Option.some.injEq] at e
        subst e
        simp only [VRs] at w
        obtain ⟨v, r, rfl, w1, w2⟩ := w
        rw [key1_ok e1 w1, keys1_ok e2 w2]
        rfl
/-- a key, by its dict's kind -/
theorem key_ok {t : Bool} {k : List Key} (e : keyOf t a = some k) (h : VR K ρ H a x) : (t = true ∧ ∃ p, x = .ref p ∧ H p = some (.tup (k.map kV))) ∨ (t = false ∧ ∃ k1, k = one k1 ∧ x = kV k1) := by
  cases a with
  | int i =>
    cases t with
    | true => simp [keyOf] at e
    | false =>
      simp only [keyOf, Bool.false_eq_true, if_false, Option.some.injEq] at e
      simp only [VR] at h
      exact .inr ⟨rfl, .inl i, e.symm, h⟩
  | str s =>
    cases t with
    | true => simp [keyOf] at e
    | false =>
      simp only [keyOf, Bool.false_eq_true, if_false, Option.some.injEq] at e
      simp only [VR] at h
      exact .inr ⟨rfl, .inr s, e.symm, h.1⟩
  | tup xs =>
    cases t with
    | false => simp [keyOf] at e
    | true =>
      simp only [keyOf, if_true] at e
      simp only [VR] at h
      obtain ⟨p, vs, rfl, q, w⟩ := h
      exact .inl ⟨rfl, p, rfl, by rw [← keys1_ok e w]; exact q⟩
  | _ => simp [keyOf] at e
theorem dget_ok {t : Bool} {kvs : List (List Key × D)} {k : List Key} (e : getD S b = some (t, kvs)) (ek : keyOf t a = some k) (r : Rel T K ρ S H) (va : VR K ρ H a x) (vb : VR K ρ H b y) :
    ∃ p o, y = .ref p ∧ DGet H p x o ∧ OV K ρ H (lookK kvs k) o ∧ IsD H p := by
  obtain ⟨p, vs, rfl, q, w⟩ := getD_ok e r vb
  rcases dc_view q w with ⟨rfl, kws, h1, h2⟩ | ⟨rfl, kws, h1, h2⟩
  · rcases key_ok ek va with ⟨_, z, rfl, hz⟩ | ⟨z, _⟩
    · exact ⟨p, _, rfl, .inr ⟨kws, k, z, h1, rfl, hz, rfl⟩, h2.look (fun _ _ h => h) k, .inr ⟨kws, h1⟩⟩
    · cases z
  · rcases key_ok ek va with ⟨z, _⟩ | ⟨_, k1, rfl, rfl⟩
    · cases z
    · exact ⟨p, _, rfl, .inl ⟨kws, k1, h1, rfl, rfl⟩, h2.look (fun _ _ => one_inj) k1, .inl ⟨kws, h1⟩⟩
theorem OV.isSome {o : Option D} {u : Option V} (h : OV K ρ H o u) : o.isSome = u.isSome := by
  cases o <;> cases u <;> first | rfl | exact h.elim

/-! ### comparisons -/
def cop : COp → CmpOp
  | .eq => .Eq | .ne => .NotEq | .lt => .Lt | .le => .LtE | .gt => .Gt | .ge => .GtE | .isN => .Is | .notN => .IsNot | .isB => .Is | .notB => .IsNot | .isin => .In | .notin => .NotIn
def rInX (K : PySem.W.Frag) (neg : Bool) : R2 := fun x y H Q =>
  (∃ c z, x = .str ⟨#[c]⟩ ∧ y = .str z ∧ Q (.bl (neg ^^ decide (c ∈ z.cps.toList))) H) ∨ (∃ p o, y = .ref p ∧ DGet H p x o ∧ Q (.bl (neg ^^ o.isSome)) H) ∨
    (∃ d ds, Dp K H x d ∧ (Dp K H y (.list ds) ∨ Dp K H y (.tuple ds)) ∧ SeqAt.shaped d = true ∧ SeqAt.shaped (.list ds) = true ∧ Q (.bl (neg ^^ ds.any fun z => PyData.eqv z d)) H)
theorem op_rIn {X : Cx} (hu : X.A.units + 65 < cLine) : OpR X (compareOp .In) (rInX X.K false) := by
  intro pins s σ H x y v u Q I rx ry h
  rcases h with ⟨c, z, rfl, rfl, q⟩ | ⟨p, o, rfl, g, q⟩ | ⟨d, ds, hd, he, sd, se, q⟩
  · exact op_in_sign pins s σ H _ _ v u Q I rx ry ⟨c, z, rfl, rfl, by simpa using q⟩
  · cases ry
    exact d_in (by omega) I g rx fun s' I' => ⟨.bl o.isSome, H, I', rfl, by simpa using q⟩
  · obtain ⟨as, r1⟩ := Dp.reads I d x v hd rx
    rcases he with he | he
    · obtain ⟨bs, r2⟩ := Dp.reads I (.list ds) y u he ry
      exact SeqAt.in_list_reads r2 r1 (SeqAt.canLay_of_shaped se) (SeqAt.canLay_of_shaped sd) (PyProof.Rows.room_in_shaped sd hu) ⟨.bl _, H, I, rfl, by simpa using q⟩
    · obtain ⟨bs, r2⟩ := Dp.reads I (.tuple ds) y u he ry
      exact SeqAt.in_tuple_reads r2 r1 (SeqAt.canLay_of_shaped se) (SeqAt.canLay_of_shaped sd) (PyProof.Rows.room_in_shaped sd hu) ⟨.bl _, H, I, rfl, by simpa using q⟩
theorem op_rNotIn {X : Cx} (hu : X.A.units + 65 < cLine) : OpR X (compareOp .NotIn) (rInX X.K true) := by
  intro pins s σ H x y v u Q I rx ry h
  rcases h with ⟨c, z, rfl, rfl, q⟩ | ⟨p, o, rfl, g, q⟩ | ⟨d, ds, hd, he, sd, se, q⟩
  · exact op_notIn_sign pins s σ H _ _ v u Q I rx ry ⟨c, z, rfl, rfl, by simpa using q⟩
  · cases ry
    exact d_notIn (by omega) I g rx fun s' I' => ⟨.bl (!o.isSome), H, I', rfl, by simpa using q⟩
  · obtain ⟨as, r1⟩ := Dp.reads I d x v hd rx
    rcases he with he | he
    · obtain ⟨bs, r2⟩ := Dp.reads I (.list ds) y u he ry
      exact SeqAt.notIn_list_reads r2 r1 (SeqAt.canLay_of_shaped se) (SeqAt.canLay_of_shaped sd) (PyProof.Rows.room_in_shaped sd hu) ⟨.bl _, H, I, rfl, by simpa using q⟩
    · obtain ⟨bs, r2⟩ := Dp.reads I (.tuple ds) y u he ry
      exact SeqAt.notIn_tuple_reads r2 r1 (SeqAt.canLay_of_shaped se) (SeqAt.canLay_of_shaped sd) (PyProof.Rows.room_in_shaped sd hu) ⟨.bl _, H, I, rfl, by simpa using q⟩
def rOrd (p : Int → Int → Bool) (q : Str → Str → Bool) : R2 := fun x y H Q => rI0 (fun i j => .bl (p i j)) x y H Q ∨ (∃ i j, x = .str i ∧ y = .str j ∧ Q (.bl (q i j)) H)
/-- what a comparison asks -/
def rCmp (K : PySem.W.Frag) : COp → R2
  | .eq => rEqD K
  | .ne => rNeD K
  | .lt => rOrd (fun i j => decide (i < j)) (fun i j => decide (i.cps.toList < j.cps.toList))
  | .le => rOrd (fun i j => decide (i ≤ j)) (fun i j => !decide (j.cps.toList < i.cps.toList))
  | .gt => rOrd (fun i j => decide (j < i)) (fun i j => decide (j.cps.toList < i.cps.toList))
  | .ge => rOrd (fun i j => decide (j ≤ i)) (fun i j => !decide (i.cps.toList < j.cps.toList))
  | .isN => fun x y H Q => y = .non ∧ Q (.bl (decide (x = .non))) H
  | .notN => fun x y H Q => y = .non ∧ Q (.bl (!decide (x = .non))) H
  | .isB => rIsB
  | .notB => rNotB
  | .isin => rInX K false
  | .notin => rInX K true
theorem op_rCmp {X : Cx} (hu : X.A.units + 65 < cLine) (op : COp) : OpR X (compareOp (cop op)) (rCmp X.K op) := by
  cases op with
  | eq => exact op_eqD (by omega)
  | ne => exact op_neD (by omega)
  | lt => exact op_lt.or op_lt_str
  | le => exact op_le.or op_le_str
  | gt => exact op_gt.or op_gt_str
  | ge => exact op_ge.or op_ge_str
  | isN => exact op_isN
  | notN => exact op_notN
  | isB => exact op_isBl
  | notB => exact op_notBl
  | isin => exact op_rIn hu
  | notin => exact op_rNotIn hu
theorem eqD_ok {k : Bool} (e : eqD S a b = some k) (r : Rel T K ρ S H) (va : VR K ρ H a x) (vb : VR K ρ H b y) : ∃ d e, Dp K H x d ∧ Dp K H y e ∧ SeqAt.shaped d = true ∧ SeqAt.shaped e = true ∧ k = PyData.eqv d e := by
  unfold eqD at e
  split at e
  · rename_i p q e1 e2
    obtain ⟨h1, h2⟩ := toP_shaped r e1 va
    obtain ⟨h3, h4⟩ := toP_shaped r e2 vb
    cases e
    exact ⟨p, q, h1, h3, h2, h4, rfl⟩
  · cases e
theorem mapM_list {f : D → Option PyData} : ∀ {xs : List D} {ps : List PyData}, xs.mapM f = some ps → ps.length = xs.length
  | [], ps, e => by rw [mapM_nil] at e; cases e; rfl
  | x :: xs, ps, e => by
    rw [mapM_cons] at e
    cases e1 : f x with
    | none => rw [e1] at e; cases e
    | some p =>
      rw [e1] at e
      simp only [Option.bind_some] at e
      cases e2 : xs.mapM f with
      | none => rw [e2] at e; cases e
      | some qs =>
        rw [e2] at e
        simp only [Option.bind_some, Option.some.injEq] at e
        subst e
        simp [mapM_list e2]
theorem in_ok {k neg : Bool} (e : sIn S a b = some k) (r : Rel T K ρ S H) (va : VR K ρ H a x) (vb : VR K ρ H b y) (q : Q (.bl (neg ^^ k)) H) : rInX K neg x y H Q := by
  unfold sIn at e
  split at e
  · rename_i z
    split at e
    · rename_i s
      split at e
      · rename_i hl
        cases e
        simp only [VR] at va vb
        obtain ⟨rfl, _⟩ := va
        obtain ⟨rfl, _⟩ := vb
        obtain ⟨c, hc⟩ : ∃ c, s = ⟨#[c]⟩ := by
          obtain ⟨cs⟩ := s
          have hs : cs.size = 1 := hl
          refine ⟨cs[0], ?_⟩
          congr 1
          apply Array.ext
          · simp [hs]
          · intro i h1 h2
            have : i = 0 := by omega
            subst this
            simp
        subst hc
        refine .inl ⟨c, z, rfl, rfl, ?_⟩
        have : (z.cps.toList.any fun c' => decide ((#[c] : Array Nat)[0]? = some c')) = decide (c ∈ z.cps.toList) := by
          rw [Bool.eq_iff_iff, List.any_eq_true, decide_eq_true_iff]
          constructor
          · rintro ⟨c', h1, h2⟩
            have h3 : some c = some c' := of_decide_eq_true h2
            cases h3; exact h1
          · exact fun h => ⟨c, h, decide_eq_true (show some c = some c from rfl)⟩
        rw [this] at q
        exact q
      · cases e
    · cases e
  · split at e
    · rename_i t kvs eD
      rw [Option.map_eq_some_iff] at e
      obtain ⟨kk, ek, rfl⟩ := e
      obtain ⟨p, o, rfl, g, ov, _⟩ := dget_ok eD ek r va vb
      exact .inr (.inl ⟨p, o, rfl, g, by rw [← ov.isSome]; exact q⟩)
    · split at e
      · rename_i p ys ep es
        rw [Option.map_eq_some_iff] at e
        obtain ⟨qs, e1, rfl⟩ := e
        obtain ⟨h1, h2⟩ := toP_shaped r ep va
        obtain ⟨c, vs, rfl, hs, w⟩ := getS_ok es r vb
        obtain ⟨x1, x2, x3⟩ := toPs_ok (fun d v p => toP_ok r DEEP d v p) ys vs qs e1 w
        refine .inr (.inr ⟨p, qs, h1, ?_, h2, ?_, q⟩)
        · rcases hs with hs | hs
          · exact .inl (.lst hs x1)
          · exact .inr (.tup hs x1)
        · unfold SeqAt.shaped
          simp only [PyData.canLay0, x2, Bool.true_and, PyData.depth]
          unfold DEEP at x3
          exact decide_eq_true (by omega)
      · cases e
theorem ord_ok {p : Int → Int → Bool} {p' : Str → Str → Bool} {k : Bool} (e : ordD p p' a b = some k) (va : VR K ρ H a x) (vb : VR K ρ H b y) (q : Q (.bl k) H) : rOrd p p' x y H Q := by
  unfold ordD at e
  split at e
  · cases e
    simp only [VR] at va vb
    subst va vb
    exact .inl ⟨_, _, rfl, rfl, q⟩
  · cases e
    simp only [VR] at va vb
    obtain ⟨rfl, _⟩ := va
    obtain ⟨rfl, _⟩ := vb
    exact .inr ⟨_, _, rfl, rfl, q⟩
  · cases e
theorem bl_ok {f : Bool → Bool → Bool} {k : Bool} (e : blD f a b = some k) (va : VR K ρ H a x) (vb : VR K ρ H b y) (q : Q (.bl k) H) : ∃ a b : Bool, x = .bl a ∧ y = .bl b ∧ Q (.bl (f a b)) H := by
  unfold blD at e
  split at e
  · cases e
    simp only [VR] at va vb
    subst va vb
    exact ⟨_, _, rfl, rfl, q⟩
  · cases e
theorem non_ok (va : VR K ρ H a x) : isNon a = true ↔ x = .non := by
  cases a <;> simp only [VR] at va
  · subst va; simp [isNon]
  · subst va; simp [isNon]
  · subst va; simp [isNon]
  · obtain ⟨rfl, _⟩ := va; simp [isNon]
  · obtain ⟨p, vs, rfl, _⟩ := va; simp [isNon]
  · obtain ⟨p, _, rfl⟩ := va; simp [isNon]
  · obtain ⟨p, vs, rfl, _⟩ := va; simp [isNon]
  · obtain ⟨p, vs, rfl, _⟩ := va; simp [isNon]
  · obtain ⟨p, o, vs, rfl, _⟩ := va; simp [isNon]
  · obtain ⟨p, vs, rfl, _⟩ := va; simp [isNon]
  · obtain ⟨p, rfl, _⟩ := va; simp [isNon]
theorem dec_non (va : VR K ρ H a x) : isNon a = decide (x = .non) := by
  rw [Bool.eq_iff_iff, non_ok va]
  simp
theorem cmp_ok {op : COp} {k : Bool} (e : sCmp op S a b = some k) (r : Rel T K ρ S H) (va : VR K ρ H a x) (vb : VR K ρ H b y) (q : Q (.bl k) H) : rCmp K op x y H Q := by
  cases op with
  | eq =>
    obtain ⟨d, d', h1, h2, h3, h4, rfl⟩ := eqD_ok (show eqD S a b = some k from e) r va vb
    exact ⟨d, d', h1, h2, h3, h4, q⟩
  | ne =>
    have e : (eqD S a b).map (!·) = some k := e
    rw [Option.map_eq_some_iff] at e
    obtain ⟨k', e2, rfl⟩ := e
    obtain ⟨d, d', h1, h2, h3, h4, rfl⟩ := eqD_ok e2 r va vb
    exact ⟨d, d', h1, h2, h3, h4, q⟩
  | lt => exact ord_ok e va vb q
  | le => exact ord_ok e va vb q
  | gt => exact ord_ok e va vb q
  | ge => exact ord_ok e va vb q
  | isN =>
    have e : (if isNon b then some (isNon a) else none) = some k := e
    split at e
    · rename_i hb
      cases e
      exact ⟨(non_ok vb).mp hb, by rw [← dec_non va]; exact q⟩
    · cases e
  | notN =>
    have e : (if isNon b then some (!isNon a) else none) = some k := e
    split at e
    · rename_i hb
      cases e
      exact ⟨(non_ok vb).mp hb, by rw [← dec_non va]; exact q⟩
    · cases e
  | isB => exact bl_ok (f := fun x y => decide (x = y)) e va vb q
  | notB => exact bl_ok (f := fun x y => !decide (x = y)) e va vb q
  | isin => exact in_ok (neg := false) (show sIn S a b = some k from e) r va vb (by simpa using q)
  | notin =>
    have e : (sIn S a b).map (!·) = some k := e
    rw [Option.map_eq_some_iff] at e
    obtain ⟨k', e2, rfl⟩ := e
    exact in_ok (neg := true) e2 r va vb (by simpa using q)
end
end Mini

namespace Mini
open PySem L2
open PyProof.Rows (IsTup)
open PyProof.Rows (subscriptTail)

section
variable {X : Cx}
/-! ### subscripts -/
def rIxD : R2 := fun x y H Q => ∃ p v, x = .ref p ∧ DGet H p y (some v) ∧ Q v H
theorem ix_dict (hu : X.A.units + 1 < cLine) : IxR X rIxD := by
  intro value slice pins s σ H x y v u Q I rx ry h hs
  obtain ⟨p, w, rfl, g, q⟩ := h
  cases rx
  refine PyProof.Rows.tail_any (dict_typeIs I g) PySem.slot_dict_getitem.lookup (d_getItem hu I g ry fun w' s' I' r' => ⟨w, H, I', r', q⟩) hs
def rIxX (K : PySem.W.Frag) : R2 := fun x y H Q => rIxD x y H Q ∨ rIx K x y H Q
theorem ix_all (hu : X.A.units + 1 < cLine) : IxR X (rIxX X.K) := (ix_dict hu).or ix_seq
end

section
variable {T : Tb} {K : PySem.W.Frag} {ρ : Rho} {H : Hp} {S : Sto} {E : XK} {a b : D} {x y : V} {Q : V → Hp → Prop}
theorem atI_ok {ds : List D} {vs : List V} {i : Int} {d : D} (w : VRs K ρ H ds vs) (e : atI ds i = some d) : ∃ v, atI vs i = some v ∧ VR K ρ H d v := by
  unfold atI at e ⊢
  rw [← w.length]
  cases h : ixN ds.length i with
  | none => rw [h] at e; cases e
  | some j =>
    rw [h] at e
    exact w.get e
theorem idx_ok {d : D} (e : sIdx S a b = some d) (r : Rel T K ρ S H) (va : VR K ρ H a x) (vb : VR K ρ H b y) (q : ∀ v, VR K ρ H d v → Q v H) : rIxX K x y H Q := by
  unfold sIdx at e
  split at e
  · rename_i z
    simp only [VR] at va
    obtain ⟨rfl, o⟩ := va
    split at e
    · rename_i k
      simp only [VR] at vb
      subst vb
      split at e
      · rename_i hl
        rw [Option.map_eq_some_iff] at e
        obtain ⟨c, e1, rfl⟩ := e
        refine .inr (.inr (.inr ⟨z, k, c, rfl, rfl, lim_line hl, e1, q _ ?_⟩))
        simp only [VR]
        refine ⟨trivial, ?_⟩
        have hc : c ∈ z.cps.toList := by
          unfold atI at e1
          cases h : ixN z.cps.toList.length k with
          | none => rw [h] at e1; cases e1
          | some j => rw [h] at e1; exact List.mem_of_getElem? e1
        exact strOk_of (s := z) (l := [c]) (fun c' h => by simp at h; subst h; exact hc) o
      · cases e
    · cases e
  · split at e
    · rename_i t kvs eD
      cases ek : keyOf t b with
      | none => rw [ek] at e; cases e
      | some k =>
        rw [ek] at e
        simp only [Option.bind_some] at e
        obtain ⟨p, o, rfl, g, ov, _⟩ := dget_ok eD ek r vb va
        rw [e] at ov
        cases o with
        | none => exact ov.elim
        | some v => exact .inl ⟨p, v, rfl, g, q v ov⟩
    · split at e
      · rename_i xs k es
        obtain ⟨p, vs, rfl, hs, w⟩ := getS_ok es r va
        simp only [VR] at vb
        subst vb
        obtain ⟨v, e1, vr⟩ := atI_ok w e
        rcases hs with hs | hs
        · exact .inr (.inl ⟨p, vs, k, v, rfl, rfl, hs, e1, q v vr⟩)
        · exact .inr (.inr (.inl ⟨p, vs, k, v, rfl, rfl, hs, e1, q v vr⟩))
      · cases e

/-! ### slices -/
def rSlc (K : PySem.W.Frag) : V → Option Int → Option Int → Hp → VK → Prop := fun x lo hi H Q => rSlL K x lo hi H Q ∨ rSlA K x lo hi H Q ∨ rSlS x lo hi H Q
theorem sl_rSlc {X : Cx} : SlR X (rSlc X.K) := sl_list.or (sl_tupA.or sl_str)
theorem VRs.cut {ds : List D} {vs : List V} (w : VRs K ρ H ds vs) (lo hi : Option Int) : VRs K ρ H (cutL ds lo hi) (cutV vs lo hi) := by
  unfold cutL cutV
  rw [w.length]
  exact (w.drop _).take _
theorem slc_ok {lo hi : Option Int} (r : Rel T K ρ S H) (va : VR K ρ H a x) (h : RG T K (VD K) ρ H (sSlc S a lo hi) Q E) : rSlc K x lo hi H Q := by
  unfold sSlc at h
  split at h
  · rename_i z
    simp only [VR] at va
    obtain ⟨rfl, o⟩ := va
    split at h
    · rename_i hl
      refine .inr (.inr ⟨z, rfl, lim_line hl, RG.now h r ?_⟩)
      have e1 : z.cps.toList.length = z.length := by simp [Str.length]
      have e2 : (⟨(cutL z.cps.toList lo hi).toArray⟩ : Str) = cutS z lo hi := by
        unfold cutL cutS
        rw [e1]
      show VR K ρ H _ _
      rw [e2]
      simp only [VR]
      refine ⟨trivial, strOk_of (s := z) (fun c hc => ?_) o⟩
      exact List.mem_of_mem_drop (List.mem_of_mem_take hc)
    · exact h.elim
  · rename_i xs
    simp only [VR] at va
    obtain ⟨p, vs, rfl, q, w⟩ := va
    refine .inr (.inl ⟨p, vs, rfl, SqT.of q, fun hw => ?_, fun _ z hz => new_tup h r (w.cut lo hi) hz⟩)
    refine RG.now h r ?_
    have e : cutL xs lo hi = xs := by
      unfold cutL
      rw [w.length, hw.1, hw.2, ← w.length]
      simp
    show VR K ρ H (.tup (cutL xs lo hi)) _
    rw [e]
    simp only [VR]
    exact ⟨p, vs, rfl, q, w⟩
  · split at h
    · rename_i xs e1
      obtain ⟨p, vs, rfl, q, w⟩ := getL_ok e1 r va
      exact .inl ⟨p, vs, rfl, SqL.of q, (new_lst h r (w.cut lo hi)).2⟩
    · exact h.elim

/-! ### truth -/
theorem truth_ok {k : Bool} (e : truth S a = some k) (r : Rel T K ρ S H) (va : VR K ρ H a x) : TruV K x H k := by
  cases a with
  | non => simp only [VR] at va; subst va; simpa [truth, TruV] using e.symm
  | bl b => simp only [VR] at va; subst va; simpa [truth, TruV] using e.symm
  | int i => simp only [VR] at va; subst va; simpa [truth, TruV] using e.symm
  | str s =>
    simp only [VR] at va
    obtain ⟨rfl, _⟩ := va
    simp only [truth] at e
    split at e
    · rename_i hl
      exact ⟨lim_line hl, by simpa using e.symm⟩
    · cases e
  | tup xs =>
    simp only [VR] at va
    obtain ⟨p, vs, rfl, q, w⟩ := va
    refine .inr (.inl ⟨vs, SqT.of q, ?_⟩)
    simp only [truth, Option.some.injEq] at e
    have := w.length
    rw [← e]
    cases xs <;> cases vs <;> simp_all
  | ztup xs =>
    simp only [VR] at va
    obtain ⟨p, o, vs, rfl, q, _, w⟩ := va
    refine .inr (.inl ⟨vs, .inl (.inr ⟨o, q⟩), ?_⟩)
    simp only [truth, Option.some.injEq] at e
    have := w.length
    rw [← e]
    cases xs <;> cases vs <;> simp_all
  | ktup xs =>
    simp only [VR] at va
    obtain ⟨p, vs, rfl, q, w⟩ := va
    refine .inr (.inl ⟨vs, q, ?_⟩)
    simp only [truth, Option.some.injEq] at e
    have := w.length
    rw [← e]
    cases xs <;> cases vs <;> simp_all
  | fl xs =>
    simp only [VR] at va
    obtain ⟨p, vs, rfl, _, q, w⟩ := va
    refine .inl ⟨vs, SqL.of q, ?_⟩
    simp only [truth, Option.some.injEq] at e
    have := w.length
    rw [← e]
    cases xs <;> cases vs <;> simp_all
  | loc l =>
    simp only [VR] at va
    obtain ⟨p, e1, rfl⟩ := va
    simp only [truth] at e
    cases o : S[l]? with
    | none => rw [o] at e; cases e
    | some u =>
      rw [o] at e
      have ob := r.ob l u p o e1
      cases u with
      | lst xs =>
        obtain ⟨vs, q, w⟩ := ob
        refine .inl ⟨vs, SqL.of q, ?_⟩
        simp only [Option.some.injEq] at e
        have := w.length
        rw [← e]
        cases xs <;> cases vs <;> simp_all
      | dct t kvs =>
        obtain ⟨vs, q, w⟩ := ob
        cases t with
        | true => simp at e
        | false =>
          rcases dc_view q w with ⟨z, _⟩ | ⟨_, kws, h1, h2⟩
          · cases z
          · refine .inr (.inr ⟨kws, h1, ?_⟩)
            simp only [Option.some.injEq] at e
            have := h2.length
            rw [← e]
            cases kvs <;> cases kws <;> simp_all
      | ins c fs => simp at e
  | fd t ks ds => simp [truth] at e
  | scr ns => simp [truth] at e
end

/-! ### plain tuples -/
section
variable {X : Cx}
abbrev tupO (us : List Value) : Obj := { cls := .type "tuple", data := .seq us.toArray }
/-- a new plain tuple, told as such -/
def rNewZ (vs : List V) (H : Hp) (Q : VK) : Prop := ∀ p o, H p = none → o.dict = none → Q (.ref p) (upd H p (.frz o (.tup vs)))
theorem laidZ {pins : List (Addr × Obj)} {σ : L2.St} {H : Hp} {s : Shared} {us : List Value} {vs : List V} {Q : VK} (I : Inv X pins σ H s) (r : Vals vs us) (z : vs.length ≤ sizeLine) (q : rNewZ vs H Q) :
    EP X pins σ Q (.ref s.heap.objs.size) { s with heap := s.heap.push (tupO us) } := by
  have hn : H s.heap.objs.size = none := I.hok.fresh (Nat.le_refl _)
  refine ⟨.ref s.heap.objs.size, _, I.laid (t' := s.toks) (o := .frz (tupO us) (.tup vs)) (fun b ob q => Heap.get?_push_of_some _ q) (Nat.le_refl _) ⟨Heap.get?_push_size _ rfl, z, us, r, IsTup.new _ _⟩, rfl, q _ _ hn rfl⟩
def tTupZ (t : TA) : TE := fun σ H Q => t σ H fun xs H1 => xs.length ≤ sizeLine ∧ rNewZ xs H1 Q
theorem pe_tupZ {es : List Expr} {t : TA} {k : Nat} {pos : Pos} (h : PA X es t) : PE X (.Tuple es k pos) (tTupZ t) := by
  refine ⟨fun pins s σ H Q I hq => ?_⟩
  refine wpAny_Tuple_spliced (thn (h.run pos pins s σ H _ I hq) fun us s1 ⟨xs, H1, I1, r, z, q⟩ => ⟨by rw [← r.length]; exact z, laidZ I1 r z q⟩)
/-- tuple(xs), xs a list: a plain one -/
theorem call_tupleZ : CallR X (.type "tuple") (fun xs H Q => ∃ p ys, xs = [.ref p] ∧ SqL X.K H p ys ∧ rNewZ ys H Q) := by
  intro pins s σ H xs us Q I r h
  obtain ⟨p, ys, rfl, hq, q⟩ := h
  obtain ⟨u, rfl, rx⟩ := vals1 r
  cases rx
  obtain ⟨its, rv, pl, hz⟩ := I.list hq
  have hlen := rv.length
  refine call_tuple_list pl.isList (fun h' kp => ?_) (by simp only [List.size_toArray]; omega)
  exact laidZ (s := { s with heap := h' }) (I.kept (t' := s.toks) kp) rv hz q
/-- t + u, none of them empty: a plain one -/
def rCatZ (K : PySem.W.Frag) : R2 := fun x y H Q => ∃ a b xs ys, x = .ref a ∧ y = .ref b ∧ SqT K H a xs ∧ SqT K H b ys ∧ xs ≠ [] ∧ ys ≠ [] ∧ xs.length + ys.length ≤ sizeLine ∧ rNewZ (xs ++ ys) H Q
theorem op_catZ : OpR X (binaryOp .Add) (rCatZ X.K) := by
  intro pins s σ H x y v u Q I rx ry h
  obtain ⟨a, b, xs, ys, rfl, rfl, ha, hb, hx, hy, hz, q⟩ := h
  cases rx
  cases ry
  obtain ⟨its, r1, p1, _⟩ := I.tuple ha
  obtain ⟨its2, r2, p2, _⟩ := I.tuple hb
  refine HT.cat_tup p1 p2 (fun z => hx (r1.nil_iff.mp z)) (fun z => absurd (r2.nil_iff.mp z) hy) (fun z => ?_) (by rw [← r1.length, ← r2.length]; exact hz)
  exact laidZ I (r1.append r2) (by rw [List.length_append]; exact hz) q
/-! ### t[::-1] -/
theorem places_rev (n : Nat) : Builtin.Slice.slicePlaces ((n : Int) - 1) (-1) (-1) = n := by
  unfold Builtin.Slice.slicePlaces
  have h1 : ¬ ((-1 : Int) > 0) := by omega
  simp only [h1, if_false]
  split
  · have e : (- -1 : Int) = 1 := by decide
    rw [e, Int.ediv_one]
    omega
  · omega
theorem pick_rev (xs : Array Value) : ((List.range xs.size).filterMap fun (k : Nat) => xs[((xs.size : Int) - 1 + (k : Int) * (-1)).toNat]?).toArray = xs.toList.reverse.toArray := by
  congr 1
  have e : (fun (k : Nat) => xs[((xs.size : Int) - 1 + (k : Int) * (-1)).toNat]?) = (fun m : Nat => xs[m]?) ∘ fun k => xs.size - 1 - k := by
    funext k
    have e1 : ((xs.size : Int) - 1 + (k : Int) * (-1)).toNat = xs.size - 1 - k := by omega
    show xs[((xs.size : Int) - 1 + (k : Int) * (-1)).toNat]? = xs[xs.size - 1 - k]?
    rw [e1]
  rw [e, ← List.filterMap_map, PySem.W.krv_range, List.filterMap_reverse, PySem.W.krv_all]
theorem sliceApplied_rev {prog : Program} {w : World} {A : Around} {E : Value → Shared → Prop} {s : Shared} {sl : Addr} {vs : Value} {n : Nat} {Q : Int × Int × Nat → Shared → Prop} (hs : s.heap.IsSliceOf sl .none .none vs) (ps : IsPart vs (some (-1)))
    (h : Q ((n : Int) - 1, -1, n) s) : wpAny (model prog w) A (Builtin.Slice.sliceApplied (.ref sl) (pure (n : Int))) Q E s := by
  obtain ⟨os, hos, hcs, hds⟩ := id hs
  unfold Builtin.Slice.sliceApplied Builtin.Slice.sliceFields
  refine wpAny_bind (wpAny_bind (wpAny_field hos hds (x := .none) rfl (wpAny_bind (wpAny_field hos hds (x := .none) rfl (wpAny_bind (wpAny_field hos hds (x := vs) rfl (wpAny_pure ?_)))))))
  refine wpAny_bind (HT.slicePart_ ps ?_)
  show wpAny _ _ (if ((-1 : Int) == 0) = true then _ else _) _ _ s
  rw [if_neg (by decide)]
  refine wpAny_bind (HT.slicePart_ .none (wpAny_bind (HT.slicePart_ .none (wpAny_bind (wpAny_pure ?_)))))
  show wpAny _ _ (pure ((n : Int) - 1, (-1 : Int), Builtin.Slice.slicePlaces ((n : Int) - 1) (-1) (-1))) _ _ s
  rw [places_rev]
  exact wpAny_pure h
theorem getItem_tuple_rev {prog : Program} {w : World} {A : Around} {E : Value → Shared → Prop} {s : Shared} {t sl : Addr} {items : Array Value} {vs : Value} {Q : Value → Shared → Prop} (ht : IsTup s.heap t items) (hs : s.heap.IsSliceOf sl .none .none vs) (ps : IsPart vs (some (-1)))
    (h : Q (.ref s.heap.objs.size) { s with heap := s.heap.push { cls := .type "tuple", data := .seq items.toList.reverse.toArray } })
    (hsz : items.size ≤ sizeLine) : wpAny (model prog w) A (getItem (.ref t) (.ref sl)) Q E s := by
  have hfit : sizeOk (.seq items.toList.reverse.toArray) := by
    show items.toList.reverse.toArray.size ≤ sizeLine
    rw [List.size_toArray, List.length_reverse, Array.length_toList]
    exact hsz
  obtain ⟨os, hos, hcs, hds⟩ := id hs
  have hTs : s.TypeIs (.ref sl) "slice" := ⟨os, hos, hcs⟩
  unfold getItem
  try with_reducible refine wpAny_holding ?_
  first | refine wpAny_bind (wpAny_pure ?_) | skip
  refine wpAny_bind (wpAny_sequenceKey ht.typeIs (by decide) ?_)
  refine wpAny_bind (wpAny_callSpecial?_slot (name := Str.ofString "__getitem__") ht.typeIs PyProof.Rows.slot_tuple_getitem
    (wpAny_call_entry PyProof.Rows.slot_tuple_getitem ht.typeIs PyProof.Rows.entry_tuple_getitem ?_ (PyProof.Rows.args_tuple_getitem _ _)))
  show wpAny _ _ (Builtin.Tuple.tupleItemsOf (.ref t) >>= _) _ _ s
  refine wpAny_bind (PyProof.Rows.tupleItemsOf_ ht ?_)
  refine wpAny_bind (wpAny_typeOf hTs ?_)
  rw [if_pos (by decide)]
  refine wpAny_bind (sliceApplied_rev hs ps ?_)
  have hno : ¬ (((items.size : Int) - 1 == 0 && (-1 : Int) == 1 && items.size == items.size) = true) := by
    intro q
    rw [Bool.and_eq_true, Bool.and_eq_true] at q
    exact absurd q.1.2 (by decide)
  show wpAny _ _ (if ((items.size : Int) - 1 == 0 && (-1 : Int) == 1 && items.size == items.size) = true then _ else _) _ _ s
  rw [if_neg hno, pick_rev]
  first
    | exact wpAny_bind (m := Builtin.Tuple.tupleExact _) (wpAny_newObj_type (wpAny_pure ⟨_, rfl, wpAny_pure h⟩) hfit)
    | exact wpAny_bind (m := Builtin.Tuple.tupleExact _) (wpAny_newObj_type (wpAny_bind (wpAny_pure (wpAny_pure ⟨_, rfl, wpAny_pure h⟩))) hfit)
    | exact wpAny_bind (wpAny_bind (m := Builtin.Tuple.tupleExact _) (wpAny_newObj_type (wpAny_pure (wpAny_pure ⟨_, rfl, wpAny_pure h⟩)) hfit))
    | exact wpAny_bind (wpAny_bind (m := Builtin.Tuple.tupleExact _) (wpAny_newObj_type (wpAny_pure ⟨_, rfl, wpAny_pure h⟩) hfit))
def tRevT (K : PySem.W.Frag) (te : TE) : TE := fun σ H Q => te σ H fun x H1 => ∃ a xs, x = .ref a ∧ SqT K H1 a xs ∧ ∀ p, H1 p = none → Q (.ref p) (upd H1 p (.tup xs.reverse))
theorem pe_revT {e : Expr} {te : TE} {k : Nat} {p1 p2 p3 pos : Pos} (he : PE X e te) : PE X (.Subscript e (.Slice none none (some (.UnaryOp .USub (.Constant (.int 1) k p1) p2)) p3) pos) (tRevT X.K te) := by
  refine ⟨fun pins s σ H Q I h => ?_⟩
  refine PyProof.Rows.Subscript_ (thn (he.run pins s σ H _ I h) fun v s1 ⟨x, H1, I1, r1, a, xs, ex, hx, q⟩ => ?_)
  subst ex
  cases r1
  have hst : PO X (some (.UnaryOp .USub (.Constant (.int 1) k p1) p2)) (tPart (tUn (rU fun i => .int (-i)) (tC (.int 1)))) := po_some (pe_un un_neg pe_int)
  refine wpAny_Slice (thn (po_none.run pins s1 σ H1 (fun o H2 => o = none ∧ H2 = H1) I1 ⟨rfl, rfl⟩) fun vl s2 ⟨l, H2, I2, pl, el, e2⟩ => ?_)
  subst el e2
  refine thn (po_none.run pins s2 σ H2 (fun o H3 => o = none ∧ H3 = H2) I2 ⟨rfl, rfl⟩) fun vu s3 ⟨u, H3, I3, pu, eu, e3⟩ => ?_
  subst eu e3
  refine thn (hst.run pins s3 σ H3 (fun o H4 => o = some (-1) ∧ H4 = H3) I3 ⟨1, rfl, -1, rfl, rfl, rfl⟩) fun vs s4 ⟨o, H4, I4, ps, eo, e4⟩ => ?_
  subst eo e4
  cases pl
  cases pu
  have I5 : Inv X pins σ H4 { s4 with heap := s4.heap.push { cls := .type "slice", data := .fields #[.none, .none, vs] } } := I4.kept (t' := s4.toks) fun b ob q => Heap.get?_push_of_some _ q
  obtain ⟨its, r, ht, hz⟩ := I5.tuple hx
  have hlen := r.length
  show wpAny (model X.prog X.w) X.A (subscriptTail e (.Slice none none (some (.UnaryOp .USub (.Constant (.int 1) k p1) p2)) p3) (.ref a) (.ref s4.heap.objs.size)) (EP X pins σ Q) X.xe { s4 with heap := s4.heap.push { cls := .type "slice", data := .fields #[.none, .none, vs] } }
  refine PyProof.Rows.tail_any (ops := [.ref a, .ref s4.heap.objs.size]) ht.typeIs PyProof.Rows.slot_tuple_getitem.lookup ?_ (by with_unfolding_all rfl)
  refine getItem_tuple_rev ht (Heap.IsSliceOf.new _ .none .none vs) ps ?_ (by rw [List.size_toArray]; omega)
  refine ⟨.ref _, _, I5.laid (t' := s4.toks) (o := .tup xs.reverse) (fun b ob q => Heap.get?_push_of_some _ q) (Nat.le_refl _) ?_, rfl, q _ (I5.hok.fresh (Nat.le_refl _))⟩
  exact ⟨by rw [List.length_reverse]; exact hz, _, r.reverse, IsTup.new _ _⟩
end
end Mini

namespace Mini
open PySem L2
open PyProof.Rows (IsTup)

/-! ### the order of texts -/
theorem str_eq {a b : Str} (h : a.cps.toList = b.cps.toList) : a = b := by
  cases a with | mk a => cases b with | mk b => simp only at h; rw [Array.ext' h]
theorem slt_iff {a b : Str} : strLt a b = true ↔ a.cps.toList < b.cps.toList := by unfold strLt; exact decide_eq_true_iff
theorem slt_no {a b : Str} : strLt a b = false ↔ b.cps.toList ≤ a.cps.toList := by
  unfold strLt
  rw [decide_eq_false_iff_not]
  exact Iff.rfl
theorem slt_irrefl (a : Str) : strLt a a = false := by rw [slt_no]; exact List.le_refl _
theorem slt_asymm {a b : Str} (h : strLt a b = true) : strLt b a = false := by
  rw [slt_iff] at h
  rw [slt_no]
  exact List.le_of_lt h
theorem slt_tr {a b c : Str} (h1 : strLt b a = false) (h2 : strLt c b = false) : strLt c a = false := by
  rw [slt_no] at h1 h2 ⊢
  exact List.le_trans h1 h2
theorem slt_total {a b : Str} (h1 : strLt a b = false) (h2 : strLt b a = false) : a = b := by
  rw [slt_no] at h1 h2
  exact str_eq (List.le_antisymm h2 h1)
theorem slt_trans {a b c : Str} (h1 : strLt a b = true) (h2 : strLt b c = true) : strLt a c = true := by
  rw [slt_iff] at h1 h2 ⊢
  exact List.lt_trans h1 h2

/-! ### insertion -/
section
variable {α β : Type} {lt : α → α → Bool}
theorem ins1_perm (x : α) : ∀ l : List α, (ins1 lt x l).Perm (x :: l)
  | [] => List.Perm.refl _
  | y :: l => by
    unfold ins1
    split
    · exact List.Perm.refl _
    · exact ((ins1_perm x l).cons y).trans (List.Perm.swap x y l)
theorem isort_perm : ∀ l : List α, (isort lt l).Perm l
  | [] => List.Perm.refl _
  | x :: l => (ins1_perm x _).trans ((isort_perm l).cons x)
theorem ins1_mem {x y : α} {l : List α} (h : y ∈ ins1 lt x l) : y = x ∨ y ∈ l := by
  have := (ins1_perm (lt := lt) x l).mem_iff.mp h
  simpa using this
theorem ins1_srt (ht : ∀ a b c, lt b a = false → lt c b = false → lt c a = false) (ha : ∀ a b, lt a b = true → lt b a = false) (x : α) : ∀ l : List α, l.Pairwise (fun a b => lt b a = false) → (ins1 lt x l).Pairwise (fun a b => lt b a = false)
  | [], _ => List.pairwise_singleton _ _
  | y :: l, h => by
    rw [List.pairwise_cons] at h
    unfold ins1
    split
    · rename_i e
      refine List.pairwise_cons.mpr ⟨fun z hz => ?_, List.pairwise_cons.mpr h⟩
      rcases List.mem_cons.mp hz with rfl | hz
      · exact ha _ _ e
      · exact ht _ _ _ (ha _ _ e) (h.1 z hz)
    · rename_i e
      refine List.pairwise_cons.mpr ⟨fun z hz => ?_, ins1_srt ht ha x l h.2⟩
      rcases ins1_mem hz with rfl | hz
      · simpa using e
      · exact h.1 z hz
theorem isort_srt (ht : ∀ a b c, lt b a = false → lt c b = false → lt c a = false) (ha : ∀ a b, lt a b = true → lt b a = false) : ∀ l : List α, (isort lt l).Pairwise (fun a b => lt b a = false)
  | [] => List.Pairwise.nil
  | x :: l => ins1_srt ht ha x _ (isort_srt ht ha l)
theorem ins1_map {lt' : β → β → Bool} (f : α → β) (x : α) : ∀ l : List α, (∀ y ∈ l, lt' (f x) (f y) = lt x y) → (ins1 lt x l).map f = ins1 lt' (f x) (l.map f)
  | [], _ => rfl
  | y :: l, h => by
    rw [List.map_cons]
    unfold ins1
    rw [h y List.mem_cons_self]
    split
    · rfl
    · rw [List.map_cons, ins1_map f x l fun z hz => h z (List.mem_cons_of_mem _ hz)]
theorem isort_map {lt' : β → β → Bool} (f : α → β) : ∀ l : List α, (∀ x ∈ l, ∀ y ∈ l, lt' (f x) (f y) = lt x y) → (isort lt l).map f = isort lt' (l.map f)
  | [], _ => rfl
  | x :: l, h => by
    rw [List.map_cons]
    unfold isort
    rw [ins1_map (lt' := lt') f x _ fun y hy => h x List.mem_cons_self y (List.mem_cons_of_mem _ ((isort_perm l).mem_iff.mp hy)),
      isort_map f l fun a ha b hb => h a (List.mem_cons_of_mem _ ha) b (List.mem_cons_of_mem _ hb)]
end

/-! ### pairs with texts ahead -/
section
variable {prog : Program} {w : World} {A : Around} {E : Value → Shared → Prop} {s : Shared}
/-- v is a tuple of two, the text x ahead -/
def IsTP (h : Heap) (v : Value) (x : Str) : Prop := ∃ (a : Addr) (t : Tok) (u : Value), v = .ref a ∧ IsTup h a #[.str x t, u]
theorem IsTP.keeps {h h' : Heap} {v : Value} {x : Str} (p : IsTP h v x) (k : ∀ b o, h.get? b = some o → o.cls = .type "tuple" → h'.get? b = some o) : IsTP h' v x := by
  obtain ⟨a, t, u, e, o, ho, hc, r⟩ := p
  exact ⟨a, t, u, e, o, k _ _ ho hc, hc, r⟩
/-- the text ahead -/
def headTx (h : Heap) (v : Value) : Str := DT.txOf (DT.seqAt0 h (DT.refOf (some v)))
theorem IsTP.head {h : Heap} {v : Value} {x : Str} (p : IsTP h v x) : headTx h v = x := by
  obtain ⟨a, t, u, rfl, h1⟩ := p
  show DT.txOf (DT.seqAt0 h a) = x
  rw [DT.seqAt0_of h1]
  rfl
theorem swo_tx (k : Value → Str) : SrtO.Swo fun v u => strLt (k v) (k u) := ⟨fun x y h => slt_asymm h, fun x y z h1 h2 => slt_tr h1 h2⟩
theorem tp_cmp {vs : List Value} {k : Value → Str} (hp : ∀ v ∈ vs, IsTP s.heap v (k v)) (hi : ∀ v ∈ vs, ∀ u ∈ vs, k v = k u → v = u) : SrtO.Cmp prog w A s (PyProof.Rows.tuples' true) (fun p => p.1 ∈ vs) (SrtO.lt2 fun v u => strLt (k v) (k u)) := by
  intro p q hm hm'
  have h1 := hp _ hm
  have h2 := hp _ hm'
  have hinj := hi _ hm _ hm'
  show wpAny (model prog w) A (PyProof.Rows.keyLt' (PyProof.Rows.tuples' true) p.1 q.1) (fun r s' => s' = s ∧ r = strLt (k p.1) (k q.1)) (fun _ _ => False) s
  generalize k p.1 = x at h1 hinj ⊢
  generalize k q.1 = y at h2 hinj ⊢
  generalize p.1 = v at h1 hinj ⊢
  generalize q.1 = v' at h2 hinj ⊢
  by_cases e : x = y
  · subst e
    have ev := hinj rfl
    subst ev
    obtain ⟨a, t, u, rfl, o, ho, hc, n, hd⟩ := h1
    refine PySem.W.kat_lt ho hd ho hd ?_
    show PySem.W.KatLex prog w A true (decide (2 < 2)) _ [(.str x t, .str x t), (u, u)] 0 s
    refine PySem.W.kat_cons (SeqAt.EqAt.same _ prog w _ _ (PySem.W.kat_yes (PySem.W.kat_cons (SeqAt.EqAt.same _ prog w _ _ (PySem.W.kat_yes (PySem.W.kat_nil ⟨rfl, ?_⟩))))))
    rw [slt_irrefl]
    rfl
  · obtain ⟨a, t, u, rfl, o, ho, hc, n, hd⟩ := h1
    obtain ⟨a', t', u', rfl, o', ho', hc', n', hd'⟩ := h2
    refine PySem.W.kat_lt ho hd ho' hd' ?_
    show PySem.W.KatLex prog w A true (decide (2 < 2)) _ [(.str x t, .str y t'), (u, u')] 0 s
    refine PySem.W.kat_cons (SeqAt.EqAt.str_str x t y t' prog w _ _ ?_)
    have hb : (x == y) = false := by simpa using e
    rw [hb]
    exact PySem.W.kat_no (PyProof.Rows.oneLt_str ⟨rfl, rfl⟩)
theorem tp_firsts {h : Heap} : ∀ {vs : List Value}, (∀ v ∈ vs, ∃ x, IsTP h v x) → ∃ fs : List Value, PySem.W.KatTups h vs fs ∧ fs.length = vs.length ∧ ∀ f ∈ fs, ∃ x t, f = Value.str x t
  | [], _ => ⟨[], .nil, rfl, fun f hf => by simp at hf⟩
  | v :: vs, hx => by
    obtain ⟨fs, k, hl, hi⟩ := tp_firsts (vs := vs) fun u hu => hx u (List.mem_cons_of_mem _ hu)
    obtain ⟨x, a, t, u, rfl, o, ho, hc, n, hd⟩ := hx v List.mem_cons_self
    refine ⟨.str x t :: fs, .cons ho hc hd rfl k, by rw [List.length_cons, List.length_cons, hl], fun f hf => ?_⟩
    rcases List.mem_cons.mp hf with rfl | hf
    · exact ⟨x, t, rfl⟩
    · exact hi f hf
theorem tp_sortable {a : Addr} {vs : List Value} {k : Value → Str} (h0 : 0 < vs.length) (hp : ∀ v ∈ vs, IsTP s.heap v (k v)) (hi : ∀ v ∈ vs, ∀ u ∈ vs, k v = k u → v = u) (ha : ∀ o, s.heap.get? a = some o → o.cls ≠ .type "tuple") :
    SrtO.SortableO prog w A s a vs fun v u => strLt (k v) (k u) := by
  intro h' keep
  have hp' : ∀ v ∈ vs, IsTP h' v (k v) := fun v hm => (hp v hm).keeps fun b o e c => keep b o (fun z => by subst z; exact ha o e c) e
  obtain ⟨fs, h1, h2, h3⟩ := tp_firsts fun v hm => ⟨_, hp' v hm⟩
  refine ⟨PyProof.Rows.tuples' true, fun Q E hq => ?_, tp_cmp (s := { s with heap := h' }) hp' hi⟩
  refine PySem.W.kat_kind (T := .type "str") h1 (by omega) (fun f hm => ?_) (by rfl) ?_
  · obtain ⟨x, t, rfl⟩ := h3 f hm
    exact PySem.W.Looks.now
  · have e : (Value.type "str" != Value.type "tuple") = true := by first | decide +kernel | rfl | decide
    rw [e]
    exact hq
/-- sorted(l) of such pairs, no text twice -/
theorem sorted_tp {l : Addr} {vs : List Value} {k : Value → Str} {Q : Value → Shared → Prop} (hl : s.heap.IsList l vs.toArray) (hz : vs.length ≤ sizeLine) (hp : ∀ v ∈ vs, IsTP s.heap v (k v)) (hi : ∀ v ∈ vs, ∀ u ∈ vs, k v = k u → v = u)
    (h : ∀ (h' : Heap) (d : Addr) (out : List Value), out.Pairwise (fun v u => strLt (k u) (k v) = false) → out.Perm vs → (∀ b o, s.heap.get? b = some o → h'.get? b = some o) → s.heap.objs.size ≤ d → (∃ n, h'.get? d = some (PyProof.Rows.seqObj "list" out.toArray n)) → Q (.ref d) { s with heap := h' }) :
    wpAny (model prog w) A (call (.builtin "sorted") [.ref l]) Q E s := by
  refine SrtO.sorted_ord (swo_tx k) hl hz (fun h2 h₁ a ha kk => ?_) fun out hs hb => ?_
  · refine tp_sortable (s := { s with heap := h₁ }) (by omega) (fun v hm => (hp v hm).keeps fun b o e _ => (kk b o e).2) hi fun o e => ?_
    have e' : some o = some (PyProof.Rows.seqObj "list" vs.toArray 0) := e.symm.trans ha
    cases e'
    intro c
    exact absurd (Value.type.inj c) (by decide)
  · exact h _ _ out hs hb.perm (fun b o e => PyProof.Rows.sortedAll_old e) (Nat.le_succ _) (PyProof.Rows.sortedAll_at s.heap vs out.toArray)
end

section
variable {X : Cx}
def refV : V → Value
  | .ref p => .ref p
  | _ => .none
def ltP (x y : V × Str) : Bool := strLt x.2 y.2
def rSrtP (K : PySem.W.Frag) : List V → Hp → VK → Prop := fun vs H Q => ∃ (a : Addr) (L : List (V × Str)), vs = [.ref a] ∧ SqL K H a (L.map (·.1)) ∧ (∀ e ∈ L, ∃ p u, e.1 = .ref p ∧ SqT K H p [.str e.2, u]) ∧ (L.map (·.2)).Nodup ∧
  ∀ p, H p = none → Q (.ref p) (upd H p (.lst ((isort ltP L).map (·.1))))
theorem vals_ref : ∀ {L : List (V × Str)} {us : List Value}, (∀ e ∈ L, ∃ p, e.1 = .ref p) → Vals (L.map (·.1)) us → us = L.map fun e => refV e.1
  | [], us, _, h => by cases h; rfl
  | e :: L, us, hp, h => by
    cases h with
    | cons r t =>
      obtain ⟨p, hp'⟩ := hp e List.mem_cons_self
      rw [List.map_cons, ← vals_ref (fun e he => hp e (List.mem_cons_of_mem _ he)) t]
      have r : RelV e.1 _ := r
      show _ = refV e.1 :: _
      rw [hp'] at r ⊢
      cases r
      rfl
theorem ref_vals : ∀ {L : List (V × Str)}, (∀ e ∈ L, ∃ p, e.1 = .ref p) → Vals (L.map (·.1)) (L.map fun e => refV e.1)
  | [], _ => .nil
  | e :: L, hp => by
    obtain ⟨p, hp'⟩ := hp e List.mem_cons_self
    refine .cons ?_ (ref_vals fun e he => hp e (List.mem_cons_of_mem _ he))
    show RelV e.1 (refV e.1)
    rw [hp']
    rfl
theorem cr_srtP : CallR X (.builtin "sorted") (rSrtP X.K) := by
  intro pins s σ H vs us Q I r h
  obtain ⟨a, L, rfl, hs, hp, nd, q⟩ := h
  obtain ⟨its, rv, hl, hz⟩ := I.list hs
  rw [Vals.ref1 r]
  have hp1 : ∀ e ∈ L, ∃ p, e.1 = .ref p := fun e he => by obtain ⟨p, u, e1, _⟩ := hp e he; exact ⟨p, e1⟩
  have ei := vals_ref hp1 rv
  subst ei
  have key : ∀ e ∈ L, IsTP s.heap (refV e.1) e.2 := fun e he => by
    obtain ⟨p, u, e1, ht⟩ := hp e he
    obtain ⟨it2, r2, ht2, _⟩ := I.tuple ht
    rw [e1]
    cases r2 with
    | cons x1 x2 =>
      cases x2 with
      | cons y1 y2 =>
        cases y2
        obtain ⟨t, rfl⟩ := x1
        exact ⟨p, t, _, rfl, ht2⟩
  have kk : ∀ e ∈ L, headTx s.heap (refV e.1) = e.2 := fun e he => (key e he).head
  have inj : ∀ v ∈ L.map (fun e => refV e.1), ∀ u ∈ L.map (fun e => refV e.1), headTx s.heap v = headTx s.heap u → v = u := by
    intro v hv u hu e
    obtain ⟨x, hx, rfl⟩ := List.mem_map.mp hv
    obtain ⟨y, hy, rfl⟩ := List.mem_map.mp hu
    rw [kk x hx, kk y hy] at e
    have : x = y := by
      clear q rv hs hl hz key kk hp hp1 hv hu
      induction L with
      | nil => cases hx
      | cons z L ih =>
        rw [List.map_cons, List.nodup_cons] at nd
        rcases List.mem_cons.mp hx with e1 | hx1
        · rcases List.mem_cons.mp hy with e2 | hy1
          · rw [e1, e2]
          · exact absurd (show z.2 ∈ L.map (fun z => z.2) from List.mem_map.mpr ⟨y, hy1, by rw [← e, e1]⟩) nd.1
        · rcases List.mem_cons.mp hy with e2 | hy1
          · exact absurd (show z.2 ∈ L.map (fun z => z.2) from List.mem_map.mpr ⟨x, hx1, by rw [e, e2]⟩) nd.1
          · exact ih nd.2 hx1 hy1
    rw [this]
  rw [List.length_map] at hz
  refine sorted_tp (k := headTx s.heap) hl.isList (by rw [List.length_map]; exact hz) (fun v hv => ?_) inj fun h' d out h1 h2 hk hd hg => ?_
  · obtain ⟨e, he, rfl⟩ := List.mem_map.mp hv
    rw [kk e he]
    exact key e he
  · have ps := isort_perm (lt := ltP) L
    have mem : ∀ e, e ∈ isort ltP L → e ∈ L := fun e he => ps.mem_iff.mp he
    have eo : out = (isort ltP L).map fun e => refV e.1 := by
      refine List.Perm.eq_of_pairwise (le := fun v u => strLt (headTx s.heap u) (headTx s.heap v) = false) (fun v u hv hu x1 x2 => ?_) h1 ?_ (h2.trans (ps.map _).symm)
      · refine inj v (h2.mem_iff.mp hv) u ?_ (slt_total x2 x1)
        obtain ⟨e, he, rfl⟩ := List.mem_map.mp hu
        exact List.mem_map.mpr ⟨e, mem e he, rfl⟩
      · rw [List.pairwise_map]
        refine List.Pairwise.imp_of_mem (fun {x y} hx hy hxy => ?_) (isort_srt (lt := ltP) (fun _ _ _ a b => slt_tr a b) (fun _ _ a => slt_asymm a) L)
        rw [kk x (mem x hx), kk y (mem y hy)]
        exact hxy
    obtain ⟨n, hg⟩ := hg
    have hn : H d = none := I.hok.fresh hd
    refine ⟨.ref d, upd H d (.lst ((isort ltP L).map (·.1))), I.laid (t' := s.toks) hk hd ?_, rfl, q d hn⟩
    refine ⟨by rw [List.length_map, ps.length_eq]; exact hz, out, n, ?_, hg⟩
    rw [eo]
    exact ref_vals fun e he => hp1 e (mem e he)
end
end Mini

namespace Mini
open PySem L2
section
variable {prog : Program} {w : World} {A : Around} {R : Result → Shared → Prop} {I : Addr} {fp wr : List Addr} {n : Nat} {P : Nat → Value → Prop} {St : Nat → Heap → Prop}
abbrev kwD (d : Value) : List (Str × Value) := [("default", d)]
theorem md_loop (W : Walks prog w A.in1 I fp wr n P St) (bt : Nat → Nat → Bool) (hcmp : CmpOf prog w A.in1 .Gt P bt) (S : Addr) (hSf : S ∉ fp) (d : Value) :
    ∀ (k j : Nat) (s : Shared) (vb : Value) (c : Nat), n - (j + 1) = k → j + 1 ≤ n → St (j + 1) s.heap → P (argBest bt j) vb →
    s.heap.get? S = some { cls := .type "list", dict := none, data := .seq #[vb, vb] c, slots := #[] } →
    (∀ v h' tk, P (argBest bt (n - 1)) v → (∀ b o, b ∉ wr → b ≠ S → s.heap.get? b = some o → h'.get? b = some o) → R (.ok (.ret v)) { s with heap := h', toks := tk }) →
    codeAny (model prog w) A (.builtin "max.loop" ⟨[.ref I, .none, .ref S], kwD d⟩) R s := by
  have hSw : S ∉ wr := fun h => hSf (W.sub _ h)
  have hnm : (toString "max" ++ toString ".loop" : String) = "max.loop" := by decide
  intro k
  induction k with
  | zero =>
    intro j s vb c hk hj hst hPb hS hR
    have hin : j + 1 = n := by omega
    refine codeAny_builtin F.entry_max_loop ?_
    rw [Around.under_plainId F.plain_max_loop _]
    show wpAny _ A.in1 (seqItems? (.ref S) >>= _) _ _ s
    refine wpAny_bind (wpAny_seqItems hS rfl ?_)
    show wpAny _ A.in1 (tryCatch (pyNext (.ref I)) _ >>= _) _ _ s
    refine wpAny_bind (wpAny_tryCatch (W.done s _ _ (hin ▸ hst) fun h' tk hk' => ?_))
    have hS' := hk' S _ hSw hS
    show wpAny _ A.in1 (updateSeq S (fun _ => #[]) >>= _) _ _ _
    refine wpAny_bind (wpAny_updateSeq hS' rfl (wpAny_bind (wpAny_letGo (wpAny_pure ?_))))
    exact hR vb _ tk (by rw [← hin]; exact hPb) fun b o hbw hbS e => (Heap.get?_update_other _ _ (Ne.symm hbS)).trans (hk' b o hbw e)
  | succ k ih =>
    intro j s vb c hk hj hst hPb hS hR
    have hlt : j + 1 < n := by omega
    refine codeAny_builtin F.entry_max_loop ?_
    rw [Around.under_plainId F.plain_max_loop _]
    show wpAny _ A.in1 (seqItems? (.ref S) >>= _) _ _ s
    refine wpAny_bind (wpAny_seqItems hS rfl ?_)
    show wpAny _ A.in1 (tryCatch (pyNext (.ref I)) _ >>= _) _ _ s
    refine wpAny_bind (wpAny_tryCatch (W.item (j + 1) s _ _ hlt hst fun v h' tk hP hst' hk' => ?_))
    have hS' := hk' S _ hSw hS
    show wpAny _ A.in1 (tryCatch (holding [v, v] (richCompare .Gt v vb >>= _)) _ >>= _) _ _ _
    refine wpAny_bind (wpAny_tryCatch (wpAny_holding (wpAny_bind (hcmp (j + 1) (argBest bt j) v vb _ _ _ hP hPb ?_))))
    refine wpAny_bind (wpAny_holding (wpAny_truthy_bool (wpAny_bind (wpAny_letGo (wpAny_pure ?_)))))
    cases hb : bt (j + 1) (argBest bt j) with
    | true =>
      simp only [if_true]
      refine wpAny_bind (wpAny_updateSeq hS' rfl (wpAny_bind (wpAny_letGo ?_)))
      rw [hnm]
      refine wpAny_pure ⟨plainId_quiet F.plain_max_loop _, ih (j + 1) _ v _ (by omega) hlt (W.frame _ _ _ hst' fun b hbf o e => ?_) (by simp only [argBest, hb, if_true]; exact hP) (Heap.get?_update_self _ hS' rfl)
        fun v' h'' tk'' hP' hk'' => ?_⟩
      · exact (Heap.get?_update_other _ _ (fun h : S = b => hSf (by rw [h]; exact hbf))).trans e
      · exact hR v' h'' tk'' hP' fun b o hbw hbS e => hk'' b o hbw hbS ((Heap.get?_update_other _ _ (Ne.symm hbS)).trans (hk' b o hbw e))
    | false =>
      simp only [Bool.false_eq_true, if_false]
      refine wpAny_bind (wpAny_letGo ?_)
      rw [hnm]
      refine wpAny_pure ⟨plainId_quiet F.plain_max_loop _, ih (j + 1) _ vb c (by omega) hlt hst' (by simp only [argBest, hb, Bool.false_eq_true, if_false]; exact hPb) hS' fun v' h'' tk'' hP' hk'' => ?_⟩
      exact hR v' h'' tk'' hP' fun b o hbw hbS e => hk'' b o hbw hbS (hk' b o hbw e)
theorem md_first (W : Walks prog w A.in1 I fp wr n P St) (bt : Nat → Nat → Bool) (hcmp : CmpOf prog w A.in1 .Gt P bt) (S : Addr) (hSf : S ∉ fp) (d : Value) {s : Shared} {c : Nat} (hst : St 0 s.heap)
    (hS : s.heap.get? S = some { cls := .type "list", dict := none, data := .seq #[] c, slots := #[] })
    (hR : ∀ v h' tk, (0 < n ∧ P (argBest bt (n - 1)) v ∨ n = 0 ∧ v = d) → (∀ b o, b ∉ wr → b ≠ S → s.heap.get? b = some o → h'.get? b = some o) → R (.ok (.ret v)) { s with heap := h', toks := tk }) :
    codeAny (model prog w) A (.builtin "max.loop" ⟨[.ref I, .none, .ref S], kwD d⟩) R s := by
  have hSw : S ∉ wr := fun h => hSf (W.sub _ h)
  have hnm : (toString "max" ++ toString ".loop" : String) = "max.loop" := by decide
  refine codeAny_builtin F.entry_max_loop ?_
  rw [Around.under_plainId F.plain_max_loop _]
  show wpAny _ A.in1 (seqItems? (.ref S) >>= _) _ _ s
  refine wpAny_bind (wpAny_seqItems hS rfl ?_)
  show wpAny _ A.in1 (tryCatch (pyNext (.ref I)) _ >>= _) _ _ s
  by_cases hn : 0 < n
  · refine wpAny_bind (wpAny_tryCatch (W.item 0 s _ _ hn hst fun v h' tk hP hst' hk' => ?_))
    have hS' := hk' S _ hSw hS
    show wpAny _ A.in1 (updateSeq S (fun _ => #[v, v]) >>= _) _ _ _
    refine wpAny_bind (wpAny_updateSeq hS' rfl ?_)
    rw [hnm]
    refine wpAny_pure ⟨plainId_quiet F.plain_max_loop _, md_loop W bt hcmp S hSf d _ 0 _ v _ rfl hn (W.frame _ _ _ hst' fun b hbf o e => ?_) hP (Heap.get?_update_self _ hS' rfl) fun v' h'' tk'' hP' hk'' => ?_⟩
    · exact (Heap.get?_update_other _ _ (fun h : S = b => hSf (by rw [h]; exact hbf))).trans e
    · exact hR v' h'' tk'' (.inl ⟨hn, hP'⟩) fun b o hbw hbS e => hk'' b o hbw hbS ((Heap.get?_update_other _ _ (Ne.symm hbS)).trans (hk' b o hbw e))
  · have hz : n = 0 := by omega
    refine wpAny_bind (wpAny_tryCatch (W.done s _ _ (hz ▸ hst) fun h' tk hk' => ?_))
    show wpAny _ A.in1 (rule _ >>= _) _ _ _
    exact wpAny_bind (wpAny_rule (wpAny_pure (hR d h' tk (.inr ⟨hz, rfl⟩) fun b o hbw _ e => hk' b o hbw e)))
end
theorem args_maxd (a d : Value) : argsOk "max" ⟨[a], kwD d⟩ := by unfold argsOk; kernel_rfl
section
variable {prog : Program} {w : World} {A : Around} {E : Value → Shared → Prop} {s : Shared} {xs : Array (Int × Tok)} {l : Addr}
theorem md_list {Q : Value → Shared → Prop} {d : Value} (hh : A.handled = none) (hl : s.heap.IsList l (intItems xs))
    (h : ∀ v h' tk, (0 < xs.size ∧ (intItems xs)[argBest (fun i j => decide (numAt xs i > numAt xs j)) (xs.size - 1)]? = some v ∨ xs.size = 0 ∧ v = d) → (∀ b o, s.heap.get? b = some o → h'.get? b = some o) → Q v { s with heap := h', toks := tk }) :
    wpAny (model prog w) A (call (.builtin "max") [.ref l] (kwD d)) Q E s := by
  have hnm : (toString "max" ++ toString ".loop" : String) = "max.loop" := by decide
  have go : wpAny (model prog w) A.in1 (Builtin.«max» ⟨[.ref l], kwD d⟩) (fun fin s' => match fin with
      | .done f => (match (Except.ok f : Result) with | .ok (.ret v) => Q v s' | .ok _ => False | .error e => E e s')
      | .again c' => c'.quiet = true ∧ codeAny (model prog w) A c' (fun r s' => match r with | .ok (.ret v) => Q v s' | .ok _ => False | .error e => E e s') s') E s := by
    show wpAny _ A.in1 (Builtin.Builtins.bindParams "max" ["key", "default"] 0 ⟨[], kwD d⟩ >>= _) _ _ s
    refine wpAny_bind (wpAny_of_eq (show Builtin.Builtins.bindParams "max" ["key", "default"] 0 ⟨[], kwD d⟩ = pure [none, some d] from rfl) ?_)
    refine wpAny_bind (wpAny_pure ?_)
    refine wpAny_bind (iter_intList hl fun s₂ e st hfp hlI => ?_)
    refine wpAny_bind (wpAny_newObj_type ?_)
    have hSf : s₂.heap.objs.size ∉ [s.heap.objs.size, l] := fun hm => Nat.lt_irrefl _ (hfp _ hm)
    have W := Walks.list (prog := prog) (w := w) (A := A.in1) hh s.heap.objs.size l hlI (intItems xs)
    rw [hnm]
    refine wpAny_pure ⟨plainId_quiet F.plain_max_loop _, md_first W _ (CmpOf.ints_gt (numAt xs) (fun _ _ => intItems_at)) s₂.heap.objs.size hSf d (W.frame _ _ _ st fun b _ o e => Heap.get?_push_of_some _ e) (Heap.get?_push_size _ rfl) fun v h' tk hP hk => ?_⟩
    subst e
    refine h v h' tk (by simpa [intItems] using hP) fun b o e => ?_
    have e1 : (s.heap.push { cls := .type "list_iterator", data := .fields #[.ref l, .int 0 0] }).get? b = some o := Heap.get?_push_of_some _ e
    refine hk b o (fun hm => ?_) (Nat.ne_of_lt (Heap.lt_size e1)) (Heap.get?_push_of_some _ e1)
    have : b = s.heap.objs.size := by simpa using hm
    exact absurd (Heap.lt_size e) (by rw [this]; exact Nat.lt_irrefl _)
  refine wpAny_call (codeAny_call_builtin F.plain_max F.entry_max ?_)
  simp only [checkBuiltinCall, F.kind_max]
  have ha := args_maxd (.ref l) d
  cases hsig : Manifest.signature? "max" with
  | none => exact wpAny_pure go
  | some sig =>
    have ha' : Bind.checkArgs "max" sig ⟨[.ref l], kwD d⟩ = pure () := by simpa only [argsOk, hsig] using ha
    simp only [ha']
    exact wpAny_pure go
end
def rMaxd (K : PySem.W.Frag) : List V → List V → Hp → VK → Prop := fun vs zs H Q => ∃ (a : Addr) (ns : List Int) (d : Int), vs = [V.ref a] ∧ zs = [.int d] ∧ SqL K H a (ns.map V.int) ∧ (ns = [] → Q (.int d) H) ∧ ∀ m, m ∈ ns → (∀ y, y ∈ ns → y ≤ m) → Q (.int m) H
section
variable {X : Cx}
theorem cr_maxd (hc : X.calm = true) : CallRK X (.builtin "max") ["default"] (rMaxd X.K) := by
  intro pins s σ H vs zs us ws Q I r rz h
  obtain ⟨a, ns, d, rfl, rfl, hs, q0, q⟩ := h
  obtain ⟨its, rv, hl, _⟩ := I.list hs
  rw [Vals.ref1 r]
  obtain ⟨u, rfl, t, rfl⟩ := vals1 rz
  have hi := rv.ints
  obtain ⟨xs, e⟩ := hi.allInts.items
  have hn : numsOf (intItems xs).toList = ns := by rw [← e]; exact hi.numsOf
  rw [nums_intItems] at hn
  subst hn
  have hl2 : s.heap.IsList a (intItems xs) := by rw [← e]; exact hl.isList
  refine md_list (I.ok.hd hc) hl2 fun v h' tk hv hk => ?_
  rcases hv with ⟨hsz, hv⟩ | ⟨hsz, rfl⟩
  · obtain ⟨t, rfl⟩ := intItems_at hv
    obtain ⟨h1, h2⟩ := argBest_gt (numAt xs) (xs.size - 1)
    refine ⟨.int _, H, I.kept (t' := tk) hk, ⟨t, rfl⟩, q _ ?_ fun y hy => ?_⟩
    · rw [numAt_eq]; exact PySem.getD_mem (by rw [List.length_map, Array.length_toList]; omega)
    · obtain ⟨j, hj, rfl⟩ := mem_getD hy
      rw [List.length_map, Array.length_toList] at hj
      rw [← numAt_eq]
      exact h2 j (by omega)
  · refine ⟨.int d, H, I.kept (t' := tk) hk, ⟨t, rfl⟩, q0 ?_⟩
    have : xs.toList = [] := List.eq_nil_of_length_eq_zero (by simpa using hsz)
    rw [this]
    rfl
end
end Mini

namespace Mini
open PySem L2
open PyProof.Rows (IsTup)

section
variable {X : Cx}
theorem CallR.or {f : Value} {r r' : List V → Hp → VK → Prop} (h : CallR X f r) (h' : CallR X f r') : CallR X f (fun xs H Q => r xs H Q ∨ r' xs H Q) := by
  intro pins s σ H xs us Q I rv q
  rcases q with q | q
  · exact h pins s σ H xs us Q I rv q
  · exact h' pins s σ H xs us Q I rv q
/-! ### len -/
def rLen (K : PySem.W.Frag) : List V → Hp → VK → Prop := fun xs H Q => (∃ x n, xs = [x] ∧ LenV K x H n ∧ Q (.int n) H) ∨ (∃ (p : Addr) (kvs : List (Key × V)), xs = [.ref p] ∧ Rd H p (.dK kvs) ∧ Q (.int kvs.length) H) ∨
  ∃ (p : Addr) (kvs : List (List Key × V)), xs = [.ref p] ∧ Rd H p (.dT kvs) ∧ Q (.int kvs.length) H
theorem call_len_dk : CallR X (.builtin "len") (fun xs H Q => ∃ (p : Addr) (kvs : List (Key × V)), xs = [.ref p] ∧ Rd H p (.dK kvs) ∧ Q (.int kvs.length) H) := by
  intro pins s σ H xs us Q I r h
  obtain ⟨p, kvs, rfl, hp, q⟩ := h
  obtain ⟨u, rfl, rx⟩ := vals1 r
  cases rx
  exact d_len I hp fun t s' I' => ⟨.int kvs.length, H, I', ⟨t, rfl⟩, q⟩
theorem call_len_dt : CallR X (.builtin "len") (fun xs H Q => ∃ (p : Addr) (kvs : List (List Key × V)), xs = [.ref p] ∧ Rd H p (.dT kvs) ∧ Q (.int kvs.length) H) := by
  intro pins s σ H xs us Q I r h
  obtain ⟨p, kvs, rfl, hp, q⟩ := h
  obtain ⟨u, rfl, rx⟩ := vals1 r
  cases rx
  obtain ⟨z, hd, ys, rel, dd⟩ := dt_rd I.hok hp
  have hl : kvs.length = ys.length := Paired.length rel
  refine call_len_dictH hd dd (by rw [← hl]; rw [sizeLine_eq] at z; omega) ?_
  rw [← hl]
  exact ⟨.int kvs.length, H, I.tok _, ⟨_, rfl⟩, q⟩
theorem cr_len : CallR X (.builtin "len") (rLen X.K) := CallR.or call_len (CallR.or call_len_dk call_len_dt)
end

section
variable {X : Cx}
/-! ### dict(pairs) -/
def rDictP (K : PySem.W.Frag) : List V → Hp → VK → Prop := fun xs H Q => ∃ (a : Addr) (ps : List Addr) (kvs : List (Key × V)), xs = [.ref a] ∧ (SqL K H a (ps.map V.ref) ∨ ∃ o : Obj, H a = some (.frz o (.tup (ps.map V.ref))) ∧ o.dict = none) ∧
  Paired (fun p kv => SqT K H p [kV kv.1, kv.2]) ps kvs ∧ ∀ p, H p = none → Q (.ref p) (upd H p (.dK (mergeK [] kvs)))
theorem cr_dictP (hcalm : X.calm = true) : CallR X (.type "dict") (rDictP X.K) := by
  intro pins s σ H xs us Q I r q
  obtain ⟨a, ps, kvs, ex, hq, hp, q⟩ := q
  rcases hq with hq | ⟨o, hq, hod⟩
  · exact call_dictP hcalm pins s σ H xs us Q I r ⟨a, ps, kvs, ex, hq, hp, q⟩
  · subst ex
    obtain ⟨u, eu, rx⟩ := vals1 r
    subst eu
    cases rx
    obtain ⟨ho, hz, its, rv, o', ho', hc, n, hdat⟩ := (show ObjOk X.prog X.w H s.heap a (.frz o (.tup (ps.map V.ref))) from I.hok a _ hq)
    rw [ho] at ho'
    cases ho'
    have ei := refs_at rv
    subst ei
    rw [List.length_map] at hz
    obtain ⟨prs, rel, hl, hpr⟩ := pairs_of I hp
    let vps : List (Value × Value) := (List.range prs.length).map fun j => match ps[j]? with
      | some b => match s.heap.get? b with
        | some ob => match ob.data with
          | .seq ys _ => (ys.getD 0 .none, ys.getD 1 .none)
          | _ => (.none, .none)
        | none => (.none, .none)
      | none => (.none, .none)
    have vlen : vps.length = prs.length := by simp [vps]
    have vat : ∀ (j : Nat) (q' : Key × Value), prs[j]? = some q' → ∃ u, vps[j]? = some (u, q'.2) ∧ keyIs q'.1 u = true ∧ ∃ b, ps[j]? = some b ∧ IsTup s.heap b #[u, q'.2] := by
      intro j q' e
      obtain ⟨b, u, e1, e2, e3⟩ := hpr j q' e
      refine ⟨u, ?_, e3, b, e1, e2⟩
      have hj : j < prs.length := (List.getElem?_eq_some_iff.mp e).1
      obtain ⟨ob, hob, _, m, hm⟩ := e2
      simp only [vps, List.getElem?_map, List.getElem?_range hj, Option.map_some, e1, hob, hm]
      rfl
    have P := PairArg.tuple (prog := X.prog) (w := X.w) a (ps.map Value.ref).toArray (fun j => ps.getD j 0) vps
    refine PySem.call_dict_pairs (knd := mixKind X.prog X.w) (kvs := prs) P (I.ok.hd hcalm) ⟨⟨o, n, ho, hc, hod, hdat⟩, ?_, fun j k v e => ?_⟩ ⟨vlen.symm, fun i key v e => ?_⟩ (by rw [vlen, hl]; exact hz) fun h' tk hd' k => ?_
    · rw [List.size_toArray, List.length_map, vlen, hl]
    · have hj : j < prs.length := by
        have := (List.getElem?_eq_some_iff.mp e).1
        omega
      obtain ⟨u, h1, h2, b, h3, h4⟩ := vat j prs[j] (by simp [hj])
      have e' : vps[j]? = some (k, v) := e
      rw [h1] at e'
      cases e'
      have hb : ps.getD j 0 = b := by rw [List.getD_eq_getElem?_getD, h3]; rfl
      refine ⟨?_, .inl ?_⟩
      · show (ps.map Value.ref).toArray[j]? = some (Value.ref (ps.getD j 0))
        rw [hb, List.getElem?_toArray, List.getElem?_map, h3]; rfl
      · show IsTup s.heap (ps.getD j 0) _
        rw [hb]; exact h4
    · have e : vps[i]? = some (key, v) := e
      have hi : i < prs.length := by
        have := (List.getElem?_eq_some_iff.mp e).1
        omega
      obtain ⟨u, h1, h2, _⟩ := vat i prs[i] (by simp [hi])
      rw [h1] at e
      cases e
      exact ⟨prs[i].1, by simp [hi], h2⟩
    · have hm : (s.heap.objs.size == sysModules) = false := beq_eq_false_iff_ne.mpr (Nat.ne_of_gt I.big)
      have hlen : (mergeK [] kvs).length ≤ sizeLine := by
        refine Nat.le_trans (length_mergeK kvs []) ?_
        rw [List.length_nil, Nat.zero_add, rel.length, hl]
        exact hz
      exact ⟨.ref s.heap.objs.size, upd H s.heap.objs.size (.dK (mergeK [] kvs)), I.laid (t' := tk) (fun b o e => k b o (by simp) e) (Nat.le_refl _) (show ObjOk X.prog X.w _ _ _ (.dK (mergeK [] kvs)) from ⟨hlen, hm, merged [] prs, KV.merge rel .nil, hd'⟩), rfl, q _ (I.hok.fresh (Nat.le_refl _))⟩
end
end Mini

namespace Mini
open PySem L2

section
variable (T : Tb) (K : PySem.W.Frag) (cl : Orc) (gv : Gv) (W : WX)
/-- at σ and H: the interpreter's result is one that Q and W like -/
def tG {α β : Type} (V : Rho → Hp → α → β → Prop) (ev : Ev → Sto → R α) : St → Hp → (β → Hp → Prop) → Prop := fun σ H Q =>
  ∃ ρ S env, Rel T K ρ S H ∧ EvR K ρ H env σ ∧ RG T K V ρ H (ev env S) Q (WE W σ)
abbrev tE (c : C) : TE := tG T K W (VD K) (evE cl gv c)
abbrev tEs (cs : Cs) : TA := tG T K W (VDs K) (evEs cl gv cs)
abbrev tC (c : Co) : TT := tG T K W (VEq Bool) (evC cl gv c)
abbrev tO (c : Co) : TO := tG T K W (VEq (Option Int)) (evO cl gv c)
end

section
variable {T : Tb} {X : Cx} {cl : Orc} {gv : Gv} {W : WX}
theorem PE_imp {e : Expr} {t t' : TE} (h : PE X e t) (i : ∀ σ H Q, t' σ H Q → t σ H Q) : PE X e t' := ⟨fun pins s σ H Q I q => h.run pins s σ H Q I (i σ H Q q)⟩
theorem PT_imp {e : Expr} {t t' : TT} (h : PT X e t) (i : ∀ σ H Q, t' σ H Q → t σ H Q) : PT X e t' := ⟨fun pins s σ H Q I q => h.run pins s σ H Q I (i σ H Q q)⟩
theorem PW_imp {e : Expr} {t t' : TT} (h : PW X e t) (i : ∀ σ H Q, t' σ H Q → t σ H Q) : PW X e t' := ⟨fun w pins s σ H Q I q => h.run w pins s σ H Q I (i σ H Q q)⟩
theorem PA_imp {e : List Expr} {t t' : TA} (h : PA X e t) (i : ∀ σ H Q, t' σ H Q → t σ H Q) : PA X e t' := ⟨fun pos pins s σ H Q I q => h.run pos pins s σ H Q I (i σ H Q q)⟩
theorem PO_imp {e : Option Expr} {t t' : TO} (h : PO X e t) (i : ∀ σ H Q, t' σ H Q → t σ H Q) : PO X e t' := ⟨fun pins s σ H Q I q => h.run pins s σ H Q I (i σ H Q q)⟩

/-- what is left behind a part -/
def Aft (T : Tb) (K : PySem.W.Frag) (W : WX) {α β γ δ : Type} (V : Rho → Hp → α → β → Prop) (V2 : Rho → Hp → γ → δ → Prop) (σ : St) (f : α → Ev → Sto → R γ) (Q : δ → Hp → Prop) : β → Hp → Prop :=
  fun b H => ∃ ρ S env a, Rel T K ρ S H ∧ EvR K ρ H env σ ∧ V ρ H a b ∧ RG T K V2 ρ H (f a env S) Q (WE W σ)
theorem tG_bind {K : PySem.W.Frag} {α β γ δ : Type} {V : Rho → Hp → α → β → Prop} {V2 : Rho → Hp → γ → δ → Prop} {ev : Ev → Sto → R α} {g : Ev → Sto → R γ} {f : α → Ev → Sto → R γ} {σ : St} {H : Hp} {Q : δ → Hp → Prop}
    (e : ∀ env S, g env S = (ev env S).bind fun a S => f a env S) (h : tG T K W V2 g σ H Q) : tG T K W V ev σ H (Aft T K W V V2 σ f Q) := by
  obtain ⟨ρ, S, env, r, ee, g⟩ := h
  rw [e] at g
  exact ⟨ρ, S, env, r, ee, g.bind.imp fun b H1 ⟨ρ1, S1, a, x, r1, v, g1⟩ => ⟨ρ1, S1, env, a, r1, ee.mono x, v, g1⟩⟩
/-- a second part, the first one's value kept -/
theorem Aft_next {K : PySem.W.Frag} {α β γ δ α' β' : Type} {V : Rho → Hp → α → β → Prop} {V2 : Rho → Hp → γ → δ → Prop} {V' : Rho → Hp → α' → β' → Prop} {ev : Ev → Sto → R α'} {f : α → Ev → Sto → R γ} {f2 : α → α' → Ev → Sto → R γ} {σ : St} {H : Hp}
    {Q : δ → Hp → Prop} {b : β} (mono : ∀ ρ H ρ' H' a b, Ext ρ H ρ' H' → V ρ H a b → V ρ' H' a b) (e : ∀ a env S, f a env S = (ev env S).bind fun a' S => f2 a a' env S) (h : Aft T K W V V2 σ f Q b H) :
    tG T K W V' ev σ H (fun b' H1 => ∃ ρ S env a a', Rel T K ρ S H1 ∧ EvR K ρ H1 env σ ∧ V ρ H1 a b ∧ V' ρ H1 a' b' ∧ RG T K V2 ρ H1 (f2 a a' env S) Q (WE W σ)) := by
  obtain ⟨ρ, S, env, a, r, ee, v, g⟩ := h
  rw [e] at g
  exact ⟨ρ, S, env, r, ee, g.bind.imp fun b H1 ⟨ρ1, S1, a', x, r1, v', g1⟩ => ⟨ρ1, S1, env, a, a', r1, ee.mono x, mono _ _ _ _ _ _ x v, v', g1⟩⟩
theorem VD_mono {K : PySem.W.Frag} : ∀ ρ H ρ' H' a b, Ext ρ H ρ' H' → VD K ρ H a b → VD K ρ' H' a b := fun _ _ _ _ a b x h => VR.mono x a b h

/-! ### names, literals -/
theorem me_never {e : Expr} : PE X e (tE T X.K cl gv W .never) := ⟨fun _ _ _ _ _ _ ⟨_, _, _, _, _, g⟩ => g.elim⟩
theorem me_var {i : Nat} {x : Str} {pos : Pos} (hN : X.N[i]? = some x) (hv : Vis X.env.scope x) (hd : (x == ("__debug__" : Str)) = false := by decide) (hcd : (x == ("__classdict__" : Str)) = false := by decide) : PE X (.Name x pos) (tE T X.K cl gv W (.var i)) :=
  PE_imp (pe_var hN hv hd hcd) fun σ H Q ⟨ρ, S, env, r, ee, g⟩ => by
    simp only [evE] at g
    split at g
    · rename_i d e
      obtain ⟨v, e1, e2⟩ := ee.2 i d e
      exact ⟨v, e1, g.now r e2⟩
    · exact g.elim
theorem me_int {i : Int} {j pos} : PE X (.Constant (.int i) j pos) (tE T X.K cl gv W (.lit (.int i))) := PE_imp pe_int fun σ H Q ⟨ρ, S, env, r, ee, g⟩ => g.now r (by simp only [VR])
theorem me_bl {b : Bool} {j pos} : PE X (.Constant (.bool b) j pos) (tE T X.K cl gv W (.lit (.bl b))) := PE_imp pe_bl fun σ H Q ⟨ρ, S, env, r, ee, g⟩ => g.now r (by simp only [VR])
theorem me_non {j pos} : PE X (.Constant .none j pos) (tE T X.K cl gv W (.lit .non)) := PE_imp pe_non fun σ H Q ⟨ρ, S, env, r, ee, g⟩ => g.now r (by simp only [VR])
theorem me_str {x : Str} {j pos} (h : PyData.strOk x = true := by decide +kernel) : PE X (.Constant (.str x) j pos) (tE T X.K cl gv W (.lit (.str x))) := PE_imp pe_str fun σ H Q ⟨ρ, S, env, r, ee, g⟩ => g.now r (by simp only [VR]; exact ⟨trivial, h⟩)
/-- a constant of the text -/
theorem me_gbl {n : Nat} {x : Str} {u : Value} {v : V} {d : D} {pos : Pos} (hd : gv n = some d) (hv : ∀ ρ H, VR X.K ρ H d v) (hg : Gl X x) (hm : X.mg x = some u) (r : RelV v u) (hdb : (x == ("__debug__" : Str)) = false := by decide) :
    PE X (.Name x pos) (tE T X.K cl gv W (.gbl n)) := PE_imp (pe_glob hg hm r hdb) fun σ H Q ⟨ρ, S, env, r, ee, g⟩ => by
    simp only [evE, hd] at g
    split at g
    · exact g.elim
    · rename_i e
      cases e
      exact g.now r (hv ρ H)
    · rename_i e; cases e

/-! ### operations -/
theorem getT_ok {K : PySem.W.Frag} {ρ : Rho} {H : Hp} {S : Sto} {a : D} {x : V} {xs : List D} (h : isTup a = true) (e : getS S a = some xs) (va : VR K ρ H a x) : ∃ p vs, x = .ref p ∧ SqT K H p vs ∧ VRs K ρ H xs vs := by
  cases a with
  | tup ys => simp only [getS, Option.some.injEq] at e; subst e; simp only [VR] at va; obtain ⟨p, vs, e1, q, w⟩ := va; exact ⟨p, vs, e1, SqT.of q, w⟩
  | ztup ys => simp only [getS, Option.some.injEq] at e; subst e; simp only [VR] at va; obtain ⟨p, o, vs, e1, q, _, w⟩ := va; exact ⟨p, vs, e1, .inl (.inr ⟨o, q⟩), w⟩
  | ktup ys => simp only [getS, Option.some.injEq] at e; subst e; simp only [VR] at va; obtain ⟨p, vs, e1, q, w⟩ := va; exact ⟨p, vs, e1, q, w⟩
  | _ => simp [isTup] at h
theorem catz_ok {K : PySem.W.Frag} {ρ : Rho} {H : Hp} {S : Sto} {E : XK} {a b : D} {x y : V} {Q : V → Hp → Prop} (r : Rel T K ρ S H) (va : VR K ρ H a x) (vb : VR K ρ H b y) (h : RG T K (VD K) ρ H (sBin .addz S a b) Q E) : rCatZ K x y H Q := by
  unfold sBin at h
  simp only at h
  split at h
  · rename_i xs ys e1 e2
    split at h
    · rename_i c
      obtain ⟨hl, ha, hb, hy, hx⟩ := c
      obtain ⟨p, vs, rfl, t1, w1⟩ := getT_ok ha e1 va
      obtain ⟨p2, vs2, rfl, t2, w2⟩ := getT_ok hb e2 vb
      have l1 := w1.length
      have l2 := w2.length
      refine ⟨p, p2, vs, vs2, rfl, rfl, t1, t2, ?_, ?_, by rw [← l1, ← l2]; exact lim_line hl, fun q o hq hd => ?_⟩
      · intro e; subst e; exact hx (List.length_eq_zero_iff.mp l1)
      · intro e; subst e; exact hy (List.length_eq_zero_iff.mp l2)
      · refine h ρ _ (.ref q) (Ext.upd hq) (r.new hq) ?_
        show VR K ρ _ _ _
        simp only [VR]
        exact ⟨q, o, _, rfl, upd_same, hd, VRs.mono (Ext.upd hq) _ _ (w1.append w2)⟩
    · exact h.elim
  · exact h.elim
theorem me_op2 {a b : Expr} {ca cb c : C} {r : R2} {op : Operator} {f : D → D → Ev → Sto → R D} {pos : Pos} (ho : OpR X (binaryOp op) r) (ha : PE X a (tE T X.K cl gv W ca)) (hb : PE X b (tE T X.K cl gv W cb))
    (e : ∀ env S, evE cl gv c env S = (evE cl gv ca env S).bind fun x S => (evE cl gv cb env S).bind fun y S => f x y env S)
    (q : ∀ σ ρ H S env x y dx dy Q, Rel T X.K ρ S H → EvR X.K ρ H env σ → VR X.K ρ H dx x → VR X.K ρ H dy y → RG T X.K (VD X.K) ρ H (f dx dy env S) Q (WE W σ) → r x y H Q) : PE X (.BinOp a op b pos) (tE T X.K cl gv W c) :=
  PE_imp (pe_op ho (PE_imp ha fun σ H Q h => h) hb) fun σ H Q h => by
    have h1 := tG_bind (V := VD X.K) (f := fun x env S => (evE cl gv cb env S).bind fun y S => f x y env S) e h
    obtain ⟨ρ, S, env, r1, ee, g⟩ := h1
    refine ⟨ρ, S, env, r1, ee, g.imp fun x H1 q1 => ?_⟩
    obtain ⟨ρ2, S2, env2, r2, ee2, g2⟩ := Aft_next (V' := VD X.K) VD_mono (fun _ _ _ => rfl) q1
    exact ⟨ρ2, S2, env2, r2, ee2, g2.imp fun y H2 ⟨ρ3, S3, env3, dx, dy, r3, ee3, v1, v2, g3⟩ => q σ ρ3 H2 S3 env3 x y dx dy Q r3 ee3 v1 v2 g3⟩
section
variable {a b : Expr} {ca cb : C} {pos : Pos}
theorem me_add (ha : PE X a (tE T X.K cl gv W ca)) (hb : PE X b (tE T X.K cl gv W cb)) : PE X (.BinOp a .Add b pos) (tE T X.K cl gv W (.bin .add ca cb)) :=
  me_op2 op_rAdd ha hb (fun _ _ => by simp only [evE]) fun _ _ _ _ _ _ _ _ _ _ r _ va vb g => add_ok r va vb g
theorem me_addz (ha : PE X a (tE T X.K cl gv W ca)) (hb : PE X b (tE T X.K cl gv W cb)) : PE X (.BinOp a .Add b pos) (tE T X.K cl gv W (.bin .addz ca cb)) :=
  me_op2 op_catZ ha hb (fun _ _ => by simp only [evE]) fun _ _ _ _ _ _ _ _ _ _ r _ va vb g => catz_ok r va vb g
theorem me_sub (ha : PE X a (tE T X.K cl gv W ca)) (hb : PE X b (tE T X.K cl gv W cb)) : PE X (.BinOp a .Sub b pos) (tE T X.K cl gv W (.bin .sub ca cb)) :=
  me_op2 op_sub ha hb (fun _ _ => by simp only [evE]) fun _ _ _ _ _ _ _ _ _ _ r _ va vb g => sub_ok r va vb g
theorem me_mul (ha : PE X a (tE T X.K cl gv W ca)) (hb : PE X b (tE T X.K cl gv W cb)) : PE X (.BinOp a .Mult b pos) (tE T X.K cl gv W (.bin .mul ca cb)) :=
  me_op2 op_rMul ha hb (fun _ _ => by simp only [evE]) fun _ _ _ _ _ _ _ _ _ _ r _ va vb g => mul_ok r va vb g
theorem me_fdiv (ha : PE X a (tE T X.K cl gv W ca)) (hb : PE X b (tE T X.K cl gv W cb)) : PE X (.BinOp a .FloorDiv b pos) (tE T X.K cl gv W (.bin .fdiv ca cb)) :=
  me_op2 op_fdiv ha hb (fun _ _ => by simp only [evE]) fun _ _ _ _ _ _ _ _ _ _ r _ va vb g => fdiv_ok r va vb g
theorem me_mod (ha : PE X a (tE T X.K cl gv W ca)) (hb : PE X b (tE T X.K cl gv W cb)) : PE X (.BinOp a .Mod b pos) (tE T X.K cl gv W (.bin .mod ca cb)) :=
  me_op2 op_mod ha hb (fun _ _ => by simp only [evE]) fun _ _ _ _ _ _ _ _ _ _ r _ va vb g => mod_ok r va vb g
theorem me_pow (ha : PE X a (tE T X.K cl gv W ca)) (hb : PE X b (tE T X.K cl gv W cb)) : PE X (.BinOp a .Pow b pos) (tE T X.K cl gv W (.bin .pow ca cb)) :=
  me_op2 op_pow ha hb (fun _ _ => by simp only [evE]) fun _ _ _ _ _ _ _ _ _ _ r _ va vb g => pow_ok r va vb g
end
end
end Mini

namespace Mini
open PySem L2

section
variable {T : Tb} {X : Cx} {cl : Orc} {gv : Gv} {W : WX}
theorem PE_or {e : Expr} {t t' : TE} (h : PE X e t) (h' : PE X e t') : PE X e (fun σ H Q => t σ H Q ∨ t' σ H Q) := ⟨fun pins s σ H Q I q => by
  rcases q with q | q
  · exact h.run pins s σ H Q I q
  · exact h'.run pins s σ H Q I q⟩
theorem RG_opt {K : PySem.W.Frag} {α β : Type} {V : Rho → Hp → α → β → Prop} {ρ : Rho} {H : Hp} {o : Option α} {S : Sto} {Q : β → Hp → Prop} {E : XK} (h : RG T K V ρ H (R.opt o S) Q E) : ∃ a, o = some a ∧ RG T K V ρ H (.ok a S) Q E := by
  cases o with
  | none => exact h.elim
  | some a => exact ⟨a, rfl, h⟩
theorem RG_optbind {K : PySem.W.Frag} {α γ β : Type} {V : Rho → Hp → α → β → Prop} {ρ : Rho} {H : Hp} {o : Option γ} {S : Sto} {f : γ → Sto → R α} {Q : β → Hp → Prop} {E : XK} (h : RG T K V ρ H ((R.opt o S).bind f) Q E) : ∃ a, o = some a ∧ RG T K V ρ H (f a S) Q E := by
  cases o with
  | none => exact h.elim
  | some a => exact ⟨a, rfl, h⟩

/-! ### one operand -/
theorem tE_un {ca c : C} {f : D → Ev → Sto → R D} {σ : St} {H : Hp} {Q : VK} (e : ∀ env S, evE cl gv c env S = (evE cl gv ca env S).bind fun x S => f x env S) (h : tE T X.K cl gv W c σ H Q) {q : V → Hp → Prop}
    (k : ∀ ρ S env d x H1, Rel T X.K ρ S H1 → EvR X.K ρ H1 env σ → VR X.K ρ H1 d x → RG T X.K (VD X.K) ρ H1 (f d env S) Q (WE W σ) → q x H1) : tE T X.K cl gv W ca σ H q := by
  obtain ⟨ρ, S, env, r, ee, g⟩ := tG_bind (V := VD X.K) e h
  exact ⟨ρ, S, env, r, ee, g.imp fun x H1 ⟨ρ1, S1, env1, d, r1, ee1, v, g1⟩ => k ρ1 S1 env1 d x H1 r1 ee1 v g1⟩
theorem tE_bin {ca cb c : C} {f : D → D → Ev → Sto → R D} {σ : St} {H : Hp} {Q : VK} (e : ∀ env S, evE cl gv c env S = (evE cl gv ca env S).bind fun x S => (evE cl gv cb env S).bind fun y S => f x y env S) (h : tE T X.K cl gv W c σ H Q) {q : V → V → Hp → Prop}
    (k : ∀ ρ S env d d' x y H1, Rel T X.K ρ S H1 → EvR X.K ρ H1 env σ → VR X.K ρ H1 d x → VR X.K ρ H1 d' y → RG T X.K (VD X.K) ρ H1 (f d d' env S) Q (WE W σ) → q x y H1) :
    tE T X.K cl gv W ca σ H fun x H1 => tE T X.K cl gv W cb σ H1 (q x) := by
  obtain ⟨ρ, S, env, r, ee, g⟩ := tG_bind (V := VD X.K) (f := fun x env S => (evE cl gv cb env S).bind fun y S => f x y env S) e h
  refine ⟨ρ, S, env, r, ee, g.imp fun x H1 q1 => ?_⟩
  obtain ⟨ρ2, S2, env2, r2, ee2, g2⟩ := Aft_next (V' := VD X.K) VD_mono (fun _ _ _ => rfl) q1
  exact ⟨ρ2, S2, env2, r2, ee2, g2.imp fun y H2 ⟨ρ3, S3, env3, dx, dy, r3, ee3, v1, v2, g3⟩ => k ρ3 S3 env3 dx dy x y H2 r3 ee3 v1 v2 g3⟩

section
variable {a b c o : Expr} {ca cb cc : C} {pos : Pos}
theorem me_neg (ha : PE X a (tE T X.K cl gv W ca)) : PE X (.UnaryOp .USub a pos) (tE T X.K cl gv W (.neg ca)) :=
  PE_imp (pe_un un_neg ha) fun σ H Q h => tE_un (f := fun x env S => match x with | .int i => .ok (.int (-i)) S | _ => .stuck) (fun _ _ => by simp only [evE] <;> rfl) h fun ρ S env d x H1 r ee v g => by
    split at g
    · rename_i i
      simp only [VR] at v
      exact ⟨i, v, g.now r (by simp only [VR])⟩
    · exact g.elim
theorem me_not (ha : PE X a (tE T X.K cl gv W ca)) : PE X (.UnaryOp .Not a pos) (tE T X.K cl gv W (.not ca)) :=
  PE_imp (pe_notT ha) fun σ H Q h => tE_un (f := fun x env S => (R.opt (truth S x) S).bind fun k S => .ok (.bl (!k)) S) (fun _ _ => by simp only [evE]) h fun ρ S env d x H1 r ee v g => by
    obtain ⟨k, e, g⟩ := RG_optbind g
    exact ⟨k, truth_ok e r v, g.now r (by simp only [VR])⟩
theorem me_cmp {op : COp} (hu : X.A.units + 65 < cLine) (ha : PE X a (tE T X.K cl gv W ca)) (hb : PE X b (tE T X.K cl gv W cb)) (hm : behindInMarks (cop op) b = false := by first | exact nobehind _ (by decide) (by decide) | with_unfolding_all rfl) :
    PE X (.Compare a [cop op] [b] pos) (tE T X.K cl gv W (.cmp op ca cb)) :=
  PE_imp (pe_cmpR (op_rCmp hu op) ha hb hm) fun σ H Q h => tE_bin (f := fun x y env S => (R.opt (sCmp op S x y) S).bind fun k S => .ok (.bl k) S) (fun _ _ => by simp only [evE]) h fun ρ S env d d' x y H1 r ee v v' g => by
    obtain ⟨k, e, g⟩ := RG_optbind g
    exact cmp_ok e r v v' (g.now r (by simp only [VR]))
theorem me_idx (hu : X.A.units + 1 < cLine) (hs : PlainIx b) (ha : PE X a (tE T X.K cl gv W ca)) (hb : PE X b (tE T X.K cl gv W cb)) : PE X (.Subscript a b pos) (tE T X.K cl gv W (.idx ca cb)) :=
  PE_imp (pe_ix (ix_all hu) ha hb hs) fun σ H Q h => tE_bin (f := fun x y env S => R.opt (sIdx S x y) S) (fun _ _ => by simp only [evE]) h fun ρ S env d d' x y H1 r ee v v' g => by
    obtain ⟨z, e, g⟩ := RG_opt g
    exact idx_ok e r v v' fun w hw => g.now r hw
theorem me_ite {t : Expr} {ct : C} (ht : PT X t (tC T X.K cl gv W (.some ct))) (ha : PE X a (tE T X.K cl gv W ca)) (hb : PE X b (tE T X.K cl gv W cb)) : PE X (.IfExp t a b pos) (tE T X.K cl gv W (.ite ct ca cb)) :=
  PE_imp (pe_ifExp ht ha hb) fun σ H Q h => by
    have e : ∀ env S, evE cl gv (.ite ct ca cb) env S = (evC cl gv (.some ct) env S).bind fun k S => if k = true then evE cl gv ca env S else evE cl gv cb env S := fun env S => by
      simp only [evE, evC]
      cases evE cl gv ct env S with
      | ok d S1 =>
        simp only [R.bind_ok]
      | exc => rfl
      | stuck => rfl
    obtain ⟨ρ, S, env, r, ee, g⟩ := tG_bind (V := VEq Bool) (f := fun k env S => if k = true then evE cl gv ca env S else evE cl gv cb env S) e h
    refine ⟨ρ, S, env, r, ee, g.imp fun x H1 ⟨ρ1, S1, env1, k, r1, ee1, v, g1⟩ => ?_⟩
    cases (show k = x from v)
    dsimp only at g1
    split
    · rename_i hk; rw [if_pos hk] at g1; exact ⟨ρ1, S1, env1, r1, ee1, g1⟩
    · rename_i hk; rw [if_neg hk] at g1; exact ⟨ρ1, S1, env1, r1, ee1, g1⟩
end

/-! ### argument lists, displays -/
theorem ma_nil : PA X [] (tEs T X.K cl gv W .nil) := PA_imp pa_nil fun σ H Q ⟨ρ, S, env, r, ee, g⟩ => by
  simp only [evEs] at g
  exact g.now r VRs.nil
theorem ma_cons {e : Expr} {es : List Expr} {c : C} {cs : Cs} (ha : PE X e (tE T X.K cl gv W c)) (hr : PA X es (tEs T X.K cl gv W cs)) (hs : starEach (e :: es) X.env = (false, eval e X.env) :: starEach es X.env := by rfl) : PA X (e :: es) (tEs T X.K cl gv W (.cons c cs)) :=
  PA_imp (pa_cons ha hr hs) fun σ H Q h => by
    obtain ⟨ρ, S, env, r, ee, g⟩ := tG_bind (V := VD X.K) (ev := evE cl gv c) (f := fun x env S => (evEs cl gv cs env S).bind fun xs S => .ok (x :: xs) S) (fun env S => by simp only [evEs]) h
    refine ⟨ρ, S, env, r, ee, g.imp fun x H1 q1 => ?_⟩
    obtain ⟨ρ2, S2, env2, r2, ee2, g2⟩ := Aft_next (V' := VDs X.K) VD_mono (fun _ _ _ => rfl) q1
    exact ⟨ρ2, S2, env2, r2, ee2, g2.imp fun y H2 ⟨ρ3, S3, env3, dx, dy, r3, ee3, v1, v2, g3⟩ => g3.now r3 (VRs.cons v1 v2)⟩
theorem tE_args {cs : Cs} {c : C} {f : List D → Ev → Sto → R D} {σ : St} {H : Hp} {Q : VK} (e : ∀ env S, evE cl gv c env S = (evEs cl gv cs env S).bind fun x S => f x env S) (h : tE T X.K cl gv W c σ H Q) {q : List V → Hp → Prop}
    (k : ∀ ρ S env d x H1, Rel T X.K ρ S H1 → EvR X.K ρ H1 env σ → VRs X.K ρ H1 d x → RG T X.K (VD X.K) ρ H1 (f d env S) Q (WE W σ) → q x H1) : tEs T X.K cl gv W cs σ H q := by
  obtain ⟨ρ, S, env, r, ee, g⟩ := tG_bind (V := VDs X.K) e h
  exact ⟨ρ, S, env, r, ee, g.imp fun x H1 ⟨ρ1, S1, env1, d, r1, ee1, v, g1⟩ => k ρ1 S1 env1 d x H1 r1 ee1 v g1⟩
section
variable {es : List Expr} {cs : Cs} {pos : Pos}
theorem me_tup {k} (h : PA X es (tEs T X.K cl gv W cs)) : PE X (.Tuple es k pos) (tE T X.K cl gv W (.tup false cs)) :=
  PE_imp (pe_tup h) fun σ H Q hq => tE_args (f := fun ds env S => if ds.length ≤ LIM then .ok (mkTup false ds) S else .stuck) (fun _ _ => by simp only [evE]) hq fun ρ S env d x H1 r ee v g => by
    split at g
    · rename_i hl
      exact ⟨by rw [← v.length]; exact lim_line hl, fun p hp => new_tup g r v hp⟩
    · exact g.elim
theorem me_tupz {k} (h : PA X es (tEs T X.K cl gv W cs)) : PE X (.Tuple es k pos) (tE T X.K cl gv W (.tup true cs)) :=
  PE_imp (pe_tupZ h) fun σ H Q hq => tE_args (f := fun ds env S => if ds.length ≤ LIM then .ok (mkTup true ds) S else .stuck) (fun _ _ => by simp only [evE]) hq fun ρ S env d x H1 r ee v g => by
    split at g
    · rename_i hl
      refine ⟨by rw [← v.length]; exact lim_line hl, fun p o hp hd => ?_⟩
      refine g ρ _ (.ref p) (Ext.upd hp) (r.new hp) ?_
      show VR X.K ρ _ _ _
      simp only [mkTup, if_true, VR]
      exact ⟨p, o, x, rfl, upd_same, hd, VRs.mono (Ext.upd hp) _ _ v⟩
    · exact g.elim
theorem me_lst {m : Bool} (h : PA X es (tEs T X.K cl gv W cs)) : PE X (.List es pos) (tE T X.K cl gv W (.lst m cs)) :=
  PE_imp (pe_lst h) fun σ H Q hq => tE_args (f := fun ds env S => newL m ds S) (fun _ _ => by simp only [evE]) hq fun ρ S env d x H1 r ee v g => by
    obtain ⟨hl, q⟩ := new_lst g r v
    exact ⟨lim_line hl, q⟩
theorem me_dct0 {m : Bool} : PE X (.Dict [] [] pos) (tE T X.K cl gv W (.dct m false .nil)) :=
  PE_imp pe_dnewK fun σ H Q ⟨ρ, S, env, r, ee, g⟩ => by
    simp only [evE, evEs, R.bind_ok, pairUp, List.foldl] at g
    obtain ⟨_, q⟩ := new_dct (o := .dK []) (vs := []) g r VRs.nil (by unfold DcR; rw [if_neg (by simp)]; exact ⟨[], rfl, rfl⟩)
    exact q
theorem me_dct0T {m : Bool} : PE X (.Dict [] [] pos) (tE T X.K cl gv W (.dct m true .nil)) :=
  PE_imp pe_dnewT fun σ H Q ⟨ρ, S, env, r, ee, g⟩ => by
    simp only [evE, evEs, R.bind_ok, pairUp, List.foldl] at g
    obtain ⟨_, q⟩ := new_dct (o := .dT []) (vs := []) g r VRs.nil (by unfold DcR; rw [if_pos rfl]; rfl)
    exact q
end

/-! ### slices -/
theorem mo_none : PO X none (tO T X.K cl gv W .none) := PO_imp po_none fun σ H Q ⟨ρ, S, env, r, ee, g⟩ => by
  simp only [evO] at g
  exact g.now r rfl
theorem mo_some {e : Expr} {c : C} (h : PE X e (tE T X.K cl gv W c)) : PO X (some e) (tO T X.K cl gv W (.some c)) := PO_imp (po_some h) fun σ H Q hq => by
  obtain ⟨ρ, S, env, r, ee, g⟩ := tG_bind (V := VD X.K) (ev := evE cl gv c) (f := fun x env S => match x with | .int i => .ok (some i) S | _ => .stuck) (fun env S => by simp only [evO] <;> rfl) hq
  refine ⟨ρ, S, env, r, ee, g.imp fun x H1 ⟨ρ1, S1, env1, d, r1, ee1, v, g1⟩ => ?_⟩
  dsimp only at g1
  split at g1
  · rename_i i
    simp only [VR] at v
    exact ⟨i, v, g1.now r1 rfl⟩
  · exact g1.elim
theorem me_slc {a : Expr} {lo hi : Option Expr} {ca : C} {cl' ch : Co} {pos p2 : Pos} (ha : PE X a (tE T X.K cl gv W ca)) (hl : PO X lo (tO T X.K cl gv W cl')) (hh : PO X hi (tO T X.K cl gv W ch)) :
    PE X (.Subscript a (.Slice lo hi none p2) pos) (tE T X.K cl gv W (.slc ca cl' ch)) := PE_imp (pe_slice sl_rSlc ha hl hh) fun σ H Q hq => by
  obtain ⟨ρ, S, env, r, ee, g⟩ := tG_bind (V := VD X.K) (ev := evE cl gv ca) (f := fun x env S => (evO cl gv cl' env S).bind fun l S => (evO cl gv ch env S).bind fun h S => sSlc S x l h) (fun env S => by simp only [evE]) hq
  refine ⟨ρ, S, env, r, ee, g.imp fun x H1 q1 => ?_⟩
  obtain ⟨ρ2, S2, env2, r2, ee2, g2⟩ := Aft_next (V' := VEq (Option Int)) (ev := evO cl gv cl') (f2 := fun x l env S => (evO cl gv ch env S).bind fun h S => sSlc S x l h) VD_mono (fun _ _ _ => rfl) q1
  refine ⟨ρ2, S2, env2, r2, ee2, g2.imp fun l H2 ⟨ρ3, S3, env3, dx, l', r3, ee3, v1, v2, g3⟩ => ?_⟩
  cases (show l' = l from v2)
  refine ⟨ρ3, S3, env3, r3, ee3, g3.bind.imp fun h H3 ⟨ρ4, S4, h', x4, r4, v4, g4⟩ => ?_⟩
  cases (show h' = h from v4)
  exact slc_ok r4 (VR.mono x4 _ _ v1) g4
theorem me_rev {m : Bool} {a : Expr} {ca : C} {k : Nat} {p1 p2 p3 pos : Pos} (ha : PE X a (tE T X.K cl gv W ca)) : PE X (.Subscript a (.Slice none none (some (.UnaryOp .USub (.Constant (.int 1) k p1) p2)) p3) pos) (tE T X.K cl gv W (.rev m ca)) :=
  PE_imp (PE_or (pe_revT ha) (pe_revL ha)) fun σ H Q h => by
    have key : tE T X.K cl gv W ca σ H (fun x H1 => ∃ ρ S d, Rel T X.K ρ S H1 ∧ VR X.K ρ H1 d x ∧ RG T X.K (VD X.K) ρ H1 (sRev m S d) Q (WE W σ)) := tE_un (f := fun x env S => sRev m S x) (fun _ _ => by simp only [evE]) h fun ρ S env d x H1 r ee v g => ⟨ρ, S, d, r, v, g⟩
    obtain ⟨ρ, S, env, r, ee, g⟩ := h
    simp only [evE] at g
    cases he : evE cl gv ca env S with
    | stuck => rw [he] at g; exact g.elim
    | exc c S1 => rw [he] at g; exact .inl ⟨ρ, S, env, r, ee, by rw [he]; exact g⟩
    | ok d S1 =>
      rw [he] at g
      simp only [R.bind_ok, sRev] at g
      cases ht : isTup d with
      | true =>
        rw [ht, if_pos rfl] at g
        refine .inl ⟨ρ, S, env, r, ee, ?_⟩
        rw [he]
        intro ρ' H' b x r' v
        split at g
        · rename_i xs e
          obtain ⟨p, vs, rfl, q1, w1⟩ := getT_ok ht e v
          exact ⟨p, vs, rfl, q1, fun l hl => new_tup (g.weak x) r' w1.reverse hl⟩
        · exact g.elim
      | false =>
        rw [ht, if_neg (by simp)] at g
        refine .inr ⟨ρ, S, env, r, ee, ?_⟩
        rw [he]
        intro ρ' H' b x r' v
        split at g
        · rename_i xs e
          obtain ⟨p, vs, rfl, q1, w1⟩ := getL_ok e r' v
          exact ⟨p, vs, rfl, SqL.of q1, fun l hl => (new_lst (g.weak x) r' w1.reverse).2 l hl⟩
        · exact g.elim
end
end Mini

namespace Mini
open PySem L2

section
variable {T : Tb} {X : Cx} {cl : Orc} {gv : Gv} {W : WX}
theorem evC_some (c : C) (env : Ev) (S : Sto) : evC cl gv (.some c) env S = (evE cl gv c env S).bind fun x S => R.opt (truth S x) S := by simp only [evC]
theorem bindA {α β γ : Type} (r : R α) (f : α → Sto → R β) (g : β → Sto → R γ) : (r.bind f).bind g = r.bind fun a S => (f a S).bind g := by
  cases r <;> rfl
theorem mt_val {a : Expr} {ca : C} (ha : PE X a (tE T X.K cl gv W ca)) (he : ∀ whole, isTrue a X.env whole = (do let v ← whole; standAt a.pos; holding [v] (truthy v)) := by intro _; rfl) : PT X a (tC T X.K cl gv W (.some ca)) :=
  PT_imp (pt_truth ha he) fun σ H Q h => by
    obtain ⟨ρ, S, env, r, ee, g⟩ := tG_bind (V := VD X.K) (ev := evE cl gv ca) (f := fun x env S => R.opt (truth S x) S) (fun env S => evC_some ..) h
    refine ⟨ρ, S, env, r, ee, g.imp fun x H1 ⟨ρ1, S1, env1, d, r1, ee1, v, g1⟩ => ?_⟩
    obtain ⟨k, e, g2⟩ := RG_opt g1
    exact ⟨k, truth_ok e r1 v, g2.now r1 rfl⟩
theorem truth_bl (k : Bool) (S : Sto) : truth S (.bl k) = some k := by simp [truth]
section
variable {a b c : Expr} {ca cb cc : C} {pos : Pos}
theorem mt_cmp {op : COp} (hu : X.A.units + 65 < cLine) (ha : PE X a (tE T X.K cl gv W ca)) (hb : PE X b (tE T X.K cl gv W cb)) (hm : behindInMarks (cop op) b = false := by first | exact nobehind _ (by decide) (by decide) | with_unfolding_all rfl) :
    PT X (.Compare a [cop op] [b] pos) (tC T X.K cl gv W (.some (.cmp op ca cb))) :=
  PT_imp (pt_cmpR (op_rCmp hu op) ha hb hm) fun σ H Q h => by
    have e : ∀ env S, evC cl gv (.some (.cmp op ca cb)) env S = (evE cl gv ca env S).bind fun x S => (evE cl gv cb env S).bind fun y S => R.opt (sCmp op S x y) S := fun env S => by
      rw [evC_some]
      simp only [evE, bindA]
      congr 1; funext x S; congr 1; funext y S
      cases sCmp op S x y with
      | none => rfl
      | some k => simp [truth]
    obtain ⟨ρ, S, env, r, ee, g⟩ := tG_bind (V := VD X.K) (ev := evE cl gv ca) (f := fun x env S => (evE cl gv cb env S).bind fun y S => R.opt (sCmp op S x y) S) e h
    refine ⟨ρ, S, env, r, ee, g.imp fun x H1 q1 => ?_⟩
    obtain ⟨ρ2, S2, env2, r2, ee2, g2⟩ := Aft_next (V' := VD X.K) (ev := evE cl gv cb) (f2 := fun x y env S => R.opt (sCmp op S x y) S) VD_mono (fun _ _ _ => rfl) q1
    refine ⟨ρ2, S2, env2, r2, ee2, g2.imp fun y H2 ⟨ρ3, S3, env3, dx, dy, r3, ee3, v1, v2, g3⟩ => ?_⟩
    obtain ⟨k, e, g4⟩ := RG_opt g3
    exact cmp_ok e r3 v1 v2 ⟨k, rfl, g4.now r3 rfl⟩
theorem mt_chain {op op' : COp} (hu : X.A.units + 65 < cLine) (ha : PE X a (tE T X.K cl gv W ca)) (hb : PE X b (tE T X.K cl gv W cb)) (hc : PE X c (tE T X.K cl gv W cc)) (hm : lastMarks [cop op, cop op'] [b, c] = false := by with_unfolding_all rfl) :
    PT X (.Compare a [cop op, cop op'] [b, c] pos) (tC T X.K cl gv W (.some (.chain op op' ca cb cc))) :=
  PT_imp (pt_chain (op_rCmp hu op) (op_rCmp hu op') ha hb hc hm) fun σ H Q h => by
    have e : ∀ env S, evC cl gv (.some (.chain op op' ca cb cc)) env S = (evE cl gv ca env S).bind fun x S => (evE cl gv cb env S).bind fun y S => (R.opt (sCmp op S x y) S).bind fun k S =>
        if k = true then (evE cl gv cc env S).bind fun z S => R.opt (sCmp op' S y z) S else .ok false S := fun env S => by
      rw [evC_some]
      simp only [evE, bindA]
      congr 1; funext x S; congr 1; funext y S
      cases sCmp op S x y with
      | none => rfl
      | some k =>
        cases k with
        | false => simp [truth]
        | true =>
          simp only [R.opt_some, R.bind_ok, if_true, bindA]
          congr 1; funext z S
          cases sCmp op' S y z with
          | none => rfl
          | some k => simp [truth]
    obtain ⟨ρ, S, env, r, ee, g⟩ := tG_bind (V := VD X.K) (ev := evE cl gv ca) e h
    refine ⟨ρ, S, env, r, ee, g.imp fun x H1 q1 => ?_⟩
    obtain ⟨ρ2, S2, env2, r2, ee2, g2⟩ := Aft_next (V' := VD X.K) (ev := evE cl gv cb) VD_mono (fun _ _ _ => rfl) q1
    refine ⟨ρ2, S2, env2, r2, ee2, g2.imp fun y H2 ⟨ρ3, S3, env3, dx, dy, r3, ee3, v1, v2, g3⟩ => ?_⟩
    obtain ⟨k, e, g4⟩ := RG_optbind g3
    refine cmp_ok e r3 v1 v2 ⟨k, rfl, ?_⟩
    split
    · rename_i hk
      rw [if_pos hk] at g4
      refine ⟨ρ3, S3, env3, r3, ee3, g4.bind.imp fun z H3 ⟨ρ5, S5, d5, x5, r5, v5, g5⟩ => ?_⟩
      obtain ⟨k', e', g6⟩ := RG_opt g5
      exact cmp_ok e' r5 (VR.mono x5 _ _ v2) v5 ⟨k', rfl, g6.now r5 rfl⟩
    · rename_i hk
      rw [if_neg hk] at g4
      exact ⟨false, rfl, g4.now r3 rfl⟩
theorem mt_not (ha : PT X a (tC T X.K cl gv W (.some ca))) : PT X (.UnaryOp .Not a pos) (tC T X.K cl gv W (.some (.not ca))) :=
  PT_imp (pt_not ha) fun σ H Q h => by
    have e : ∀ env S, evC cl gv (.some (.not ca)) env S = (evC cl gv (.some ca) env S).bind fun k S => .ok (!k) S := fun env S => by
      rw [evC_some, evC_some]
      simp only [evE, bindA]
      congr 1
    obtain ⟨ρ, S, env, r, ee, g⟩ := tG_bind (V := VEq Bool) (ev := evC cl gv (.some ca)) (f := fun k env S => .ok (!k) S) e h
    exact ⟨ρ, S, env, r, ee, g.imp fun x H1 ⟨ρ1, S1, env1, k, r1, ee1, v, g1⟩ => by
      cases (show k = x from v)
      exact g1.now r1 rfl⟩

/-! ### and, or -/
theorem evB_one (c : C) (k : Bool) (env : Ev) (S : Sto) : evE cl gv (.bool k (.cons c .nil)) env S = evE cl gv c env S := by simp only [evE, evB]
theorem evB_cons (c d : C) (ds : Cs) (k : Bool) (env : Ev) (S : Sto) : evE cl gv (.bool k (.cons c (.cons d ds))) env S = (evE cl gv c env S).bind fun x S => (R.opt (truth S x) S).bind fun k' S => if k' = k then evE cl gv (.bool k (.cons d ds)) env S else .ok x S := by
  simp only [evE, evB]
theorem evB_test (c d : C) (ds : Cs) (k : Bool) (env : Ev) (S : Sto) : evC cl gv (.some (.bool k (.cons c (.cons d ds)))) env S =
    (evC cl gv (.some c) env S).bind fun k' S => if k' = k then evC cl gv (.some (.bool k (.cons d ds))) env S else .ok (!k) S := by
  rw [evC_some, evB_cons, evC_some]
  simp only [bindA]
  congr 1; funext x S
  cases e : truth S x with
  | none => rfl
  | some k' =>
    simp only [R.opt_some, R.bind_ok]
    split
    · rw [evC_some]
    · rename_i hk
      simp only [R.bind_ok, e, R.opt_some]
      cases k' <;> cases k <;> simp_all
theorem me_bool1 {op : BoolOp} {k : Bool} (ha : PE X a (tE T X.K cl gv W ca)) : PE X (.BoolOp op [a] pos) (tE T X.K cl gv W (.bool k (.cons ca .nil))) :=
  PE_imp (pe_one ha) fun σ H Q ⟨ρ, S, env, r, ee, g⟩ => ⟨ρ, S, env, r, ee, by rw [evB_one] at g; exact g⟩
theorem boolT {k : Bool} {cd : C} {cs : Cs} {σ : St} {H : Hp} {Q : VK} (h : tE T X.K cl gv W (.bool k (.cons ca (.cons cd cs))) σ H Q) :
    tE T X.K cl gv W ca σ H fun x H1 => ∃ k', TruV X.K x H1 k' ∧ if k' = k then tE T X.K cl gv W (.bool k (.cons cd cs)) σ H1 Q else Q x H1 :=
  tE_un (f := fun x env S => (R.opt (truth S x) S).bind fun k' S => if k' = k then evE cl gv (.bool k (.cons cd cs)) env S else .ok x S) (fun _ _ => evB_cons ..) h fun ρ S env d x H1 r ee v g => by
    obtain ⟨k', e, g⟩ := RG_optbind g
    refine ⟨k', truth_ok e r v, ?_⟩
    split
    · rename_i hk; rw [if_pos hk] at g; exact ⟨ρ, S, env, r, ee, g⟩
    · rename_i hk; rw [if_neg hk] at g; exact g.now r v
theorem me_and {b : Expr} {rest : List Expr} {cd : C} {cs : Cs} (ha : PE X a (tE T X.K cl gv W ca)) (hb : PE X (.BoolOp .And (b :: rest) pos) (tE T X.K cl gv W (.bool true (.cons cd cs)))) :
    PE X (.BoolOp .And (a :: b :: rest) pos) (tE T X.K cl gv W (.bool true (.cons ca (.cons cd cs)))) := PE_imp (pe_andT ha hb) fun σ H Q h => boolT h
theorem me_or {b : Expr} {rest : List Expr} {cd : C} {cs : Cs} (ha : PE X a (tE T X.K cl gv W ca)) (hb : PE X (.BoolOp .Or (b :: rest) pos) (tE T X.K cl gv W (.bool false (.cons cd cs)))) :
    PE X (.BoolOp .Or (a :: b :: rest) pos) (tE T X.K cl gv W (.bool false (.cons ca (.cons cd cs)))) := PE_imp (pe_orT ha hb) fun σ H Q h => by
  obtain ⟨ρ, S, env, r, ee, g⟩ := boolT h
  exact ⟨ρ, S, env, r, ee, g.imp fun x H1 ⟨k', t, q⟩ => ⟨k', t, by cases k' <;> simp_all⟩⟩
theorem mw_and1 (ha : PT X a (tC T X.K cl gv W (.some ca))) : PW X (.BoolOp .And [a] pos) (tC T X.K cl gv W (.some (.bool true (.cons ca .nil)))) :=
  PW_imp (pw_and1 ha) fun σ H Q ⟨ρ, S, env, r, ee, g⟩ => ⟨ρ, S, env, r, ee, by rw [evC_some, evB_one] at g; rw [evC_some]; exact g⟩
theorem mw_or1 (ha : PT X a (tC T X.K cl gv W (.some ca))) : PW X (.BoolOp .Or [a] pos) (tC T X.K cl gv W (.some (.bool false (.cons ca .nil)))) :=
  PW_imp (pw_or1 ha) fun σ H Q ⟨ρ, S, env, r, ee, g⟩ => ⟨ρ, S, env, r, ee, by rw [evC_some, evB_one] at g; rw [evC_some]; exact g⟩
theorem boolW {k : Bool} {cd : C} {cs : Cs} {σ : St} {H : Hp} {Q : Bool → Hp → Prop} (h : tC T X.K cl gv W (.some (.bool k (.cons ca (.cons cd cs)))) σ H Q) :
    tC T X.K cl gv W (.some ca) σ H fun k' H1 => if k' = k then tC T X.K cl gv W (.some (.bool k (.cons cd cs))) σ H1 Q else Q (!k) H1 := by
  obtain ⟨ρ, S, env, r, ee, g⟩ := tG_bind (V := VEq Bool) (ev := evC cl gv (.some ca)) (f := fun k' env S => if k' = k then evC cl gv (.some (.bool k (.cons cd cs))) env S else .ok (!k) S) (fun _ _ => evB_test ..) h
  refine ⟨ρ, S, env, r, ee, g.imp fun x H1 ⟨ρ1, S1, env1, k', r1, ee1, v, g1⟩ => ?_⟩
  cases (show k' = x from v)
  dsimp only at g1
  split
  · rename_i hk; rw [if_pos hk] at g1; exact ⟨ρ1, S1, env1, r1, ee1, g1⟩
  · rename_i hk; rw [if_neg hk] at g1; exact g1.now r1 rfl
theorem mw_and {b : Expr} {rest : List Expr} {cd : C} {cs : Cs} (ha : PT X a (tC T X.K cl gv W (.some ca))) (hb : PW X (.BoolOp .And (b :: rest) pos) (tC T X.K cl gv W (.some (.bool true (.cons cd cs))))) :
    PW X (.BoolOp .And (a :: b :: rest) pos) (tC T X.K cl gv W (.some (.bool true (.cons ca (.cons cd cs))))) := PW_imp (pw_and ha hb) fun σ H Q h => boolW h
theorem mw_or {b : Expr} {rest : List Expr} {cd : C} {cs : Cs} (ha : PT X a (tC T X.K cl gv W (.some ca))) (hb : PW X (.BoolOp .Or (b :: rest) pos) (tC T X.K cl gv W (.some (.bool false (.cons cd cs))))) :
    PW X (.BoolOp .Or (a :: b :: rest) pos) (tC T X.K cl gv W (.some (.bool false (.cons ca (.cons cd cs))))) := PW_imp (pw_or ha hb) fun σ H Q h => by
  obtain ⟨ρ, S, env, r, ee, g⟩ := boolW h
  exact ⟨ρ, S, env, r, ee, g.imp fun x H1 q => by cases x <;> simp_all⟩
end

/-! ### comprehensions' tests -/
theorem mts_nil : PTs X [] (tC T X.K cl gv W .none) := ⟨fun pins s σ H Q I ⟨ρ, S, env, r, ee, g⟩ => pts_nil.run pins s σ H Q I (by simp only [evC] at g; exact g.now r rfl)⟩
theorem mts_one {c : Expr} {cc : C} (h : PT X c (tC T X.K cl gv W (.some cc))) : PTs X [c] (tC T X.K cl gv W (.some cc)) := pts_one h
end
end Mini

namespace Mini
open PySem L2

theorem boot_isi : bootBuiltins "isinstance" = some (.builtin "isinstance") := by decide +kernel
theorem boot_sumM : bootBuiltins "sum" = some (.builtin "sum") := by decide +kernel
theorem boot_maxM : bootBuiltins "max" = some (.builtin "max") := by decide +kernel
theorem boot_minM : bootBuiltins "min" = some (.builtin "min") := by decide +kernel
theorem boot_sortedM : bootBuiltins "sorted" = some (.builtin "sorted") := by decide +kernel
theorem boot_intM : bootBuiltins "int" = some (.type "int") := by decide +kernel
theorem boot_strM : bootBuiltins "str" = some (.type "str") := by decide +kernel
theorem boot_boolM : bootBuiltins "bool" = some (.type "bool") := by decide +kernel
theorem boot_tupleM : bootBuiltins "tuple" = some (.type "tuple") := by decide +kernel
theorem boot_dictM : bootBuiltins "dict" = some (.type "dict") := by decide +kernel
theorem boot_listM : bootBuiltins "list" = some (.type "list") := by decide +kernel
section
variable {T : Tb} {X : Cx} {cl : Orc} {gv : Gv} {W : WX}
theorem me_fB {e : Expr} {c : C} {f : F1} {x : Str} {id : String} {r : List V → Hp → VK → Prop} {p pos : Pos} (hc : CallR X (.builtin id) r) (hg : Gl X x) (hm : X.mg x = none) (hv : bootBuiltins x = some (.builtin id)) (ha : PE X e (tE T X.K cl gv W c))
    (q : ∀ σ ρ H S d v Q, Rel T X.K ρ S H → VR X.K ρ H d v → RG T X.K (VD X.K) ρ H (sF1 f S d) Q (WE W σ) → r [v] H Q) (hn : x ≠ "__name__" := by decide) (hdb : (x == ("__debug__" : Str)) = false := by decide)
    (he : starEach [e] X.env = (false, eval e X.env) :: starEach [] X.env := by rfl) (hpl : (backTo pos (starEach [] X.env)).any (·.1) = false := by rfl) : PE X (.Call (.Name x p) [e] [] pos) (tE T X.K cl gv W (.f1 f c)) :=
  PE_imp (pe_callB hc hg hm hv (pa_cons ha pa_nil he) hn hdb he hpl) fun σ H Q h => tE_un (f := fun x env S => sF1 f S x) (fun _ _ => by simp only [evE]) h fun ρ S env d x H1 r ee v g => q σ ρ H1 S d x Q r v g
theorem me_fT {e : Expr} {c : C} {f : F1} {x : Str} {id : String} {r : List V → Hp → VK → Prop} {p pos : Pos} (hc : CallR X (.type id) r) (hg : Gl X x) (hm : X.mg x = none) (hv : bootBuiltins x = some (.type id)) (ha : PE X e (tE T X.K cl gv W c))
    (q : ∀ σ ρ H S d v Q, Rel T X.K ρ S H → VR X.K ρ H d v → RG T X.K (VD X.K) ρ H (sF1 f S d) Q (WE W σ) → r [v] H Q) (hn : x ≠ "__name__" := by decide) (hdb : (x == ("__debug__" : Str)) = false := by decide)
    (he : starEach [e] X.env = (false, eval e X.env) :: starEach [] X.env := by rfl) (hpl : (backTo pos (starEach [] X.env)).any (·.1) = false := by rfl) : PE X (.Call (.Name x p) [e] [] pos) (tE T X.K cl gv W (.f1 f c)) :=
  PE_imp (pe_callTy hc hg hm hv (pa_cons ha pa_nil he) hn hdb he hpl) fun σ H Q h => tE_un (f := fun x env S => sF1 f S x) (fun _ _ => by simp only [evE]) h fun ρ S env d x H1 r ee v g => q σ ρ H1 S d x Q r v g
end

section
variable {T : Tb} {K : PySem.W.Frag} {ρ : Rho} {H : Hp} {S : Sto} {E : XK} {d : D} {v : V} {Q : VK}
theorem getD_len {t : Bool} {kvs : List (List Key × D)} (e : getD S d = some (t, kvs)) (r : Rel T K ρ S H) (hv : VR K ρ H d v) :
    ∃ p, v = .ref p ∧ ((∃ k : List (Key × V), Rd H p (.dK k) ∧ k.length = kvs.length) ∨ ∃ k : List (List Key × V), Rd H p (.dT k) ∧ k.length = kvs.length) := by
  obtain ⟨p, vs, rfl, q, w⟩ := getD_ok e r hv
  refine ⟨p, rfl, ?_⟩
  rcases dc_view q w with ⟨_, kws, h1, h2⟩ | ⟨_, kws, h1, h2⟩
  · exact .inr ⟨kws, h1, h2.length.symm⟩
  · exact .inl ⟨kws, h1, h2.length.symm⟩
theorem len_ok (r : Rel T K ρ S H) (hv : VR K ρ H d v) (g : RG T K (VD K) ρ H (sF1 .len S d) Q E) : rLen K [v] H Q := by
  unfold sF1 at g
  dsimp only at g
  split at g
  · rename_i z
    split at g
    · rename_i hl
      simp only [VR] at hv
      obtain ⟨rfl, _⟩ := hv
      exact .inl ⟨_, z.length, rfl, ⟨lim_line hl, rfl⟩, g.now r (by simp only [VR])⟩
    · exact g.elim
  · rename_i hns
    split at g
    · rename_i t kvs e
      obtain ⟨p, rfl, ⟨k, h1, h2⟩ | ⟨k, h1, h2⟩⟩ := getD_len e r hv
      · exact .inr (.inl ⟨p, k, rfl, h1, by rw [h2]; exact g.now r (by simp only [VR])⟩)
      · exact .inr (.inr ⟨p, k, rfl, h1, by rw [h2]; exact g.now r (by simp only [VR])⟩)
    · split at g
      · rename_i xs e
        obtain ⟨p, vs, rfl, q, w⟩ := getS_ok e r hv
        refine .inl ⟨.ref p, xs.length, rfl, ?_, g.now r (by simp only [VR])⟩
        rcases q with q | q
        · exact .inl ⟨vs, q, w.length⟩
        · exact .inr ⟨vs, q, w.length⟩
      · exact g.elim
theorem asInts : ∀ {xs : List D} {vs : List V} {ns : List Int}, xs.mapM asInt = some ns → VRs K ρ H xs vs → vs = ns.map V.int
  | [], vs, ns, e, w => by
    rw [mapM_nil] at e; cases e
    simp only [VRs] at w; subst w; rfl
  | x :: xs, vs, ns, e, w => by
    simp only [VRs] at w
    obtain ⟨v, r, rfl, h1, h2⟩ := w
    rw [mapM_cons] at e
    cases ex : asInt x with
    | none => rw [ex] at e; cases e
    | some i =>
      rw [ex] at e
      simp only [Option.bind_some] at e
      cases er : xs.mapM asInt with
      | none => rw [er] at e; cases e
      | some is =>
        rw [er] at e
        simp only [Option.bind_some, Option.some.injEq] at e
        subst e
        rw [asInts er h2]
        cases x <;> simp [asInt] at ex
        subst ex
        simp only [VR] at h1
        rw [h1]; rfl
theorem sum_ok (r : Rel T K ρ S H) (hv : VR K ρ H d v) (g : RG T K (VD K) ρ H (sF1 .sum S d) Q E) : rSum K [v] H Q := by
  unfold sF1 at g
  dsimp only at g
  split at g
  · rename_i xs e
    split at g
    · rename_i ns e2
      obtain ⟨p, vs, rfl, q, w⟩ := getL_ok e r hv
      have := asInts e2 w
      subst this
      exact ⟨p, ns, rfl, SqL.of q, g.now r (by simp only [VR])⟩
    · exact g.elim
  · exact g.elim
theorem max_unique {n m : Int} {ns : List Int} (hm : m ∈ n :: ns) (h : ∀ y, y ∈ n :: ns → y ≤ m) : ns.foldl max n = m := by
  have key : ∀ (l : List Int) (a : Int), a ≤ l.foldl max a ∧ (∀ y ∈ l, y ≤ l.foldl max a) ∧ (l.foldl max a = a ∨ l.foldl max a ∈ l) := by
    intro l
    induction l with
    | nil => intro a; exact ⟨Int.le_refl _, by simp, .inl rfl⟩
    | cons b l ih =>
      intro a
      obtain ⟨h1, h2, h3⟩ := ih (max a b)
      refine ⟨Int.le_trans (Int.le_max_left a b) h1, fun y hy => ?_, ?_⟩
      · rcases List.mem_cons.mp hy with rfl | hy
        · exact Int.le_trans (Int.le_max_right a y) h1
        · exact h2 y hy
      · rcases h3 with h3 | h3
        · rw [List.foldl_cons, h3]
          rcases Int.le_total a b with q | q
          · right; rw [Int.max_eq_right q]; exact List.mem_cons_self
          · left; exact Int.max_eq_left q
        · right; exact List.mem_cons_of_mem _ h3
  obtain ⟨h1, h2, h3⟩ := key ns n
  refine Int.le_antisymm (h _ ?_) ?_
  · rcases h3 with h3 | h3
    · rw [h3]; exact List.mem_cons_self
    · exact List.mem_cons_of_mem _ h3
  · rcases List.mem_cons.mp hm with rfl | hm
    · exact h1
    · exact h2 m hm
theorem max_ok (r : Rel T K ρ S H) (hv : VR K ρ H d v) (g : RG T K (VD K) ρ H (sF1 .max S d) Q E) : rMax K [v] H Q := by
  unfold sF1 at g
  dsimp only at g
  split at g
  · rename_i xs e
    split at g
    · rename_i n ns e2
      obtain ⟨p, vs, rfl, q, w⟩ := getL_ok e r hv
      have := asInts e2 w
      subst this
      exact ⟨p, n :: ns, rfl, SqL.of q, by simp, fun m h1 h2 => by rw [← max_unique h1 h2]; exact g.now r (by simp only [VR])⟩
    · exact g.elim
  · exact g.elim
theorem maxd_ok {k : Int} (r : Rel T K ρ S H) (hv : VR K ρ H d v) (g : RG T K (VD K) ρ H (sF1 (.maxd k) S d) Q E) : rMaxd K [v] [.int k] H Q := by
  unfold sF1 at g
  dsimp only at g
  split at g
  · rename_i xs e
    split at g
    · rename_i n ns e2
      obtain ⟨p, vs, rfl, q, w⟩ := getL_ok e r hv
      have := asInts e2 w
      subst this
      exact ⟨p, n :: ns, k, rfl, rfl, SqL.of q, fun z => by simp at z, fun m h1 h2 => by rw [← max_unique h1 h2]; exact g.now r (by simp only [VR])⟩
    · rename_i e2
      obtain ⟨p, vs, rfl, q, w⟩ := getL_ok e r hv
      have := asInts e2 w
      subst this
      exact ⟨p, [], k, rfl, rfl, SqL.of q, fun _ => g.now r (by simp only [VR]), fun m h1 => by simp at h1⟩
    · exact g.elim
  · exact g.elim
theorem int_ok (r : Rel T K ρ S H) (hv : VR K ρ H d v) (g : RG T K (VD K) ρ H (sF1 .int S d) Q E) : (∃ i, [v] = [.int i] ∧ Q (.int i) H) ∨ ∃ k, [v] = [.bl k] ∧ Q (.int (if k then 1 else 0)) H := by
  unfold sF1 at g
  dsimp only at g
  split at g
  · simp only [VR] at hv; subst hv; exact .inl ⟨_, rfl, g.now r (by simp only [VR])⟩
  · simp only [VR] at hv; subst hv; exact .inr ⟨_, rfl, g.now r (by simp only [VR])⟩
  · exact g.elim
theorem strOk_ofString (s : String) : PyData.strOk (Str.ofString s) = true := by
  unfold PyData.strOk
  rw [← Array.all_toList, PyProof.Rows.signs_ofString, List.all_eq_true]
  intro c hc
  obtain ⟨ch, _, rfl⟩ := List.mem_map.mp hc
  have := ch.valid
  simp only [decide_eq_true_eq]
  show ch.val.toNat < _
  rcases this with h | ⟨_, h⟩
  · exact Nat.lt_trans h (by decide)
  · exact h
theorem str_ok (r : Rel T K ρ S H) (hv : VR K ρ H d v) (g : RG T K (VD K) ρ H (sF1 .str S d) Q E) : ∃ i, [v] = [.int i] ∧ i.natAbs.log2 < 1920 ∧ Q (.str (toString i)) H := by
  unfold sF1 at g
  dsimp only at g
  split at g
  · rename_i i
    split at g
    · rename_i hl
      simp only [VR] at hv
      subst hv
      refine ⟨i, rfl, ?_, g.now r (by simp only [VR]; exact ⟨trivial, strOk_ofString _⟩)⟩
      have : i.natAbs < 2 ^ 64 := by unfold LOG at hl; omega
      rcases Nat.eq_zero_or_pos i.natAbs with z | z
      · rw [z]; decide
      · have := (Nat.log2_lt (Nat.pos_iff_ne_zero.mp z)).mpr this
        omega
    · exact g.elim
  · exact g.elim
theorem tuple_ok (r : Rel T K ρ S H) (hv : VR K ρ H d v) (g : RG T K (VD K) ρ H (sF1 (.tuple false) S d) Q E) :
    ∃ p ys, [v] = [.ref p] ∧ ((SqL K H p ys ∧ ∀ l, H l = none → Q (.ref l) (upd H l (.tup ys))) ∨ (SqT K H p ys ∧ Q (.ref p) H)) := by
  unfold sF1 at g
  dsimp only at g
  split at g
  · rename_i xs e
    split at g
    · obtain ⟨p, vs, rfl, q, w⟩ := getL_ok e r hv
      exact ⟨p, vs, rfl, .inl ⟨SqL.of q, fun l hl => new_tup g r w hl⟩⟩
    · exact g.elim
  · exact g.elim
theorem tuplez_ok (r : Rel T K ρ S H) (hv : VR K ρ H d v) (g : RG T K (VD K) ρ H (sF1 (.tuple true) S d) Q E) :
    ∃ p ys, [v] = [.ref p] ∧ SqL K H p ys ∧ rNewZ ys H Q := by
  unfold sF1 at g
  dsimp only at g
  split at g
  · rename_i xs e
    split at g
    · obtain ⟨p, vs, rfl, q, w⟩ := getL_ok e r hv
      refine ⟨p, vs, rfl, SqL.of q, fun l o hl ho => ?_⟩
      refine g ρ _ (.ref l) (Ext.upd hl) (r.new hl) ?_
      show VR K ρ _ _ _
      simp only [mkTup, if_true, VR]
      exact ⟨l, o, vs, rfl, upd_same, ho, VRs.mono (Ext.upd hl) _ _ w⟩
    · exact g.elim
  · exact g.elim

theorem nodup_of : ∀ {ss : List Str}, nodupS ss = true → ss.Nodup
  | [], _ => List.nodup_nil
  | x :: xs, h => by
    simp only [nodupS, Bool.and_eq_true, Bool.not_eq_true', List.any_eq_false, decide_eq_true_eq] at h
    exact List.nodup_cons.mpr ⟨fun m => h.1 x m rfl, nodup_of h.2⟩
theorem mapM_all {α β : Type} {f : α → Option β} : ∀ {xs : List α} {ys : List β}, xs.mapM f = some ys → xs.length = ys.length ∧ ∀ (i : Nat) x, xs[i]? = some x → ∃ y, ys[i]? = some y ∧ f x = some y
  | [], ys, e => by rw [mapM_nil] at e; cases e; exact ⟨rfl, fun i x h => by simp at h⟩
  | x :: xs, ys, e => by
    rw [mapM_cons] at e
    cases ex : f x with
    | none => rw [ex] at e; cases e
    | some y =>
      rw [ex] at e
      simp only [Option.bind_some] at e
      cases er : xs.mapM f with
      | none => rw [er] at e; cases e
      | some ys' =>
        rw [er] at e
        simp only [Option.bind_some, Option.some.injEq] at e
        subst e
        obtain ⟨h1, h2⟩ := mapM_all er
        refine ⟨by simp [h1], fun i x' h => ?_⟩
        cases i with
        | zero => simp at h; subst h; exact ⟨y, rfl, ex⟩
        | succ i => simp at h; simpa using h2 i x' h
/-- a list and what stands for it, item by item -/
theorem VRs.zipd {xs : List D} {vs : List V} {ss : List Str} (w : VRs K ρ H xs vs) (e : xs.mapM fstS = some ss) :
    ∃ Z : List (D × V × Str), Z.map (·.1) = xs ∧ Z.map (·.2.1) = vs ∧ Z.map (·.2.2) = ss ∧ ∀ z ∈ Z, VR K ρ H z.1 z.2.1 ∧ fstS z.1 = some z.2.2 := by
  obtain ⟨h1, h2⟩ := mapM_all e
  have h3 := w.length
  refine ⟨xs.zip (vs.zip ss), ?_, ?_, ?_, fun z hz => ?_⟩
  · rw [List.map_fst_zip (by simp; omega)]
  · have : (fun z : D × V × Str => z.2.1) = (fun q : V × Str => q.1) ∘ fun z : D × V × Str => z.2 := rfl
    rw [this, ← List.map_map, List.map_snd_zip (by simp; omega), List.map_fst_zip (by omega)]
  · have : (fun z : D × V × Str => z.2.2) = (fun q : V × Str => q.2) ∘ fun z : D × V × Str => z.2 := rfl
    rw [this, ← List.map_map, List.map_snd_zip (by simp; omega), List.map_snd_zip (by omega)]
  · obtain ⟨i, hi⟩ := List.mem_iff_getElem?.mp hz
    rw [List.getElem?_zip_eq_some] at hi
    obtain ⟨a, b⟩ := hi
    rw [List.getElem?_zip_eq_some] at b
    obtain ⟨v', e1, e2⟩ := w.get a
    obtain ⟨y, e3, e4⟩ := h2 i z.1 a
    rw [b.1] at e1; cases e1
    rw [b.2] at e3; cases e3
    exact ⟨e2, e4⟩
theorem VRs.of_all {Z : List (D × V × Str)} (h : ∀ z ∈ Z, VR K ρ H z.1 z.2.1) : VRs K ρ H (Z.map (·.1)) (Z.map (·.2.1)) := by
  induction Z with
  | nil => exact VRs.nil
  | cons z Z ih => exact VRs.cons (h z List.mem_cons_self) (ih fun y hy => h y (List.mem_cons_of_mem _ hy))
theorem srtP_ok {m : Bool} (r : Rel T K ρ S H) (hv : VR K ρ H d v) (g : RG T K (VD K) ρ H (sF1 (.srtP m) S d) Q E) : rSrtP K [v] H Q := by
  unfold sF1 at g
  dsimp only at g
  split at g
  · rename_i xs e
    split at g
    · rename_i ss e2
      split at g
      · rename_i c
        simp only [Bool.and_eq_true, decide_eq_true_eq] at c
        obtain ⟨p, vs, rfl, q, w⟩ := getL_ok e r hv
        obtain ⟨Z, z1, z2, z3, hz⟩ := w.zipd e2
        have f1 : (isort fstLt xs) = (isort (fun a b : D × V × Str => strLt a.2.2 b.2.2) Z).map (·.1) := by
          rw [isort_map (lt' := fstLt) (fun z : D × V × Str => z.1) Z fun a ha b hb => ?_, z1]
          simp only [fstLt, (hz a ha).2, (hz b hb).2]
        have f2 : (isort ltP (Z.map (·.2))).map (·.1) = (isort (fun a b : D × V × Str => strLt a.2.2 b.2.2) Z).map (·.2.1) := by
          rw [← isort_map (lt := fun a b : D × V × Str => strLt a.2.2 b.2.2) (lt' := ltP) (fun z : D × V × Str => z.2) Z fun a ha b hb => rfl, List.map_map]
          rfl
        rw [f1] at g
        refine ⟨p, Z.map (·.2), rfl, ?_, ?_, ?_, ?_⟩
        · rw [List.map_map]
          show SqL K H p (Z.map fun z => z.2.1)
          rw [z2]; exact SqL.of q
        · intro x hx
          obtain ⟨z, hz1, rfl⟩ := List.mem_map.mp hx
          obtain ⟨h1, h2⟩ := hz z hz1
          have key : ∀ (dd : D) (vv : V) (s : Str), VR K ρ H dd vv → fstS dd = some s → ∃ p u, vv = .ref p ∧ SqT K H p [.str s, u] := by
            intro dd vv s h1 h2
            unfold fstS at h2
            split at h2
            · rename_i s' d'
              cases h2
              simp only [VR, VRs] at h1
              obtain ⟨p, vs, e1, hp, v1, r1, ev, ⟨rfl, _⟩, v2, r2, rfl, _, rfl⟩ := h1
              exact ⟨p, v2, e1, SqT.of (by rw [hp, ev])⟩
            · cases h2
          exact key z.1 z.2.1 z.2.2 h1 h2
        · rw [List.map_map]
          show (Z.map fun z => z.2.2).Nodup
          rw [z3]; exact nodup_of c.1
        · rw [f2]
          exact (new_lst g r (VRs.of_all fun z hm => (hz z ((isort_perm _).mem_iff.mp hm)).1)).2
      · exact g.elim
    · exact g.elim
  · exact g.elim

/-! ### isinstance -/
def ISI : List String := ["int", "str", "bool", "tuple"]
theorem isi_tab : (ISI.all fun t => kitB "NoneType" t == some (t == "NoneType") && kitB "bool" t == some (t == "bool" || t == "int") && kitB "int" t == some (t == "int") && kitB "str" t == some (t == "str") &&
    kitB "tuple" t == some (t == "tuple") && kitB "list" t == some (t == "list") && kitB "dict" t == some (t == "dict")) = true := by decide +kernel
theorem isi_ok {t : String} {b : Bool} (ht : t ∈ ISI) (e : isiD S t d = some b) (r : Rel T K ρ S H) (hv : VR K ρ H d v) : ∃ a, TyX K H v (.type a) ∧ kitB a t = some b := by
  have h := List.all_eq_true.mp isi_tab t ht
  simp only [Bool.and_eq_true, beq_iff_eq] at h
  obtain ⟨⟨⟨⟨⟨⟨h1, h2⟩, h3⟩, h4⟩, h5⟩, h6⟩, h7⟩ := h
  cases d with
  | non => simp only [isiD, Option.some.injEq] at e; subst e; simp only [VR] at hv; subst hv; exact ⟨_, .base .non, h1⟩
  | bl b => simp only [isiD, Option.some.injEq] at e; subst e; simp only [VR] at hv; subst hv; exact ⟨_, .base (.bl b), h2⟩
  | int b => simp only [isiD, Option.some.injEq] at e; subst e; simp only [VR] at hv; subst hv; exact ⟨_, .base (.int b), h3⟩
  | str b => simp only [isiD, Option.some.injEq] at e; subst e; simp only [VR] at hv; obtain ⟨rfl, _⟩ := hv; exact ⟨_, .base (.str b), h4⟩
  | tup xs =>
    simp only [isiD, Option.some.injEq] at e; subst e; simp only [VR] at hv
    obtain ⟨p, vs, rfl, q, _⟩ := hv
    exact ⟨_, .base (.tup q), h5⟩
  | ztup xs =>
    simp only [isiD, Option.some.injEq] at e; subst e; simp only [VR] at hv
    obtain ⟨p, o, vs, rfl, q, _⟩ := hv
    exact ⟨_, .fTuple q, h5⟩
  | ktup xs =>
    simp only [isiD, Option.some.injEq] at e; subst e; simp only [VR] at hv
    obtain ⟨p, vs, rfl, (q | ⟨o, q⟩) | ⟨o, its, n, q, c, _⟩, _⟩ := hv
    · exact ⟨_, .base (.tup q), h5⟩
    · exact ⟨_, .fTuple q, h5⟩
    · exact ⟨_, .kTuple q c, h5⟩
  | fl xs =>
    simp only [isiD, Option.some.injEq] at e; subst e; simp only [VR] at hv
    obtain ⟨p, vs, rfl, _, q, _⟩ := hv
    exact ⟨_, .base (.lst q), h6⟩
  | scr ns =>
    simp only [isiD, Option.some.injEq] at e; subst e; simp only [VR] at hv
    obtain ⟨p, rfl, q⟩ := hv
    have q' : SqL K H p (ns.map V.int) := by
      rcases q with ⟨_, q⟩ | q
      · exact .inl q
      · exact q H
    rcases q' with (q | ⟨o, q⟩) | ⟨o, its, n, q, c, _⟩
    · exact ⟨_, .base (.lst q), h6⟩
    · exact ⟨_, .base (.frz q), h6⟩
    · exact ⟨_, .kList q c, h6⟩
  | fd _ _ _ => simp [isiD] at e
  | loc l =>
    simp only [VR] at hv
    obtain ⟨p, e1, rfl⟩ := hv
    simp only [isiD] at e
    cases o : S[l]? with
    | none => rw [o] at e; cases e
    | some u =>
      rw [o] at e
      have ob := r.ob l u p o e1
      cases u with
      | lst xs => simp only [Option.some.injEq] at e; subst e; obtain ⟨vs, q, _⟩ := ob; exact ⟨_, .base (.lst q), h6⟩
      | dct tt kvs =>
        simp only [Option.some.injEq] at e; subst e
        obtain ⟨vs, q, w⟩ := ob
        rcases dc_view q w with ⟨_, kws, q, _⟩ | ⟨_, kws, q, _⟩
        · exact ⟨_, .base (.dT q), h7⟩
        · exact ⟨_, .base (.dK q), h7⟩
      | ins => cases e
end
section
variable {T : Tb} {X : Cx} {cl : Orc} {gv : Gv} {W : WX}
theorem me_isi {e : Expr} {c : C} {t : String} {x : Str} {p p2 pos : Pos} (ht : t ∈ ISI) (hg : Gl X "isinstance") (hm : X.mg "isinstance" = none) (hg2 : Gl X x) (hm2 : X.mg x = none) (hv2 : bootBuiltins x = some (.type t)) (ha : PE X e (tE T X.K cl gv W c))
    (hn2 : x ≠ "__name__" := by decide) (hd2 : (x == ("__debug__" : Str)) = false := by decide) (he : starEach [e, .Name x p2] X.env = (false, eval e X.env) :: starEach [.Name x p2] X.env := by rfl) (hs2 : starEach [.Name x p2] X.env = (false, eval (.Name x p2) X.env) :: starEach [] X.env := by rfl)
    (hpl : (backTo pos (starEach [.Name x p2] X.env)).any (·.1) = false := by rfl) : PE X (.Call (.Name "isinstance" p) [e, .Name x p2] [] pos) (tE T X.K cl gv W (.f1 (.isi t) c)) :=
  PE_imp (pe_callB call_isi hg hm boot_isi (pa_cons ha (pa_cons (pe_bltn (v := .ty t) hg2 hm2 hv2 rfl hn2 hd2) pa_nil hs2) he) (by decide) (by decide) he hpl) fun σ H Q h =>
    tE_un (f := fun x env S => sF1 (.isi t) S x) (fun _ _ => by simp only [evE]) h fun ρ S env d x H1 r ee v g => by
      unfold sF1 at g
      dsimp only at g
      split at g
      · rename_i b e
        obtain ⟨a, h1, h2⟩ := isi_ok ht e r v
        exact ⟨x, .ty t, .type a, .type t, b, rfl, .ty t, h1, kit_ty h2, g.now r (by simp only [VR])⟩
      · exact g.elim
section
variable {e : Expr} {c : C} {p pos : Pos}
theorem me_len (hg : Gl X "len") (hm : X.mg "len" = none) (ha : PE X e (tE T X.K cl gv W c)) (he : starEach [e] X.env = (false, eval e X.env) :: starEach [] X.env := by rfl) (hpl : (backTo pos (starEach [] X.env)).any (·.1) = false := by rfl) :
    PE X (.Call (.Name "len" p) [e] [] pos) (tE T X.K cl gv W (.f1 .len c)) := me_fB cr_len hg hm PySem.boot_len ha (fun _ _ _ _ _ _ _ r v g => len_ok r v g) (by decide) (by decide) he hpl
theorem me_sum (hc : X.calm = true) (hg : Gl X "sum") (hm : X.mg "sum" = none) (ha : PE X e (tE T X.K cl gv W c)) (he : starEach [e] X.env = (false, eval e X.env) :: starEach [] X.env := by rfl) (hpl : (backTo pos (starEach [] X.env)).any (·.1) = false := by rfl) :
    PE X (.Call (.Name "sum" p) [e] [] pos) (tE T X.K cl gv W (.f1 .sum c)) := me_fB (cr_sum hc) hg hm boot_sumM ha (fun _ _ _ _ _ _ _ r v g => sum_ok r v g) (by decide) (by decide) he hpl
theorem me_max (hc : X.calm = true) (hg : Gl X "max") (hm : X.mg "max" = none) (ha : PE X e (tE T X.K cl gv W c)) (he : starEach [e] X.env = (false, eval e X.env) :: starEach [] X.env := by rfl) (hpl : (backTo pos (starEach [] X.env)).any (·.1) = false := by rfl) :
    PE X (.Call (.Name "max" p) [e] [] pos) (tE T X.K cl gv W (.f1 .max c)) := me_fB (cr_max hc) hg hm boot_maxM ha (fun _ _ _ _ _ _ _ r v g => max_ok r v g) (by decide) (by decide) he hpl
theorem me_srtP {m : Bool} (hg : Gl X "sorted") (hm : X.mg "sorted" = none) (ha : PE X e (tE T X.K cl gv W c)) (he : starEach [e] X.env = (false, eval e X.env) :: starEach [] X.env := by rfl) (hpl : (backTo pos (starEach [] X.env)).any (·.1) = false := by rfl) :
    PE X (.Call (.Name "sorted" p) [e] [] pos) (tE T X.K cl gv W (.f1 (.srtP m) c)) := me_fB cr_srtP hg hm boot_sortedM ha (fun _ _ _ _ _ _ _ r v g => srtP_ok r v g) (by decide) (by decide) he hpl
theorem me_fint (hg : Gl X "int") (hm : X.mg "int" = none) (ha : PE X e (tE T X.K cl gv W c)) (he : starEach [e] X.env = (false, eval e X.env) :: starEach [] X.env := by rfl) (hpl : (backTo pos (starEach [] X.env)).any (·.1) = false := by rfl) :
    PE X (.Call (.Name "int" p) [e] [] pos) (tE T X.K cl gv W (.f1 .int c)) := me_fT call_int1 hg hm boot_intM ha (fun _ _ _ _ _ _ _ r v g => int_ok r v g) (by decide) (by decide) he hpl
theorem me_fstr (hg : Gl X "str") (hm : X.mg "str" = none) (ha : PE X e (tE T X.K cl gv W c)) (he : starEach [e] X.env = (false, eval e X.env) :: starEach [] X.env := by rfl) (hpl : (backTo pos (starEach [] X.env)).any (·.1) = false := by rfl) :
    PE X (.Call (.Name "str" p) [e] [] pos) (tE T X.K cl gv W (.f1 .str c)) := me_fT call_str_int hg hm boot_strM ha (fun _ _ _ _ _ _ _ r v g => str_ok r v g) (by decide) (by decide) he hpl
theorem me_tuple (hg : Gl X "tuple") (hm : X.mg "tuple" = none) (ha : PE X e (tE T X.K cl gv W c)) (he : starEach [e] X.env = (false, eval e X.env) :: starEach [] X.env := by rfl) (hpl : (backTo pos (starEach [] X.env)).any (·.1) = false := by rfl) :
    PE X (.Call (.Name "tuple" p) [e] [] pos) (tE T X.K cl gv W (.f1 (.tuple false) c)) := me_fT call_tuple_of hg hm boot_tupleM ha (fun _ _ _ _ _ _ _ r v g => tuple_ok r v g) (by decide) (by decide) he hpl
theorem me_tuplez (hg : Gl X "tuple") (hm : X.mg "tuple" = none) (ha : PE X e (tE T X.K cl gv W c)) (he : starEach [e] X.env = (false, eval e X.env) :: starEach [] X.env := by rfl) (hpl : (backTo pos (starEach [] X.env)).any (·.1) = false := by rfl) :
    PE X (.Call (.Name "tuple" p) [e] [] pos) (tE T X.K cl gv W (.f1 (.tuple true) c)) := me_fT call_tupleZ hg hm boot_tupleM ha (fun _ _ _ _ _ _ _ r v g => tuplez_ok r v g) (by decide) (by decide) he hpl
/-- max(xs, default=k) -/
theorem me_maxd {k : Int} {kws : List Keyword} (hc : X.calm = true) (hg : Gl X "max") (hm : X.mg "max" = none) (ha : PE X e (tE T X.K cl gv W c)) (hk : L2.PK X kws (tCons (L2.tC (.int k)) tNil))
    (hsa : starEach [e] X.env = (false, eval e X.env) :: starEach [] X.env := by rfl)
    (he : backTo pos (starEach [e] X.env) = (false, eval e X.env) :: backTo pos (starEach [] X.env) := by rfl) (hpl : (backTo pos (starEach [e] X.env)).any (·.1) = false := by rfl)
    (hall : (backToKw pos (keywordEach kws X.env)).all (·.1.isSome) = true := by rfl) (hnone : (backToKw pos (keywordEach kws X.env)).any (·.1.isNone) = false := by rfl) (hks : (backToKw pos (keywordEach kws X.env)).filterMap (·.1) = (["default"] : List Str) := by rfl) :
    PE X (.Call (.Name "max" p) [e] kws pos) (tE T X.K cl gv W (.f1 (.maxd k) c)) :=
  PE_imp (pe_callBK (cr_maxd hc) hg hm boot_maxM (pa_cons ha pa_nil hsa) hk (by decide) (by decide) he hpl hall hnone hks) fun σ H Q h => tE_un (f := fun x env S => sF1 (.maxd k) S x) (fun _ _ => by simp only [evE]) h fun ρ S env d x H1 r ee v g => maxd_ok r v g
end
end
end Mini

namespace Mini
open PySem L2

/-- a name of a field: no other field is so named, no class has it -/
structure FldOk (T : Tb) (K : PySem.W.Frag) (f : Nat) : Prop where
  inj : ∀ g, T.fldN g = T.fldN f → g = f
  ok : ∀ c C, T.clsA c = some C → Cls K C ∧ NoAttr K C (T.fldN f)
def csLen : Cs → Nat
  | .nil => 0
  | .cons _ cs => csLen cs + 1
theorem csLen_ok {cl : Orc} {gv : Gv} : ∀ {cs : Cs} {env : Ev} {S : Sto} {ds : List D} {S' : Sto}, evEs cl gv cs env S = .ok ds S' → csLen cs = ds.length
  | .nil, env, S, ds, S', h => by simp only [evEs, R.ok.injEq] at h; rw [← h.1]; rfl
  | .cons c cs, env, S, ds, S', h => by
    simp only [evEs] at h
    cases h1 : evE cl gv c env S with
    | ok d S1 =>
      rw [h1, R.bind_ok] at h
      cases h2 : evEs cl gv cs env S1 with
      | ok ds' S2 =>
        rw [h2, R.bind_ok] at h
        simp only [R.ok.injEq] at h
        rw [← h.1, List.length_cons, csLen, csLen_ok h2]
      | exc => rw [h2] at h; cases h
      | stuck => rw [h2] at h; cases h
    | exc => rw [h1] at h; cases h
    | stuck => rw [h1] at h; cases h
section
variable {T : Tb} {K : PySem.W.Frag} {ρ : Rho} {H : Hp} {S : Sto} {E : XK}
theorem fld_some {f : Nat} (inj : ∀ g, T.fldN g = T.fldN f → g = f) : ∀ {fs : List (Nat × D)} {vs : List V} {d : D}, VRs K ρ H (fs.map (·.2)) vs → fs.lookup f = some d → ∃ v, ((fs.map fun x => T.fldN x.1).zip vs).lookup (T.fldN f) = some v ∧ VR K ρ H d v
  | [], _, _, _, e => by simp at e
  | (g, x) :: fs, vs, d, w, e => by
    simp only [List.map_cons, VRs] at w
    obtain ⟨v, r, rfl, h1, h2⟩ := w
    rw [List.lookup_cons] at e
    simp only [List.map_cons, List.zip_cons_cons, List.lookup_cons]
    by_cases hg : f = g
    · subst hg
      simp only [beq_self_eq_true] at e ⊢
      cases e; exact ⟨v, rfl, h1⟩
    · have h3 : (f == g) = false := by simpa using hg
      have h4 : (T.fldN f == T.fldN g) = false := by
        apply Bool.eq_false_iff.mpr
        intro z
        exact hg (inj g (by simpa using (beq_iff_eq.mp z).symm)).symm
      rw [h3] at e
      rw [h4]
      exact fld_some inj h2 e
theorem fld_none {f : Nat} (inj : ∀ g, T.fldN g = T.fldN f → g = f) : ∀ {fs : List (Nat × D)} {vs : List V}, fs.lookup f = none → ((fs.map fun x => T.fldN x.1).zip vs).lookup (T.fldN f) = none
  | [], _, _ => by simp
  | (g, x) :: fs, [], e => by simp
  | (g, x) :: fs, v :: vs, e => by
    rw [List.lookup_cons] at e
    simp only [List.map_cons, List.zip_cons_cons, List.lookup_cons]
    by_cases hg : f = g
    · subst hg; simp at e
    · have h3 : (f == g) = false := by simpa using hg
      have h4 : (T.fldN f == T.fldN g) = false := by
        apply Bool.eq_false_iff.mpr
        intro z
        exact hg (inj g (by simpa using (beq_iff_eq.mp z).symm)).symm
      rw [h3] at e
      rw [h4]
      exact fld_none inj e
theorem ins_at {l c : Nat} {fs : List (Nat × D)} {v : V} (e : S[l]? = some (.ins c fs)) (r : Rel T K ρ S H) (h : VR K ρ H (.loc l) v) :
    ∃ p C dx vs, v = .ref p ∧ ρ.loc[l]? = some p ∧ H p = some (.ins C dx ((fs.map fun f => T.fldN f.1).zip vs)) ∧ T.clsA c = some C ∧ VRs K ρ H (fs.map (·.2)) vs := by
  simp only [VR] at h
  obtain ⟨p, e1, rfl⟩ := h
  obtain ⟨C, dx, vs, h1, h2, h3⟩ := r.ob l _ p e e1
  exact ⟨p, C, dx, vs, rfl, e1, h1, h2, h3⟩
end

section
variable {T : Tb} {X : Cx} {cl : Orc} {gv : Gv} {W : WX}
theorem me_fld {e : Expr} {c : C} {f : Nat} {nm : Str} {pos : Pos} (F : FldOk T X.K f) (hn : T.fldN f = nm) (he : PE X e (tE T X.K cl gv W c)) (hb : attributeBase e nm X.env (eval e X.env) = eval e X.env := by rfl) : PE X (.Attribute e nm pos) (tE T X.K cl gv W (.fld c f)) :=
  PE_imp (pe_fld he hb) fun σ H Q h => tE_un (f := fun x env S => match x with
      | .loc l => match S[l]? with
        | some (.ins _ fs) => R.opt (fs.lookup f) S
        | _ => .stuck
      | _ => .stuck) (fun _ _ => by simp only [evE] <;> rfl) h fun ρ S env d x H1 r ee v g => by
    split at g
    · rename_i l
      split at g
      · rename_i c' fs e
        obtain ⟨d, e2, g⟩ := RG_opt g
        obtain ⟨p, C, dx, vs, rfl, _, h1, h2, h3⟩ := ins_at e r v
        obtain ⟨w, h4, h5⟩ := fld_some F.inj h3 e2
        obtain ⟨o1, o2⟩ := F.ok _ _ h2
        subst hn
        exact ⟨p, C, dx, _, w, rfl, h1, o1, o2, h4, g.now r h5⟩
      · exact g.elim
    · exact g.elim

/-! ### calls -/
/-- what a def promises: what the interpreter tells of it -/
def spI (T : Tb) (K : PySem.W.Frag) (cl : Orc) (f n : Nat) : Sp := fun vs H Q E => vs.length = n ∧ ∃ ρ S ds, Rel T K ρ S H ∧ VRs K ρ H ds vs ∧ RG T K (VD K) ρ H (cl f ds S) Q E
section
variable {CX : CXT} {k f n : Nat} {a CA : Addr} {fd : FuncData} {ps : List Str} {x m : Str} {p apos pos : Pos} {e o : Expr} {es : List Expr} {cs : Cs} {c : C}
theorem me_call (F : FnOk X.prog X.w X.K X.mg X.base (L2.CX X.prog X.w) k a fd ps (spI T X.K cl f n)) (hr : Room k X.A) (hg : Gl X x) (hm : X.mg x = some (.ref a)) (hk : PySem.W.keepIn X.K (.ref a) = true) (hb : Binds X.K fd ps []) (tk : Takes X W)
    (ha : PA X (e :: es) (tEs T X.K cl gv W cs)) (hn : csLen cs = n) (hdb : (x == ("__debug__" : Str)) = false := by decide) (he : starEach (e :: es) X.env = (false, eval e X.env) :: starEach es X.env := by rfl) (hpl : (backTo pos (starEach es X.env)).any (·.1) = false := by rfl) :
    PE X (.Call (.Name x p) (e :: es) [] pos) (tE T X.K cl gv W (.call f cs)) :=
  PE_imp (pe_callSD (dvs := []) (ds := []) F hr hg hm hk hb .nil (fun σ => passAt tk σ) ha hdb he hpl) fun σ H Q h => by
    obtain ⟨ρ, S, env, r, ee, g⟩ := tE_args (q := fun vs H1 => vs.length = n ∧ ∃ ρ S ds, Rel T X.K ρ S H1 ∧ VRs X.K ρ H1 ds vs ∧ RG T X.K (VD X.K) ρ H1 (cl f ds S) Q (WE W σ)) (f := fun ds env S => if ds.length = n then cl f ds S else .stuck) (fun env S => by
        simp only [evE]
        cases hh : evEs cl gv cs env S with
        | ok ds S1 => rw [R.bind_ok, R.bind_ok, if_pos ((csLen_ok hh).symm.trans hn)]
        | exc => rfl
        | stuck => rfl) h fun ρ S env d x H1 r ee v g => by
          split at g
          · rename_i hl
            exact ⟨by rw [← v.length]; exact hl, ρ, S, d, r, v, g⟩
          · exact g.elim
    exact ⟨ρ, S, env, r, ee, g.imp fun vs H1 q => by rw [List.append_nil]; exact q⟩

/-! ### methods -/
def tMethD (CA : Addr) (m : Str) (sp : Sp) (E : St → XK) (ta : TE) (t : TA) : TE := fun σ H Q => ta σ H fun x H1 => ∃ a dx fs, x = .ref a ∧ H1 a = some (.ins CA dx fs) ∧ fs.lookup m = none ∧ t σ H1 fun vs H2 => sp (x :: vs) H2 Q (E σ)
variable {ta : TE} {t : TA} {sp : Sp} {E : St → XK}
theorem pe_methSD {pl : Sem Bool} (he : PE X o ta) (c : Cls X.K CA) (hm : Meth X.K CA m a) (F : FnOk X.prog X.w X.K X.mg X.base CX k a fd ps sp) (hr : Room k X.A) (hb : Binds X.K fd ps []) (hx : ∀ σ, PassesAt CX X σ (E σ)) (ha : PA X (e :: es) t)
    (hst : starEach (e :: es) X.env = (false, eval e X.env) :: starEach es X.env := by rfl) (hpl : (backTo pos (starEach es X.env)).any (·.1) = false := by rfl)
    (ht : eval (.Call (.Attribute o m apos) (e :: es) [] pos) X.env = (do
      let ov ← eval o X.env
      standAt apos.atName
      let (f, first) ← holding [ov] (getMethod ov m pl)
      callWith pos f first (backTo pos (starEach (e :: es) X.env)) (backToKw pos (keywordEach [] X.env))) := by rfl) :
    PE X (.Call (.Attribute o m apos) (e :: es) [] pos) (tMethD CA m sp E ta t) := by
  refine ⟨fun pins s σ H Q I h => ?_⟩
  refine PySem.W.methodCall_KW (pl := pl) (thn (he.run pins s σ H _ I h) fun u s1 ⟨x, H1, I1, rx, a, dx, fs, ex, ea, l, q⟩ => ?_) ht
  subst ex
  obtain rfl : u = Value.ref a := rx
  refine getmeth_ok I1 ea c hm l ?_
  refine PySem.W.callWith_K (first := [.ref a]) (h₀ := X.base) I.ok.mod.kin hm.kp (thn (ha.run pos pins s1 σ H1 _ I1 q) fun us s2 ⟨vs, H2, I2, r, q2⟩ => ⟨I2.kIn, ?_⟩) hst hpl
  exact run_fnSD (us := .ref a :: us) (vs := .ref a :: vs) (dvs := []) (ds := []) (E := E) F hr hb .nil (hx σ) I2 (.cons rfl r) (by rw [List.append_nil]; exact q2)
theorem pe_methSD0 {pl : Sem Bool} (he : PE X o ta) (c : Cls X.K CA) (hm : Meth X.K CA m a) (F : FnOk X.prog X.w X.K X.mg X.base CX k a fd ps sp) (hr : Room k X.A) (hb : Binds X.K fd ps []) (hx : ∀ σ, PassesAt CX X σ (E σ))
    (ht : eval (.Call (.Attribute o m apos) [] [] pos) X.env = (do
      let ov ← eval o X.env
      standAt apos.atName
      let (f, first) ← holding [ov] (getMethod ov m pl)
      callWith pos f first (backTo pos (starEach [] X.env)) (backToKw pos (keywordEach [] X.env))) := by rfl) :
    PE X (.Call (.Attribute o m apos) [] [] pos) (tMethD CA m sp E ta tNil) := by
  refine ⟨fun pins s σ H Q I h => ?_⟩
  refine PySem.W.methodCall_KW (pl := pl) (thn (he.run pins s σ H _ I h) fun u s1 ⟨x, H1, I1, rx, a, dx, fs, ex, ea, l, q⟩ => ?_) ht
  subst ex
  obtain rfl : u = Value.ref a := rx
  refine getmeth_ok I1 ea c hm l ?_
  exact PySem.W.callWith_K0 (first := [.ref a]) I1.kIn hm.kp (run_fnSD (us := [.ref a]) (vs := [.ref a]) (dvs := []) (ds := []) (E := E) F hr hb .nil (hx σ) I1 (.cons rfl .nil) (by rw [List.append_nil]; exact q))
/-- a method's name -/
structure MetOk (T : Tb) (K : PySem.W.Frag) (cid mid : Nat) (m : Str) (CA a : Addr) : Prop where
  inj : ∀ g, T.fldN g = m → g = mid
  nm : T.fldN mid = m
  at_ : T.clsA cid = some CA
  cls : Cls K CA
  met : Meth K CA m a
theorem tE_meth {cid mid : Nat} (M : MetOk T X.K cid mid m CA a) (hn : csLen cs + 1 = n) {σ : St} {H : Hp} {Q : VK} (h : tE T X.K cl gv W (.meth cid mid f c cs) σ H Q) : tMethD CA m (spI T X.K cl f n) (WE W) (tE T X.K cl gv W c) (tEs T X.K cl gv W cs) σ H Q := by
  refine tE_un (f := fun x env S => match x with
      | .loc l => match S[l]? with
        | some (.ins c' fs) => if c' = cid ∧ fs.lookup mid = none then (evEs cl gv cs env S).bind fun ds S => cl f (x :: ds) S else .stuck
        | _ => .stuck
      | _ => .stuck) (fun _ _ => by simp only [evE] <;> rfl) h fun ρ S env d x H1 r ee v g => ?_
  split at g
  · rename_i l
    split at g
    · rename_i c' fs e
      split at g
      · rename_i hc
        obtain ⟨rfl, hl⟩ := hc
        obtain ⟨p, C2, dx, vs, rfl, e1, h1, h2, h3⟩ := ins_at e r v
        rw [M.at_] at h2
        cases h2
        have v0 := v
        refine ⟨p, dx, _, rfl, h1, ?_, ρ, S, env, r, ee, ?_⟩
        · rw [← M.nm]
          exact fld_none (fun g hg => M.inj g (hg.trans M.nm)) hl
        · have g2 : RG T X.K (VD X.K) ρ H1 ((evEs cl gv cs env S).bind fun ds S => if ds.length + 1 = n then cl f (.loc l :: ds) S else .stuck) Q (WE W σ) := by
            cases hh : evEs cl gv cs env S with
            | ok ds S1 =>
              rw [hh] at g
              rw [R.bind_ok, if_pos (by rw [← csLen_ok hh]; exact hn)]
              exact g
            | exc => rw [hh] at g; exact g
            | stuck => rw [hh] at g; exact g
          refine (RG.bind (V := VDs X.K) g2).imp fun us H2 ⟨ρ2, S2, ds, x2, r2, w2, g3⟩ => ?_
          split at g3
          · rename_i hl2
            exact ⟨by rw [List.length_cons, ← w2.length]; exact hl2, ρ2, S2, _, r2, VRs.cons (VR.mono x2 _ _ v0) w2, g3⟩
          · exact g3.elim
      · exact g.elim
    · exact g.elim
  · exact g.elim
theorem me_meth {cid mid : Nat} {pl : Sem Bool} (M : MetOk T X.K cid mid m CA a) (F : FnOk X.prog X.w X.K X.mg X.base (L2.CX X.prog X.w) k a fd ps (spI T X.K cl f n)) (hr : Room k X.A) (hb : Binds X.K fd ps []) (tk : Takes X W) (hn : csLen cs + 1 = n)
    (he : PE X o (tE T X.K cl gv W c)) (ha : PA X (e :: es) (tEs T X.K cl gv W cs))
    (hst : starEach (e :: es) X.env = (false, eval e X.env) :: starEach es X.env := by rfl) (hpl : (backTo pos (starEach es X.env)).any (·.1) = false := by rfl)
    (ht : eval (.Call (.Attribute o m apos) (e :: es) [] pos) X.env = (do
      let ov ← eval o X.env
      standAt apos.atName
      let (f, first) ← holding [ov] (getMethod ov m pl)
      callWith pos f first (backTo pos (starEach (e :: es) X.env)) (backToKw pos (keywordEach [] X.env))) := by rfl) :
    PE X (.Call (.Attribute o m apos) (e :: es) [] pos) (tE T X.K cl gv W (.meth cid mid f c cs)) :=
  PE_imp (pe_methSD he M.cls M.met F hr hb (fun σ => passAt tk σ) ha hst hpl ht) fun σ H Q h => tE_meth M hn h
theorem me_meth0 {cid mid : Nat} {pl : Sem Bool} (M : MetOk T X.K cid mid m CA a) (F : FnOk X.prog X.w X.K X.mg X.base (L2.CX X.prog X.w) k a fd ps (spI T X.K cl f 1)) (hr : Room k X.A) (hb : Binds X.K fd ps []) (tk : Takes X W)
    (he : PE X o (tE T X.K cl gv W c))
    (ht : eval (.Call (.Attribute o m apos) [] [] pos) X.env = (do
      let ov ← eval o X.env
      standAt apos.atName
      let (f, first) ← holding [ov] (getMethod ov m pl)
      callWith pos f first (backTo pos (starEach [] X.env)) (backToKw pos (keywordEach [] X.env))) := by rfl) :
    PE X (.Call (.Attribute o m apos) [] [] pos) (tE T X.K cl gv W (.meth cid mid f c .nil)) :=
  PE_imp (pe_methSD0 he M.cls M.met F hr hb (fun σ => passAt tk σ) ht) fun σ H Q h => by
    obtain ⟨ρ, S, env, r, ee, g⟩ := tE_meth (n := 1) M rfl h
    refine ⟨ρ, S, env, r, ee, g.imp fun x H1 ⟨a', dx, fs, e1, e2, e3, ρ1, S1, env1, r1, ee1, g1⟩ => ⟨a', dx, fs, e1, e2, e3, ?_⟩⟩
    have g2 : RG T X.K (VDs X.K) ρ1 H1 (.ok [] S1) _ _ := g1
    exact g2.now r1 VRs.nil

/-! ### a new instance -/
def tMakeD (CA : Addr) (sp : Sp) (E : St → XK) (t : TA) : TE := fun σ H Q => t σ H fun vs H1 => ∀ x dx, H1 x = none → H1 dx = none → dx ≠ x → sp (.ref x :: vs) (upd (upd H1 dx (.own x)) x (.ins CA dx [])) (fun v H2 => v = .non ∧ Q (.ref x) H2) (E σ)
theorem run_makeSD {pins : List (Addr × Obj)} {σ : St} {H : Hp} {s : Shared} {Q : VK} {us : List Value} {vs : List V} (M : Mk X.K CA a) (F : FnOk X.prog X.w X.K X.mg X.base (L2.CX X.prog X.w) k a fd ps sp) (hr : Room (k + 1) X.A) (hb : Binds X.K fd ps [])
    (tk : Takes X W) (I : Inv X pins σ H s) (r : Vals vs us)
    (h : ∀ x dx, H x = none → H dx = none → dx ≠ x → sp (.ref x :: vs) (upd (upd H dx (.own x)) x (.ins CA dx [])) (fun v H2 => v = .non ∧ Q (.ref x) H2) (WE W σ)) :
    wpAny (model X.prog X.w) X.A (call (.ref CA) us) (EP X pins σ Q) X.xe s := by
  have hq := h (s.heap.objs.size + 1) s.heap.objs.size (I.hok.fresh (Nat.le_succ _)) (I.hok.fresh (Nat.le_refl _)) (Nat.ne_of_lt (Nat.lt_succ_self _))
  have I2 := Inv.made (C := CA) I
  have r2 : Vals (V.ref (s.heap.objs.size + 1) :: vs) (Value.ref (s.heap.objs.size + 1) :: us) := .cons rfl r
  have hl : (Value.ref (s.heap.objs.size + 1) :: us ++ []).length = ps.length := by
    have e := r2.length
    rw [F.len _ _ _ _ hq] at e
    rw [List.append_nil]
    exact e.symm
  have hb' := hb _ (Value.ref (s.heap.objs.size + 1) :: us) I2.kIn hl
  rw [List.append_nil] at hb'
  refine wpAny_call (make_map (f := a) I.kIn M.makes M.init (beq_iff_eq.mp M.fn) (codeAny_mono (F.run _ X.stack _ _ ⟨Value.ref (s.heap.objs.size + 1) :: us, []⟩ (Value.ref (s.heap.objs.size + 1) :: us) _ _ (WE W σ) (hr.make CA us [])
    (I2.env0.make CA us []) hb' r2 hq) fun r s' hq' => ?_))
  cases r with
  | error e => exact passAt tk σ pins _ _ e s' I2 hq'
  | ok fl =>
    cases fl with
    | ret u =>
      obtain ⟨v, H', I3, rv, ev, q3⟩ := I2.after hq'
      subst ev
      exact ⟨rv, ⟨V.ref (s.heap.objs.size + 1), H', I3, rfl, q3⟩⟩
    | next => exact False.elim hq'
    | brk => exact False.elim hq'
    | cont => exact False.elim hq'
theorem pe_makeSD (M : Mk X.K CA a) (F : FnOk X.prog X.w X.K X.mg X.base (L2.CX X.prog X.w) k a fd ps sp) (hr : Room (k + 1) X.A) (hg : Gl X x) (hm : X.mg x = some (.ref CA)) (hb : Binds X.K fd ps []) (tk : Takes X W)
    (ha : PA X (e :: es) t) (hdb : (x == ("__debug__" : Str)) = false := by decide) (he : starEach (e :: es) X.env = (false, eval e X.env) :: starEach es X.env := by rfl) (hpl : (backTo pos (starEach es X.env)).any (·.1) = false := by rfl) :
    PE X (.Call (.Name x p) (e :: es) [] pos) (tMakeD CA sp (WE W) t) := by
  refine ⟨fun pins s σ H Q I h => ?_⟩
  refine wpAny_Call_Name_kw (ld_glob I hg hm ?_ hdb)
  refine PySem.W.callWith_K (h₀ := X.base) I.ok.mod.kin M.kp (thn (ha.run pos pins s σ H _ I h) fun us s1 ⟨vs, H1, I1, r, q⟩ => ⟨I1.kIn, ?_⟩) he hpl
  exact run_makeSD M F hr hb tk I1 r q
theorem me_make {cid : Nat} (hc : T.clsA cid = some CA) (M : Mk X.K CA a) (F : FnOk X.prog X.w X.K X.mg X.base (L2.CX X.prog X.w) k a fd ps (spI T X.K cl f n)) (hr : Room (k + 1) X.A) (hg : Gl X x) (hm : X.mg x = some (.ref CA)) (hb : Binds X.K fd ps []) (tk : Takes X W) (hn : csLen cs + 1 = n)
    (ha : PA X (e :: es) (tEs T X.K cl gv W cs)) (hdb : (x == ("__debug__" : Str)) = false := by decide) (he : starEach (e :: es) X.env = (false, eval e X.env) :: starEach es X.env := by rfl) (hpl : (backTo pos (starEach es X.env)).any (·.1) = false := by rfl) :
    PE X (.Call (.Name x p) (e :: es) [] pos) (tE T X.K cl gv W (.make cid f cs)) :=
  PE_imp (pe_makeSD M F hr hg hm hb tk ha hdb he hpl) fun σ H Q h => tE_args (f := fun ds env S => if ds.length + 1 = n then (cl f (.loc S.length :: ds) (S ++ [.ins cid []])).bind fun r S' => match r with
      | .non => .ok (.loc S.length) S'
      | _ => .stuck
      else .stuck) (fun env S => by
        simp only [evE]
        cases hh : evEs cl gv cs env S with
        | ok ds S1 => rw [R.bind_ok, R.bind_ok, if_pos (by rw [← csLen_ok hh]; exact hn)] <;> rfl
        | exc => rfl
        | stuck => rfl) h fun ρ S env d vs H1 r ee v g y dx hy hdx hne => by
    split at g
    · rename_i hl
      refine ⟨by rw [List.length_cons, ← v.length]; exact hl, ?_⟩
      have x1 : Ext ρ H1 ρ (upd H1 dx (.own y)) := Ext.upd hdx
      have r1 : Rel T X.K ρ S (upd H1 dx (.own y)) := r.new hdx
      have hy2 : (upd H1 dx (.own y)) y = none := by rw [upd_ne hne.symm]; exact hy
      have x2 := Ext.alloc (ρ := ρ) (o := .ins CA dx []) hy2 (fun m => (r1.hd _ m).2 hy2)
      have r2 : Rel T X.K (ρ.push y) (S ++ [.ins cid []]) (upd (upd H1 dx (.own y)) y (.ins CA dx [])) := r1.alloc hy2 ⟨CA, dx, [], upd_same, hc, VRs.nil⟩
      have x12 := x1.trans x2
      have hloc : (ρ.push y).loc[S.length]? = some y := by
        show (ρ.loc ++ [y])[S.length]? = some y
        rw [← r.len]; simp
      refine ⟨ρ.push y, _, _, r2, VRs.cons (show VR X.K (ρ.push y) (upd (upd H1 dx (.own y)) y (.ins CA dx [])) (.loc S.length) (.ref y) by simp only [VR]; exact ⟨y, hloc, rfl⟩) (VRs.mono x12 _ _ v), ?_⟩
      refine ((g.weak x12).bind (V := VD X.K)).imp fun b H3 ⟨ρ3, S3, a3, x3, r3, v3, g3⟩ => ?_
      split at g3
      · simp only [VR] at v3
        refine ⟨v3, g3.now r3 ?_⟩
        simp only [VR]
        exact ⟨y, x3.pre _ _ hloc, rfl⟩
      · exact g3.elim
    · exact g.elim
end
end
end Mini

namespace Mini
open PySem L2

section
variable {T : Tb} {K : PySem.W.Frag} {ρ : Rho} {H : Hp} {S : Sto} {E : XK}
theorem lst_at {l : Nat} {xs : List D} {v : V} (e : S[l]? = some (.lst xs)) (r : Rel T K ρ S H) (h : VR K ρ H (.loc l) v) :
    ∃ p vs, v = .ref p ∧ ρ.loc[l]? = some p ∧ H p = some (.lst vs) ∧ VRs K ρ H xs vs := by
  simp only [VR] at h
  obtain ⟨p, e1, rfl⟩ := h
  obtain ⟨vs, h1, h2⟩ := r.ob l _ p e e1
  exact ⟨p, vs, rfl, e1, h1, h2⟩
theorem wr_lst {l : Nat} {xs ys : List D} {p : Addr} {vs ws : List V} (e : S[l]? = some (.lst xs)) (r : Rel T K ρ S H) (e1 : ρ.loc[l]? = some p) (h : H p = some (.lst vs)) (w : VRs K ρ H ys ws) :
    Ext ρ H ρ (upd H p (.lst ws)) ∧ Rel T K ρ (S.set l (.lst ys)) (upd H p (.lst ws)) := by
  have x := Ext.write (o' := .lst ws) r (List.mem_of_getElem? e1) h trivial
  exact ⟨x, r.write e1 e ⟨ws, upd_same, VRs.mono x _ _ w⟩⟩
theorem getLast_ok {xs : List D} {vs : List V} {d : D} (w : VRs K ρ H xs vs) (e : xs.getLast? = some d) : ∃ v, vs[vs.length - 1]? = some v ∧ VR K ρ H d v := by
  rw [List.getLast?_eq_getElem?] at e
  rw [← w.length]
  exact w.get e
theorem dropLast_ok {xs : List D} {vs : List V} (w : VRs K ρ H xs vs) : VRs K ρ H xs.dropLast vs.dropLast := by
  rw [List.dropLast_eq_take, List.dropLast_eq_take, ← w.length]
  exact w.take _
theorem pop_ok {d : D} {v : V} {Q : VK} (r : Rel T K ρ S H) (hv : VR K ρ H d v) (g : RG T K (VD K) ρ H (sM0 .pop S d) Q E) : (∃ p xs, v = .ref p ∧ H p = some (.lst xs)) ∧ rPop v [] H Q := by
  unfold sM0 at g
  dsimp only at g
  split at g
  · rename_i l
    split at g
    · rename_i xs e
      split at g
      · rename_i y e2
        obtain ⟨p, vs, rfl, e1, h1, w⟩ := lst_at e r hv
        obtain ⟨u, h2, h3⟩ := getLast_ok w e2
        obtain ⟨x, r2⟩ := wr_lst e r e1 h1 (dropLast_ok w)
        exact ⟨⟨p, vs, rfl, h1⟩, p, vs, u, rfl, rfl, h1, h2, g ρ _ u x r2 (VR.mono x _ _ h3)⟩
      · exact g.elim
    · exact g.elim
  · exact g.elim
theorem append_ok {d e : D} {v u : V} {Q : VK} (r : Rel T K ρ S H) (hv : VR K ρ H d v) (hu : VR K ρ H e u) (g : RG T K (VD K) ρ H (sM1 .append S d e) Q E) : rAppend v [u] H Q := by
  unfold sM1 at g
  dsimp only at g
  split at g
  · rename_i l
    split at g
    · rename_i xs e
      split at g
      · rename_i hl
        obtain ⟨p, vs, rfl, e1, h1, w⟩ := lst_at e r hv
        obtain ⟨x, r2⟩ := wr_lst e r e1 h1 (w.append (VRs.cons hu VRs.nil))
        exact ⟨p, vs, u, rfl, rfl, h1, by rw [← w.length, sizeLine_eq]; unfold LIM at hl; omega, g ρ _ _ x r2 (by simp only [VR])⟩
      · exact g.elim
    · exact g.elim
  · exact g.elim
theorem tyList {d : D} {v : V} (h : (getL S d).isSome = true) (r : Rel T K ρ S H) (hv : VR K ρ H d v) : tyV K "list" v H := by
  obtain ⟨xs, e⟩ := Option.isSome_iff_exists.mp h
  obtain ⟨p, vs, rfl, q, _⟩ := getL_ok e r hv
  exact .inl ⟨rfl, vs, SqL.of q⟩
theorem isD_of {d : D} {v : V} (h : (getD S d).isSome = true) (r : Rel T K ρ S H) (hv : VR K ρ H d v) : ∃ p, v = .ref p ∧ IsD H p := by
  obtain ⟨⟨t, kvs⟩, e⟩ := Option.isSome_iff_exists.mp h
  obtain ⟨p, rfl, ⟨k, h1, _⟩ | ⟨k, h1, _⟩⟩ := getD_len e r hv
  · exact ⟨p, rfl, .inl ⟨k, h1⟩⟩
  · exact ⟨p, rfl, .inr ⟨k, h1⟩⟩
end
section
variable {T : Tb} {X : Cx} {cl : Orc} {gv : Gv} {W : WX} {o e f : Expr} {c ce cf : C} {apos cpos p pos : Pos}
theorem me_pop (ho : PE X o (tE T X.K cl gv W c)) (hbase : attributeBase o "pop" X.env (eval o X.env) = eval o X.env := by rfl) (hline : (apos.endLine == cpos.line) = true := by rfl) :
    PE X (.Call (.Attribute o "pop" apos) [] [] cpos) (tE T X.K cl gv W (.m0 .pop c)) :=
  PE_imp (pe_bm0 PySem.F.plainAttrs_list PySem.F.slot_list_pop PySem.F.type_list_pop mt_pop ho hbase hline) fun σ H Q h =>
    tE_un (f := fun x env S => sM0 .pop S x) (fun _ _ => by simp only [evE]) h fun ρ S env d x H1 r ee v g => by
      obtain ⟨⟨p, xs, rfl, h1⟩, h2⟩ := pop_ok r v g
      exact ⟨.inl ⟨rfl, xs, SqL.of h1⟩, h2⟩
theorem tE_m1 {f : M1} {σ : St} {H : Hp} {Q : VK} {r : V → List V → Hp → VK → Prop} {TY : V → Hp → Prop} (h : tE T X.K cl gv W (.m1 f c ce) σ H Q)
    (ty : ∀ ρ S d x H1, Rel T X.K ρ S H1 → VR X.K ρ H1 d x → okM1 f S d = true → TY x H1)
    (k : ∀ ρ S d d' x y H1, Rel T X.K ρ S H1 → VR X.K ρ H1 d x → VR X.K ρ H1 d' y → RG T X.K (VD X.K) ρ H1 (sM1 f S d d') Q (WE W σ) → r x [y] H1 Q) :
    tE T X.K cl gv W c σ H fun x H1 => TY x H1 ∧ tE T X.K cl gv W ce σ H1 fun y H2 => r x [y] H2 Q :=
  tE_un (f := fun x env S => if okM1 f S x = true then (evE cl gv ce env S).bind fun y S => sM1 f S x y else .stuck) (fun _ _ => by simp only [evE]) h fun ρ S env d x H1 r1 ee v g => by
    split at g
    · rename_i hk
      refine ⟨ty ρ S d x H1 r1 v hk, ρ, S, env, r1, ee, g.bind.imp fun y H2 ⟨ρ2, S2, d2, x2, r2, v2, g2⟩ => k ρ2 S2 d d2 x y H2 r2 (VR.mono x2 _ _ v) v2 g2⟩
    · exact g.elim
theorem me_append (ho : PE X o (tE T X.K cl gv W c)) (he : PE X e (tE T X.K cl gv W ce)) (hbase : attributeBase o "append" X.env (eval o X.env) = eval o X.env := by rfl)
    (hfew : ((backTo cpos (starEach [e] X.env)).all (fun x => !x.1) && (backToKw cpos (keywordEach [] X.env)).all (fun x => x.1.isSome)
      && decide ([e].length + ([] : List Keyword).length + (if ([] : List Keyword).isEmpty then 0 else 1) < 30)) = true := by rfl)
    (hline : (apos.endLine == cpos.line) = true := by rfl) (hs : starEach [e] X.env = (false, eval e X.env) :: starEach [] X.env := by rfl) (hplain : (backTo cpos (starEach [] X.env)).any (·.1) = false := by rfl) :
    PE X (.Call (.Attribute o "append" apos) [e] [] cpos) (tE T X.K cl gv W (.m1 .append c ce)) :=
  PE_imp (pe_bm PySem.F.plainAttrs_list PySem.F.slot_list_append PySem.F.type_list_append mt_append ho (pa_cons he pa_nil hs) hbase hfew hline hs hplain) fun σ H Q h =>
    tE_m1 (r := rAppend) h (fun ρ S d x H1 r v k => tyList k r v) fun ρ S d d' x y H1 r v v' g => append_ok r v v' g
/-! ### d.get(k, x) -/
theorem me_get (hu : X.A.units + 1 < cLine) (ho : PE X o (tE T X.K cl gv W c)) (he : PE X e (tE T X.K cl gv W ce)) (hf : PE X f (tE T X.K cl gv W cf)) (m : L2.M2 X o "get" apos e f cpos) : PE X (.Call (.Attribute o "get" apos) [e, f] [] cpos) (tE T X.K cl gv W (.get c ce cf)) :=
  PE_imp (pe_dget2 hu ho he hf m) fun σ H Q h => tE_un (f := fun x env S => if (getD S x).isSome = true then (evE cl gv ce env S).bind fun y S => (evE cl gv cf env S).bind fun z S => R.opt (sGet S x y z) S else .stuck) (fun _ _ => by simp only [evE]) h fun ρ S env d x H1 r1 ee v g => by
    split at g
    · rename_i hk
      obtain ⟨a, rfl, hd⟩ := isD_of hk r1 v
      refine ⟨a, rfl, hd, ρ, S, env, r1, ee, g.bind.imp fun y H2 ⟨ρ2, S2, d2, x2, r2, v2, g2⟩ => ?_⟩
      refine ⟨ρ2, S2, env, r2, ee.mono x2, g2.bind.imp fun z H3 ⟨ρ3, S3, d3, x3, r3, v3, g3⟩ => ?_⟩
      obtain ⟨w, e, g4⟩ := RG_opt g3
      unfold sGet at e
      split at e
      · rename_i t kvs e1
        rw [Option.map_eq_some_iff] at e
        obtain ⟨k, e2, rfl⟩ := e
        obtain ⟨p, o, ep, hg, ov, _⟩ := dget_ok e1 e2 r3 (VR.mono x3 _ _ v2) (VR.mono x3 _ _ (VR.mono x2 _ _ v))
        cases ep
        refine ⟨o, hg, g4.now r3 ?_⟩
        cases ho : lookK kvs k with
        | none =>
          rw [ho] at ov
          cases o with
          | none => exact v3
          | some _ => exact ov.elim
        | some dd =>
          rw [ho] at ov
          cases o with
          | none => exact ov.elim
          | some vv => exact ov
      · cases e
    · exact g.elim
/-! ### dict(pairs) -/
theorem pairsK {K : PySem.W.Frag} {ρ : Rho} {H : Hp} : ∀ {xs : List D} {vs : List V} {ps : List (List Key × D)}, xs.mapM (pairOf false) = some ps → VRs K ρ H xs vs →
    ∃ (as : List Addr) (kvs : List (Key × V)), vs = as.map V.ref ∧ Paired (fun p kv => SqT K H p [kV kv.1, kv.2]) as kvs ∧ PK K ρ H one ps kvs
  | [], vs, ps, e, w => by
    rw [mapM_nil] at e; cases e
    simp only [VRs] at w; subst w
    exact ⟨[], [], rfl, .nil, .nil⟩
  | x :: xs, vs, ps, e, w => by
    simp only [VRs] at w
    obtain ⟨v, r, rfl, h1, h2⟩ := w
    rw [mapM_cons] at e
    cases ex : pairOf false x with
    | none => rw [ex] at e; cases e
    | some q =>
      rw [ex] at e
      simp only [Option.bind_some] at e
      cases er : xs.mapM (pairOf false) with
      | none => rw [er] at e; cases e
      | some qs =>
        rw [er] at e
        simp only [Option.bind_some, Option.some.injEq] at e
        subst e
        obtain ⟨as, kvs, rfl, hp, pk⟩ := pairsK er h2
        unfold pairOf at ex
        split at ex
        · rename_i k d
          rw [Option.map_eq_some_iff] at ex
          obtain ⟨kk, e2, rfl⟩ := ex
          simp only [VR, VRs] at h1
          obtain ⟨p, ws, rfl, hq, w1, r1, rfl, hw1, w2, r2, rfl, hw2, rfl⟩ := h1
          rcases key_ok e2 hw1 with ⟨z, _⟩ | ⟨_, k1, rfl, rfl⟩
          · cases z
          · exact ⟨p :: as, (k1, w2) :: kvs, rfl, .cons (SqT.of hq) hp, .cons hw2 pk⟩
        · cases ex
theorem dictP_ok {m : Bool} {K : PySem.W.Frag} {ρ : Rho} {H : Hp} {S : Sto} {E : XK} {d : D} {v : V} {Q : VK} (r : Rel T K ρ S H) (hv : VR K ρ H d v) (g : RG T K (VD K) ρ H (sF1 (.dict m false) S d) Q E) (hk : (getD S d).isSome = false) : rDictP K [v] H Q := by
  unfold sF1 at g
  dsimp only at g
  split at g
  · rename_i xs e
    split at g
    · rename_i ps e2
      have hq : ∃ p vs, v = .ref p ∧ (SqL K H p vs ∨ ∃ o : Obj, H p = some (.frz o (.tup vs)) ∧ o.dict = none) ∧ VRs K ρ H xs vs := by
        unfold getP at e
        split at e
        · rename_i ys
          cases e
          simp only [VR] at hv
          obtain ⟨p, o, vs, e1, q, hd, w⟩ := hv
          exact ⟨p, vs, e1, .inr ⟨o, q, hd⟩, w⟩
        · obtain ⟨p, vs, e1, q, w⟩ := getL_ok e r hv
          exact ⟨p, vs, e1, .inl (SqL.of q), w⟩
      obtain ⟨p, vs, rfl, q, w⟩ := hq
      obtain ⟨as, kvs, rfl, hp, pk⟩ := pairsK e2 w
      refine ⟨p, as, kvs, rfl, q, hp, ?_⟩
      have pm : PK K ρ H one (ps.foldl (fun acc kv => putK acc kv.1 kv.2) []) (mergeK [] kvs) := pk.merge (fun a b h => one_inj h) .nil
      obtain ⟨vs, h1, h2⟩ := dc_k (R := fun o => HO.dK (mergeK [] kvs) = o) rfl pm
      exact (new_dct g r h2 h1).2
    · exact g.elim
  · split at g
    · rename_i e; rw [e] at hk; cases hk
    · exact g.elim
/-- dict(d): another one -/
theorem me_dictK {m : Bool} (hc : X.calm = true) (hg : Gl X "dict") (hm : X.mg "dict" = none) (ha : PE X e (tE T X.K cl gv W c)) (he : starEach [e] X.env = (false, eval e X.env) :: starEach [] X.env := by rfl) (hpl : (backTo pos (starEach [] X.env)).any (·.1) = false := by rfl) :
    PE X (.Call (.Name "dict" p) [e] [] pos) (tE T X.K cl gv W (.f1 (.dict m false) c)) :=
  me_fT (CallR.or (cr_dictP hc) call_dictD) hg hm boot_dictM ha (fun σ ρ H S d v Q r hv g => by
    cases hk : (getD S d).isSome with
    | false => exact .inl (dictP_ok r hv g hk)
    | true =>
      obtain ⟨⟨t, kvs⟩, e⟩ := Option.isSome_iff_exists.mp hk
      have hp : getP S d = none := by
        cases d with
        | fd _ _ _ => rfl
        | loc l =>
          simp only [getD] at e
          simp only [getP, getL]
          cases ho : S[l]? with
          | none => rfl
          | some u =>
            rw [ho] at e
            cases u with
            | lst _ => simp at e
            | _ => rfl
        | _ => simp [getD] at e
      unfold sF1 at g
      dsimp only at g
      rw [hp] at g
      dsimp only at g
      rw [e] at g
      dsimp only at g
      obtain ⟨p, vs, rfl, q, w⟩ := getD_ok e r hv
      by_cases ht : t = false
      · subst ht
        rcases dc_view q w with ⟨z, _⟩ | ⟨_, kws, h1, h2⟩
        · cases z
        · obtain ⟨vs', h3, h4⟩ := dc_k (R := fun o => HO.dK kws = o) rfl h2
          exact .inr ⟨p, kws, rfl, h1, (new_dct g r h4 h3).2⟩
      · rw [if_neg ht] at g
        exact g.elim) (by decide) (by decide) he hpl
theorem me_max2 {a b : Expr} {ca cb : C} (hc : X.calm = true) (hg : Gl X "max") (hm : X.mg "max" = none) (ha : PE X a (tE T X.K cl gv W ca)) (hb : PE X b (tE T X.K cl gv W cb)) (he : starEach [a, b] X.env = (false, eval a X.env) :: starEach [b] X.env := by rfl)
    (he2 : starEach [b] X.env = (false, eval b X.env) :: starEach [] X.env := by rfl) (hpl : (backTo pos (starEach [b] X.env)).any (·.1) = false := by rfl) : PE X (.Call (.Name "max" p) [a, b] [] pos) (tE T X.K cl gv W (.f2 .max2 ca cb)) :=
  PE_imp (pe_callB (call_max2 hc) hg hm boot_maxM (pa_cons ha (pa_cons hb pa_nil he2) he) (by decide) (by decide) he hpl) fun σ H Q h => tE_bin (q := fun x y H2 => ∃ i j, [x, y] = [V.int i, V.int j] ∧ Q (.int (if j > i then j else i)) H2) (f := fun x y env S => sF2 .max2 S x y) (fun _ _ => by simp only [evE]) h fun ρ S env d d' x y H1 r ee v v' g => by
    unfold sF2 at g
    split at g
    · simp only [VR] at v v'
      subst v v'
      exact ⟨_, _, rfl, g.now r (by simp only [VR])⟩
    · exact g.elim
theorem me_min2 {a b : Expr} {ca cb : C} (hc : X.calm = true) (hg : Gl X "min") (hm : X.mg "min" = none) (ha : PE X a (tE T X.K cl gv W ca)) (hb : PE X b (tE T X.K cl gv W cb)) (he : starEach [a, b] X.env = (false, eval a X.env) :: starEach [b] X.env := by rfl)
    (he2 : starEach [b] X.env = (false, eval b X.env) :: starEach [] X.env := by rfl) (hpl : (backTo pos (starEach [b] X.env)).any (·.1) = false := by rfl) : PE X (.Call (.Name "min" p) [a, b] [] pos) (tE T X.K cl gv W (.f2 .min2 ca cb)) :=
  PE_imp (pe_callB (call_min2 hc) hg hm boot_minM (pa_cons ha (pa_cons hb pa_nil he2) he) (by decide) (by decide) he hpl) fun σ H Q h => tE_bin (q := fun x y H2 => ∃ i j, [x, y] = [V.int i, V.int j] ∧ Q (.int (if j < i then j else i)) H2) (f := fun x y env S => sF2 .min2 S x y) (fun _ _ => by simp only [evE]) h fun ρ S env d d' x y H1 r ee v v' g => by
    unfold sF2 at g
    split at g
    · simp only [VR] at v v'
      subst v v'
      exact ⟨_, _, rfl, g.now r (by simp only [VR])⟩
    · exact g.elim
/-- a dict of the text, by a text -/
theorem me_gidx {b : Expr} {ci : C} {n : Nat} {ks : List (List Key)} {ds : List D} {x : Str} {A : Addr} (hd : gv n = some (.fd false ks ds)) (hg : Gl X x) (hm : X.mg x = some (.ref A)) (hs : PlainIx b)
    (hk : ∀ z d, lookK (ks.zip ds) [.inr z] = some d → ∃ v, KDct X.K X.w A z v ∧ ∀ ρ H, VR X.K ρ H d v) (hb : PE X b (tE T X.K cl gv W ci)) (hdb : (x == ("__debug__" : Str)) = false := by decide) :
    PE X (.Subscript (.Name x p) b pos) (tE T X.K cl gv W (.gidx n ci)) :=
  PE_imp (pe_ix ix_kdict (pe_glob (v := .ref A) hg hm rfl hdb) hb hs) fun σ H Q h => by
    obtain ⟨ρ, S, env, r, ee, g⟩ := tE_un (q := fun y H2 => L2.rIxD X.K X.w (.ref A) y H2 Q) (f := fun y env S => match gv n, y with
      | some (.fd false ks vs), .str z => R.opt (lookK (ks.zip vs) [.inr z]) S
      | _, _ => .stuck) (fun _ _ => by simp only [evE] <;> rfl) h fun ρ S env d y H1 r ee v g => by
        rw [hd] at g
        split at g
        · rename_i ks' vs' z e
          cases e
          obtain ⟨d, e2, g2⟩ := RG_opt g
          simp only [VR] at v
          obtain ⟨w, h1, h2⟩ := hk z d e2
          exact ⟨A, z, w, rfl, v.1, h1, g2.now r (h2 ρ H1)⟩
        · exact g.elim
    exact ⟨ρ, S, env, r, ee, g⟩
end
end Mini

namespace Mini
open PySem L2

/-- a walk of the text does what the interpreter's does -/
def WR (T : Tb) (K : PySem.W.Frag) : Rho → Hp → WD → L2.It → Prop := fun ρ H w J =>
  (∀ ρ' S' H', Ext ρ H ρ' H' → Rel T K ρ' S' H' → w.fin S' = true → J.stop w.its.length H') ∧
  (∀ ρ' S' H' i f d, Ext ρ H ρ' H' → Rel T K ρ' S' H' → w.its[i]? = some f → f S' = some d → J.go i H' ∧ ∀ x H'', J.yld i H' x H'' → Ext ρ' H' ρ' H'' ∧ Rel T K ρ' S' H'' ∧ VR K ρ' H'' d x)
abbrev tI (T : Tb) (K : PySem.W.Frag) (cl : Orc) (gv : Gv) (W : WX) (it : It) : TI := tG T K W (WR T K) (evI cl gv it)

section
variable {T : Tb} {K : PySem.W.Frag} {ρ ρ' : Rho} {H H' : Hp} {S : Sto} {E : XK}
/-- one of a library's walks over things that stay -/
theorem WR.lit {J : L2.It} {n : Nat} {G : Hp → Prop} {Y : Nat → Hp → V → Hp → Prop} {xs : List D} (w : Walk J n G Y) (hn : xs.length = n) (hG : ∀ ρ' H', Ext ρ H ρ' H' → G H')
    (hY : ∀ ρ' S' H' i x H'' d, Ext ρ H ρ' H' → Rel T K ρ' S' H' → i < n → Y i H' x H'' → xs[i]? = some d → Ext ρ' H' ρ' H'' ∧ Rel T K ρ' S' H'' ∧ VR K ρ' H'' d x) : WR T K ρ H (litW xs) J := by
  refine ⟨fun ρ' S' H' x r _ => ?_, fun ρ' S' H' i f d x r e1 e2 => ?_⟩
  · have : (litW xs).its.length = n := by simp [litW, hn]
    rw [this]
    exact w.stops H' (hG ρ' H' x)
  · simp only [litW, List.getElem?_map, Option.map_eq_some_iff] at e1
    obtain ⟨d', e3, rfl⟩ := e1
    cases e2
    have hi : i < n := by rw [← hn]; exact (List.getElem?_eq_some_iff.mp e3).1
    exact ⟨w.goes i H' hi (hG ρ' H' x), fun v H'' y => hY ρ' S' H' i v H'' d x r hi (w.yields i H' v H'' hi (hG ρ' H' x) y) e3⟩
theorem WR.list {p : Addr} {xs : List D} {vs : List V} (hG : ∀ ρ' H', Ext ρ H ρ' H' → SqL K H' p vs) (w : VRs K ρ H xs vs) : WR T K ρ H (litW xs) (Itl K p) :=
  WR.lit walk_list w.length hG fun ρ' S' H' i x H'' d e r hi y ed => by
    obtain ⟨rfl, h2⟩ := y
    obtain ⟨v, h3, h4⟩ := (VRs.mono e _ _ w).get ed
    rw [h2] at h3; cases h3
    exact ⟨Ext.refl, r, h4⟩
theorem WR.tup {p : Addr} {xs : List D} {vs : List V} (hG : SqT K H p vs) (w : VRs K ρ H xs vs) : WR T K ρ H (litW xs) (Itt K p) :=
  WR.lit walk_tup w.length (fun ρ' H' e => e.toExt0.tup hG) fun ρ' S' H' i x H'' d e r hi y ed => by
    obtain ⟨rfl, h2⟩ := y
    obtain ⟨v, h3, h4⟩ := (VRs.mono e _ _ w).get ed
    rw [h2] at h3; cases h3
    exact ⟨Ext.refl, r, h4⟩
theorem WR.str {z : Str} (hz : PyData.strOk z = true) : WR T K ρ H (litW (z.cps.toList.map fun c => .str ⟨#[c]⟩)) (Its z) :=
  WR.lit walk_str (by simp) (fun _ _ _ => trivial) fun ρ' S' H' i x H'' d e r hi y ed => by
    obtain ⟨rfl, c, h2, rfl⟩ := y
    refine ⟨Ext.refl, r, ?_⟩
    rw [List.getElem?_map, Option.map_eq_some_iff] at ed
    obtain ⟨c', h3, rfl⟩ := ed
    rw [Array.getElem?_toList, h2] at h3
    cases h3
    simp only [VR]
    exact ⟨trivial, strOk_of (l := [c]) (fun x hx => by
      simp only [List.mem_singleton] at hx; subst hx
      rw [← Array.getElem?_toList] at h2
      exact List.mem_of_getElem? h2) hz⟩
theorem WR.rng {lo hi : Int} : WR T K ρ H (litW (rngL lo hi 1)) (Itr lo (hi - lo).toNat) :=
  WR.lit walk_range (by simp [rngL]) (fun _ _ _ => trivial) fun ρ' S' H' i x H'' d e r hi y ed => by
    obtain ⟨rfl, rfl⟩ := y
    refine ⟨Ext.refl, r, ?_⟩
    simp only [rngL, List.getElem?_map, Option.map_eq_some_iff] at ed
    obtain ⟨j, h3, rfl⟩ := ed
    rw [List.getElem?_range (by simpa using hi)] at h3
    cases h3
    simp only [VR, Int.mul_one]
theorem WR.dyn {l : Nat} {p : Addr} {n : Nat} (e1 : ρ.loc[l]? = some p) : WR T K ρ H (dynW l n) (Itl K p) := by
  refine ⟨fun ρ' S' H' x r hf => ?_, fun ρ' S' H' i f d x r e2 e3 => ?_⟩
  · simp only [dynW, List.length_map, List.length_range] at hf ⊢
    split at hf
    · rename_i xs e
      simp only [decide_eq_true_eq] at hf
      obtain ⟨vs, h1, h2⟩ := r.ob l _ p e (x.pre _ _ e1)
      exact ⟨vs, SqL.of h1, by rw [← h2.length, hf]; exact Nat.le_refl _⟩
    · cases hf
  · simp only [dynW, List.getElem?_map, Option.map_eq_some_iff] at e2
    obtain ⟨j, e4, rfl⟩ := e2
    have hj : j = i := by
      obtain ⟨h1, h2⟩ := List.getElem?_eq_some_iff.mp e4
      simpa using h2.symm
    subst hj
    unfold dynAt at e3
    dsimp only at e3
    split at e3
    · rename_i xs e
      split at e3
      · obtain ⟨vs, h1, h2⟩ := r.ob l _ p e (x.pre _ _ e1)
        obtain ⟨v, h3, h4⟩ := h2.get e3
        refine ⟨⟨vs, v, SqL.of h1, h3⟩, fun y H'' hy => ?_⟩
        obtain ⟨rfl, h5⟩ := hy
        have := h5 vs (SqL.of h1)
        rw [h3] at this; cases this
        exact ⟨Ext.refl, r, h4⟩
      · cases e3
    · cases e3
end

section
variable {T : Tb} {X : Cx} {cl : Orc} {gv : Gv} {W : WX} {tg e : Expr} {c : C}
theorem PI_imp {t t' : TI} (h : PI X tg e t) (i : ∀ σ H Q, t' σ H Q → t σ H Q) : PI X tg e t' := ⟨fun pins s σ H Q I q => h.run pins s σ H Q I (i σ H Q q)⟩
theorem PI_or {t t' : TI} (h : PI X tg e t) (h' : PI X tg e t') : PI X tg e (fun σ H Q => t σ H Q ∨ t' σ H Q) := ⟨fun pins s σ H Q I q => by
  rcases q with q | q
  · exact h.run pins s σ H Q I q
  · exact h'.run pins s σ H Q I q⟩
theorem mi_seq (he : PE X e (tE T X.K cl gv W c)) : PI X tg e (tI T X.K cl gv W (.seq c)) :=
  PI_imp (PI_or (pi_list he) (PI_or (pi_tup he) (pi_str he))) fun σ H Q h => by
    obtain ⟨ρ, S, env, r, ee, g⟩ := h
    simp only [evI] at g
    cases he : evE cl gv c env S with
    | stuck => rw [he] at g; exact g.elim
    | exc c S1 => rw [he] at g; exact .inl ⟨ρ, S, env, r, ee, by rw [he]; exact g⟩
    | ok d S1 =>
      rw [he] at g
      simp only [R.bind_ok] at g
      obtain ⟨w, hw, g⟩ := RG_opt g
      have lft : (∀ ρ' H' x, Ext ρ H ρ' H' → Rel T X.K ρ' S1 H' → VR X.K ρ' H' d x → ∃ a, x = V.ref a ∧ (∃ xs, SqL X.K H' a xs) ∧ WR T X.K ρ' H' w (Itl X.K a)) → iList X.K (tE T X.K cl gv W c) σ H Q := fun k => by
        refine ⟨ρ, S, env, r, ee, ?_⟩
        rw [he]
        intro ρ' H' x x1 r1 v
        obtain ⟨a, e1, e2, e3⟩ := k ρ' H' x x1 r1 v
        exact ⟨a, e1, e2, g ρ' H' _ x1 r1 e3⟩
      have rgt : (∀ ρ' H' x, Ext ρ H ρ' H' → Rel T X.K ρ' S1 H' → VR X.K ρ' H' d x → ∃ a, x = V.ref a ∧ (∃ xs, SqT X.K H' a xs) ∧ WR T X.K ρ' H' w (Itt X.K a)) → iTup X.K (tE T X.K cl gv W c) σ H Q := fun k => by
        refine ⟨ρ, S, env, r, ee, ?_⟩
        rw [he]
        intro ρ' H' x x1 r1 v
        obtain ⟨a, e1, e2, e3⟩ := k ρ' H' x x1 r1 v
        exact ⟨a, e1, e2, g ρ' H' _ x1 r1 e3⟩
      have tupc : ∀ xs, isTup d = true → getS S1 d = some xs → w = litW xs → iTup X.K (tE T X.K cl gv W c) σ H Q := fun xs h1 h2 h3 => by
        refine rgt fun ρ' H' x x1 r1 v => ?_
        obtain ⟨p, vs, e1, q, w1⟩ := getT_ok h1 h2 v
        rw [h3]
        exact ⟨p, e1, ⟨vs, q⟩, WR.tup q w1⟩
      cases d with
      | str z =>
        simp only [walkOf, Option.some.injEq] at hw
        subst hw
        refine .inr (.inr ⟨ρ, S, env, r, ee, ?_⟩)
        rw [he]
        intro ρ' H' x x1 r1 v
        simp only [VR] at v
        exact ⟨z, v.1, g ρ' H' _ x1 r1 (WR.str v.2)⟩
      | loc l =>
        simp only [walkOf] at hw
        cases ho : S1[l]? with
        | none => rw [ho] at hw; cases hw
        | some u =>
          rw [ho] at hw
          cases u with
          | lst xs =>
            simp only [Option.some.injEq] at hw
            subst hw
            refine .inl (lft fun ρ' H' x x1 r1 v => ?_)
            obtain ⟨p, vs, e1, e2, h1, _⟩ := lst_at ho r1 v
            exact ⟨p, e1, ⟨vs, SqL.of h1⟩, WR.dyn e2⟩
          | _ => simp at hw
      | fl xs =>
        simp only [walkOf, getS, Option.map_some, Option.some.injEq] at hw
        subst hw
        refine .inl (lft fun ρ' H' x x1 r1 v => ?_)
        simp only [VR] at v
        obtain ⟨p, vs, e1, n, q, w1⟩ := v
        exact ⟨p, e1, ⟨vs, SqL.of q⟩, WR.list (fun ρ2 H2 x2 => SqL.of (x2.kp p _ q (.inl n))) w1⟩
      | scr ns =>
        simp only [walkOf, getS, Option.map_some, Option.some.injEq] at hw
        subst hw
        refine .inl (lft fun ρ' H' x x1 r1 v => ?_)
        simp only [VR] at v
        obtain ⟨p, e1, q⟩ := v
        rcases q with ⟨n, q⟩ | q
        · exact ⟨p, e1, ⟨_, .inl q⟩, WR.list (fun ρ2 H2 x2 => .inl (x2.toExt0.rd q n).1) (VRs.ints ns)⟩
        · exact ⟨p, e1, ⟨_, q H'⟩, WR.list (fun ρ2 H2 x2 => q H2) (VRs.ints ns)⟩
      | tup xs => simp only [walkOf, getS, Option.map_some, Option.some.injEq] at hw; exact .inr (.inl (tupc xs rfl rfl hw.symm))
      | ztup xs => simp only [walkOf, getS, Option.map_some, Option.some.injEq] at hw; exact .inr (.inl (tupc xs rfl rfl hw.symm))
      | ktup xs => simp only [walkOf, getS, Option.map_some, Option.some.injEq] at hw; exact .inr (.inl (tupc xs rfl rfl hw.symm))
      | _ => simp [walkOf, getS] at hw
theorem mi_rng1 {p pos : Pos} (hg : Gl X "range") (hm : X.mg "range" = none) (he : PE X e (tE T X.K cl gv W c)) (hs : starEach [e] X.env = [(false, eval e X.env)] := by rfl) : PI X tg (.Call (.Name "range" p) [e] [] pos) (tI T X.K cl gv W (.rng1 c)) :=
  PI_imp (pi_range1 hg hm (pa_cons he pa_nil hs) hs) fun σ H Q h => by
    obtain ⟨ρ, S, env, r, ee, g⟩ := h
    simp only [evI] at g
    refine ⟨ρ, S, env, r, ee, (RG.bind (V := VD X.K) g).imp fun x H1 ⟨ρ1, S1, d, x1, r1, v, g1⟩ => ?_⟩
    split at g1
    · rename_i n
      split at g1
      · rename_i ho
        simp only [okR, Bool.and_eq_true, decide_eq_true_eq] at ho
        simp only [VR] at v
        subst v
        refine ⟨n, rfl, by omega, by omega, g1.now r1 ?_⟩
        have := WR.rng (T := T) (K := X.K) (ρ := ρ1) (H := H1) (lo := 0) (hi := n)
        rw [Int.sub_zero] at this
        exact this
      · exact g1.elim
    · exact g1.elim
theorem mi_rng2 {a b : Expr} {ca cb : C} {p pos : Pos} (hg : Gl X "range") (hm : X.mg "range" = none) (ha : PE X a (tE T X.K cl gv W ca)) (hb : PE X b (tE T X.K cl gv W cb)) (hs : starEach [a, b] X.env = [(false, eval a X.env), (false, eval b X.env)] := by rfl) (hs2 : starEach [b] X.env = [(false, eval b X.env)] := by rfl) :
    PI X tg (.Call (.Name "range" p) [a, b] [] pos) (tI T X.K cl gv W (.rng2 ca cb)) :=
  PI_imp (pi_range2 hg hm (pa_cons ha (pa_cons hb pa_nil hs2) (by rw [hs, hs2])) hs hs2) fun σ H Q h => by
    obtain ⟨ρ, S, env, r, ee, g⟩ := h
    simp only [evI] at g
    refine ⟨ρ, S, env, r, ee, (RG.bind (V := VD X.K) g).imp fun x H1 ⟨ρ1, S1, d, x1, r1, v, g1⟩ => ?_⟩
    refine ⟨ρ1, S1, env, r1, ee.mono x1, (RG.bind (V := VD X.K) g1).imp fun y H2 ⟨ρ2, S2, d2, x2, r2, v2, g2⟩ => ?_⟩
    have v' := VR.mono x2 _ _ v
    split at g2
    · rename_i i j
      split at g2
      · rename_i ho
        simp only [okR, Bool.and_eq_true, decide_eq_true_eq] at ho
        simp only [VR] at v' v2
        subst v' v2
        exact ⟨_, _, rfl, by omega, g2.now r2 WR.rng⟩
      · exact g2.elim
    · exact g2.elim
end
end Mini

namespace Mini
open PySem L2

/-! ### targets of walks: a name, or names -/
def wipeEv : Ev → List Nat → Ev := wipeE
section
variable {K : PySem.W.Frag} {ρ : Rho} {H : Hp}
/-- g takes what setTg takes -/
def SetOk (K : PySem.W.Frag) (tg : List Nat) (g : TG) : Prop := ∀ (ρ : Rho) (H : Hp) (env env' : Ev) (σ : St) (d : D) (v : V) (Q : St → Hp → Prop), EvR K ρ H env σ → VR K ρ H d v → setTg tg d env = some env' →
  (∀ σ', EvR K ρ H env' σ' → wipe σ' tg = wipe σ tg → Q σ' H) → g v σ H Q
theorem wipe_set1 (σ : St) (i : Nat) (v : Option V) : wipe (σ.set i v) [i] = wipe σ [i] := by simp [wipe]
theorem set_name {i : Nat} : SetOk K [i] (gName i) := fun ρ H env env' σ d v Q ee hv e k => by
  simp only [setTg, Option.some.injEq] at e
  subst e
  exact k _ (ee.set i hv) (wipe_set1 σ i _)
theorem set_pair {i j : Nat} (hij : i ≠ j) : SetOk K [i, j] (gTup K 2 (gCons (gName i) (gCons (gName j) gNil))) := fun ρ H env env' σ d v Q ee hv e k => by
  unfold setTg at e
  split at e
  · rename_i h; cases h
  · split at e
    · rename_i xs
      split at e
      · rename_i hl
        simp only [List.length_cons, List.length_nil] at hl
        match xs, hl with
        | [x, y], _ =>
          simp only [VR, VRs] at hv
          obtain ⟨p, vs, rfl, hp, v1, r1, rfl, h1, v2, r2, rfl, h2, rfl⟩ := hv
          simp only [List.zip_cons_cons, List.zip_nil_right, List.foldl, Option.some.injEq] at e
          subst e
          refine ⟨p, _, rfl, SqT.of hp, rfl, v1, [v2], rfl, v2, [], rfl, rfl, k _ ((ee.set i h1).set j h2) ?_⟩
          simp only [wipe]
          apply List.ext_getElem?
          intro n
          simp only [List.getElem?_set]
          by_cases hi : i = n
          · subst hi; simp
          · by_cases hj : j = n
            · subst hj; simp [hi]
            · simp [hi, hj]
      · cases e
    · cases e
theorem wipe_len (σ : St) : ∀ vs : List Nat, (wipe σ vs).length = σ.length := wipe_length σ
theorem EvR.wipe {env : Ev} {σ : St} (h : EvR K ρ H env σ) : ∀ tg : List Nat, EvR K ρ H (wipeE env tg) (wipe σ tg)
  | [] => h
  | i :: is => by
    obtain ⟨h1, h2⟩ := EvR.wipe h is
    refine ⟨by simp [wipeE, L2.wipe, h1], fun j d e => ?_⟩
    simp only [wipeE, List.getElem?_set] at e
    simp only [L2.wipe, List.getElem?_set]
    by_cases hij : i = j
    · subst hij
      simp only [if_true] at e
      split at e <;> cases e
    · simp only [if_neg hij] at e ⊢
      exact h2 j d e
end

theorem wipe_get {σ : St} : ∀ {vs : List Nat} {j : Nat}, (wipe σ vs)[j]? = if j ∈ vs ∧ j < σ.length then some none else σ[j]?
  | [], j => by simp [wipe]
  | v :: vs, j => by
    simp only [L2.wipe, List.getElem?_set, wipe_length, List.mem_cons]
    by_cases h : v = j
    · subst h
      by_cases h2 : v < σ.length
      · simp [h2]
      · simp [h2]
    · have h' : ¬ j = v := fun e => h e.symm
      simp only [h, h', if_false, false_or, wipe_get]
theorem wipe_wipe (σ : St) (vs : List Nat) : wipe (wipe σ vs) vs = wipe σ vs := by
  apply List.ext_getElem?
  intro j
  rw [wipe_get, wipe_get, wipe_length]
  split
  · rfl
  · rfl
def W0 : WX := fun _ _ _ _ => False
section
variable {T : Tb} {X : Cx} {cl : Orc} {gv : Gv} {W : WX}
/-- a hidden thing that one may write: no part of a walk of the text touches it -/
structure Hid (ρ : Rho) (H : Hp) (p : Addr) (o : HO) : Prop where
  mem : p ∈ ρ.hid
  at_ : H p = some o
theorem Hid.ext {ρ ρ' : Rho} {H H' : Hp} {p : Addr} {o : HO} (h : Hid ρ H p o) (x : Ext ρ H ρ' H') : Hid ρ' H' p o := ⟨x.hup p h.mem, (x.hk p h.mem).trans h.at_⟩
/-- the turns of a comprehension -/
theorem lc_turns {K : PySem.W.Frag} {cond : Co} {c : C} {tg : List Nat} {g : TG} {m : Bool} {σ : St} {H1 : Hp} {D : Addr} {Q : VK} {J : L2.It} {env : Ev} {ρ : Rho} {S : Sto} {w : WD}
    (hset : SetOk K tg g) (hw : WR T K ρ H1 w J) (r : Rel T K ρ S H1) (ee : EvR K ρ H1 env σ) (hD : H1 D = none)
    (gg : RG T K (VD K) ρ H1 ((lcLoop (fun env S => evC cl gv cond env S) (fun env S => evE cl gv c env S) tg (wipeE env tg) w.fin w.its [] S).bind fun ys S => newL m ys S) Q (WE W σ)) :
    ∃ Wm : Nat → Nat → Hp → Prop, (∃ k, Wm 0 k (upd H1 D (.lst []))) ∧ ∀ i k H, Wm i k H →
      (J.stop i H ∧ Q (.ref D) H) ∨ (J.go i H ∧ ∃ Nx : Hp → Prop, (∀ H', Nx H' → ∃ k', k' < k ∧ Wm (i + 1) k' H') ∧ ∀ x H', J.yld i H x H' → g x (wipe σ tg) H' fun σ2 H2 => wipe σ2 tg = wipe σ tg ∧ tC T K cl gv W0 cond σ2 H2 fun b H3 =>
        if b = true then tE T K cl gv W0 c σ2 H3 fun y H4 => ∃ acc, H4 D = some (.lst acc) ∧ acc.length < sizeLine ∧ Nx (upd H4 D (.lst (acc ++ [y]))) else Nx H3) := by
  -- where we stand: i turns are done
  let P : Nat → Hp → Prop := fun i H => ∃ ρ2 S2 acc vs, Ext ρ H1 ρ2 H ∧ Rel T K ρ2 S2 H ∧ D ∈ ρ2.hid ∧ H D = some (.lst vs) ∧ VRs K ρ2 H acc vs ∧ acc.length ≤ LIM ∧
    RG T K (VD K) ρ H1 ((lcLoop (fun env S => evC cl gv cond env S) (fun env S => evE cl gv c env S) tg (wipeE env tg) w.fin (w.its.drop i) acc S2).bind fun ys S => newL m ys S) Q (WE W σ)
  refine ⟨fun i k H => k = w.its.length - i ∧ i ≤ w.its.length ∧ P i H, ⟨w.its.length, by simp, Nat.zero_le _, ?_⟩, ?_⟩
  · refine ⟨⟨ρ.loc, D :: ρ.hid⟩, S, [], [], ⟨⟨fun _ _ e => e, fun p m => ?_, fun p o e _ => by rw [upd_ne (ne_of_none e hD)]; exact e⟩, fun _ m => .inl m, fun p m => List.mem_cons_of_mem _ m, fun p m => ?_⟩, ⟨r.len, r.nd, fun p m => ?_, fun l o p e1 e2 => ?_⟩, List.mem_cons_self, upd_same, VRs.nil, Nat.zero_le _, gg⟩
    · rcases m with m | m
      · exact .inl (.inl m)
      · rcases List.mem_cons.mp m with rfl | m
        · exact .inr hD
        · exact .inl (.inr m)
    · have hx : p ≠ D := by rintro rfl; exact (r.hd p m).2 hD
      exact upd_ne hx
    · rcases List.mem_cons.mp m with rfl | m
      · refine ⟨fun z => r.fresh hD (.inl z), by rw [upd_same]; simp⟩
      · have m' : p ∈ ρ.hid := m
        have hx : p ≠ D := by rintro rfl; exact (r.hd p m').2 hD
        exact ⟨(r.hd p m').1, by rw [upd_ne hx]; exact (r.hd p m').2⟩
    · refine (r.ob l o p e1 e2).mono0 ⟨fun _ _ e => e, fun p m => ?_, fun p o e _ => by rw [upd_ne (ne_of_none e hD)]; exact e⟩ fun u e => by rw [upd_ne (ne_of_none e hD)]; exact e
      rcases m with m | m
      · exact .inl (.inl m)
      · rcases List.mem_cons.mp m with rfl | m
        · exact .inr hD
        · exact .inl (.inr m)
  · rintro i k H ⟨rfl, hi, ρ2, S2, acc, vs, x2, r2, hm, hd, wv, hl, g2⟩
    cases hrest : w.its.drop i with
    | nil =>
      have hlen : w.its.length ≤ i := by
        have := congrArg List.length hrest
        simp at this; omega
      have ei : i = w.its.length := by omega
      rw [hrest] at g2
      simp only [lcLoop] at g2
      split at g2
      · rename_i hf
        rw [R.bind_ok] at g2
        refine .inl ⟨by rw [ei]; exact hw.1 ρ2 S2 H x2 r2 hf, ?_⟩
        unfold newL at g2
        rw [if_pos hl] at g2
        -- the list is a thing of its own from now on
        have xa : Ext0 ρ2 H ⟨ρ2.loc, ρ.hid⟩ H := ⟨fun _ _ e => e, fun p mp => by
          rcases mp with mp | mp
          · exact .inl (.inl mp)
          · exact .inl (.inr (x2.hup p mp)), fun _ _ e _ => e⟩
        have r3 : Rel T K ⟨ρ2.loc, ρ.hid⟩ S2 H := ⟨r2.len, r2.nd, fun p mp => r2.hd p (x2.hup p mp), fun l o p e1 e2 => (show OR T K ρ2 H p o from r2.ob l o p e1 e2).mono0 xa fun _ e => e⟩
        have x3 : Ext ρ H1 ⟨ρ2.loc, ρ.hid⟩ H := ⟨⟨x2.pre, fun p mp => by
          rcases mp with mp | mp
          · exact x2.new p (.inl mp)
          · exact .inl (.inr mp), x2.kp⟩, x2.newL, fun _ mp => mp, x2.hk⟩
        have hDl : D ∉ ρ2.loc := (r2.hd D hm).1
        have hDh : D ∉ ρ.hid := fun z => (r.hd D z).2 hD
        cases m with
        | false =>
          rw [if_neg (by simp)] at g2
          refine g2 _ H _ x3 r3 ?_
          show VR K _ _ _ _
          simp only [VR]
          refine ⟨D, vs, rfl, ?_, hd, VRs.mono0 xa _ _ wv⟩
          rintro (z | z)
          · exact hDl z
          · exact hDh z
        | true =>
          rw [if_pos rfl] at g2
          have xb : Ext0 ρ2 H ⟨ρ2.loc ++ [D], ρ.hid⟩ H := ⟨fun l p e => by
            show (ρ2.loc ++ [D])[l]? = some p
            rw [List.getElem?_append_left (List.getElem?_eq_some_iff.mp e).1]; exact e, fun p mp => by
            rcases mp with mp | mp
            · rcases List.mem_append.mp mp with mp | mp
              · exact .inl (.inl mp)
              · simp at mp; subst mp; exact .inl (.inr hm)
            · exact .inl (.inr (x2.hup p mp)), fun _ _ e _ => e⟩
          have r4 : Rel T K ⟨ρ2.loc ++ [D], ρ.hid⟩ (S2 ++ [.lst acc]) H := by
            refine ⟨by simp [r2.len], List.nodup_append.mpr ⟨r2.nd, by simp, fun a ha b hb => ?_⟩, fun p mp => ⟨fun z => ?_, (r3.hd p mp).2⟩, fun l o p e1 e2 => ?_⟩
            · simp at hb; subst hb
              rintro rfl
              exact hDl ha
            · rcases List.mem_append.mp z with z | z
              · exact (r3.hd p mp).1 z
              · simp at z; subst z; exact hDh mp
            · have e2 : (ρ2.loc ++ [D])[l]? = some p := e2
              by_cases hl : l < S2.length
              · rw [List.getElem?_append_left hl] at e1
                rw [List.getElem?_append_left (by rw [r2.len]; exact hl)] at e2
                exact (show OR T K ρ2 H p o from r2.ob l o p e1 e2).mono0 xb fun _ e => e
              · rw [List.getElem?_append_right (by omega)] at e1
                rw [List.getElem?_append_right (by rw [r2.len]; omega), r2.len] at e2
                cases hk : l - S2.length with
                | zero => rw [hk] at e1 e2; simp at e1 e2; subst e1; subst e2; exact ⟨vs, hd, VRs.mono0 xb _ _ wv⟩
                | succ n => rw [hk] at e1; simp at e1
          have x4 : Ext ρ H1 ⟨ρ2.loc ++ [D], ρ.hid⟩ H := ⟨⟨fun l p e => xb.pre l p (x2.pre l p e), fun p mp => by
            rcases mp with mp | mp
            · rcases List.mem_append.mp mp with mp | mp
              · exact x2.new p (.inl mp)
              · simp at mp; subst mp; exact .inr hD
            · exact .inl (.inr mp), x2.kp⟩, fun p mp => by
            rcases List.mem_append.mp mp with mp | mp
            · exact x2.newL p mp
            · simp at mp; subst mp; exact .inr hD, fun _ mp => mp, x2.hk⟩
          refine g2 _ H _ x4 r4 ?_
          show VR K _ _ _ _
          simp only [VR]
          exact ⟨D, by
            show (ρ2.loc ++ [D])[S2.length]? = some D
            rw [← r2.len]; simp, rfl⟩
      · exact g2.elim
    | cons f rest =>
      have hlt : i < w.its.length := by
        have := congrArg List.length hrest
        simp at this; omega
      have ef : w.its[i]? = some f := by
        have := congrArg (fun l => l[0]?) hrest
        simpa using this
      have er : w.its.drop (i + 1) = rest := by
        have := congrArg (List.drop 1) hrest
        simpa [Nat.add_comm] using this
      rw [hrest] at g2
      unfold lcLoop at g2
      split at g2
      · exact g2.elim
      · rename_i d ed
        split at g2
        · exact g2.elim
        · rename_i env' es
          obtain ⟨go, yl⟩ := hw.2 ρ2 S2 H i f d x2 r2 ef ed
          refine .inr ⟨go, P (i + 1), fun H' p' => ⟨w.its.length - (i + 1), by omega, rfl, hlt, p'⟩, fun x H' hy => ?_⟩
          obtain ⟨xy, ry, vy⟩ := yl x H' hy
          refine hset ρ2 H' (wipeE env tg) env' (wipe σ tg) d x _ ((ee.mono (x2.trans xy)).wipe tg) vy es fun σ' ee' hwp => ⟨hwp.trans (wipe_wipe σ tg), ?_⟩
          cases hc : evC cl gv cond env' S2 with
          | exc c S3 => rw [hc] at g2; exact g2.elim
          | stuck => rw [hc] at g2; exact g2.elim
          | ok k S3 =>
            rw [hc, R.noExc_ok, R.bind_ok] at g2
            refine ⟨ρ2, S2, env', ry, ee', ?_⟩
            rw [hc]
            intro ρ3 H3 b x3 r3 v3
            cases (show k = b from v3)
            have hd3 : H3 D = some (.lst vs) := by rw [x3.hk D (xy.hup D hm), xy.hk D hm]; exact hd
            have hm3 : D ∈ ρ3.hid := x3.hup D (xy.hup D hm)
            cases k with
            | false =>
              rw [if_neg (by simp)] at g2 ⊢
              exact ⟨ρ3, S3, acc, vs, (x2.trans xy).trans x3, r3, hm3, hd3, VRs.mono (xy.trans x3) _ _ wv, hl, by rw [er]; exact g2⟩
            | true =>
              rw [if_pos rfl] at g2 ⊢
              cases he : evE cl gv c env' S3 with
              | exc c S4 => rw [he] at g2; exact g2.elim
              | stuck => rw [he] at g2; exact g2.elim
              | ok y S4 =>
                rw [he, R.noExc_ok, R.bind_ok] at g2
                split at g2
                · rename_i hal
                  refine ⟨ρ3, S3, env', r3, ee'.mono x3, ?_⟩
                  rw [he]
                  intro ρ4 H4 b x4 r4 v4
                  have hd4 : H4 D = some (.lst vs) := by rw [x4.hk D hm3]; exact hd3
                  have hm4 : D ∈ ρ4.hid := x4.hup D hm3
                  have xall := ((x2.trans xy).trans x3).trans x4
                  have w4 : VRs K ρ4 H4 (acc ++ [y]) (vs ++ [b]) := (VRs.mono ((xy.trans x3).trans x4) _ _ wv).append (VRs.cons v4 VRs.nil)
                  have x5 : Ext ρ H1 ρ4 (upd H4 D (.lst (vs ++ [b]))) := ⟨⟨xall.pre, xall.new, fun p o e n => by
                    rw [upd_ne (ne_of_none e hD)]; exact xall.kp p o e n⟩, xall.newL, xall.hup, fun p mp => by
                    have hx : p ≠ D := by rintro rfl; exact (r.hd p mp).2 hD
                    rw [upd_ne hx]; exact xall.hk p mp⟩
                  refine ⟨vs, hd4, ?_, ρ4, S4, acc ++ [y], vs ++ [b], x5, r4.hidden hm4 hd4 trivial, hm4, upd_same, VRs.mono0 (Ext0.hidden hm4 hd4 trivial) _ _ w4, ?_, by rw [er]; exact g2⟩
                  · rw [← wv.length, sizeLine_eq]; unfold LIM at hal; omega
                  · rw [List.length_append, List.length_singleton]; omega
                · exact g2.elim
end
end Mini

namespace Mini
open PySem L2

section
variable {T : Tb} {X : Cx} {cl : Orc} {gv : Gv} {W : WX}
theorem tLc_of {it : It} {cond : Co} {c : C} {tg : List Nat} {g : TG} {m : Bool} {σ : St} {H : Hp} {Q : VK} (hset : SetOk X.K tg g) (h : tE T X.K cl gv W (.comp m c tg it cond) σ H Q) :
    tLc (tI T X.K cl gv W it) g (tC T X.K cl gv W0 cond) (tE T X.K cl gv W0 c) tg σ H Q := by
  obtain ⟨ρ, S, env, r, ee, g⟩ := h
  simp only [evE] at g
  exact ⟨ρ, S, env, r, ee, (RG.bind (V := WR T X.K) g).imp fun J H1 ⟨ρ1, S1, w, x1, r1, hw, g1⟩ D hD => lc_turns hset hw r1 (ee.mono x1) hD g1⟩
section
variable {it : It} {cond : Co} {c : C} {tg : List Nat} {g : TG} {m : Bool} {elt tgx iter : Expr} {ifs : List Expr} {scope : Scope} {own : List (Str × Nat)} {pos : Pos}
theorem me_comp (hc : X.calm = true) (hN : X.N.Nodup) (hset : SetOk X.K tg g) (hown : own.map (·.2) = tg) (ok : BlkOk X.N X.env.scope scope own) (hi : PI X tgx iter (tI T X.K cl gv W it))
    (hg : ∀ (s : Shared) (H : Hp) (C : Addr) (cl : List (Str × Addr)) (fp : List Addr), PG (X.blk s H scope (compEnvC scope cl C X.env) fp) tgx g)
    (ht : ∀ (s : Shared) (H : Hp) (C : Addr) (cl' : List (Str × Addr)) (fp : List Addr), PTs (X.blk s H scope (compEnvC scope cl' C X.env) fp) ifs (tC T X.K cl gv W0 cond))
    (he : ∀ (s : Shared) (H : Hp) (C : Addr) (cl' : List (Str × Addr)) (fp : List Addr), PE (X.blk s H scope (compEnvC scope cl' C X.env) fp) elt (tE T X.K cl gv W0 c)) (hs : ∀ x, foldedSetIterable iter X.env x = pure x := by intro _; rfl) :
    PE X (.ListComp elt [⟨tgx, iter, ifs, 0⟩] scope pos) (tE T X.K cl gv W (.comp m c tg it cond)) :=
  PE_imp (pe_lc hc hN hi ok hg ht he hs) fun σ H Q h => by rw [hown]; exact tLc_of hset h
end

/-! ### statements -/
/-- an outcome as a wish -/
def OG (T : Tb) (K : PySem.W.Frag) (W : WX) (D : Ends) (ρ : Rho) (H : Hp) (o : Out) : Prop :=
  match o with
  | .next env S => ∀ ρ' H' σ', Ext ρ H ρ' H' → Rel T K ρ' S H' → EvR K ρ' H' env σ' → D.nx σ' H'
  | .ret d S => ∀ ρ' H' v, Ext ρ H ρ' H' → Rel T K ρ' S H' → VR K ρ' H' d v → D.rt v H'
  | .brk env S => ∀ ρ' H' σ', Ext ρ H ρ' H' → Rel T K ρ' S H' → EvR K ρ' H' env σ' → D.bk σ' H'
  | .cnt env S => ∀ ρ' H' σ', Ext ρ H ρ' H' → Rel T K ρ' S H' → EvR K ρ' H' env σ' → D.ct σ' H'
  | .exc c env S => ∀ ρ' H' σ' C, Ext ρ H ρ' H' → Rel T K ρ' S H' → EvR K ρ' H' env σ' → T.excA c = some C → W (.ref C) none σ' H'
  | .stuck => False
/-- a statement does what the interpreter does -/
def tS (T : Tb) (K : PySem.W.Frag) (W : WX) (run : Ev → Sto → Out) : TS := fun D σ H => ∃ ρ S env, Rel T K ρ S H ∧ EvR K ρ H env σ ∧ OG T K W D ρ H (run env S)

section
variable {K : PySem.W.Frag} {D D' : Ends} {ρ ρ' : Rho} {H H' : Hp} {o : Out}
theorem OG.weak (h : OG T K W D ρ H o) (x : Ext ρ H ρ' H') : OG T K W D ρ' H' o := by
  cases o with
  | next env S => exact fun ρ2 H2 σ e r v => h ρ2 H2 σ (x.trans e) r v
  | ret d S => exact fun ρ2 H2 σ e r v => h ρ2 H2 σ (x.trans e) r v
  | brk env S => exact fun ρ2 H2 σ e r v => h ρ2 H2 σ (x.trans e) r v
  | cnt env S => exact fun ρ2 H2 σ e r v => h ρ2 H2 σ (x.trans e) r v
  | exc c env S => exact fun ρ2 H2 σ C e r v => h ρ2 H2 σ C (x.trans e) r v
  | stuck => exact h
theorem OG.seq {k : Ev → Sto → Out} (h : OG T K W D ρ H (o.seq k)) : OG T K W { D with nx := fun σ H => ∃ ρ S env, Rel T K ρ S H ∧ EvR K ρ H env σ ∧ OG T K W D ρ H (k env S) } ρ H o := by
  cases o with
  | next env S => exact fun ρ2 H2 σ e r v => ⟨ρ2, S, env, r, v, h.weak e⟩
  | ret d S => exact h
  | brk env S => exact h
  | cnt env S => exact h
  | exc c env S => exact h
  | stuck => exact h
theorem OG.turn {k : Ev → Sto → Out} (h : OG T K W D ρ H (o.turn k)) : OG T K W { D with nx := fun σ H => ∃ ρ S env, Rel T K ρ S H ∧ EvR K ρ H env σ ∧ OG T K W D ρ H (k env S), ct := fun σ H => ∃ ρ S env, Rel T K ρ S H ∧ EvR K ρ H env σ ∧ OG T K W D ρ H (k env S), bk := D.nx } ρ H o := by
  cases o with
  | next env S => exact fun ρ2 H2 σ e r v => ⟨ρ2, S, env, r, v, h.weak e⟩
  | ret d S => exact h
  | brk env S => exact h
  | cnt env S => exact fun ρ2 H2 σ e r v => ⟨ρ2, S, env, r, v, h.weak e⟩
  | exc c env S => exact h
  | stuck => exact h
theorem OG.out {α β : Type} {V : Rho → Hp → α → β → Prop} {r : R α} {env : Ev} {σ : St} {k : α → Sto → Out} (ee : EvR K ρ H env σ) (h : OG T K W D ρ H (r.out env k)) :
    RG T K V ρ H r (fun b H1 => ∃ ρ1 S1 a, Ext ρ H ρ1 H1 ∧ Rel T K ρ1 S1 H1 ∧ V ρ1 H1 a b ∧ OG T K W D ρ1 H1 (k a S1)) (WE W σ) := by
  cases r with
  | ok a S => exact fun ρ2 H2 b e r v => ⟨ρ2, S, a, e, r, v, h.weak e⟩
  | exc c S => exact fun ρ2 H2 C e r v => h ρ2 H2 σ C e r (ee.mono e) v
  | stuck => exact h
end
theorem PS_imp {s : Stmt} {t t' : TS} (h : PS X s t) (i : ∀ D σ H, t' D σ H → t D σ H) : PS X s t' := ⟨fun pins s σ H Q I q => h.run pins s σ H Q I (i Q σ H q)⟩
theorem PSs_imp {s : List Stmt} {t t' : TS} (h : PSs X s t) (i : ∀ D σ H, t' D σ H → t D σ H) : PSs X s t' := ⟨fun pins s σ H Q I q => h.run pins s σ H Q I (i Q σ H q)⟩
theorem tS_E {c : C} {run : Ev → Sto → Out} {k : D → Ev → Sto → Out} {D : Ends} {σ : St} {H : Hp} {Q : VK} (e : ∀ env S, run env S = (evE cl gv c env S).out env fun d S => k d env S) (h : tS T X.K W run D σ H)
    (q : ∀ ρ S env d x H1, Rel T X.K ρ S H1 → EvR X.K ρ H1 env σ → VR X.K ρ H1 d x → OG T X.K W D ρ H1 (k d env S) → Q x H1) : tE T X.K cl gv W c σ H Q := by
  obtain ⟨ρ, S, env, r, ee, g⟩ := h
  rw [e] at g
  exact ⟨ρ, S, env, r, ee, (g.out (V := VD X.K) ee).imp fun x H1 ⟨ρ1, S1, d, x1, r1, v, g1⟩ => q ρ1 S1 env d x H1 r1 (ee.mono x1) v g1⟩
section
variable {e : Expr} {c : C} {pos : Pos}
theorem mss_nil : PSs X [] (tS T X.K W (exSs cl gv .nil)) := PSs_imp pss_nil fun D σ H ⟨ρ, S, env, r, ee, g⟩ => by
  simp only [exSs] at g
  exact g ρ H σ Ext.refl r ee
theorem mss_cons {st : Stmt} {rest : List Stmt} {s : CS} {ss : CSs} (h1 : PS X st (tS T X.K W (exS cl gv s))) (h2 : PSs X rest (tS T X.K W (exSs cl gv ss))) : PSs X (st :: rest) (tS T X.K W (exSs cl gv (.cons s ss))) :=
  PSs_imp (pss_cons h1 h2) fun D σ H ⟨ρ, S, env, r, ee, g⟩ => by
    simp only [exSs] at g
    exact ⟨ρ, S, env, r, ee, g.seq⟩
theorem ms_expr (he : PE X e (tE T X.K cl gv W c)) (hs : swapsWith e none pos.line X.env = pure false := by rfl) : PS X (.Expr e pos) (tS T X.K W (exS cl gv (.expr c))) :=
  PS_imp (ps_expr he hs) fun D σ H h => tS_E (k := fun _ env S => .next env S) (fun _ _ => by simp only [exS]) h fun ρ S env d x H1 r ee v g => g ρ H1 σ Ext.refl r ee
theorem ms_ret (he : PE X e (tE T X.K cl gv W c)) : PS X (.Return (some e) pos) (tS T X.K W (exS cl gv (.ret c))) :=
  PS_imp (ps_ret he) fun D σ H h => tS_E (k := fun d env S => .ret d S) (fun _ _ => by simp only [exS]) h fun ρ S env d x H1 r ee v g => g ρ H1 x Ext.refl r v
theorem ms_retN : PS X (.Return none pos) (tS T X.K W (exS cl gv .retN)) := PS_imp ps_retN fun D σ H ⟨ρ, S, env, r, ee, g⟩ => by
  simp only [exS] at g
  exact g ρ H .non Ext.refl r (by simp only [VR])
theorem ms_pass : PS X (.Pass pos) (tS T X.K W (exS cl gv .pass)) := PS_imp ps_pass fun D σ H ⟨ρ, S, env, r, ee, g⟩ => by
  simp only [exS] at g
  exact g ρ H σ Ext.refl r ee
theorem ms_brk : PS X (.Break pos) (tS T X.K W (exS cl gv .brk)) := PS_imp ps_break fun D σ H ⟨ρ, S, env, r, ee, g⟩ => by
  simp only [exS] at g
  exact g ρ H σ Ext.refl r ee
theorem ms_cnt : PS X (.Continue pos) (tS T X.K W (exS cl gv .cnt)) := PS_imp ps_continue fun D σ H ⟨ρ, S, env, r, ee, g⟩ => by
  simp only [exS] at g
  exact g ρ H σ Ext.refl r ee
/-- name = e -/
theorem ms_set_t {i : Nat} {D : Ends} {σ : St} {H : Hp} (h : tS T X.K W (exS cl gv (.asg (.name i) c)) D σ H) : tAsg (tE T X.K cl gv W c) (gName i) D σ H :=
  tS_E (k := fun d env S => .next (env.set i (some d)) S) (fun _ _ => by simp only [exS, asg, R.out_ok]) h fun ρ S env d x H1 r ee v g => g ρ H1 _ Ext.refl r (ee.set i v)
theorem ms_set (i : Nat) {x : Str} {pos' : Pos} (hN : X.N.Nodup) (he : PE X e (tE T X.K cl gv W c)) (hi : X.N[i]? = some x := by rfl) (hx : Loc X.env.scope x := by first | exact Or.inl rfl | exact Or.inr rfl) (hs : swapsWith e (some (.Name x pos')) pos.line X.env = pure false := by rfl)
    (hf : X.fn x = true ∨ X.env.scope.names.lookup x = some .local := by first | exact .inl rfl | exact .inr rfl) : PS X (.Assign [.Name x pos'] e pos) (tS T X.K W (exS cl gv (.asg (.name i) c))) :=
  PS_imp (ps_set hN hi hx he hs hf) fun D σ H h => ms_set_t h
theorem ms_setLc {i : Nat} {y : Str} {py : Pos} {it : It} {cond : Co} {tg : List Nat} {g : TG} {m : Bool} {elt tgx iter : Expr} {ifs : List Expr} {scope : Scope} {own : List (Str × Nat)} {lpos : Pos} (hc : X.calm = true) (hN : X.N.Nodup) (hset : SetOk X.K tg g) (hown : own.map (·.2) = tg) (ok : BlkOk X.N X.env.scope scope own)
    (hsw : swapsWith (.ListComp elt [⟨tgx, iter, ifs, 0⟩] scope lpos) (some (.Name y py)) pos.line X.env = pure true)
    (hi : PI X tgx iter (tI T X.K cl gv W it))
    (hg : ∀ (s : Shared) (H : Hp) (C : Addr) (cl : List (Str × Addr)) (fp : List Addr), PG (X.blk s H scope (compEnvC scope cl C X.env) fp) tgx g)
    (ht : ∀ (s : Shared) (H : Hp) (C : Addr) (cl' : List (Str × Addr)) (fp : List Addr), PTs (X.blk s H scope (compEnvC scope cl' C X.env) fp) ifs (tC T X.K cl gv W0 cond))
    (he : ∀ (s : Shared) (H : Hp) (C : Addr) (cl' : List (Str × Addr)) (fp : List Addr), PE (X.blk s H scope (compEnvC scope cl' C X.env) fp) elt (tE T X.K cl gv W0 c))
    (hy : X.N[i]? = some y := by rfl) (hyl : X.env.scope.names.lookup y = some .local := by rfl) (hs : ∀ x, foldedSetIterable iter X.env x = pure x := by intro _; rfl) :
    PS X (.Assign [.Name y py] (.ListComp elt [⟨tgx, iter, ifs, 0⟩] scope lpos) pos) (tS T X.K W (exS cl gv (.asg (.name i) (.comp m c tg it cond)))) :=
  PS_imp (ps_setLc hc hN hy hyl hsw hi ok hg ht he hs) fun D σ H h => by
    have h2 := ms_set_t h
    rw [hown]
    exact tLc_of hset h2
theorem ms_if {t : Expr} {ct : C} {a b : List Stmt} {ca cb : CSs} (ht : PT X t (tC T X.K cl gv W (.some ct))) (ha : PSs X a (tS T X.K W (exSs cl gv ca))) (hb : PSs X b (tS T X.K W (exSs cl gv cb))) : PS X (.If t a b pos) (tS T X.K W (exS cl gv (.ite ct ca cb))) :=
  PS_imp (ps_if ht ha hb) fun D σ H ⟨ρ, S, env, r, ee, g⟩ => by
    simp only [exS] at g
    refine ⟨ρ, S, env, r, ee, (g.out (V := VEq Bool) ee).imp fun k H1 ⟨ρ1, S1, k', x1, r1, v, g1⟩ => ?_⟩
    cases (show k' = k from v)
    split
    · rename_i hk; rw [if_pos hk] at g1; exact ⟨ρ1, S1, env, r1, ee.mono x1, g1⟩
    · rename_i hk; rw [if_neg hk] at g1; exact ⟨ρ1, S1, env, r1, ee.mono x1, g1⟩
theorem ms_while {n : Nat} {t : Expr} {ct : C} {b : List Stmt} {cb : CSs} (hp : PassesOwn (model X.prog X.w) X.A X.env X.xe) (ht : PT X t (tC T X.K cl gv W (.some ct))) (hb : PSs X b (tS T X.K W (exSs cl gv cb))) : PS X (.While t b [] pos) (tS T X.K W (exS cl gv (.whl n ct cb))) :=
  PS_imp (ps_while hp ht hb) fun D σ H ⟨ρ, S, env, r, ee, g⟩ => by
    simp only [exS] at g
    refine ⟨fun m σ H => ∃ ρ S env, Rel T X.K ρ S H ∧ EvR X.K ρ H env σ ∧ OG T X.K W D ρ H (whLoop (fun env S => evC cl gv (.some ct) env S) (fun env S => exSs cl gv cb env S) m env S), ⟨n, ρ, S, env, r, ee, g⟩, ?_⟩
    rintro m σ H ⟨ρ, S, env, r, ee, g⟩
    cases m with
    | zero => exact g.elim
    | succ m =>
      simp only [whLoop] at g
      refine ⟨ρ, S, env, r, ee, (g.out (V := VEq Bool) ee).imp fun k H1 ⟨ρ1, S1, k', x1, r1, v, g1⟩ => ?_⟩
      cases (show k' = k from v)
      split
      · rename_i hk
        rw [if_pos hk] at g1
        refine ⟨_, fun σ' H' hN => ⟨m, Nat.lt_succ_self m, hN⟩, ρ1, S1, env, r1, ee.mono x1, ?_⟩
        exact g1.turn
      · rename_i hk
        rw [if_neg hk] at g1
        exact g1 ρ1 H1 σ Ext.refl r1 (ee.mono x1)
end
end
end Mini

namespace Mini
open PySem L2

section
variable {T : Tb} {K : PySem.W.Frag} {ρ : Rho} {H : Hp} {S : Sto}
theorem putFd_ok {f : Nat} (inj : ∀ g, T.fldN g = T.fldN f → g = f) {d : D} {v : V} (hv : VR K ρ H d v) : ∀ {fs : List (Nat × D)} {vs : List V}, VRs K ρ H (fs.map (·.2)) vs →
    ∃ ws, putF (T.fldN f) v ((fs.map fun x => T.fldN x.1).zip vs) = ((putFd f d fs).map fun x => T.fldN x.1).zip ws ∧ VRs K ρ H ((putFd f d fs).map (·.2)) ws
  | [], vs, w => by
    simp only [List.map_nil, VRs] at w
    subst w
    exact ⟨[v], rfl, VRs.cons hv VRs.nil⟩
  | (g, x) :: fs, vs, w => by
    simp only [List.map_cons, VRs] at w
    obtain ⟨u, r, rfl, h1, h2⟩ := w
    simp only [List.map_cons, List.zip_cons_cons]
    unfold putF putFd
    by_cases hg : g = f
    · subst hg
      rw [if_pos rfl, if_pos rfl]
      exact ⟨v :: r, rfl, VRs.cons hv h2⟩
    · have h4 : ¬ T.fldN g = T.fldN f := fun z => hg (inj g z)
      rw [if_neg h4, if_neg hg]
      obtain ⟨ws, e1, e2⟩ := putFd_ok inj hv h2
      exact ⟨u :: ws, by rw [e1]; rfl, VRs.cons h1 e2⟩
theorem fs_len {fs : List (Nat × D)} {vs : List V} (w : VRs K ρ H (fs.map (·.2)) vs) : ((fs.map fun x => T.fldN x.1).zip vs).length = fs.length := by
  have := w.length
  simp at this
  simp [this]
/-- a field is stored -/
theorem wr_fld {f l c : Nat} (F : FldOk T K f) {fs : List (Nat × D)} {d : D} {v : V} {p : Addr} {C dx : Addr} {vs : List V} (e : S[l]? = some (.ins c fs)) (r : Rel T K ρ S H) (e1 : ρ.loc[l]? = some p) (hc : T.clsA c = some C)
    (h : H p = some (.ins C dx ((fs.map fun f => T.fldN f.1).zip vs))) (w : VRs K ρ H (fs.map (·.2)) vs) (hv : VR K ρ H d v) :
    Ext ρ H ρ (upd H p (.ins C dx (putF (T.fldN f) v ((fs.map fun f => T.fldN f.1).zip vs)))) ∧ Rel T K ρ (S.set l (.ins c (putFd f d fs))) (upd H p (.ins C dx (putF (T.fldN f) v ((fs.map fun f => T.fldN f.1).zip vs)))) := by
  have x := Ext.write (o' := .ins C dx (putF (T.fldN f) v ((fs.map fun f => T.fldN f.1).zip vs))) r (List.mem_of_getElem? e1) h trivial
  obtain ⟨ws, h1, h2⟩ := putFd_ok F.inj hv w
  refine ⟨x, r.write e1 e ⟨C, dx, ws, ?_, hc, VRs.mono x _ _ h2⟩⟩
  rw [upd_same, h1]
end

section
variable {T : Tb} {K : PySem.W.Frag} {W : WX} {D : Ends} {ρ : Rho} {H : Hp} {o : Out}
theorem OG.turnX {k : Ev → Sto → Out} (h : OG T K W D ρ H (o.turn k)) : OG T K W { D with nx := fun σ H' => ∃ ρ' S env, Ext ρ H ρ' H' ∧ Rel T K ρ' S H' ∧ EvR K ρ' H' env σ ∧ OG T K W D ρ' H' (k env S), ct := fun σ H' => ∃ ρ' S env, Ext ρ H ρ' H' ∧ Rel T K ρ' S H' ∧ EvR K ρ' H' env σ ∧ OG T K W D ρ' H' (k env S), bk := D.nx } ρ H o := by
  cases o with
  | next env S => exact fun ρ2 H2 σ e r v => ⟨ρ2, S, env, e, r, v, h.weak e⟩
  | ret d S => exact h
  | brk env S => exact h
  | cnt env S => exact fun ρ2 H2 σ e r v => ⟨ρ2, S, env, e, r, v, h.weak e⟩
  | exc c env S => exact h
  | stuck => exact h
theorem OG.mono {N C B N' C' B' : St → Hp → Prop} {R : VK} (h : OG T K W { nx := N, rt := R, bk := B, ct := C } ρ H o) (h1 : ∀ σ H, N σ H → N' σ H) (h2 : ∀ σ H, B σ H → B' σ H) (h3 : ∀ σ H, C σ H → C' σ H) : OG T K W { nx := N', rt := R, bk := B', ct := C' } ρ H o := by
  cases o with
  | next env S => exact fun ρ2 H2 σ e r v => h1 σ H2 (h ρ2 H2 σ e r v)
  | ret d S => exact h
  | brk env S => exact fun ρ2 H2 σ e r v => h2 σ H2 (h ρ2 H2 σ e r v)
  | cnt env S => exact fun ρ2 H2 σ e r v => h3 σ H2 (h ρ2 H2 σ e r v)
  | exc c env S => exact h
  | stuck => exact h
end
section
variable {X : Cx}
/-- o[i] = v: a list, a dict -/
def rSetX : V → V → V → Hp → (Hp → Prop) → Prop := fun o i v H Q => rSetL o i v H Q ∨ ∃ a H4, o = .ref a ∧ DPut H a i v H4 ∧ Q H4
theorem set_all (hu : X.A.units + 1 < cLine) : PSet X rSetX := by
  intro pins s σ H o i v ov iv u Q I ro ri rv h
  rcases h with h | ⟨a, H4, rfl, g, q⟩
  · exact set_list pins s σ H o i v ov iv u Q I ro ri rv h
  · obtain rfl : ov = Value.ref a := ro
    exact d_setItem hu I g ri rv fun s4 I4 => ⟨H4, I4, q⟩
end
section
variable {T : Tb} {K : PySem.W.Frag} {ρ : Rho} {H : Hp} {S S' : Sto} {x y d : D} {x' y' v : V}
theorem setItem_ok {Q : Hp → Prop} (e : setItem S x y d = some S') (r : Rel T K ρ S H) (vx : VR K ρ H x x') (vy : VR K ρ H y y') (vd : VR K ρ H d v) (q : ∀ H', Ext ρ H ρ H' → Rel T K ρ S' H' → Q H') : rSetX x' y' v H Q := by
  unfold setItem at e
  split at e
  · rename_i l
    split at e
    · rename_i xs el
      split at e
      · rename_i k
        rw [Option.map_eq_some_iff] at e
        obtain ⟨j, ej, rfl⟩ := e
        obtain ⟨p, vs, rfl, e1, h1, w⟩ := lst_at el r vx
        simp only [VR] at vy
        subst vy
        obtain ⟨x1, r1⟩ := wr_lst el r e1 h1 (w.set j vd)
        exact .inl ⟨p, vs, k, j, rfl, rfl, h1, by rw [← w.length]; exact ej, q _ x1 r1⟩
      · cases e
    · rename_i t kvs el
      split at e
      · rename_i k ek
        split at e
        · rename_i hl
          cases e
          simp only [VR] at vx
          obtain ⟨p, e1, rfl⟩ := vx
          obtain ⟨vs, q1, w⟩ := r.ob l _ p el e1
          rcases dc_view q1 w with ⟨rfl, kws, h1, h2⟩ | ⟨rfl, kws, h1, h2⟩
          · rcases key_ok ek vy with ⟨_, z, rfl, hz⟩ | ⟨z, _⟩
            · have x1 := Ext.write (o' := .dT (L2.putK kws k v)) r (List.mem_of_getElem? e1) h1 trivial
              have pk : PK K ρ H id (putK kvs (id k) d) (L2.putK kws k v) := h2.put (fun a b h => h) k vd
              obtain ⟨vs', h3, h4⟩ := dc_t (R := fun o => (upd H p (.dT (L2.putK kws k v))) p = some o) upd_same pk
              exact .inr ⟨p, _, rfl, DPut.t h1 hz (by rw [← h2.length, sizeLine_eq]; unfold LIM at hl; omega), q _ x1 (r.write e1 el ⟨vs', h3, VRs.mono x1 _ _ h4⟩)⟩
            · cases z
          · rcases key_ok ek vy with ⟨z, _⟩ | ⟨_, k1, rfl, rfl⟩
            · cases z
            · have x1 := Ext.write (o' := .dK (L2.putK kws k1 v)) r (List.mem_of_getElem? e1) h1 trivial
              have pk : PK K ρ H one (putK kvs (one k1) d) (L2.putK kws k1 v) := h2.put (fun a b h => one_inj h) k1 vd
              obtain ⟨vs', h3, h4⟩ := dc_k (R := fun o => (upd H p (.dK (L2.putK kws k1 v))) p = some o) upd_same pk
              exact .inr ⟨p, _, rfl, DPut.k h1 (by rw [← h2.length, sizeLine_eq]; unfold LIM at hl; omega), q _ x1 (r.write e1 el ⟨vs', h3, VRs.mono x1 _ _ h4⟩)⟩
        · cases e
      · cases e
    · cases e
  · cases e
end

section
variable {T : Tb} {X : Cx} {cl : Orc} {gv : Gv} {W : WX}
section
variable {e o i' : Expr} {c co ci : C} {pos : Pos}
/-- o.f = e -/
theorem ms_fld {f : Nat} {nm : Str} {pos' : Pos} (F : FldOk T X.K f) (hn : T.fldN f = nm) (ho : PE X o (tE T X.K cl gv W co)) (he : PE X e (tE T X.K cl gv W c)) (hs : swapsWith e (some (.Attribute o nm pos')) pos.line X.env = pure false := by rfl) :
    PS X (.Assign [.Attribute o nm pos'] e pos) (tS T X.K W (exS cl gv (.asg (.fld co f) c))) :=
  PS_imp (ps_fld ho he hs) fun D σ H h => tS_E (k := fun d env S => (evE cl gv co env S).out env fun x S => match x with
      | .loc l => match S[l]? with
        | some (.ins c fs) => if fs.length < 100 then .next env (S.set l (.ins c (putFd f d fs))) else .stuck
        | _ => .stuck
      | _ => .stuck) (fun env S => by
        simp only [exS, asg]
        cases evE cl gv c env S with
        | ok d S1 =>
          simp only [R.out_ok]
          cases evE cl gv co env S1 with
          | ok x S2 =>
            simp only [R.bind_ok, R.out_ok]
            cases x with
            | loc l =>
              dsimp only
              cases S2[l]? with
              | none => rfl
              | some u =>
                cases u with
                | ins c fs => dsimp only; split <;> rfl
                | _ => rfl
            | _ => rfl
          | exc => rfl
          | stuck => rfl
        | exc => rfl
        | stuck => rfl) h fun ρ S env d y H1 r ee v g => by
    refine ⟨ρ, S, env, r, ee, (g.out (V := VD X.K) ee).imp fun x H2 ⟨ρ2, S2, d2, x2, r2, v2, g2⟩ => ?_⟩
    split at g2
    · rename_i l
      split at g2
      · rename_i c' fs el
        split at g2
        · rename_i hl
          obtain ⟨p, C, dx, vs, rfl, e1, h1, h2, h3⟩ := ins_at el r2 v2
          obtain ⟨o1, o2⟩ := F.ok _ _ h2
          obtain ⟨x3, r3⟩ := wr_fld F el r2 e1 h2 h1 h3 (VR.mono x2 _ _ v)
          subst hn
          refine ⟨p, C, dx, _, rfl, h1, o1, o2, ?_, g2 ρ2 _ σ x3 r3 ((ee.mono x2).mono x3)⟩
          rw [fs_len h3]; omega
        · exact g2.elim
      · exact g2.elim
    · exact g2.elim
/-- o[i] = e -/
theorem ms_sub {pos' : Pos} (hu : X.A.units + 1 < cLine) (ho : PE X o (tE T X.K cl gv W co)) (hi : PE X i' (tE T X.K cl gv W ci)) (he : PE X e (tE T X.K cl gv W c))
    (ha : ∀ v, assign (.Subscript o i' pos') X.env v = (do
      let ov ← holding [v] (eval o X.env)
      let iv ← holding [v, ov] (eval i' X.env)
      standAt pos'
      holding [v, ov, iv] (PySem.setItem ov iv v)
      release [v, ov, iv] []) := by intro _; rfl)
    (hs : swapsWithSole [.Subscript o i' pos'] e pos.line X.env = pure false := by rfl) (hw : swappedStores [.Subscript o i' pos'] e X.env = pure none := by rfl)
    (h1 : (assignEach [.Subscript o i' pos'] X.env).map (·.2) = [assign (.Subscript o i' pos') X.env] := by rfl) :
    PS X (.Assign [.Subscript o i' pos'] e pos) (tS T X.K W (exS cl gv (.asg (.sub co ci) c))) :=
  PS_imp (ps_asg he (pg_sub ho hi (set_all hu) ha) hs hw h1) fun D σ H h => tS_E (k := fun d env S => (evE cl gv co env S).out env fun x S => (evE cl gv ci env S).out env fun y S => match setItem S x y d with
      | some S' => .next env S'
      | none => .stuck) (fun env S => by
        simp only [exS, asg]
        cases evE cl gv c env S with
        | ok d S1 =>
          simp only [R.out_ok]
          cases evE cl gv co env S1 with
          | ok x S2 =>
            simp only [R.bind_ok, R.out_ok]
            cases evE cl gv ci env S2 with
            | ok y S3 =>
              simp only [R.bind_ok, R.out_ok]
              cases setItem S3 x y d <;> rfl
            | exc => rfl
            | stuck => rfl
          | exc => rfl
          | stuck => rfl
        | exc => rfl
        | stuck => rfl) h fun ρ S env d z H1 r ee v g => by
    refine ⟨ρ, S, env, r, ee, (g.out (V := VD X.K) ee).imp fun x H2 ⟨ρ2, S2, d2, x2, r2, v2, g2⟩ => ?_⟩
    refine ⟨ρ2, S2, env, r2, ee.mono x2, (g2.out (V := VD X.K) (ee.mono x2)).imp fun y H3 ⟨ρ3, S3, d3, x3, r3, v3, g3⟩ => ?_⟩
    split at g3
    · rename_i S' es
      exact setItem_ok es r3 (VR.mono x3 _ _ v2) v3 (VR.mono x3 _ _ (VR.mono x2 _ _ v)) fun H' x4 r4 => g3 ρ3 H' σ x4 r4 (((ee.mono x2).mono x3).mono x4)
    · exact g3.elim
/-- i += e -/
theorem ms_aug (i : Nat) {x : Str} {pos' : Pos} (hN : X.N.Nodup) (he : PE X e (tE T X.K cl gv W c)) (hi : X.N[i]? = some x := by rfl) (hx : Loc X.env.scope x := by first | exact Or.inl rfl | exact Or.inr rfl)
    (hf : X.fn x = true ∨ X.env.scope.names.lookup x = some .local := by first | exact .inl rfl | exact .inr rfl) : PS X (.AugAssign (.Name x pos') .Add e pos) (tS T X.K W (exS cl gv (.aug i c))) :=
  PS_imp (ps_aug hN hi hx he ip_add hf) fun D σ H ⟨ρ, S, env, r, ee, g⟩ => by
    simp only [exS] at g
    split at g
    · rename_i n en
      obtain ⟨v, e1, hv⟩ := ee.2 i _ en
      simp only [VR] at hv
      subst hv
      refine ⟨_, e1, ρ, S, env, r, ee, (g.out (V := VD X.K) ee).imp fun y H1 ⟨ρ1, S1, d, x1, r1, v1, g1⟩ => ?_⟩
      split at g1
      · rename_i m
        simp only [VR] at v1
        subst v1
        exact ⟨_, _, rfl, rfl, g1 ρ1 H1 _ Ext.refl r1 ((ee.mono x1).set i (by simp only [VR]))⟩
      · exact g1.elim
    · exact g.elim
/-- for -/
theorem ms_for {tg : List Nat} {g : TG} {it : It} {tgx iter : Expr} {b : List Stmt} {cb : CSs} (hp : PassesOwn (model X.prog X.w) X.A X.env X.xe) (hc : X.calm = true) (hset : SetOk X.K tg g) (hi : PI X tgx iter (tI T X.K cl gv W it)) (hg : PG X tgx g)
    (hb : PSs X b (tS T X.K W (exSs cl gv cb))) (hs : ∀ x, foldedSetIterable iter X.env x = pure x := by intro _; rfl) : PS X (.For tgx iter b [] pos) (tS T X.K W (exS cl gv (.fo tg it cb))) :=
  PS_imp (ps_for hp hc hi hg hb hs) fun D σ H ⟨ρ, S, env, r, ee, g⟩ => by
    simp only [exS] at g
    refine ⟨ρ, S, env, r, ee, (g.out (V := WR T X.K) ee).imp fun J H1 ⟨ρ1, S1, w, x1, r1, hw, g1⟩ => ?_⟩
    let P : Nat → St → Hp → Prop := fun i σ H => ∃ ρ2 S2 env2, Ext ρ1 H1 ρ2 H ∧ Rel T X.K ρ2 S2 H ∧ EvR X.K ρ2 H env2 σ ∧ OG T X.K W D ρ2 H (foLoop (fun env S => exSs cl gv cb env S) tg w.fin (w.its.drop i) env2 S2)
    refine ⟨fun i k σ H => k = w.its.length - i ∧ i ≤ w.its.length ∧ P i σ H, ⟨w.its.length, by simp, Nat.zero_le _, ρ1, S1, env, Ext.refl, r1, ee.mono x1, g1⟩, ?_⟩
    rintro i k σ2 H2 ⟨rfl, hi, ρ2, S2, env2, x2, r2, ee2, g2⟩
    cases hrest : w.its.drop i with
    | nil =>
      have hlen : w.its.length ≤ i := by
        have := congrArg List.length hrest
        simp at this; omega
      have ei : i = w.its.length := by omega
      rw [hrest] at g2
      simp only [foLoop] at g2
      split at g2
      · rename_i hf
        exact .inl ⟨by rw [ei]; exact hw.1 ρ2 S2 H2 x2 r2 hf, g2 ρ2 H2 σ2 Ext.refl r2 ee2⟩
      · exact g2.elim
    | cons f rest =>
      have hlt : i < w.its.length := by
        have := congrArg List.length hrest
        simp at this; omega
      have ef : w.its[i]? = some f := by
        have := congrArg (fun l => l[0]?) hrest
        simpa using this
      have er : w.its.drop (i + 1) = rest := by
        have := congrArg (List.drop 1) hrest
        simpa [Nat.add_comm] using this
      rw [hrest] at g2
      unfold foLoop at g2
      split at g2
      · exact g2.elim
      · rename_i d ed
        split at g2
        · exact g2.elim
        · rename_i env' es
          obtain ⟨go, yl⟩ := hw.2 ρ2 S2 H2 i f d x2 r2 ef ed
          refine .inr ⟨go, P (i + 1), fun σ' H' p' => ⟨w.its.length - (i + 1), by omega, rfl, hlt, p'⟩, fun x H' hy => ?_⟩
          obtain ⟨xy, ry, vy⟩ := yl x H' hy
          refine hset ρ2 H' env2 env' σ2 d x _ (ee2.mono xy) vy es fun σ' ee' _ => ?_
          refine ⟨ρ2, S2, env', ry, ee', ?_⟩
          have g3 := (g2.weak xy).turnX
          refine g3.mono (fun σ3 H3 ⟨ρ3, S3, env3, x3, r3, e3, g4⟩ => ?_) (fun _ _ h => h) (fun σ3 H3 ⟨ρ3, S3, env3, x3, r3, e3, g4⟩ => ?_)
          · exact ⟨ρ3, S3, env3, (x2.trans xy).trans x3, r3, e3, by rw [er]; exact g4⟩
          · exact ⟨ρ3, S3, env3, (x2.trans xy).trans x3, r3, e3, by rw [er]; exact g4⟩
end
end
end Mini

namespace Mini
open PySem L2

section
variable {K : PySem.W.Frag} {ρ : Rho} {H : Hp}
def gNames : List Nat → TGs
  | [] => gNil
  | i :: is => gCons (gName i) (gNames is)
theorem gNames_ok : ∀ {is : List Nat} {ds : List D} {vs : List V} {env env' : Ev} {σ : St} {Q : St → Hp → Prop}, EvR K ρ H env σ → VRs K ρ H ds vs → nameSet is ds env = some env' → (∀ σ', EvR K ρ H env' σ' → Q σ' H) → gNames is vs σ H Q
  | [], [], vs, env, env', σ, Q, ee, w, e, k => by
    simp only [nameSet, Option.some.injEq] at e
    subst e
    simp only [VRs] at w
    subst w
    exact ⟨rfl, k σ ee⟩
  | [], _ :: _, vs, env, env', σ, Q, ee, w, e, k => by simp [nameSet] at e
  | _ :: _, [], vs, env, env', σ, Q, ee, w, e, k => by simp [nameSet] at e
  | i :: is, d :: ds, vs, env, env', σ, Q, ee, w, e, k => by
    simp only [VRs] at w
    obtain ⟨v, r, rfl, h1, h2⟩ := w
    simp only [nameSet] at e
    exact ⟨v, r, rfl, gNames_ok (ee.set i h1) h2 e k⟩
theorem nameSet_len : ∀ {is : List Nat} {ds : List D} {env env' : Ev}, nameSet is ds env = some env' → is.length = ds.length
  | [], [], _, _, _ => rfl
  | [], _ :: _, _, _, e => by simp [nameSet] at e
  | _ :: _, [], _, _, e => by simp [nameSet] at e
  | i :: is, d :: ds, env, env', e => by
    simp only [nameSet] at e
    rw [List.length_cons, List.length_cons, nameSet_len e]
theorem VRs.two {ds : List D} {v w : V} (h : VRs K ρ H ds [v, w]) : ∃ a b, ds = [a, b] ∧ VR K ρ H a v ∧ VR K ρ H b w := by
  match ds with
  | [] => simp [VRs] at h
  | [a] => simp [VRs] at h
  | [a, b] =>
    obtain ⟨h1, h2⟩ := h.inv
    obtain ⟨h3, _⟩ := h2.inv
    exact ⟨a, b, rfl, h1, h3⟩
  | a :: b :: c :: r => have := h.length; simp at this
end
section
variable {T : Tb} {X : Cx} {cl : Orc} {gv : Gv} {W : WX}
section
variable {e : Expr} {c : C} {pos : Pos}
theorem tS_names {is : List Nat} {D : Ends} {σ : St} {H : Hp} {n : Nat} (hn : is.length = n) (h : tS T X.K W (exS cl gv (.asg (.tup (ofNames is)) c)) D σ H) : tAsg (tE T X.K cl gv W c) (gTup X.K n (gNames is)) D σ H :=
  tS_E (k := fun d env S => if isTup d = true then match getS S d with
      | some xs => match nameSet is xs env with | some env' => .next env' S | none => .stuck
      | none => .stuck
      else .stuck) (fun env S => by
        simp only [exS, asg]
        cases evE cl gv c env S with
        | ok d S1 =>
          simp only [R.out_ok]
          split
          · cases getS S1 d with
            | none => rfl
            | some xs =>
              dsimp only
              rw [asgs_names]
              cases nameSet is xs env <;> rfl
          · rfl
        | exc => rfl
        | stuck => rfl) h fun ρ S env d x H1 r ee v g => by
    split at g
    · rename_i ht
      split at g
      · rename_i xs ex
        split at g
        · rename_i env' en
          obtain ⟨p, vs, rfl, q, w⟩ := getT_ok ht ex v
          refine ⟨p, vs, rfl, q, ?_, gNames_ok ee w en fun σ' ee' => g ρ H1 σ' Ext.refl r ee'⟩
          rw [← w.length, ← hn]
          exact (nameSet_len en).symm
        · exact g.elim
      · exact g.elim
    · exact g.elim
/-- a, b, .. = a tuple -/
theorem ms_names {es : List Expr} {is : List Nat} {k n : Nat} {pos' : Pos} (hc : X.calm = true) (hg : PGs X es (gNames is)) (hl : is.length = n) (he : PE X e (tE T X.K cl gv W c))
    (hn : (assignEach es X.env).length = n := by rfl) (hst : (assignEach es X.env).findIdx? (·.1) = none := by rfl)
    (hs : swapsWithSole [.Tuple es k pos'] e pos.line X.env = pure false := by rfl) (hw : swappedStores [.Tuple es k pos'] e X.env = pure none := by rfl)
    (h1 : (assignEach [.Tuple es k pos'] X.env).map (·.2) = [assign (.Tuple es k pos') X.env] := by rfl) :
    PS X (.Assign [.Tuple es k pos'] e pos) (tS T X.K W (exS cl gv (.asg (.tup (ofNames is)) c))) :=
  PS_imp (ps_asg he (pg_tup hc hg hn hst) hs hw h1) fun D σ H h => tS_names hl h
/-- a, b = x, y -/
theorem ms_par {z : Bool} {i j : Nat} {x y : Str} {a b : Expr} {ca cb : C} {px py pt : Pos} {kt k2 pt2} (hc : X.calm = true) (hN : X.N.Nodup) (hij : i ≠ j) (ha : PA X [a, b] (tEs T X.K cl gv W (.cons ca (.cons cb .nil))))
    (hi : X.N[i]? = some x := by rfl) (hj : X.N[j]? = some y := by rfl) (hx : X.env.scope.names.lookup x = some .local := by rfl) (hy : X.env.scope.names.lookup y = some .local := by rfl)
    (hw : swappedStores [.Tuple [.Name x px, .Name y py] kt pt] (.Tuple [a, b] k2 pt2) X.env = pure (some [x, y]) := by rfl)
    (hs : swapsWithSole [.Tuple [.Name x px, .Name y py] kt pt] (.Tuple [a, b] k2 pt2) pos.line X.env = pure false := by rfl) :
    PS X (.Assign [.Tuple [.Name x px, .Name y py] kt pt] (.Tuple [a, b] k2 pt2) pos) (tS T X.K W (exS cl gv (.asg (.tup (ofNames [i, j])) (.tup z (.cons ca (.cons cb .nil)))))) :=
  PS_imp (ps_par hc hN hi hj hij hx hy ha hw hs) fun D σ H ⟨ρ, S, env, r, ee, g⟩ => by
    have e : exS cl gv (.asg (.tup (ofNames [i, j])) (.tup z (.cons ca (.cons cb .nil)))) env S = (evEs cl gv (.cons ca (.cons cb .nil)) env S).out env fun ds S => match nameSet [i, j] ds env with | some env' => .next env' S | none => .stuck := by
      simp only [exS, asg, evE]
      cases hh : evEs cl gv (.cons ca (.cons cb .nil)) env S with
      | ok ds S1 =>
        have hl := csLen_ok hh
        simp only [R.bind_ok, R.out_ok]
        have h2 : ds.length ≤ LIM := by rw [← hl]; simp only [csLen]; decide
        rw [if_pos h2]
        have h3 : isTup (mkTup z ds) = true := by cases z <;> rfl
        have h4 : getS S1 (mkTup z ds) = some ds := by cases z <;> rfl
        simp only [R.out_ok, h3, if_true, h4]
        rw [asgs_names]
        cases nameSet [i, j] ds env <;> rfl
      | exc => rfl
      | stuck => rfl
    rw [e] at g
    refine ⟨ρ, S, env, r, ee, (g.out (V := VDs X.K) ee).imp fun vs H1 ⟨ρ1, S1, ds, x1, r1, w, g1⟩ => ?_⟩
    split at g1
    · rename_i env' en
      match ds, en with
      | [d1, d2], en =>
        simp only [nameSet, Option.some.injEq] at en
        subst en
        simp only [VRs] at w
        obtain ⟨v1, _, rfl, h1, v2, _, rfl, h2, rfl⟩ := w
        exact ⟨v1, v2, rfl, g1 ρ1 H1 _ Ext.refl r1 (((ee.mono x1).set i h1).set j h2)⟩
      | [], en => simp [nameSet] at en
      | [_], en => simp [nameSet] at en
      | _ :: _ :: _ :: _, en => simp [nameSet] at en
    · exact g1.elim

/-! ### raise, try -/
structure ExcOk (T : Tb) (K : PySem.W.Frag) (mg : Str → Option Value) (cid : Nat) (x : Str) (CA : Addr) : Prop where
  at_ : T.excA cid = some CA
  exc : PySem.W.excIn K CA [.type "ValueError", .type "Exception", .type "BaseException", .type "object"] "ValueError.__new__" = true
  mg : mg x = some (.ref CA)
  kp : PySem.W.keepIn K (.ref CA) = true
  sub : PySem.W.subIn K (.ref CA) (.type "BaseException") = some true
  typ : PySem.W.typeIn K (.ref CA) = some (.type "type")
theorem ms_raise {cid : Nat} {x m : Str} {CA : Addr} {j : Nat} {p p2 cpos : Pos} (E : ExcOk T X.K X.mg cid x CA) (hc : X.calm = true) (tk : Takes X W) (hg : Gl X x) (hdb : (x == ("__debug__" : Str)) = false := by decide) :
    PS X (.Raise (some (.Call (.Name x p) [.Constant (.str m) j p2] [] cpos)) none pos) (tS T X.K W (exS cl gv (.raise cid))) :=
  PS_imp (ps_raise hc tk (pmk_own PySem.F.excBase_ValueError E.exc E.mg E.kp (raises_own E.sub E.typ) hg hdb)) fun D σ H ⟨ρ, S, env, r, ee, g⟩ => by
    simp only [exS] at g
    exact g ρ H σ CA Ext.refl r ee E.at_

def exV (T : Tb) (c : Nat) : Value := match T.excA c with | some C => .ref C | none => .none
def hsL (T : Tb) (K : PySem.W.Frag) (cl : Orc) (gv : Gv) : Hs → List (Value × (Addr → Value → Option Addr → TS))
  | .nil => []
  | .cons c b hs => (exV T c, fun _ _ _ => tS T K W0 (exSs cl gv b)) :: hsL T K cl gv hs
def knows (T : Tb) : Hs → Prop
  | .nil => True
  | .cons c _ hs => (∃ C, T.excA c = some C) ∧ knows T hs
/-- the classes stand apart -/
def Apart (T : Tb) (K : PySem.W.Frag) : Prop := ∀ c c' C C', T.excA c = some C → T.excA c' = some C' → PySem.W.exmOne K (.ref C) (.ref C') = some (decide (c = c'))
theorem hs_ok {K : PySem.W.Frag} {D : Ends} {ρ ρ' : Rho} {H H' : Hp} {S : Sto} {env : Ev} {σ' : St} {c : Nat} {CA : Addr} (ha : Apart T K) (hc : T.excA c = some CA) (x : Ext ρ H ρ' H') (r : Rel T K ρ' S H') (ee : EvR K ρ' H' env σ') :
    ∀ hs : Hs, knows T hs → OG T K W D ρ H (exH cl gv hs c env S) → wMany K W D (hsL T K cl gv hs) (.ref CA) none σ' H'
  | .nil, _, g => by
    simp only [exH] at g
    exact g ρ' H' σ' CA x r ee hc
  | .cons c' b hs, kn, g => by
    obtain ⟨⟨C', hc'⟩, kn⟩ := kn
    have e1 : exV T c' = .ref C' := by unfold exV; rw [hc']
    simp only [exH] at g
    refine ⟨decide (c = c'), by rw [e1]; exact ha c c' CA C' hc hc', fun hb a _ => ?_, fun hb => ?_⟩
    · rw [if_pos (of_decide_eq_true hb)] at g
      refine ⟨ρ', S, env, r, ee, ?_⟩
      have g := g.weak x
      cases ho : exSs cl gv b env S with
      | exc c2 e2 S2 => rw [ho] at g; exact g.elim
      | _ => rw [ho] at g; exact g
    · rw [if_neg (of_decide_eq_false hb)] at g
      exact hs_ok ha hc x r ee hs kn g
theorem ms_try {b : CSs} {hs : Hs} {body : List Stmt} {h₀ : ExceptHandler} {hds : List ExceptHandler} (ha : Apart T X.K) (kn : knows T hs) (hst : X.stack = X.env :: X.outer) (hf : X.env.frame = some X.env.locals) (tk : Takes X W)
    (hb : ∀ (W' : WX) (pn : List (Addr × Obj)) (xe : Value → Shared → Prop), Takes (X.tr pn xe) W' → PassesOwn (model X.prog X.w) X.A X.env xe → PSs (X.tr pn xe) body (tS T X.K W' (exSs cl gv b)))
    (hh : HdsOk X (h₀ :: hds) (hsL T X.K cl gv hs)) : PS X (.Try body (h₀ :: hds) [] [] pos) (tS T X.K W (exS cl gv (.tr b hs))) :=
  PS_imp (ps_try_many hst hf tk hb hh) fun D σ H ⟨ρ, S, env, r, ee, g⟩ => by
    simp only [exS] at g
    refine ⟨ρ, S, env, r, ee, ?_⟩
    cases ho : exSs cl gv b env S with
    | exc c e2 S2 =>
      rw [ho] at g
      exact fun ρ' H' σ' C x r' ee' hc => hs_ok ha hc x r' ee' hs kn g
    | _ => rw [ho] at g; exact g
end
end
end Mini

namespace Mini
open PySem L2 PyProof.Rows

section
variable {T : Tb} {K : PySem.W.Frag} {ρ : Rho} {H : Hp}
theorem vrs_none : ∀ (n i : Nat) (d : D), (List.replicate n (none : Option D))[i]? = some (some d) → False := fun n i d h => by
  rw [List.getElem?_replicate] at h
  split at h <;> cases h
theorem EvR.start {N : List Str} {ds : List D} {vs : List V} (w : VRs K ρ H ds vs) : EvR K ρ H (ds.map some ++ List.replicate (N.length - ds.length) none) (start N vs) := by
  have hl := w.length
  unfold L2.start
  refine ⟨by simp [hl], fun i d e => ?_⟩
  by_cases hi : i < ds.length
  · rw [List.getElem?_append_left (by simpa using hi)] at e
    rw [List.getElem?_append_left (by simp; omega)]
    rw [List.getElem?_map, Option.map_eq_some_iff] at e
    obtain ⟨d', e1, e2⟩ := e
    cases e2
    obtain ⟨v, h1, h2⟩ := w.get e1
    exact ⟨v, by rw [List.getElem?_map, h1]; rfl, h2⟩
  · rw [List.getElem?_append_right (by simp; omega)] at e
    exact (vrs_none _ _ _ e).elim

/-! ### a pure def sees nothing of the store -/
def Rho.hide (ρ : Rho) : Rho := ⟨[], ρ.loc ++ ρ.hid⟩
theorem mem_hide {p : Addr} : p ∈ ρ.hide.hid ↔ p ∈ ρ := by
  show p ∈ ρ.loc ++ ρ.hid ↔ _
  rw [List.mem_append]; rfl
theorem Rel.hide {S : Sto} (r : Rel T K ρ S H) : Rel T K ρ.hide [] H :=
  ⟨rfl, List.nodup_nil, fun p m => ⟨fun z => (by cases z), by
    rcases mem_hide.mp m with m | m
    · obtain ⟨o, e, _⟩ := r.there m; rw [e]; simp
    · exact (r.hd p m).2⟩, fun l o p e => by simp at e⟩
mutual
theorem VR.hide : ∀ (d : D) (v : V), d.noLoc = true → VR K ρ H d v → VR K ρ.hide H d v
  | .non, _, _, h => h
  | .bl _, _, _, h => h
  | .int _, _, _, h => h
  | .str _, _, _, h => h
  | .tup xs, v, n, h => by
    simp only [VR] at h ⊢
    obtain ⟨p, vs, e, t, r⟩ := h
    exact ⟨p, vs, e, t, VRs.hide xs vs (by simpa [D.noLoc] using n) r⟩
  | .ztup xs, v, n, h => by
    simp only [VR] at h ⊢
    obtain ⟨p, o, vs, e, t, d, r⟩ := h
    exact ⟨p, o, vs, e, t, d, VRs.hide xs vs (by simpa [D.noLoc] using n) r⟩
  | .ktup xs, v, n, h => by
    simp only [VR] at h ⊢
    obtain ⟨p, vs, e, t, r⟩ := h
    exact ⟨p, vs, e, t, VRs.hide xs vs (by simpa [D.noLoc] using n) r⟩
  | .loc l, v, n, h => by simp [D.noLoc] at n
  | .fl xs, v, n, h => by
    simp only [VR] at h ⊢
    obtain ⟨p, vs, e, m, t, r⟩ := h
    exact ⟨p, vs, e, fun z => m (by rcases z with z | z; cases z; exact mem_hide.mp z), t, VRs.hide xs vs (by simpa [D.noLoc] using n) r⟩
  | .fd t ks ds, v, n, h => by
    simp only [VR] at h ⊢
    obtain ⟨p, vs, e, m, q, l, r⟩ := h
    exact ⟨p, vs, e, fun z => m (by rcases z with z | z; cases z; exact mem_hide.mp z), q, l, VRs.hide ds vs (by simpa [D.noLoc] using n) r⟩
  | .scr ns, v, n, h => by
    simp only [VR] at h ⊢
    obtain ⟨p, e, q⟩ := h
    refine ⟨p, e, ?_⟩
    rcases q with ⟨m, q⟩ | q
    · exact .inl ⟨fun z => m (by rcases z with z | z; cases z; exact mem_hide.mp z), q⟩
    · exact .inr q
theorem VRs.hide : ∀ (ds : List D) (vs : List V), D.noLocs ds = true → VRs K ρ H ds vs → VRs K ρ.hide H ds vs
  | [], _, _, h => by simp only [VRs] at h ⊢; exact h
  | d :: ds, vs, n, h => by
    simp only [VRs] at h ⊢
    obtain ⟨v, r, e, h1, h2⟩ := h
    simp only [D.noLocs, Bool.and_eq_true] at n
    exact ⟨v, r, e, VR.hide d v n.1 h1, VRs.hide ds r n.2 h2⟩
end
theorem Ext.unhide {S : Sto} {ρ' : Rho} {H' : Hp} (r : Rel T K ρ S H) (x : Ext ρ.hide H ρ' H') : Ext ρ H ρ H' ∧ Rel T K ρ S H' := by
  have hk : ∀ p ∈ ρ, H' p = H p := fun p m => x.hk p (mem_hide.mpr m)
  have kp : ∀ p o, H p = some o → H' p = some o := fun p o e => by
    by_cases m : p ∈ ρ
    · rw [hk p m]; exact e
    · exact x.kp p o e (.inl fun z => m (by rcases z with z | z; cases z; exact mem_hide.mp z))
  have x1 : Ext ρ H ρ H' := ⟨⟨fun _ _ e => e, fun _ m => .inl m, fun p o e _ => kp p o e⟩, fun _ m => .inl m, fun _ m => m, fun p m => hk p (.inr m)⟩
  exact ⟨x1, r.len, r.nd, fun p m => ⟨(r.hd p m).1, by rw [hk p (.inr m)]; exact (r.hd p m).2⟩, fun l o p e1 e2 => (r.ob l o p e1 e2).mono x1 fun u e => kp p u e⟩
/-- what a pure def gives, for its caller -/
theorem freezes_ok {f : D → Option D} {ρ1 : Rho} {H1 : Hp} (hf : ∀ d v d', f d = some d' → VR K ρ1 H1 d v → VR K ρ H1 d' v) : ∀ (xs : List D) (vs : List V) (ys : List D), xs.mapM f = some ys → VRs K ρ1 H1 xs vs → VRs K ρ H1 ys vs
  | [], vs, ys, e, w => by
    rw [mapM_nil] at e; cases e
    simp only [VRs] at w ⊢; exact w
  | x :: xs, vs, ys, e, w => by
    simp only [VRs] at w
    obtain ⟨v, r, rfl, h1, h2⟩ := w
    rw [mapM_cons] at e
    cases ex : f x with
    | none => rw [ex] at e; cases e
    | some y =>
      rw [ex] at e
      simp only [Option.bind_some] at e
      cases er : xs.mapM f with
      | none => rw [er] at e; cases e
      | some ys' =>
        rw [er] at e
        simp only [Option.bind_some, Option.some.injEq] at e
        subst e
        exact VRs.cons (hf x v y ex h1) (freezes_ok hf xs r ys' er h2)
theorem freeze_ok {S1 : Sto} {ρ1 : Rho} {H1 : Hp} (r : Rel T K ρ1 S1 H1) (hh : ∀ p, p ∈ ρ → p ∈ ρ1.hid) : ∀ (n : Nat) (d : D) (v : V) (d' : D), freeze n S1 d = some d' → VR K ρ1 H1 d v → VR K ρ H1 d' v
  | n, .non, v, d', e, h => by
    have : d' = .non := by cases n <;> simpa [freeze] using e.symm
    subst this; simp only [VR] at h ⊢; exact h
  | n, .bl b, v, d', e, h => by
    have : d' = .bl b := by cases n <;> simpa [freeze] using e.symm
    subst this; simp only [VR] at h ⊢; exact h
  | n, .int b, v, d', e, h => by
    have : d' = .int b := by cases n <;> simpa [freeze] using e.symm
    subst this; simp only [VR] at h ⊢; exact h
  | n, .str b, v, d', e, h => by
    have : d' = .str b := by cases n <;> simpa [freeze] using e.symm
    subst this; simp only [VR] at h ⊢; exact h
  | n, .scr ns, v, d', e, h => by
    have : d' = .scr ns := by cases n <;> simpa [freeze] using e.symm
    subst this; simp only [VR] at h ⊢
    obtain ⟨p, e, q⟩ := h
    refine ⟨p, e, ?_⟩
    rcases q with ⟨m, q⟩ | q
    · exact .inl ⟨fun z => m (.inr (hh p z)), q⟩
    · exact .inr q
  | 0, .tup _, v, d', e, h => by simp [freeze] at e
  | 0, .ztup _, v, d', e, h => by simp [freeze] at e
  | 0, .ktup _, v, d', e, h => by simp [freeze] at e
  | 0, .fl _, v, d', e, h => by simp [freeze] at e
  | 0, .fd _ _ _, v, d', e, h => by simp [freeze] at e
  | 0, .loc _, v, d', e, h => by simp [freeze] at e
  | n + 1, .tup xs, v, d', e, h => by
    simp only [freeze, Option.map_eq_some_iff] at e
    obtain ⟨ys, e1, rfl⟩ := e
    simp only [VR] at h ⊢
    obtain ⟨p, vs, rfl, q, w⟩ := h
    exact ⟨p, vs, rfl, q, freezes_ok (fun d v d' => freeze_ok r hh n d v d') xs vs ys e1 w⟩
  | n + 1, .ztup xs, v, d', e, h => by
    simp only [freeze, Option.map_eq_some_iff] at e
    obtain ⟨ys, e1, rfl⟩ := e
    simp only [VR] at h ⊢
    obtain ⟨p, o, vs, rfl, q, hd, w⟩ := h
    exact ⟨p, o, vs, rfl, q, hd, freezes_ok (fun d v d' => freeze_ok r hh n d v d') xs vs ys e1 w⟩
  | n + 1, .ktup xs, v, d', e, h => by
    simp only [freeze, Option.map_eq_some_iff] at e
    obtain ⟨ys, e1, rfl⟩ := e
    simp only [VR] at h ⊢
    obtain ⟨p, vs, rfl, q, w⟩ := h
    exact ⟨p, vs, rfl, q, freezes_ok (fun d v d' => freeze_ok r hh n d v d') xs vs ys e1 w⟩
  | n + 1, .fl xs, v, d', e, h => by
    simp only [freeze, Option.map_eq_some_iff] at e
    obtain ⟨ys, e1, rfl⟩ := e
    simp only [VR] at h ⊢
    obtain ⟨p, vs, rfl, m, q, w⟩ := h
    exact ⟨p, vs, rfl, fun z => m (.inr (hh p z)), q, freezes_ok (fun d v d' => freeze_ok r hh n d v d') xs vs ys e1 w⟩
  | n + 1, .fd t ks ds, v, d', e, h => by
    simp only [freeze, Option.map_eq_some_iff] at e
    obtain ⟨ys, e1, rfl⟩ := e
    simp only [VR] at h ⊢
    obtain ⟨p, vs, rfl, m, q, l, w⟩ := h
    exact ⟨p, vs, rfl, fun z => m (.inr (hh p z)), q, by rw [l]; exact (mapM_all e1).1, freezes_ok (fun d v d' => freeze_ok r hh n d v d') ds vs ys e1 w⟩
  | n + 1, .loc l, v, d', e, h => by
    simp only [VR] at h
    obtain ⟨p, e1, rfl⟩ := h
    have nh : p ∉ ρ := fun z => (r.hd p (hh p z)).1 (List.mem_of_getElem? e1)
    simp only [freeze] at e
    cases ho : S1[l]? with
    | none => rw [ho] at e; cases e
    | some u =>
      rw [ho] at e
      have ob := r.ob l u p ho e1
      cases u with
      | lst xs =>
        simp only [Option.map_eq_some_iff] at e
        obtain ⟨ys, e2, rfl⟩ := e
        obtain ⟨vs, q, w⟩ := ob
        simp only [VR]
        exact ⟨p, vs, rfl, nh, q, freezes_ok (fun d v d' => freeze_ok r hh n d v d') xs vs ys e2 w⟩
      | dct t kvs =>
        simp only [Option.map_eq_some_iff] at e
        obtain ⟨ys, e2, rfl⟩ := e
        obtain ⟨vs, q, w⟩ := ob
        simp only [VR]
        have hl := (mapM_all e2).1
        refine ⟨p, vs, rfl, nh, q.imp fun o z => .inl z, ?_, freezes_ok (fun d v d' => freeze_ok r hh n d v d') _ vs ys e2 w⟩
        simp only [List.length_map] at hl ⊢
        exact hl
      | ins c fs => simp at e
end

section
variable {T : Tb} {P : Program} {w : World} {K : PySem.W.Frag} {mg : Str → Option Value} {base : Heap} {fns : Nat → Option Fn} {gv : Gv}
/-- one def -/
theorem fn_ok {x qual : Str} {st : Stmt} {a : Addr} {fd : FuncData} {N ps : List Str} {k d f : Nat} {F : Fn} (Fu : Fun K x qual st a fd) (Sc : FnScope N ps (defScope st)) (hF : fns f = some F) (hn : F.slots = N.length) (hp : F.params = ps.length)
    (hbody : ∀ (cdv : Value) (A : Around) (outer : List Env) (s : Shared) (H : Hp) (E : XK), Room k (A.deeper (envOfC qual (defScope st) s.heap.objs.size a cdv)) →
      PSs (cxOf (L2.CX P w) P w K mg base N qual (defScope st) a cdv A outer s H E) (defBody st) (tS T K (fun cls d _ H' => E cls d H') (exSs (callD fns gv d) gv F.body))) :
    FnOk P w K mg base (L2.CX P w) (k + 1) a fd ps (spI T K (callD fns gv (d + 1)) f ps.length) := by
  refine Fu.okX Sc (fun vs H Q E h => h.1) fun cdv A outer s H vs Q E hr h => ⟨_, hbody cdv A outer s H E hr, ?_⟩
  obtain ⟨hl, ρ, S, ds, r, wv, g⟩ := h
  have hds : ds.length = F.params := by rw [wv.length, hl, hp]
  have e0 : F.slots - F.params = N.length - ds.length := by rw [hn, hds]
  simp only [callD, hF, hds, if_true] at g
  split at g
  · -- pure
    split at g
    · rename_i hnl
      rw [e0] at g
      refine ⟨ρ.hide, [], ds.map some ++ List.replicate (N.length - ds.length) none, r.hide, EvR.start (VRs.hide ds vs hnl wv), ?_⟩
      cases ho : exSs (callD fns gv d) gv F.body (ds.map some ++ List.replicate (N.length - ds.length) none) [] with
      | ret v S1 =>
        rw [ho] at g
        dsimp only at g
        split at g
        · rename_i v' hv
          intro ρ' H' u x r' vu
          obtain ⟨x1, r1⟩ := Ext.unhide r x
          exact g ρ H' u x1 r1 (freeze_ok r' (fun p m => x.hup p (mem_hide.mpr m)) _ _ _ _ hv vu)
        · exact g.elim
      | next env S1 =>
        rw [ho] at g
        intro ρ' H' σ' x r' _
        obtain ⟨x1, r1⟩ := Ext.unhide r x
        exact g ρ H' .non x1 r1 (by simp only [VR])
      | exc c env S1 =>
        rw [ho] at g
        intro ρ' H' σ' C x r' _ hc
        obtain ⟨x1, r1⟩ := Ext.unhide r x
        exact g ρ H' C x1 r1 hc
      | brk env S1 => rw [ho] at g; exact g.elim
      | cnt env S1 => rw [ho] at g; exact g.elim
      | stuck => rw [ho] at g; exact g.elim
    · exact g.elim
  · rw [e0] at g
    refine ⟨ρ, S, ds.map some ++ List.replicate (N.length - ds.length) none, r, EvR.start wv, ?_⟩
    cases ho : exSs (callD fns gv d) gv F.body (ds.map some ++ List.replicate (N.length - ds.length) none) S with
    | ret v S1 => rw [ho] at g; exact g
    | next env S1 => rw [ho] at g; exact fun ρ' H' σ' x r' _ => g ρ' H' .non x r' (by simp only [VR])
    | exc c env S1 => rw [ho] at g; exact fun ρ' H' σ' C x r' _ hc => g ρ' H' C x r' hc
    | brk env S1 => rw [ho] at g; exact g.elim
    | cnt env S1 => rw [ho] at g; exact g.elim
    | stuck => rw [ho] at g; exact g.elim
/-- no call is left: nothing is promised -/
theorem fn_zero {a : Addr} {fd : FuncData} {ps : List Str} {k f : Nat} : FnOk P w K mg base (L2.CX P w) k a fd ps (spI T K (callD fns gv 0) f ps.length) :=
  ⟨fun vs H Q E h => h.1, fun A outer s H args us vs Q E _ _ _ _ ⟨_, _, _, _, _, _, g⟩ => g.elim⟩
end
end Mini

namespace Mini
open PySem L2 PyProof.Rows

section
variable {T : Tb} {X : Cx} {cl : Orc} {gv : Gv} {W : WX}
theorem mv (i : Nat) {x : Str} {pos : Pos} (hN : X.N[i]? = some x := by rfl) (hv : Vis X.env.scope x := by first | exact Or.inl rfl | exact Or.inr (Or.inl rfl) | exact Or.inr (Or.inr rfl))
    (hd : (x == ("__debug__" : Str)) = false := by decide) (hcd : (x == ("__classdict__" : Str)) = false := by decide) : PE X (.Name x pos) (tE T X.K cl gv W (.var i)) := me_var hN hv hd hcd
theorem pgn (i : Nat) {x : Str} {pos : Pos} (hN : X.N.Nodup) (hi : X.N[i]? = some x := by rfl) (hx : Loc X.env.scope x := by first | exact Or.inl rfl | exact Or.inr rfl)
    (hf : X.fn x = true ∨ X.env.scope.names.lookup x = some .local := by first | exact .inl rfl | exact .inr rfl) : PG X (.Name x pos) (gName i) := pg_name hN hi hx hf
theorem hu_all {k : Nat} {A : Around} (r : Room k A) : A.units + 65 < cLine := by have := r.un; omega
theorem hu_one {A : Around} (h : A.units + 65 < cLine) : A.units + 1 < cLine := by omega
theorem takesW0 {X : Cx} : Takes X W0 := L2.takes0
theorem vr_str {K : PySem.W.Frag} {s : Str} (h : PyData.strOk s = true) (ρ : Rho) (H : Hp) : VR K ρ H (.str s) (.str s) := by simp only [VR]; exact ⟨trivial, h⟩
theorem vr_int {K : PySem.W.Frag} {i : Int} (ρ : Rho) (H : Hp) : VR K ρ H (.int i) (.int i) := by simp only [VR]
/-- texts that the module's tuple holds -/
theorem vrs_strs {K : PySem.W.Frag} {ρ : Rho} {H : Hp} : ∀ ss : List Str, (ss.all fun s => PyData.strOk s) = true → VRs K ρ H (ss.map D.str) (ss.map V.str)
  | [], _ => VRs.nil
  | s :: ss, h => by
    rw [List.all_cons, Bool.and_eq_true] at h
    exact VRs.cons (vr_str h.1 ρ H) (vrs_strs ss h.2)
theorem vr_ktup {K : PySem.W.Frag} {a : Addr} {ss : List Str} {dd : Option Addr} {its : Array Value} {n : Nat} {sl : Array (Option Value)} (l : K.lookup a = some ⟨.type "tuple", dd, .seq its n, sl⟩) (hz : its.size ≤ sizeLine) (hv : Vals (ss.map V.str) its.toList) (h : (ss.all fun s => PyData.strOk s) = true)
    (ρ : Rho) (H : Hp) : VR K ρ H (.ktup (ss.map D.str)) (.ref a) := by
  simp only [VR]
  exact ⟨a, _, rfl, .inr ⟨_, its, n, l, rfl, rfl, hz, hv⟩, vrs_strs ss h⟩
/-- a chain as a value -/
theorem me_chain {a b c : Expr} {ca cb cc : C} {pos : Pos} {op op' : COp} (hu : X.A.units + 65 < cLine) (ha : PE X a (tE T X.K cl gv W ca)) (hb : PE X b (tE T X.K cl gv W cb)) (hc : PE X c (tE T X.K cl gv W cc)) (hm : lastMarks [cop op, cop op'] [b, c] = false := by with_unfolding_all rfl) :
    PE X (.Compare a [cop op, cop op'] [b, c] pos) (tE T X.K cl gv W (.chain op op' ca cb cc)) :=
  PE_imp (pe_chain (op_rCmp hu op) (op_rCmp hu op') ha hb hc hm) fun σ H Q h => by
    obtain ⟨ρ, S, env, r, ee, g⟩ := tG_bind (V := VD X.K) (ev := evE cl gv ca) (f := fun x env S => (evE cl gv cb env S).bind fun y S => (R.opt (sCmp op S x y) S).bind fun k S =>
      if k = true then (evE cl gv cc env S).bind fun z S => (R.opt (sCmp op' S y z) S).bind fun k S => .ok (.bl k) S else .ok (.bl false) S) (fun _ _ => by simp only [evE]) h
    refine ⟨ρ, S, env, r, ee, g.imp fun x H1 q1 => ?_⟩
    obtain ⟨ρ2, S2, env2, r2, ee2, g2⟩ := Aft_next (V' := VD X.K) (ev := evE cl gv cb) VD_mono (fun _ _ _ => rfl) q1
    refine ⟨ρ2, S2, env2, r2, ee2, g2.imp fun y H2 ⟨ρ3, S3, env3, dx, dy, r3, ee3, v1, v2, g3⟩ => ?_⟩
    obtain ⟨k, e, g4⟩ := RG_optbind g3
    refine cmp_ok e r3 v1 v2 ⟨k, rfl, ?_⟩
    split
    · rename_i hk
      rw [if_pos hk] at g4
      refine ⟨ρ3, S3, env3, r3, ee3, g4.bind.imp fun z H3 ⟨ρ5, S5, d5, x5, r5, v5, g5⟩ => ?_⟩
      obtain ⟨k', e', g6⟩ := RG_optbind g5
      exact cmp_ok e' r5 (VR.mono x5 _ _ v2) v5 (g6.now r5 (by simp only [VR]))
    · rename_i hk
      rw [if_neg hk] at g4
      exact g4.now r3 (by simp only [VR])
end

/-! ### names of fields -/
theorem inj_of {names : List Str} {f : Nat} {m : Str} (nd : names.Nodup) (h : names[f]? = some m) (hm : m ≠ Str.empty) (g : Nat) (e : names.getD g Str.empty = m) : g = f := by
  rw [List.getD_eq_getElem?_getD] at e
  cases hg : names[g]? with
  | none => rw [hg] at e; exact absurd e.symm hm
  | some x =>
    rw [hg] at e
    simp at e
    subst e
    obtain ⟨i1, j1⟩ := List.getElem?_eq_some_iff.mp hg
    obtain ⟨i2, j2⟩ := List.getElem?_eq_some_iff.mp h
    exact (List.getElem_inj nd).mp (j1.trans j2.symm)

/-! ### the law -/
/-- the law's def gets a list of ints and gives True -/
def spLaw (K : PySem.W.Frag) : Sp := fun vs H Q _ => ∃ (a : Addr) (ns : List Int), vs = [.ref a] ∧ SqL K H a (ns.map V.int) ∧ ns.length ≤ 63 ∧ ∀ H', Q (.bl true) H'
theorem law_sp {T : Tb} {K : PySem.W.Frag} {cl : Orc} {f : Nat} (h : ∀ ns : List Int, ns.length ≤ 63 → cl f [.scr ns] [] = .ok (.bl true) []) (vs : List V) (H : Hp) (Q : VK) (E : XK) (q : spLaw K vs H Q E) : spI T K cl f 1 vs H Q E := by
  obtain ⟨a, ns, rfl, hs, hl, k⟩ := q
  refine ⟨rfl, ⟨[], []⟩, [], [.scr ns], ⟨rfl, List.nodup_nil, fun p m => (by cases m), fun l o p e => (by simp at e)⟩, VRs.cons ?_ VRs.nil, ?_⟩
  · simp only [VR]
    refine ⟨a, rfl, ?_⟩
    rcases hs with hs | hs
    · exact .inl ⟨fun z => (by rcases z with z | z <;> cases z), hs⟩
    · exact .inr fun H' => .inr hs
  · rw [h ns hl]
    intro ρ' H' b x r v
    simp only [VR] at v
    subst v
    exact k H'
end Mini

namespace Mini
open PySem L2

/-- which cell, by what, what is left -/
abbrev Rm := List (Int × Int × Int)
def look3 (L : Rm) (k m : Int) : Option Int := (L.find? fun q => decide (q.1 = k) && decide (q.2.1 = m)).map (·.2.2)
def CELL : Nat := 40
/-- cell(script, k) % m -/
def pat (op : BOp) (a b : C) : Option (Int × Int) :=
  match op, a, b with
  | .mod, .call f (.cons (.var 0) (.cons (.lit (.int k)) .nil)), .lit (.int m) => if f = CELL then some (k, m) else none
  | _, _, _ => none
theorem pat_some {op : BOp} {a b : C} {q : Int × Int} (h : pat op a b = some q) : op = .mod ∧ a = .call CELL (.cons (.var 0) (.cons (.lit (.int q.1)) .nil)) ∧ b = .lit (.int q.2) := by
  unfold pat at h
  split at h
  · split at h
    · rename_i e
      cases h
      subst e
      exact ⟨rfl, rfl, rfl⟩
    · cases h
  · cases h
mutual
def sbC (L : Rm) : C → C
  | .var i => .var i
  | .lit d => .lit d
  | .gbl x => .gbl x
  | .gidx x i => .gidx x (sbC L i)
  | .tup z es => .tup z (sbCs L es)
  | .lst m es => .lst m (sbCs L es)
  | .dct m t es => .dct m t (sbCs L es)
  | .bin op a b => match (pat op a b).bind fun q => look3 L q.1 q.2 with
    | some r => .lit (.int r)
    | none => .bin op (sbC L a) (sbC L b)
  | .neg a => .neg (sbC L a)
  | .cmp op a b => .cmp op (sbC L a) (sbC L b)
  | .chain op op' a b c => .chain op op' (sbC L a) (sbC L b) (sbC L c)
  | .not a => .not (sbC L a)
  | .bool k es => .bool k (sbCs L es)
  | .ite t a b => .ite (sbC L t) (sbC L a) (sbC L b)
  | .idx a i => .idx (sbC L a) (sbC L i)
  | .slc a lo hi => .slc (sbC L a) (sbCo L lo) (sbCo L hi)
  | .rev m a => .rev m (sbC L a)
  | .fld a f => .fld (sbC L a) f
  | .call f es => .call f (sbCs L es)
  | .meth c m f a es => .meth c m f (sbC L a) (sbCs L es)
  | .make c f es => .make c f (sbCs L es)
  | .f1 f a => .f1 f (sbC L a)
  | .f2 f a b => .f2 f (sbC L a) (sbC L b)
  | .m0 f a => .m0 f (sbC L a)
  | .m1 f a b => .m1 f (sbC L a) (sbC L b)
  | .get a k d => .get (sbC L a) (sbC L k) (sbC L d)
  | .comp m e tg it cond => .comp m (sbC L e) tg (sbI L it) (sbCo L cond)
  | .never => .never
def sbCs (L : Rm) : Cs → Cs
  | .nil => .nil
  | .cons e es => .cons (sbC L e) (sbCs L es)
def sbCo (L : Rm) : Co → Co
  | .none => .none
  | .some e => .some (sbC L e)
def sbI (L : Rm) : It → It
  | .seq a => .seq (sbC L a)
  | .rng1 a => .rng1 (sbC L a)
  | .rng2 a b => .rng2 (sbC L a) (sbC L b)
  | .rng3 a b c => .rng3 (sbC L a) (sbC L b) (sbC L c)
  | .enum a => .enum (sbC L a)
  | .vals a => .vals (sbC L a)
end
mutual
/-- slot 0 is left alone -/
def n0C : C → Bool
  | .gidx _ i => n0C i
  | .tup _ es => n0Cs es
  | .lst _ es => n0Cs es
  | .dct _ _ es => n0Cs es
  | .bin _ a b => n0C a && n0C b
  | .neg a => n0C a
  | .cmp _ a b => n0C a && n0C b
  | .chain _ _ a b c => n0C a && n0C b && n0C c
  | .not a => n0C a
  | .bool _ es => n0Cs es
  | .ite t a b => n0C t && n0C a && n0C b
  | .idx a i => n0C a && n0C i
  | .slc a lo hi => n0C a && n0Co lo && n0Co hi
  | .rev _ a => n0C a
  | .fld a _ => n0C a
  | .call _ es => n0Cs es
  | .meth _ _ _ a es => n0C a && n0Cs es
  | .make _ _ es => n0Cs es
  | .f1 _ a => n0C a
  | .f2 _ a b => n0C a && n0C b
  | .m0 _ a => n0C a
  | .m1 _ a b => n0C a && n0C b
  | .get a k d => n0C a && n0C k && n0C d
  | .comp _ e tg it cond => n0C e && !tg.contains 0 && n0I it && n0Co cond
  | _ => true
def n0Cs : Cs → Bool
  | .nil => true
  | .cons e es => n0C e && n0Cs es
def n0Co : Co → Bool
  | .none => true
  | .some e => n0C e
def n0I : It → Bool
  | .seq a => n0C a
  | .rng1 a => n0C a
  | .rng2 a b => n0C a && n0C b
  | .rng3 a b c => n0C a && n0C b && n0C c
  | .enum a => n0C a
  | .vals a => n0C a
end
section
variable {cl : Orc} {gv : Gv} {L : Rm} {ns : List Int}
/-- the script stands in slot 0 -/
def I0 (ns : List Int) (env : Ev) : Prop := env[0]? = some (some (.scr ns))
/-- what L tells is so -/
def LOk (cl : Orc) (ns : List Int) (L : Rm) : Prop := ∀ k m r, look3 L k m = some r → 0 < m ∧ ∃ c : Int, c % m = r ∧ ∀ S, cl CELL [.scr ns, .int k] S = .ok (.int c) S
theorem I0.set {env : Ev} (h : I0 ns env) {i : Nat} (hi : i ≠ 0) (d : Option D) : I0 ns (env.set i d) := by
  unfold I0 at *
  rw [List.getElem?_set, if_neg hi]; exact h
theorem I0.wipe {env : Ev} (h : I0 ns env) : ∀ {tg : List Nat}, (tg.contains 0) = false → I0 ns (wipeE env tg)
  | [], _ => h
  | i :: is, hi => by
    simp only [List.contains_cons, Bool.or_eq_false_iff] at hi
    exact (I0.wipe h hi.2).set (by have := hi.1; simp at this; omega) none
theorem I0.foldl {ps : List (Nat × D)} : ∀ {env : Ev}, I0 ns env → (∀ p ∈ ps, p.1 ≠ 0) → I0 ns (ps.foldl (fun e p => e.set p.1 (some p.2)) env) := by
  induction ps with
  | nil => intro env h _; exact h
  | cons p ps ih => intro env h hp; exact ih (h.set (hp p List.mem_cons_self) _) fun q hq => hp q (List.mem_cons_of_mem _ hq)
theorem I0.setTg {env env' : Ev} {tg : List Nat} {d : D} (h : I0 ns env) (ht : (tg.contains 0) = false) (e : Mini.setTg tg d env = some env') : I0 ns env' := by
  have hm : ∀ i ∈ tg, i ≠ 0 := fun i hi z => by
    subst z
    have := List.contains_iff_mem.mpr hi
    rw [ht] at this; cases this
  unfold Mini.setTg at e
  split at e
  · rename_i i
    cases e
    exact h.set (hm i (by simp)) _
  · split at e
    · split at e
      · cases e
        exact I0.foldl h fun p hp => hm p.1 (List.of_mem_zip hp).1
      · cases e
    · cases e
theorem lc_congr {c c' : Ev → Sto → R Bool} {e e' : Ev → Sto → R D} {tg : List Nat} {fin : Sto → Bool} (ht : (tg.contains 0) = false) (hc : ∀ env S, I0 ns env → c env S = c' env S) (he : ∀ env S, I0 ns env → e env S = e' env S) {env : Ev} (h : I0 ns env) :
    ∀ (xs : List (Sto → Option D)) (acc : List D) (S : Sto), lcLoop c e tg env fin xs acc S = lcLoop c' e' tg env fin xs acc S
  | [], acc, S => rfl
  | x :: xs, acc, S => by
    unfold lcLoop
    split
    · rfl
    · split
      · rfl
      · rename_i env' es
        have h' := h.setTg ht es
        rw [hc env' S h']
        congr 1; funext k S1
        split
        · rw [he env' S1 h']
          congr 1; funext y S2
          split
          · exact lc_congr ht hc he h xs _ S2
          · rfl
        · exact lc_congr ht hc he h xs _ S1
theorem bind_congr {α β : Type} {r r' : R α} {f f' : α → Sto → R β} (h : r = r') (hf : ∀ a S, f a S = f' a S) : r.bind f = r'.bind f' := by
  subst h
  cases r <;> simp [hf]

set_option hygiene false in
mutual
theorem sbC_ok (hL : LOk cl ns L) : ∀ (c : C) (env : Ev) (S : Sto), n0C c = true → I0 ns env → evE cl gv (sbC L c) env S = evE cl gv c env S
  | .var i, env, S, _, _ => rfl
  | .lit d, env, S, _, _ => rfl
  | .gbl x, env, S, _, _ => rfl
  | .never, env, S, _, _ => rfl
  | .gidx x i, env, S, n, h => by
    simp only [sbC, evE]; exact bind_congr (sbC_ok hL i env S n h) fun _ _ => rfl
  | .tup z es, env, S, n, h => by
    simp only [sbC, evE]; exact bind_congr (sbCs_ok hL es env S n h) fun _ _ => rfl
  | .lst z es, env, S, n, h => by
    simp only [sbC, evE]; exact bind_congr (sbCs_ok hL es env S n h) fun _ _ => rfl
  | .dct m t es, env, S, n, h => by
    simp only [sbC, evE]; exact bind_congr (sbCs_ok hL es env S n h) fun _ _ => rfl
  | .bin op a b, env, S, n, h => by
    simp only [n0C, Bool.and_eq_true] at n
    simp only [sbC]
    cases hp : (pat op a b).bind fun q => look3 L q.1 q.2 with
    | none =>
      dsimp only
      simp only [evE]
      exact bind_congr (sbC_ok hL a env S n.1 h) fun x S1 => bind_congr (sbC_ok hL b env S1 n.2 h) fun _ _ => rfl
    | some r =>
      dsimp only
      rw [Option.bind_eq_some_iff] at hp
      obtain ⟨q, h1, h2⟩ := hp
      obtain ⟨rfl, rfl, rfl⟩ := pat_some h1
      obtain ⟨hm, c, hc, hcl⟩ := hL q.1 q.2 r h2
      have h0 : env[0]? = some (some (.scr ns)) := h
      simp only [evE, evEs, h0, R.bind_ok, hcl]
      unfold sBin
      simp only [hm, if_true, hc]
  | .neg a, env, S, n, h => by
    simp only [sbC, evE]; exact bind_congr (sbC_ok hL a env S n h) fun _ _ => rfl
  | .cmp op a b, env, S, n, h => by
    simp only [n0C, Bool.and_eq_true] at n
    simp only [sbC, evE]; exact bind_congr (sbC_ok hL a env S n.1 h) fun x S1 => bind_congr (sbC_ok hL b env S1 n.2 h) fun _ _ => rfl
  | .chain op op' a b c, env, S, n, h => by
    simp only [n0C, Bool.and_eq_true] at n
    simp only [sbC, evE]
    refine bind_congr (sbC_ok hL a env S n.1.1 h) fun x S1 => bind_congr (sbC_ok hL b env S1 n.1.2 h) fun y S2 => bind_congr rfl fun k S3 => ?_
    split
    · exact bind_congr (sbC_ok hL c env S3 n.2 h) fun _ _ => rfl
    · rfl
  | .not a, env, S, n, h => by
    simp only [sbC, evE]; exact bind_congr (sbC_ok hL a env S n h) fun _ _ => rfl
  | .bool k es, env, S, n, h => by
    simp only [sbC, evE]; exact sbB_ok hL es k env S n h
  | .ite t a b, env, S, n, h => by
    simp only [n0C, Bool.and_eq_true] at n
    simp only [sbC, evE]
    refine bind_congr (sbC_ok hL t env S n.1.1 h) fun x S1 => bind_congr rfl fun k S2 => ?_
    split
    · exact sbC_ok hL a env S2 n.1.2 h
    · exact sbC_ok hL b env S2 n.2 h
  | .idx a b, env, S, n, h => by
    simp only [n0C, Bool.and_eq_true] at n
    simp only [sbC, evE]; exact bind_congr (sbC_ok hL a env S n.1 h) fun x S1 => bind_congr (sbC_ok hL b env S1 n.2 h) fun _ _ => rfl
  | .slc a lo hi, env, S, n, h => by
    simp only [n0C, Bool.and_eq_true] at n
    simp only [sbC, evE]
    exact bind_congr (sbC_ok hL a env S n.1.1 h) fun x S1 => bind_congr (sbO_ok hL lo env S1 n.1.2 h) fun y S2 => bind_congr (sbO_ok hL hi env S2 n.2 h) fun _ _ => rfl
  | .rev m a, env, S, n, h => by
    simp only [sbC, evE]; exact bind_congr (sbC_ok hL a env S n h) fun _ _ => rfl
  | .fld a f, env, S, n, h => by
    simp only [sbC, evE]; exact bind_congr (sbC_ok hL a env S n h) fun _ _ => rfl
  | .call f es, env, S, n, h => by
    simp only [sbC, evE]; exact bind_congr (sbCs_ok hL es env S n h) fun _ _ => rfl
  | .meth c m f a es, env, S, n, h => by
    simp only [n0C, Bool.and_eq_true] at n
    simp only [sbC, evE]
    refine bind_congr (sbC_ok hL a env S n.1 h) fun x S1 => ?_
    cases x with
    | loc l =>
      dsimp only
      cases S1[l]? with
      | none => rfl
      | some u =>
        cases u with
        | ins c' fs =>
          dsimp only
          split
          · exact bind_congr (sbCs_ok hL es env S1 n.2 h) fun _ _ => rfl
          · rfl
        | _ => rfl
    | _ => rfl
  | .make c f es, env, S, n, h => by
    simp only [sbC, evE]; exact bind_congr (sbCs_ok hL es env S n h) fun _ _ => rfl
  | .f1 f a, env, S, n, h => by
    simp only [sbC, evE]; exact bind_congr (sbC_ok hL a env S n h) fun _ _ => rfl
  | .f2 f a b, env, S, n, h => by
    simp only [n0C, Bool.and_eq_true] at n
    simp only [sbC, evE]; exact bind_congr (sbC_ok hL a env S n.1 h) fun x S1 => bind_congr (sbC_ok hL b env S1 n.2 h) fun _ _ => rfl
  | .m0 f a, env, S, n, h => by
    simp only [sbC, evE]; exact bind_congr (sbC_ok hL a env S n h) fun _ _ => rfl
  | .m1 f a b, env, S, n, h => by
    simp only [n0C, Bool.and_eq_true] at n
    simp only [sbC, evE]
    refine bind_congr (sbC_ok hL a env S n.1 h) fun x S1 => ?_
    split
    · exact bind_congr (sbC_ok hL b env S1 n.2 h) fun _ _ => rfl
    · rfl
  | .get a b c, env, S, n, h => by
    simp only [n0C, Bool.and_eq_true] at n
    simp only [sbC, evE]
    refine bind_congr (sbC_ok hL a env S n.1.1 h) fun x S1 => ?_
    split
    · exact bind_congr (sbC_ok hL b env S1 n.1.2 h) fun y S2 => bind_congr (sbC_ok hL c env S2 n.2 h) fun _ _ => rfl
    · rfl
  | .comp m e tg it cond, env, S, n, h => by
    simp only [n0C, Bool.and_eq_true, Bool.not_eq_true'] at n
    simp only [sbC, evE]
    refine bind_congr (sbI_ok hL it env S n.1.2 h) fun w S1 => bind_congr ?_ fun _ _ => rfl
    exact lc_congr n.1.1.2 (fun env S h => sbT_ok_ hL cond env S n.2 h) (fun env S h => sbC_ok hL e env S n.1.1.1 h) (h.wipe n.1.1.2) _ _ _
theorem sbCs_ok (hL : LOk cl ns L) : ∀ (c : Cs) (env : Ev) (S : Sto), n0Cs c = true → I0 ns env → evEs cl gv (sbCs L c) env S = evEs cl gv c env S
  | .nil, env, S, _, _ => rfl
  | .cons e es, env, S, n, h => by
    simp only [n0Cs, Bool.and_eq_true] at n
    simp only [sbCs, evEs]; exact bind_congr (sbC_ok hL e env S n.1 h) fun x S1 => bind_congr (sbCs_ok hL es env S1 n.2 h) fun _ _ => rfl
theorem sbB_ok (hL : LOk cl ns L) : ∀ (c : Cs) (k : Bool) (env : Ev) (S : Sto), n0Cs c = true → I0 ns env → evB cl gv (sbCs L c) k env S = evB cl gv c k env S
  | .nil, k, env, S, _, _ => rfl
  | .cons e .nil, k, env, S, n, h => by
    simp only [n0Cs, Bool.and_eq_true] at n
    simp only [sbCs, evB]; exact sbC_ok hL e env S n.1 h
  | .cons e (.cons d ds), k, env, S, n, h => by
    simp only [n0Cs, Bool.and_eq_true] at n
    have h2 := fun S1 => sbB_ok hL (.cons d ds) k env S1 (by simp only [n0Cs, Bool.and_eq_true]; exact n.2) h
    show evE cl gv (.bool k (.cons (sbC L e) (.cons (sbC L d) (sbCs L ds)))) env S = evE cl gv (.bool k (.cons e (.cons d ds))) env S
    rw [evB_cons, evB_cons]
    refine bind_congr (sbC_ok hL e env S n.1 h) fun x S1 => bind_congr rfl fun k' S2 => ?_
    split
    · exact h2 S2
    · rfl
theorem sbO_ok (hL : LOk cl ns L) : ∀ (c : Co) (env : Ev) (S : Sto), n0Co c = true → I0 ns env → evO cl gv (sbCo L c) env S = evO cl gv c env S
  | .none, env, S, _, _ => rfl
  | .some e, env, S, n, h => by
    simp only [sbCo, evO]; exact bind_congr (sbC_ok hL e env S n h) fun _ _ => rfl
theorem sbT_ok_ (hL : LOk cl ns L) : ∀ (c : Co) (env : Ev) (S : Sto), n0Co c = true → I0 ns env → evC cl gv (sbCo L c) env S = evC cl gv c env S
  | .none, env, S, _, _ => rfl
  | .some e, env, S, n, h => by
    simp only [sbCo, evC]; exact bind_congr (sbC_ok hL e env S n h) fun _ _ => rfl
theorem sbI_ok (hL : LOk cl ns L) : ∀ (c : It) (env : Ev) (S : Sto), n0I c = true → I0 ns env → evI cl gv (sbI L c) env S = evI cl gv c env S
  | .seq a, env, S, n, h => by
    simp only [sbI, evI]; exact bind_congr (sbC_ok hL a env S n h) fun _ _ => rfl
  | .rng1 a, env, S, n, h => by
    simp only [sbI, evI]; exact bind_congr (sbC_ok hL a env S n h) fun _ _ => rfl
  | .rng2 a b, env, S, n, h => by
    simp only [n0I, Bool.and_eq_true] at n
    simp only [sbI, evI]; exact bind_congr (sbC_ok hL a env S n.1 h) fun x S1 => bind_congr (sbC_ok hL b env S1 n.2 h) fun _ _ => rfl
  | .rng3 a b c, env, S, n, h => by
    simp only [n0I, Bool.and_eq_true] at n
    simp only [sbI, evI]; exact bind_congr (sbC_ok hL a env S n.1.1 h) fun x S1 => bind_congr (sbC_ok hL b env S1 n.1.2 h) fun y S2 => bind_congr (sbC_ok hL c env S2 n.2 h) fun _ _ => rfl
  | .enum a, env, S, n, h => by
    simp only [sbI, evI]; exact bind_congr (sbC_ok hL a env S n h) fun _ _ => rfl
  | .vals a, env, S, n, h => by
    simp only [sbI, evI]; exact bind_congr (sbC_ok hL a env S n h) fun _ _ => rfl
end
end
end Mini

namespace Mini
open PySem L2
mutual
def sbT (L : Rm) : Tg → Tg
  | .name i => .name i
  | .fld o f => .fld (sbC L o) f
  | .sub o i => .sub (sbC L o) (sbC L i)
  | .tup ts => .tup (sbTs L ts)
def sbTs (L : Rm) : Tgs → Tgs
  | .nil => .nil
  | .cons t ts => .cons (sbT L t) (sbTs L ts)
end
mutual
def n0T : Tg → Bool
  | .name i => decide (i ≠ 0)
  | .fld o _ => n0C o
  | .sub o i => n0C o && n0C i
  | .tup ts => n0Ts ts
def n0Ts : Tgs → Bool
  | .nil => true
  | .cons t ts => n0T t && n0Ts ts
end
mutual
def sbS (L : Rm) : CS → CS
  | .expr e => .expr (sbC L e)
  | .ret e => .ret (sbC L e)
  | .retN => .retN | .pass => .pass | .brk => .brk | .cnt => .cnt
  | .asg t e => .asg (sbT L t) (sbC L e)
  | .aug i e => .aug i (sbC L e)
  | .ite t a b => .ite (sbC L t) (sbSs L a) (sbSs L b)
  | .whl n t b => .whl n (sbC L t) (sbSs L b)
  | .fo tg it b => .fo tg (sbI L it) (sbSs L b)
  | .raise c => .raise c
  | .tr b hs => .tr (sbSs L b) (sbH L hs)
def sbSs (L : Rm) : CSs → CSs
  | .nil => .nil
  | .cons s ss => .cons (sbS L s) (sbSs L ss)
def sbH (L : Rm) : Hs → Hs
  | .nil => .nil
  | .cons c b hs => .cons c (sbSs L b) (sbH L hs)
end
mutual
def n0S : CS → Bool
  | .expr e => n0C e
  | .ret e => n0C e
  | .asg t e => n0T t && n0C e
  | .aug i e => decide (i ≠ 0) && n0C e
  | .ite t a b => n0C t && n0Ss a && n0Ss b
  | .whl _ t b => n0C t && n0Ss b
  | .fo tg it b => !tg.contains 0 && n0I it && n0Ss b
  | .tr b hs => n0Ss b && n0H hs
  | _ => true
def n0Ss : CSs → Bool
  | .nil => true
  | .cons s ss => n0S s && n0Ss ss
def n0H : Hs → Bool
  | .nil => true
  | .cons _ b hs => n0Ss b && n0H hs
end
section
variable {cl : Orc} {gv : Gv} {L : Rm} {ns : List Int}
mutual
theorem sbT_ok (hL : LOk cl ns L) : ∀ (t : Tg) (d : D) (env : Ev) (S : Sto), n0T t = true → I0 ns env → asg cl gv (sbT L t) d env S = asg cl gv t d env S ∧ ∀ env' S', asg cl gv t d env S = .ok env' S' → I0 ns env'
  | .name i, d, env, S, n, h => ⟨rfl, fun env' S' e => by
    simp only [asg, R.ok.injEq] at e
    rw [← e.1]
    simp only [n0T, decide_eq_true_eq] at n
    exact h.set n _⟩
  | .fld o f, d, env, S, n, h => by
    have q := sbC_ok (gv := gv) hL o env S n h
    refine ⟨by simp only [sbT, asg, q], fun env' S' e => ?_⟩
    simp only [asg] at e
    cases ho : evE cl gv o env S with
    | ok x S1 =>
      rw [ho, R.bind_ok] at e
      split at e
      · split at e
        · split at e
          · cases e; exact h
          · cases e
        · cases e
      · cases e
    | exc => rw [ho] at e; cases e
    | stuck => rw [ho] at e; cases e
  | .sub o i, d, env, S, n, h => by
    simp only [n0T, Bool.and_eq_true] at n
    refine ⟨?_, fun env' S' e => ?_⟩
    · simp only [sbT, asg]
      exact bind_congr (sbC_ok hL o env S n.1 h) fun x S1 => bind_congr (sbC_ok hL i env S1 n.2 h) fun _ _ => rfl
    · simp only [asg] at e
      cases ho : evE cl gv o env S with
      | ok x S1 =>
        rw [ho, R.bind_ok] at e
        cases hi : evE cl gv i env S1 with
        | ok y S2 =>
          rw [hi, R.bind_ok] at e
          split at e
          · cases e; exact h
          · cases e
        | exc => rw [hi] at e; cases e
        | stuck => rw [hi] at e; cases e
      | exc => rw [ho] at e; cases e
      | stuck => rw [ho] at e; cases e
  | .tup ts, d, env, S, n, h => by
    simp only [n0T] at n
    refine ⟨?_, fun env' S' e => ?_⟩
    · simp only [sbT, asg]
      split
      · cases getS S d with
        | none => rfl
        | some xs => exact (sbTs_ok hL ts xs env S n h).1
      · rfl
    · simp only [asg] at e
      split at e
      · cases hg : getS S d with
        | none => rw [hg] at e; cases e
        | some xs => rw [hg] at e; exact (sbTs_ok hL ts xs env S n h).2 env' S' e
      · cases e
theorem sbTs_ok (hL : LOk cl ns L) : ∀ (ts : Tgs) (ds : List D) (env : Ev) (S : Sto), n0Ts ts = true → I0 ns env → asgs cl gv (sbTs L ts) ds env S = asgs cl gv ts ds env S ∧ ∀ env' S', asgs cl gv ts ds env S = .ok env' S' → I0 ns env'
  | .nil, ds, env, S, n, h => by
    refine ⟨rfl, fun env' S' e => ?_⟩
    simp only [asgs] at e
    split at e
    · cases e; exact h
    · cases e
  | .cons t ts, ds, env, S, n, h => by
    simp only [n0Ts, Bool.and_eq_true] at n
    cases ds with
    | nil => exact ⟨by simp only [sbTs, asgs], fun env' S' e => by simp only [asgs] at e; cases e⟩
    | cons d ds =>
      obtain ⟨h1, h2⟩ := sbT_ok hL t d env S n.1 h
      refine ⟨?_, fun env' S' e => ?_⟩
      · simp only [sbTs, asgs, h1]
        cases ha : asg cl gv t d env S with
        | ok env1 S1 => simp only [R.bind_ok]; exact (sbTs_ok hL ts ds env1 S1 n.2 (h2 env1 S1 ha)).1
        | exc => rfl
        | stuck => rfl
      · simp only [asgs] at e
        cases ha : asg cl gv t d env S with
        | ok env1 S1 => rw [ha, R.bind_ok] at e; exact (sbTs_ok hL ts ds env1 S1 n.2 (h2 env1 S1 ha)).2 env' S' e
        | exc => rw [ha] at e; cases e
        | stuck => rw [ha] at e; cases e
end
/-- slot 0 holds the script still -/
def Out0 (ns : List Int) : Out → Prop
  | .next env _ => I0 ns env
  | .brk env _ => I0 ns env
  | .cnt env _ => I0 ns env
  | .exc _ env _ => I0 ns env
  | _ => True
theorem out_ok {α : Type} {r r' : R α} {env : Ev} {k k' : α → Sto → Out} (h : I0 ns env) (e : r' = r) (q : ∀ a S, r = .ok a S → k' a S = k a S ∧ Out0 ns (k a S)) : r'.out env k' = r.out env k ∧ Out0 ns (r.out env k) := by
  subst e
  cases r' with
  | ok a S => exact q a S rfl
  | exc c S => exact ⟨rfl, h⟩
  | stuck => exact ⟨rfl, trivial⟩
theorem seq_ok {o o' : Out} {k k' : Ev → Sto → Out} (e : o' = o) (h : Out0 ns o) (q : ∀ env S, I0 ns env → k' env S = k env S ∧ Out0 ns (k env S)) : o'.seq k' = o.seq k ∧ Out0 ns (o.seq k) := by
  subst e
  cases o' with
  | next env S => exact q env S h
  | _ => exact ⟨rfl, h⟩
theorem turn_ok {o o' : Out} {k k' : Ev → Sto → Out} (e : o' = o) (h : Out0 ns o) (q : ∀ env S, I0 ns env → k' env S = k env S ∧ Out0 ns (k env S)) : o'.turn k' = o.turn k ∧ Out0 ns (o.turn k) := by
  subst e
  cases o' with
  | next env S => exact q env S h
  | cnt env S => exact q env S h
  | brk env S => exact ⟨rfl, h⟩
  | ret d S => exact ⟨rfl, trivial⟩
  | exc c env S => exact ⟨rfl, h⟩
  | stuck => exact ⟨rfl, trivial⟩
theorem wh_ok {t t' : Ev → Sto → R Bool} {b b' : Ev → Sto → Out} (ht : ∀ env S, I0 ns env → t' env S = t env S) (hb : ∀ env S, I0 ns env → b' env S = b env S ∧ Out0 ns (b env S)) :
    ∀ (n : Nat) (env : Ev) (S : Sto), I0 ns env → whLoop t' b' n env S = whLoop t b n env S ∧ Out0 ns (whLoop t b n env S)
  | 0, env, S, h => ⟨rfl, trivial⟩
  | n + 1, env, S, h => by
    simp only [whLoop]
    refine out_ok h (ht env S h) fun k S1 _ => ?_
    split
    · exact turn_ok (hb env S1 h).1 (hb env S1 h).2 fun env2 S2 h2 => wh_ok ht hb n env2 S2 h2
    · exact ⟨rfl, h⟩
theorem fo_ok {b b' : Ev → Sto → Out} {tg : List Nat} {fin : Sto → Bool} (ht : (tg.contains 0) = false) (hb : ∀ env S, I0 ns env → b' env S = b env S ∧ Out0 ns (b env S)) :
    ∀ (xs : List (Sto → Option D)) (env : Ev) (S : Sto), I0 ns env → foLoop b' tg fin xs env S = foLoop b tg fin xs env S ∧ Out0 ns (foLoop b tg fin xs env S)
  | [], env, S, h => by
    simp only [foLoop]
    split
    · exact ⟨trivial, h⟩
    · exact ⟨trivial, trivial⟩
  | x :: xs, env, S, h => by
    unfold foLoop
    split
    · exact ⟨rfl, trivial⟩
    · split
      · exact ⟨rfl, trivial⟩
      · rename_i env' es
        have h' := h.setTg ht es
        exact turn_ok (hb env' S h').1 (hb env' S h').2 fun env2 S2 h2 => fo_ok ht hb xs env2 S2 h2
mutual
theorem sbS_ok (hL : LOk cl ns L) : ∀ (s : CS) (env : Ev) (S : Sto), n0S s = true → I0 ns env → exS cl gv (sbS L s) env S = exS cl gv s env S ∧ Out0 ns (exS cl gv s env S)
  | .expr e, env, S, n, h => by
    simp only [sbS, exS]
    exact out_ok h (sbC_ok hL e env S n h) fun _ _ _ => ⟨rfl, h⟩
  | .ret e, env, S, n, h => by
    simp only [sbS, exS]
    exact out_ok h (sbC_ok hL e env S n h) fun _ _ _ => ⟨rfl, trivial⟩
  | .retN, env, S, n, h => ⟨rfl, by simp only [exS]; trivial⟩
  | .pass, env, S, n, h => ⟨rfl, by simp only [exS]; exact h⟩
  | .brk, env, S, n, h => ⟨rfl, by simp only [exS]; exact h⟩
  | .cnt, env, S, n, h => ⟨rfl, by simp only [exS]; exact h⟩
  | .raise c, env, S, n, h => ⟨rfl, by simp only [exS]; exact h⟩
  | .asg t e, env, S, n, h => by
    simp only [n0S, Bool.and_eq_true] at n
    simp only [sbS, exS]
    refine out_ok h (sbC_ok hL e env S n.2 h) fun d S1 _ => ?_
    obtain ⟨h1, h2⟩ := sbT_ok (gv := gv) hL t d env S1 n.1 h
    exact out_ok h h1 fun env2 S2 e2 => ⟨rfl, h2 env2 S2 e2⟩
  | .aug i e, env, S, n, h => by
    simp only [n0S, Bool.and_eq_true, decide_eq_true_eq] at n
    simp only [sbS, exS]
    split
    · refine out_ok h (sbC_ok hL e env S n.2 h) fun d S1 _ => ?_
      split
      · exact ⟨rfl, h.set n.1 _⟩
      · exact ⟨rfl, trivial⟩
    · exact ⟨rfl, trivial⟩
  | .ite t a b, env, S, n, h => by
    simp only [n0S, Bool.and_eq_true] at n
    simp only [sbS, exS]
    refine out_ok h (Mini.sbT_ok_ (gv := gv) hL (.some t) env S n.1.1 h) fun k S1 _ => ?_
    split
    · exact sbSs_ok hL a env S1 n.1.2 h
    · exact sbSs_ok hL b env S1 n.2 h
  | .whl m t b, env, S, n, h => by
    simp only [n0S, Bool.and_eq_true] at n
    simp only [sbS, exS]
    exact wh_ok (fun env S h => Mini.sbT_ok_ (gv := gv) hL (.some t) env S n.1 h) (fun env S h => sbSs_ok hL b env S n.2 h) m env S h
  | .fo tg it b, env, S, n, h => by
    simp only [n0S, Bool.and_eq_true, Bool.not_eq_true'] at n
    simp only [sbS, exS]
    exact out_ok h (sbI_ok hL it env S n.1.2 h) fun w S1 _ => fo_ok n.1.1 (fun env S h => sbSs_ok hL b env S n.2 h) w.its env S1 h
  | .tr b hs, env, S, n, h => by
    simp only [n0S, Bool.and_eq_true] at n
    obtain ⟨h1, h2⟩ := sbSs_ok hL b env S n.1 h
    simp only [sbS, exS, h1]
    cases ho : exSs cl gv b env S with
    | exc c env2 S2 =>
      rw [ho] at h2
      exact sbH_ok hL hs c env2 S2 n.2 h2
    | next _ _ => rw [ho] at h2; exact ⟨rfl, h2⟩
    | ret _ _ => exact ⟨rfl, trivial⟩
    | brk _ _ => rw [ho] at h2; exact ⟨rfl, h2⟩
    | cnt _ _ => rw [ho] at h2; exact ⟨rfl, h2⟩
    | stuck => exact ⟨rfl, trivial⟩
theorem sbSs_ok (hL : LOk cl ns L) : ∀ (s : CSs) (env : Ev) (S : Sto), n0Ss s = true → I0 ns env → exSs cl gv (sbSs L s) env S = exSs cl gv s env S ∧ Out0 ns (exSs cl gv s env S)
  | .nil, env, S, n, h => ⟨rfl, by simp only [exSs]; exact h⟩
  | .cons s ss, env, S, n, h => by
    simp only [n0Ss, Bool.and_eq_true] at n
    simp only [sbSs, exSs]
    obtain ⟨h1, h2⟩ := sbS_ok hL s env S n.1 h
    exact seq_ok h1 h2 fun env2 S2 h3 => sbSs_ok hL ss env2 S2 n.2 h3
theorem sbH_ok (hL : LOk cl ns L) : ∀ (hs : Hs) (c : Nat) (env : Ev) (S : Sto), n0H hs = true → I0 ns env → exH cl gv (sbH L hs) c env S = exH cl gv hs c env S ∧ Out0 ns (exH cl gv hs c env S)
  | .nil, c, env, S, n, h => ⟨rfl, by simp only [exH]; exact h⟩
  | .cons c' b hs, c, env, S, n, h => by
    simp only [n0H, Bool.and_eq_true] at n
    simp only [sbH, exH]
    split
    · obtain ⟨h1, h2⟩ := sbSs_ok hL b env S n.1 h
      rw [h1]
      cases ho : exSs cl gv b env S with
      | exc c env2 S2 => exact ⟨rfl, trivial⟩
      | next _ _ => rw [ho] at h2; exact ⟨rfl, h2⟩
      | ret _ _ => exact ⟨rfl, trivial⟩
      | brk _ _ => rw [ho] at h2; exact ⟨rfl, h2⟩
      | cnt _ _ => rw [ho] at h2; exact ⟨rfl, h2⟩
      | stuck => exact ⟨rfl, trivial⟩
    · exact sbH_ok hL hs c env S n.2 h
end
end
end Mini

namespace Mini
open PySem L2
/-- the k-th cell of a script -/
def cellI (ns : List Int) (k : Nat) : Int := ns.getD k 0
def isTrue1 : Out → Bool
  | .ret (.bl true) _ => true
  | _ => false
theorem callD_ret {fns : Nat → Option Fn} {gv : Gv} {d f : Nat} {args : List D} {S S1 : Sto} {F : Fn} {v v' : D} (hF : fns f = some F) (hl : args.length = F.params) (hp : F.pure = true) (hn : D.noLocs args = true)
    (he : exSs (callD fns gv d) gv F.body (args.map some ++ List.replicate (F.slots - F.params) none) [] = .ret v S1) (hv : freeze DEEP S1 v = some v') : callD fns gv (d + 1) f args S = .ok v' S := by
  unfold callD
  rw [hF]
  simp only [hl, hp, hn, he, hv, if_true]
/-- the law's def, its cells' remainders told by L -/
theorem law_by {fns : Nat → Option Fn} {gv : Gv} {d f : Nat} {ns : List Int} {body : CSs} {slots : Nat} {F0 : Fn} (L : Rm) (hF : fns f = some ⟨1, slots, true, body⟩) (hn : n0Ss body = true) (hL : LOk (callD fns gv d) ns L)
    (h : isTrue1 (exSs (callD fns gv d) gv (sbSs L body) (some (.scr ns) :: List.replicate (slots - 1) none) []) = true) : callD fns gv (d + 1) f [.scr ns] [] = .ok (.bl true) [] := by
  have h0 : I0 ns (some (.scr ns) :: List.replicate (slots - 1) none) := rfl
  rw [(sbSs_ok hL body _ [] hn h0).1] at h
  simp only [callD, hF, List.length_singleton, if_true, D.noLocs, D.noLoc, Bool.and_true, List.map_cons, List.map_nil, List.cons_append, List.nil_append]
  cases ho : exSs (callD fns gv d) gv body (some (.scr ns) :: List.replicate (slots - 1) none) [] with
  | ret v S1 =>
    rw [ho] at h
    unfold isTrue1 at h
    split at h
    · rename_i e
      cases e
      rfl
    · cases h
  | _ => rw [ho] at h; cases h
end Mini

namespace Mini
open PySem L2 PyProof.Rows

theorem en_new {v : Value} {o : Obj} {G : Heap → Prop} (B : Begins v o G) :
    Meets (Builtin.«enumerate.__new__» ⟨[.type "enumerate", v], []⟩) (fun _ R s => G s.heap ∧
      R (.ok (.ret (.ref (s.heap.push o).objs.size))) { s with heap := (s.heap.push o).push { cls := .type "enumerate", data := .fields #[.none, .bool false, .ref s.heap.objs.size, rawInt 0, .none, .none] } }) :=
  .of_wp fun prog w A R s h => by
    obtain ⟨hp, gn, fl, tk, os⟩ := s
    obtain ⟨hG, h⟩ := h
    have hsub := sub_enumerate
    have it1 : ∀ {A2 : Around} {E2 : Value → Shared → Prop} {Q2 : Value → Shared → Prop}, Q2 (.ref hp.objs.size) ⟨hp.push o, gn, fl, tk, os⟩ → wpAny (model prog w) A2 (pyIter v) Q2 E2 ⟨hp, gn, fl, tk, os⟩ :=
      fun z => B.iter prog w _ _ ⟨hp, gn, fl, tk, os⟩ _ hG z
    wp_walk using it1
    refine wpAny_stack_any fun st => wpAny_pure ?_
    split
    · rename_i c _ _ _ _ _
      cases (c == Value.type "enumerate")
      all_goals
        wp_walk using it1
        exact ⟨_, rfl, h⟩
    · wp_walk using it1
      exact ⟨_, rfl, h⟩
section
variable {prog : Program} {w : World} {A : Around} {E : Value → Shared → Prop} {s : Shared}
theorem en_call {t : Addr} {its : Array Value} {Q : Value → Shared → Prop} (ht : s.heap.IsTuple t its)
    (h : ∀ h', IsEnum h' (s.heap.objs.size + 1) s.heap.objs.size 0 .none → h'.IsTupleIter s.heap.objs.size t 0 → (∀ b o, s.heap.get? b = some o → h'.get? b = some o) → Q (.ref (s.heap.objs.size + 1)) { s with heap := h' }) :
    wpAny (model prog w) A (call (.type "enumerate") [.ref t]) Q E s := by
  have B := begins_tuple t its
  refine callType_new F.called_enumerate (by decide) (F.typeCall_enumerate_1 _) (F.newCall_enumerate_1 _) (fun obj => F.args_object_init_2 obj _) F.entry_enumerate_new (en_new B) ⟨ht, ?_⟩
  have hz : (s.heap.push { cls := .type "tuple_iterator", data := .fields #[.ref t, .int 0 0] }).objs.size = s.heap.objs.size + 1 := Heap.size_push ..
  show _ ∧ _
  rw [hz]
  have en : IsEnum ((s.heap.push { cls := .type "tuple_iterator", data := .fields #[.ref t, .int 0 0] }).push { cls := .type "enumerate", data := .fields #[.none, .bool false, .ref s.heap.objs.size, rawInt 0, .none, .none] })
      (s.heap.objs.size + 1) s.heap.objs.size 0 .none := by
    have q := Heap.get?_push_size (s.heap.push { cls := .type "tuple_iterator", data := .fields #[.ref t, .int 0 0] }) (o := { cls := .type "enumerate", data := .fields #[.none, .bool false, .ref s.heap.objs.size, rawInt 0, .none, .none] }) rfl
    rw [hz] at q
    exact q
  exact ⟨⟨_, en, rfl⟩, h _ en ⟨_, Heap.get?_push_of_some _ (Heap.get?_push_size _ rfl), rfl, rfl⟩ fun b o x => Heap.get?_push_of_some _ (Heap.get?_push_of_some _ x)⟩
end
/-- (0, x), (1, y), .. of a tuple's items -/
def Iet (K : PySem.W.Frag) (a : Addr) : L2.It :=
  ⟨fun i H => ∃ (xs : List V) (x : V), SqT K H a xs ∧ xs[i]? = some x, fun i H v H' => ∃ p x, v = .ref p ∧ H p = none ∧ H' = upd H p (.tup [.int (i : Nat), x]) ∧ ∀ xs, SqT K H a xs → xs[i]? = some x,
    fun i H => ∃ xs : List V, SqT K H a xs ∧ i = xs.length⟩
theorem turn_iet {P : Program} {w : World} {K : PySem.W.Frag} {elts : List Expr} {kk : Nat} {tpos : Pos} (a e it : Addr) (hai : a ≠ it) (hae : a ≠ e) (its : List Value) :
    Turn P w K (.Tuple elts kk tpos) (Iet K a) [e, it] e (fun i h => (∃ old, IsEnum h e it ((i : Nat) : Int) old) ∧ h.IsTupleIter it a i ∧ e ≠ it) where
  mem := by simp
  obj := fun i h st b hb => by
    obtain ⟨⟨old, en⟩, ⟨o, ho, _, hd⟩, _⟩ := st
    rcases (show b = e ∨ b = it by simpa using hb) with rfl | rfl
    · exact ⟨_, en, fun v q => nomatch q⟩
    · exact ⟨o, ho, fun v q => by rw [hd] at q; cases q⟩
  keep := fun i h h' st k => by
    obtain ⟨⟨old, en⟩, hi, hne⟩ := st
    exact ⟨⟨old, k e (by simp) _ en⟩, hi.at fun o q => k it (by simp) o q, hne⟩
  item := by
    intro X hP hw hK hc i pins s σ H E I hf st hg
    subst hP hw hK
    obtain ⟨⟨old, en⟩, hit, hne⟩ := st
    obtain ⟨xs, x, hq, hx⟩ := hg
    obtain ⟨us, rv, p, hz⟩ := I.tuple hq
    obtain ⟨u, hu, ru⟩ := rv.get hx
    have hel : e < s.heap.objs.size := Heap.lt_size en
    have hil : it < s.heap.objs.size := by obtain ⟨_, q, _⟩ := hit; exact Heap.lt_size q
    have pt : s.heap.IsTuple a us.toArray := p
    have hlt : i < us.toArray.size := by
      rw [List.size_toArray]
      exact (List.getElem?_eq_some_iff.mp hu).1
    have fr : e ∉ [it, a] := by
      simp only [List.mem_cons, List.not_mem_nil, or_false, not_or]
      exact ⟨hne, fun z => hae z.symm⟩
    refine wpAny_pyNext_enum_itemD (Draws.tuple (A := X.A.in1) (I.ok.hd hc) it a hai us.toArray) en ⟨hit, pt⟩ hlt hne fr fun y h' tk hy ho st' hT hsz hk => ?_
    have ey : y = u := by
      have q : us.toArray[i]? = some y := hy
      rw [← Array.getElem?_toList] at q
      have q : us[i]? = some y := q
      rw [hu] at q; cases q; rfl
    subst ey
    refine ⟨_, rfl, wpAny_letOwnedTupleGo_enum (s := { s with heap := h', toks := tk + 1 }) ho fun h'' en' sb => ?_⟩
    have hT2 : h''.get? s.heap.objs.size = some { cls := .type "tuple", data := .seq #[.int i tk, y] } := (sb.2 _ (Nat.ne_of_gt hel)).trans hT
    have new : ObjOk X.prog X.w (upd H s.heap.objs.size (.tup [.int (i : Nat), x])) h'' s.heap.objs.size (.tup [.int (i : Nat), x]) :=
      ⟨by show 2 ≤ sizeLine; rw [sizeLine_eq]; decide, [.int i tk, y], .cons ⟨_, rfl⟩ (.cons ru .nil), ⟨_, hT2, rfl, _, rfl⟩⟩
    have I1 : Inv X pins σ (upd H s.heap.objs.size (.tup [.int (i : Nat), x])) { s with heap := h'', toks := tk + 1 } :=
      I.turnedNew (ch := [e, it]) (fun b ob hb q => (sb.2 b (fun z => hb (by simp [z]))).trans (hk b ob (fun z => hb (by simp [z])) (fun z => hb (by simp [z])) q)) hf (Nat.le_refl _) new
    refine ⟨.ref s.heap.objs.size, _, I1, rfl, ⟨_, x, rfl, I.hok.fresh (Nat.le_refl _), rfl, fun ys hy2 => by rw [I.tuple_inj hy2 hq]; exact hx⟩, ⟨⟨y, ?_⟩, st'.1.at fun o q => (sb.2 it (Ne.symm hne)).trans q, hne⟩, fun b hb => ?_⟩
    · rw [show ((i + 1 : Nat) : Int) = (i : Int) + 1 by omega]
      exact en'
    · have hb' : b < s.heap.objs.size := by
        rcases (show b = e ∨ b = it by simpa using hb) with rfl | rfl
        · exact hel
        · exact hil
      rw [upd_ne (Nat.ne_of_lt hb')]
      exact (hf b hb).1
  done := by
    intro X hP hw hK hc i pins s σ H E I hf st hg
    subst hP hw hK
    obtain ⟨⟨old, en⟩, hit, hne⟩ := st
    obtain ⟨xs, hq, hx⟩ := hg
    obtain ⟨us, rv, p, hz⟩ := I.tuple hq
    obtain ⟨f0, f1, f2, f3, f4, f5⟩ := hf it (by simp)
    have hl : i = us.toArray.size := by rw [List.size_toArray, hx, rv.length]
    subst hl
    exact wpAny_pyNext_enum_endD (Draws.tuple (A := X.A.in1) (I.ok.hd hc) it a hai us.toArray) en ⟨hit, p⟩ fun h' eb => ⟨rfl, I.turned (t' := s.toks) (fun b o hb q => eb b o hb q) f0 f1 f3 f4 f5⟩
  self := fun A i s Q E st h => by
    obtain ⟨⟨_, en⟩, _⟩ := st
    exact wpAny_pyIter_enum en h
def iEnumT (K : PySem.W.Frag) (ta : TA) : TI := fun σ H R => ta σ H fun vs H1 => ∃ a xs, vs = [.ref a] ∧ SqT K H1 a xs ∧ R (Iet K a) H1
theorem pi_enumT {X : Cx} {e : Expr} {ta : TA} {p pos tpos : Pos} {elts : List Expr} {kk : Nat} (hg : Gl X "enumerate") (hm : X.mg "enumerate" = none) (ha : PA X [e] ta) (hs : starEach [e] X.env = [(false, eval e X.env)] := by rfl) :
    PI X (.Tuple elts kk tpos) (.Call (.Name "enumerate" p) [e] [] pos) (iEnumT X.K ta) := by
  refine ⟨fun pins s σ H R I h => ?_⟩
  refine Call_ (ld_blt I hg hm boot_enumerate (PyProof.Rows.callWith_type1 (thn (ha.run pos pins s σ H _ I h) fun us s1 ⟨vs, H1, I1, r1, q1⟩ => ?_) hs rfl))
  obtain ⟨a, xs, ex, hq, q⟩ := q1
  subst ex
  obtain ⟨u, eu, ru⟩ := vals1 r1
  subst eu
  cases ru
  obtain ⟨us, rv, pt, hz⟩ := I1.tuple hq
  have hal : a < s1.heap.objs.size := by obtain ⟨o, ho, _⟩ := pt; exact Heap.lt_size ho
  refine en_call (show s1.heap.IsTuple a us.toArray from pt) fun h' en hit hk => wpAny_pyIter_enum en ?_
  have I2 : Inv X pins σ H1 { s1 with heap := h' } := I1.kept (t' := s1.toks) hk
  refine ⟨s1.heap.objs.size + 1, [s1.heap.objs.size + 1, s1.heap.objs.size], _, _, H1, rfl, I2, turn_iet a (s1.heap.objs.size + 1) s1.heap.objs.size (Nat.ne_of_lt hal) (Nat.ne_of_lt (Nat.lt_succ_of_lt hal)) us, ⟨⟨.none, en⟩, hit, Nat.succ_ne_self _⟩, fun b hb => ?_, q⟩
  have hle : s1.heap.objs.size ≤ b := by
    rcases (show b = s1.heap.objs.size + 1 ∨ b = s1.heap.objs.size by simpa using hb) with rfl | rfl
    · exact Nat.le_succ _
    · exact Nat.le_refl _
  exact I1.fpOk hle (I1.hok.fresh hle)
section
variable {T : Tb} {K : PySem.W.Frag} {ρ : Rho} {H : Hp} {S : Sto}
def pairsD (xs : List D) : List D := (List.range xs.length).zip xs |>.map fun p => .tup [.int p.1, p.2]
theorem pairsD_get {xs : List D} {i : Nat} {d : D} (e : (pairsD xs)[i]? = some d) : ∃ x, xs[i]? = some x ∧ d = .tup [.int i, x] := by
  unfold pairsD at e
  rw [List.getElem?_map, Option.map_eq_some_iff] at e
  obtain ⟨⟨j, x⟩, h1, rfl⟩ := e
  rw [List.getElem?_zip_eq_some] at h1
  obtain ⟨h2, h3⟩ := h1
  have hj : j = i := by
    obtain ⟨q1, q2⟩ := List.getElem?_eq_some_iff.mp h2
    simpa using q2.symm
  subst hj
  exact ⟨x, h3, rfl⟩
theorem pairsD_len (xs : List D) : (pairsD xs).length = xs.length := by simp [pairsD]
theorem vr_pair {p : Addr} {i : Nat} {d : D} {v : V} (hp : H p = none) (h : VR K ρ H d v) (r : Rel T K ρ S H) : Ext ρ H ρ (upd H p (.tup [.int (i : Nat), v])) ∧ Rel T K ρ S (upd H p (.tup [.int (i : Nat), v])) ∧ VR K ρ (upd H p (.tup [.int (i : Nat), v])) (.tup [.int i, d]) (.ref p) := by
  have x : Ext ρ H ρ (upd H p (.tup [.int (i : Nat), v])) := Ext.upd hp
  refine ⟨x, r.new hp, ?_⟩
  simp only [VR]
  exact ⟨p, _, rfl, upd_same, VRs.cons (by simp only [VR]) (VRs.cons (VR.mono x _ _ h) VRs.nil)⟩
theorem WR.enumL {p : Addr} {xs : List D} {vs : List V} (hG : ∀ ρ' H', Ext ρ H ρ' H' → SqL K H' p vs) (w : VRs K ρ H xs vs) : WR T K ρ H (litW (pairsD xs)) (Ite K p) :=
  WR.lit walk_enum (by rw [pairsD_len, w.length]) hG fun ρ' S' H' i x H'' d e r hi y ed => by
    obtain ⟨q, a, b, rfl, hq, rfl, ea, eb⟩ := y
    cases ea
    obtain ⟨z, h1, rfl⟩ := pairsD_get ed
    obtain ⟨v, h3, h4⟩ := (VRs.mono e _ _ w).get h1
    have eb2 : vs[i]? = some b := eb
    rw [eb2] at h3; cases h3
    exact vr_pair hq h4 r
theorem walk_iet {a : Addr} {xs : List V} : Walk (Iet K a) xs.length (fun H => SqT K H a xs) (YPair (fun i => some (.int (i : Nat))) (fun i => xs[i]?)) := by
  refine ⟨fun i _ hi q => ⟨xs, xs[i], q, by simp [hi]⟩, fun _ q => ⟨xs, q, rfl⟩, fun i H v H' _ q y => ?_⟩
  obtain ⟨p, x, h1, h2, h3, h4⟩ := y
  exact ⟨p, .int (i : Nat), x, h1, h2, h3, rfl, h4 xs q⟩
theorem WR.enumT {p : Addr} {xs : List D} {vs : List V} (hG : SqT K H p vs) (w : VRs K ρ H xs vs) : WR T K ρ H (litW (pairsD xs)) (Iet K p) :=
  WR.lit walk_iet (by rw [pairsD_len, w.length]) (fun ρ' H' e => e.toExt0.tup hG) fun ρ' S' H' i x H'' d e r hi y ed => by
    obtain ⟨q, a, b, rfl, hq, rfl, ea, eb⟩ := y
    cases ea
    obtain ⟨z, h1, rfl⟩ := pairsD_get ed
    obtain ⟨v, h3, h4⟩ := (VRs.mono e _ _ w).get h1
    have eb2 : vs[i]? = some b := eb
    rw [eb2] at h3; cases h3
    exact vr_pair hq h4 r
end
section
variable {T : Tb} {X : Cx} {cl : Orc} {gv : Gv} {W : WX} {e : Expr} {c : C}
theorem mi_enum {p pos tpos : Pos} {elts : List Expr} {kk : Nat} (hg : Gl X "enumerate") (hm : X.mg "enumerate" = none) (he : PE X e (tE T X.K cl gv W c)) (hs : starEach [e] X.env = [(false, eval e X.env)] := by rfl) :
    PI X (.Tuple elts kk tpos) (.Call (.Name "enumerate" p) [e] [] pos) (tI T X.K cl gv W (.enum c)) :=
  PI_imp (PI_or (pi_enum hg hm (pa_cons he pa_nil hs) hs) (pi_enumT hg hm (pa_cons he pa_nil hs) hs)) fun σ H Q h => by
    obtain ⟨ρ, S, env, r, ee, g⟩ := h
    simp only [evI] at g
    cases he : evE cl gv c env S with
    | stuck => rw [he] at g; exact g.elim
    | exc c S1 => rw [he] at g; exact .inl ⟨ρ, S, env, r, ee, by rw [he]; exact g⟩
    | ok d S1 =>
      rw [he] at g
      simp only [R.bind_ok] at g
      cases d with
      | fl xs =>
        refine .inl ⟨ρ, S, env, r, ee, ?_⟩
        rw [he]
        intro ρ' H' x x1 r1 v
        simp only [VR] at v
        obtain ⟨p, vs, rfl, n, q, w1⟩ := v
        exact ⟨p, vs, rfl, SqL.of q, g ρ' H' _ x1 r1 (WR.enumL (fun ρ2 H2 x2 => SqL.of (x2.kp p _ q (.inl n))) w1)⟩
      | tup xs =>
        refine .inr ⟨ρ, S, env, r, ee, ?_⟩
        rw [he]
        intro ρ' H' x x1 r1 v
        simp only [VR] at v
        obtain ⟨p, vs, rfl, q, w1⟩ := v
        exact ⟨p, vs, rfl, SqT.of q, g ρ' H' _ x1 r1 (WR.enumT (SqT.of q) w1)⟩
      | _ => exact g.elim
end
end Mini


namespace Mini
open PySem L2 PyProof.Rows

open PySem L2 PyProof.Rows
def top (i : Nat) : Stmt := PySem.Challenge.pw_treecarry_k16_at_the_edges.main.body.getD i (.Pass ⟨0, 0, 0, 0⟩)
-- is_within: thing low high
def b_is_within : CSs := (CSs.cons (CS.ret (C.bool true (Cs.cons (C.f1 (.isi "int") (C.var 0)) (Cs.cons (C.not (C.f1 (.isi "bool") (C.var 0))) (Cs.cons (C.chain .le .le (C.var 1) (C.var 0) (C.var 2)) Cs.nil)))))
 CSs.nil)
def f_is_within : Fn := ⟨3, 3, true, b_is_within⟩
-- is_name: thing sign
def b_is_name : CSs := (CSs.cons (CS.ite (C.bool false (Cs.cons (C.not (C.f1 (.isi "str") (C.var 0))) (Cs.cons (C.not (C.chain .le .le (C.lit (D.int 1)) (C.f1 .len (C.var 0)) (C.gbl 1))) Cs.nil)))
 (CSs.cons (CS.ret (C.lit (D.bl false)))
 CSs.nil)
 CSs.nil)
 (CSs.cons (CS.ret (C.not (C.comp false (C.var 1) [1] (It.seq (C.var 0)) (Co.some (C.cmp .notin (C.var 1) (C.gbl 0))))))
 CSs.nil))
def f_is_name : Fn := ⟨1, 2, true, b_is_name⟩
-- is_path: thing name
def b_is_path : CSs := (CSs.cons (CS.ret (C.bool true (Cs.cons (C.f1 (.isi "tuple") (C.var 0)) (Cs.cons (C.not (C.comp false (C.var 1) [1] (It.seq (C.var 0)) (Co.some (C.not (C.call 1 (Cs.cons (C.var 1) Cs.nil)))))) Cs.nil))))
 CSs.nil)
def f_is_path : Fn := ⟨1, 2, true, b_is_path⟩
-- is_node: thing deep
def b_is_node : CSs := (CSs.cons (CS.ite (C.bool false (Cs.cons (C.not (C.f1 (.isi "tuple") (C.var 0))) (Cs.cons (C.cmp .ne (C.f1 .len (C.var 0)) (C.lit (D.int 3))) (Cs.cons (C.not (C.f1 (.isi "str") (C.idx (C.var 0) (C.lit (D.int 0))))) Cs.nil))))
 (CSs.cons (CS.ret (C.lit (D.bl false)))
 CSs.nil)
 CSs.nil)
 (CSs.cons (CS.ite (C.bool false (Cs.cons (C.not (C.call 0 (Cs.cons (C.idx (C.var 0) (C.lit (D.int 2))) (Cs.cons (C.lit (D.int 0)) (Cs.cons (C.gbl 5) Cs.nil))))) (Cs.cons (C.cmp .gt (C.var 1) (C.gbl 2)) Cs.nil)))
 (CSs.cons (CS.ret (C.lit (D.bl false)))
 CSs.nil)
 CSs.nil)
 (CSs.cons (CS.ite (C.cmp .eq (C.idx (C.var 0) (C.lit (D.int 0))) (C.lit (D.str "file")))
 (CSs.cons (CS.ret (C.call 0 (Cs.cons (C.idx (C.var 0) (C.lit (D.int 1))) (Cs.cons (C.lit (D.int 0)) (Cs.cons (C.gbl 4) Cs.nil)))))
 CSs.nil)
 CSs.nil)
 (CSs.cons (CS.ret (C.bool true (Cs.cons (C.cmp .eq (C.idx (C.var 0) (C.lit (D.int 0))) (C.lit (D.str "drawer"))) (Cs.cons (C.call 4 (Cs.cons (C.idx (C.var 0) (C.lit (D.int 1))) (Cs.cons (C.var 1) Cs.nil))) Cs.nil))))
 CSs.nil))))
def f_is_node : Fn := ⟨2, 2, true, b_is_node⟩
-- are_entries: thing deep last entry
def b_are_entries : CSs := (CSs.cons (CS.ite (C.not (C.f1 (.isi "tuple") (C.var 0)))
 (CSs.cons (CS.ret (C.lit (D.bl false)))
 CSs.nil)
 CSs.nil)
 (CSs.cons (CS.asg (Tg.name 2) (C.lit (D.str "")))
 (CSs.cons (CS.fo [3] (It.seq (C.var 0))
 (CSs.cons (CS.ite (C.bool false (Cs.cons (C.not (C.f1 (.isi "tuple") (C.var 3))) (Cs.cons (C.cmp .ne (C.f1 .len (C.var 3)) (C.lit (D.int 2))) (Cs.cons (C.not (C.call 1 (Cs.cons (C.idx (C.var 3) (C.lit (D.int 0))) Cs.nil))) (Cs.cons (C.cmp .le (C.idx (C.var 3) (C.lit (D.int 0))) (C.var 2)) Cs.nil)))))
 (CSs.cons (CS.ret (C.lit (D.bl false)))
 CSs.nil)
 CSs.nil)
 (CSs.cons (CS.ite (C.not (C.call 3 (Cs.cons (C.idx (C.var 3) (C.lit (D.int 1))) (Cs.cons (C.bin .add (C.var 1) (C.lit (D.int 1))) Cs.nil))))
 (CSs.cons (CS.ret (C.lit (D.bl false)))
 CSs.nil)
 CSs.nil)
 (CSs.cons (CS.asg (Tg.name 2) (C.idx (C.var 3) (C.lit (D.int 0))))
 CSs.nil))))
 (CSs.cons (CS.ret (C.lit (D.bl true)))
 CSs.nil))))
def f_are_entries : Fn := ⟨2, 4, true, b_are_entries⟩
-- node_count: node name inner
def b_node_count : CSs := (CSs.cons (CS.ite (C.cmp .eq (C.idx (C.var 0) (C.lit (D.int 0))) (C.lit (D.str "file")))
 (CSs.cons (CS.ret (C.lit (D.int 1)))
 CSs.nil)
 CSs.nil)
 (CSs.cons (CS.ret (C.bin .add (C.lit (D.int 1)) (C.f1 .sum (C.comp false (C.call 5 (Cs.cons (C.var 2) Cs.nil)) [1, 2] (It.seq (C.idx (C.var 0) (C.lit (D.int 1)))) Co.none))))
 CSs.nil))
def f_node_count : Fn := ⟨1, 3, true, b_node_count⟩
-- node_height: node name inner
def b_node_height : CSs := (CSs.cons (CS.ite (C.cmp .eq (C.idx (C.var 0) (C.lit (D.int 0))) (C.lit (D.str "file")))
 (CSs.cons (CS.ret (C.lit (D.int 1)))
 CSs.nil)
 CSs.nil)
 (CSs.cons (CS.ret (C.bin .add (C.lit (D.int 1)) (C.f1 (.maxd 0) (C.comp false (C.call 6 (Cs.cons (C.var 2) Cs.nil)) [1, 2] (It.seq (C.idx (C.var 0) (C.lit (D.int 1)))) Co.none))))
 CSs.nil))
def f_node_height : Fn := ⟨1, 3, true, b_node_height⟩
-- is_tree: thing
def b_is_tree : CSs := (CSs.cons (CS.ret (C.bool true (Cs.cons (C.call 3 (Cs.cons (C.var 0) (Cs.cons (C.lit (D.int 0)) Cs.nil))) (Cs.cons (C.cmp .eq (C.idx (C.var 0) (C.lit (D.int 0))) (C.lit (D.str "drawer"))) (Cs.cons (C.cmp .le (C.call 5 (Cs.cons (C.var 0) Cs.nil)) (C.gbl 3)) Cs.nil)))))
 CSs.nil)
def f_is_tree : Fn := ⟨1, 1, true, b_is_tree⟩
-- look: tree
def b_look : CSs := (CSs.cons (CS.ite (C.not (C.call 7 (Cs.cons (C.var 0) Cs.nil)))
 (CSs.cons (CS.raise 1)
 CSs.nil)
 CSs.nil)
 CSs.nil)
def f_look : Fn := ⟨1, 1, true, b_look⟩
-- found_at: node path name inside
def b_found_at : CSs := (CSs.cons (CS.fo [2] (It.seq (C.var 1))
 (CSs.cons (CS.asg (Tg.name 3) (C.ite (C.cmp .eq (C.idx (C.var 0) (C.lit (D.int 0))) (C.lit (D.str "drawer"))) (C.f1 (.dict false false) (C.idx (C.var 0) (C.lit (D.int 1)))) (C.dct false false Cs.nil)))
 (CSs.cons (CS.ite (C.cmp .notin (C.var 2) (C.var 3))
 (CSs.cons (CS.ret (C.lit D.non))
 CSs.nil)
 CSs.nil)
 (CSs.cons (CS.asg (Tg.name 0) (C.idx (C.var 3) (C.var 2)))
 CSs.nil))))
 (CSs.cons (CS.ret (C.var 0))
 CSs.nil))
def f_found_at : Fn := ⟨2, 4, true, b_found_at⟩
-- with_node: node path new entries inner entry
def b_with_node : CSs := (CSs.cons (CS.ite (C.not (C.var 1))
 (CSs.cons (CS.ret (C.var 2))
 CSs.nil)
 CSs.nil)
 (CSs.cons (CS.asg (Tg.name 3) (C.comp true (C.var 5) [5] (It.seq (C.idx (C.var 0) (C.lit (D.int 1)))) (Co.some (C.cmp .ne (C.idx (C.var 5) (C.lit (D.int 0))) (C.idx (C.var 1) (C.lit (D.int 0)))))))
 (CSs.cons (CS.asg (Tg.name 4) (C.var 2))
 (CSs.cons (CS.ite (C.cmp .gt (C.f1 .len (C.var 1)) (C.lit (D.int 1)))
 (CSs.cons (CS.asg (Tg.name 4) (C.call 10 (Cs.cons (C.idx (C.f1 (.dict false false) (C.idx (C.var 0) (C.lit (D.int 1)))) (C.idx (C.var 1) (C.lit (D.int 0)))) (Cs.cons (C.slc (C.var 1) (Co.some (C.lit (D.int 1))) Co.none) (Cs.cons (C.var 2) Cs.nil)))))
 CSs.nil)
 CSs.nil)
 (CSs.cons (CS.ite (C.cmp .notN (C.var 4) (C.lit D.non))
 (CSs.cons (CS.expr (C.m1 .append (C.var 3) (C.tup false (Cs.cons (C.idx (C.var 1) (C.lit (D.int 0))) (Cs.cons (C.var 4) Cs.nil)))))
 CSs.nil)
 CSs.nil)
 (CSs.cons (CS.ret (C.tup false (Cs.cons (C.idx (C.var 0) (C.lit (D.int 0))) (Cs.cons (C.f1 (.tuple true) (C.f1 (.srtP false) (C.var 3))) (Cs.cons (C.idx (C.var 0) (C.lit (D.int 2))) Cs.nil)))))
 CSs.nil))))))
def f_with_node : Fn := ⟨3, 6, true, b_with_node⟩
-- is_job: tree thing path
def b_is_job : CSs := (CSs.cons (CS.ite (C.bool false (Cs.cons (C.not (C.f1 (.isi "tuple") (C.var 1))) (Cs.cons (C.cmp .ne (C.f1 .len (C.var 1)) (C.lit (D.int 4))) (Cs.cons (C.not (C.f1 (.isi "str") (C.idx (C.var 1) (C.lit (D.int 0))))) (Cs.cons (C.cmp .notin (C.idx (C.var 1) (C.lit (D.int 0))) (C.gbl 6)) Cs.nil)))))
 (CSs.cons (CS.ret (C.lit (D.bl false)))
 CSs.nil)
 CSs.nil)
 (CSs.cons (CS.ite (C.bool false (Cs.cons (C.not (C.f1 (.isi "tuple") (C.idx (C.var 1) (C.lit (D.int 1))))) (Cs.cons (C.not (C.chain .le .le (C.lit (D.int 1)) (C.f1 .len (C.idx (C.var 1) (C.lit (D.int 1)))) (C.gbl 8))) (Cs.cons (C.not (C.f1 (.isi "bool") (C.idx (C.var 1) (C.lit (D.int 3))))) Cs.nil))))
 (CSs.cons (CS.ret (C.lit (D.bl false)))
 CSs.nil)
 CSs.nil)
 (CSs.cons (CS.fo [2] (It.seq (C.bin .add (C.idx (C.var 1) (C.lit (D.int 1))) (C.tup false (Cs.cons (C.idx (C.var 1) (C.lit (D.int 2))) Cs.nil))))
 (CSs.cons (CS.ite (C.bool false (Cs.cons (C.not (C.call 2 (Cs.cons (C.var 2) Cs.nil))) (Cs.cons (C.cmp .isN (C.call 9 (Cs.cons (C.var 0) (Cs.cons (C.var 2) Cs.nil))) (C.lit D.non)) Cs.nil)))
 (CSs.cons (CS.ret (C.lit (D.bl false)))
 CSs.nil)
 CSs.nil)
 CSs.nil))
 (CSs.cons (CS.ret (C.bool true (Cs.cons (C.cmp .notin (C.tup false Cs.nil) (C.idx (C.var 1) (C.lit (D.int 1)))) (Cs.cons (C.cmp .eq (C.idx (C.call 9 (Cs.cons (C.var 0) (Cs.cons (C.idx (C.var 1) (C.lit (D.int 2))) Cs.nil))) (C.lit (D.int 0))) (C.lit (D.str "drawer"))) Cs.nil))))
 CSs.nil))))
def f_is_job : Fn := ⟨2, 3, true, b_is_job⟩
-- look_job: tree job path
def b_look_job : CSs := (CSs.cons (CS.ite (C.not (C.call 11 (Cs.cons (C.var 0) (Cs.cons (C.var 1) Cs.nil))))
 (CSs.cons (CS.raise 2)
 CSs.nil)
 CSs.nil)
 (CSs.cons (CS.fo [2] (It.seq (C.idx (C.var 1) (C.lit (D.int 1))))
 (CSs.cons (CS.ite (C.cmp .eq (C.slc (C.idx (C.var 1) (C.lit (D.int 2))) Co.none (Co.some (C.f1 .len (C.var 2)))) (C.var 2))
 (CSs.cons (CS.raise 3)
 CSs.nil)
 CSs.nil)
 CSs.nil))
 CSs.nil))
def f_look_job : Fn := ⟨2, 3, true, b_look_job⟩
-- is_answer: kind word
def b_is_answer : CSs := (CSs.cons (CS.ret (C.bool true (Cs.cons (C.f1 (.isi "str") (C.var 1)) (Cs.cons (C.cmp .isin (C.var 1) (C.gidx 7 (C.var 0))) Cs.nil))))
 CSs.nil)
def f_is_answer : Fn := ⟨2, 2, true, b_is_answer⟩
-- kind_of: one other
def b_kind_of : CSs := (CSs.cons (CS.ite (C.cmp .ne (C.idx (C.var 0) (C.lit (D.int 0))) (C.idx (C.var 1) (C.lit (D.int 0))))
 (CSs.cons (CS.ret (C.lit (D.str "unlike")))
 CSs.nil)
 CSs.nil)
 (CSs.cons (CS.ret (C.bin .add (C.idx (C.var 0) (C.lit (D.int 0))) (C.lit (D.str "s"))))
 CSs.nil))
def f_kind_of : Fn := ⟨2, 2, true, b_kind_of⟩
-- free_name: drawer name taken number entry
def b_free_name : CSs := (CSs.cons (CS.asg (Tg.name 2) (C.comp false (C.idx (C.var 4) (C.lit (D.int 0))) [4] (It.seq (C.idx (C.var 0) (C.lit (D.int 1)))) Co.none))
 (CSs.cons (CS.asg (Tg.name 3) (C.lit (D.int 2)))
 (CSs.cons (CS.whl 100000 (C.cmp .isin (C.bin .add (C.slc (C.var 1) Co.none (Co.some (C.bin .sub (C.gbl 1) (C.f1 .len (C.f1 .str (C.var 3)))))) (C.f1 .str (C.var 3))) (C.var 2))
 (CSs.cons (CS.aug 3 (C.lit (D.int 1)))
 CSs.nil))
 (CSs.cons (CS.ret (C.bin .add (C.slc (C.var 1) Co.none (Co.some (C.bin .sub (C.gbl 1) (C.f1 .len (C.f1 .str (C.var 3)))))) (C.f1 .str (C.var 3))))
 CSs.nil))))
def f_free_name : Fn := ⟨2, 5, true, b_free_name⟩
-- Job.__init__: self what path
def b_Job_init : CSs := (CSs.cons (CS.asg (Tg.fld (C.var 0) 0) (C.var 1))
 (CSs.cons (CS.asg (Tg.fld (C.var 0) 1) (C.comp true (C.tup false (Cs.cons (C.lit (D.str "carry")) (Cs.cons (C.var 2) (Cs.cons (C.bin .add (C.idx (C.var 1) (C.lit (D.int 2))) (C.slc (C.var 2) (Co.some (C.neg (C.lit (D.int 1)))) Co.none)) Cs.nil)))) [2] (It.seq (C.rev false (C.idx (C.var 1) (C.lit (D.int 1))))) Co.none))
 (CSs.cons (CS.asg (Tg.fld (C.var 0) 2) (C.dct true false Cs.nil))
 (CSs.cons (CS.asg (Tg.fld (C.var 0) 3) (C.lit D.non))
 (CSs.cons (CS.asg (Tg.fld (C.var 0) 4) (C.lit D.non))
 (CSs.cons (CS.asg (Tg.fld (C.var 0) 5) (C.lit (D.str "runs")))
 CSs.nil))))))
def f_Job_init : Fn := ⟨2, 3, false, b_Job_init⟩
-- Step.__init__: self number told before
def b_Step_init : CSs := (CSs.cons (CS.asg (Tg.fld (C.var 0) 6) (C.var 1))
 (CSs.cons (CS.asg (Tg.fld (C.var 0) 7) (C.var 2))
 (CSs.cons (CS.asg (Tg.fld (C.var 0) 8) (C.var 3))
 CSs.nil)))
def f_Step_init : Fn := ⟨4, 4, false, b_Step_init⟩
-- Step.touches: self other
def b_Step_touches : CSs := (CSs.cons (CS.expr C.never)
 CSs.nil)
def f_Step_touches : Fn := ⟨2, 2, false, b_Step_touches⟩
-- Carrier.__init__: self tree now
def b_Carrier_init : CSs := (CSs.cons (CS.expr (C.call 8 (Cs.cons (C.var 1) Cs.nil)))
 (CSs.cons (CS.ite (C.not (C.call 0 (Cs.cons (C.var 2) (Cs.cons (C.lit (D.int 0)) (Cs.cons (C.gbl 5) Cs.nil)))))
 (CSs.cons (CS.raise 5)
 CSs.nil)
 CSs.nil)
 (CSs.cons (CS.asg (Tg.fld (C.var 0) 9) (C.var 1))
 (CSs.cons (CS.asg (Tg.fld (C.var 0) 10) (C.var 2))
 (CSs.cons (CS.asg (Tg.fld (C.var 0) 11) (C.lst true Cs.nil))
 (CSs.cons (CS.asg (Tg.fld (C.var 0) 12) (C.lst true Cs.nil))
 CSs.nil))))))
def f_Carrier_init : Fn := ⟨3, 3, false, b_Carrier_init⟩
-- Carrier.whole: self
def b_Carrier_whole : CSs := (CSs.cons (CS.ret (C.fld (C.var 0) 9))
 CSs.nil)
def f_Carrier_whole : Fn := ⟨1, 1, false, b_Carrier_whole⟩
-- Carrier.moment: self
def b_Carrier_moment : CSs := (CSs.cons (CS.ret (C.fld (C.var 0) 10))
 CSs.nil)
def f_Carrier_moment : Fn := ⟨1, 1, false, b_Carrier_moment⟩
-- Carrier.begin: self what
def b_Carrier_begin : CSs := (CSs.cons (CS.expr (C.call 12 (Cs.cons (C.fld (C.var 0) 9) (Cs.cons (C.var 1) Cs.nil))))
 (CSs.cons (CS.expr (C.m1 .append (C.fld (C.var 0) 11) (C.make 0 16 (Cs.cons (C.var 1) Cs.nil))))
 (CSs.cons (CS.ret (C.bin .sub (C.f1 .len (C.fld (C.var 0) 11)) (C.lit (D.int 1))))
 CSs.nil)))
def f_Carrier_begin : Fn := ⟨2, 2, false, b_Carrier_begin⟩
-- Carrier.job: self number
def b_Carrier_job : CSs := (CSs.cons (CS.ite (C.not (C.call 0 (Cs.cons (C.var 1) (Cs.cons (C.lit (D.int 0)) (Cs.cons (C.bin .sub (C.f1 .len (C.fld (C.var 0) 11)) (C.lit (D.int 1))) Cs.nil)))))
 (CSs.cons (CS.raise 4)
 CSs.nil)
 CSs.nil)
 (CSs.cons (CS.ret (C.idx (C.fld (C.var 0) 11) (C.var 1)))
 CSs.nil))
def f_Carrier_job : Fn := ⟨2, 2, false, b_Carrier_job⟩
-- Carrier.states: self
def b_Carrier_states : CSs := (CSs.cons (CS.expr C.never)
 CSs.nil)
def f_Carrier_states : Fn := ⟨1, 1, false, b_Carrier_states⟩
-- Carrier.asked: self number
def b_Carrier_asked : CSs := (CSs.cons (CS.ret (C.fld (C.meth 2 15 23 (C.var 0) (Cs.cons (C.var 1) Cs.nil)) 4))
 CSs.nil)
def f_Carrier_asked : Fn := ⟨2, 2, false, b_Carrier_asked⟩
-- Carrier.journal: self
def b_Carrier_journal : CSs := (CSs.cons (CS.expr C.never)
 CSs.nil)
def f_Carrier_journal : Fn := ⟨1, 1, false, b_Carrier_journal⟩
-- Carrier.halt: self number
def b_Carrier_halt : CSs := (CSs.cons (CS.expr C.never)
 CSs.nil)
def f_Carrier_halt : Fn := ⟨2, 2, false, b_Carrier_halt⟩
-- Carrier.go_on: self number
def b_Carrier_go_on : CSs := (CSs.cons (CS.expr C.never)
 CSs.nil)
def f_Carrier_go_on : Fn := ⟨2, 2, false, b_Carrier_go_on⟩
-- Carrier.answer: self number word for_all job
def b_Carrier_answer : CSs := (CSs.cons (CS.asg (Tg.name 4) (C.meth 2 15 23 (C.var 0) (Cs.cons (C.var 1) Cs.nil)))
 (CSs.cons (CS.ite (C.bool false (Cs.cons (C.cmp .ne (C.fld (C.var 4) 5) (C.lit (D.str "asks"))) (Cs.cons (C.not (C.call 13 (Cs.cons (C.idx (C.fld (C.var 4) 4) (C.lit (D.int 0))) (Cs.cons (C.var 2) Cs.nil)))) (Cs.cons (C.not (C.f1 (.isi "bool") (C.var 3))) Cs.nil))))
 (CSs.cons (CS.raise 6)
 CSs.nil)
 CSs.nil)
 (CSs.cons (CS.ite (C.var 3)
 (CSs.cons (CS.asg (Tg.sub (C.fld (C.var 4) 2) (C.idx (C.fld (C.var 4) 4) (C.lit (D.int 0)))) (C.var 2))
 CSs.nil)
 CSs.nil)
 (CSs.cons (CS.asg (Tg.fld (C.var 4) 3) (C.var 2))
 (CSs.cons (CS.asg (Tg.fld (C.var 4) 4) (C.lit D.non))
 (CSs.cons (CS.asg (Tg.fld (C.var 4) 5) (C.lit (D.str "runs")))
 CSs.nil))))))
def f_Carrier_answer : Fn := ⟨4, 5, false, b_Carrier_answer⟩
-- Carrier.step: self number job item once
def b_Carrier_step : CSs := (CSs.cons (CS.asg (Tg.name 2) (C.meth 2 15 23 (C.var 0) (Cs.cons (C.var 1) Cs.nil)))
 (CSs.cons (CS.ite (C.cmp .isin (C.fld (C.var 2) 5) (C.tup false (Cs.cons (C.lit (D.str "halted")) (Cs.cons (C.lit (D.str "back")) Cs.nil))))
 (CSs.cons (CS.raise 7)
 CSs.nil)
 CSs.nil)
 (CSs.cons (CS.ite (C.cmp .eq (C.fld (C.var 2) 5) (C.lit (D.str "asks")))
 (CSs.cons (CS.ret (C.bin .add (C.tup false (Cs.cons (C.lit (D.str "asks")) Cs.nil)) (C.fld (C.var 2) 4)))
 CSs.nil)
 CSs.nil)
 (CSs.cons (CS.ite (C.not (C.fld (C.var 2) 1))
 (CSs.cons (CS.asg (Tg.fld (C.var 2) 5) (C.lit (D.str "done")))
 (CSs.cons (CS.ret (C.lit D.non))
 CSs.nil))
 CSs.nil)
 (CSs.cons (CS.asg (Tg.name 3) (C.m0 .pop (C.fld (C.var 2) 1)))
 (CSs.cons (CS.asg (Tg.name 4) (C.fld (C.var 2) 3))
 (CSs.cons (CS.asg (Tg.fld (C.var 2) 3) (C.lit D.non))
 (CSs.cons (CS.ite (C.cmp .eq (C.idx (C.var 3) (C.lit (D.int 0))) (C.lit (D.str "drop")))
 (CSs.cons (CS.ret (C.meth 2 31 33 (C.var 0) (Cs.cons (C.var 1) (Cs.cons (C.idx (C.var 3) (C.lit (D.int 1))) Cs.nil))))
 CSs.nil)
 CSs.nil)
 (CSs.cons (CS.ret (C.meth 2 17 34 (C.var 0) (Cs.cons (C.var 1) (Cs.cons (C.idx (C.var 3) (C.lit (D.int 1))) (Cs.cons (C.idx (C.var 3) (C.lit (D.int 2))) (Cs.cons (C.var 4) Cs.nil))))))
 CSs.nil)))))))))
def f_Carrier_step : Fn := ⟨2, 5, false, b_Carrier_step⟩
-- Carrier.note: self number told before
def b_Carrier_note : CSs := (CSs.cons (CS.expr (C.m1 .append (C.fld (C.var 0) 12) (C.make 1 17 (Cs.cons (C.var 1) (Cs.cons (C.var 2) (Cs.cons (C.var 3) Cs.nil))))))
 (CSs.cons (CS.ret (C.var 2))
 CSs.nil))
def f_Carrier_note : Fn := ⟨4, 4, false, b_Carrier_note⟩
-- Carrier.change: self number told pairs before path node
def b_Carrier_change : CSs := (CSs.cons (CS.asg (Tg.name 4) (C.lst true Cs.nil))
 (CSs.cons (CS.fo [5, 6] (It.seq (C.var 3))
 (CSs.cons (CS.expr (C.m1 .append (C.var 4) (C.tup false (Cs.cons (C.var 5) (Cs.cons (C.call 9 (Cs.cons (C.fld (C.var 0) 9) (Cs.cons (C.var 5) Cs.nil))) Cs.nil)))))
 (CSs.cons (CS.asg (Tg.fld (C.var 0) 9) (C.call 10 (Cs.cons (C.fld (C.var 0) 9) (Cs.cons (C.var 5) (Cs.cons (C.var 6) Cs.nil)))))
 CSs.nil)))
 (CSs.cons (CS.asg (Tg.fld (C.var 0) 10) (C.f2 .min2 (C.gbl 5) (C.bin .add (C.fld (C.var 0) 10) (C.lit (D.int 1)))))
 (CSs.cons (CS.ret (C.meth 2 18 31 (C.var 0) (Cs.cons (C.var 1) (Cs.cons (C.var 2) (Cs.cons (C.rev false (C.var 4)) Cs.nil)))))
 CSs.nil))))
def f_Carrier_change : Fn := ⟨4, 7, false, b_Carrier_change⟩
-- Carrier.drop: self number path here
def b_Carrier_drop : CSs := (CSs.cons (CS.asg (Tg.name 3) (C.call 9 (Cs.cons (C.fld (C.var 0) 9) (Cs.cons (C.var 2) Cs.nil))))
 (CSs.cons (CS.ite (C.bool false (Cs.cons (C.cmp .isN (C.var 3) (C.lit D.non)) (Cs.cons (C.cmp .ne (C.idx (C.var 3) (C.lit (D.int 0))) (C.lit (D.str "drawer"))) (Cs.cons (C.idx (C.var 3) (C.lit (D.int 1))) Cs.nil))))
 (CSs.cons (CS.ret (C.meth 2 18 31 (C.var 0) (Cs.cons (C.var 1) (Cs.cons (C.tup false (Cs.cons (C.lit (D.str "stays")) (Cs.cons (C.var 2) Cs.nil))) (Cs.cons (C.lst false Cs.nil) Cs.nil)))))
 CSs.nil)
 CSs.nil)
 (CSs.cons (CS.ret (C.meth 2 19 32 (C.var 0) (Cs.cons (C.var 1) (Cs.cons (C.tup false (Cs.cons (C.lit (D.str "dropped")) (Cs.cons (C.var 2) Cs.nil))) (Cs.cons (C.lst false (Cs.cons (C.tup false (Cs.cons (C.var 2) (Cs.cons (C.lit D.non) Cs.nil))) Cs.nil)) Cs.nil)))))
 CSs.nil)))
def f_Carrier_drop : Fn := ⟨3, 4, false, b_Carrier_drop⟩
-- Carrier.carry: self number source goal once job node around there kind word
def b_Carrier_carry : CSs := (CSs.cons (CS.asg (Tg.name 5) (C.idx (C.fld (C.var 0) 11) (C.var 1)))
 (CSs.cons (CS.asg (Tg.name 6) (C.call 9 (Cs.cons (C.fld (C.var 0) 9) (Cs.cons (C.var 2) Cs.nil))))
 (CSs.cons (CS.asg (Tg.name 7) (C.call 9 (Cs.cons (C.fld (C.var 0) 9) (Cs.cons (C.slc (C.var 3) Co.none (Co.some (C.neg (C.lit (D.int 1))))) Cs.nil))))
 (CSs.cons (CS.ite (C.cmp .isN (C.var 6) (C.lit D.non))
 (CSs.cons (CS.ret (C.meth 2 18 31 (C.var 0) (Cs.cons (C.var 1) (Cs.cons (C.tup false (Cs.cons (C.lit (D.str "gone")) (Cs.cons (C.var 2) Cs.nil))) (Cs.cons (C.lst false Cs.nil) Cs.nil)))))
 CSs.nil)
 CSs.nil)
 (CSs.cons (CS.ite (C.bool false (Cs.cons (C.cmp .isN (C.var 7) (C.lit D.non)) (Cs.cons (C.cmp .ne (C.idx (C.var 7) (C.lit (D.int 0))) (C.lit (D.str "drawer"))) Cs.nil)))
 (CSs.cons (CS.ret (C.meth 2 18 31 (C.var 0) (Cs.cons (C.var 1) (Cs.cons (C.tup false (Cs.cons (C.lit (D.str "lost")) (Cs.cons (C.var 3) Cs.nil))) (Cs.cons (C.lst false Cs.nil) Cs.nil)))))
 CSs.nil)
 CSs.nil)
 (CSs.cons (CS.asg (Tg.name 8) (C.call 9 (Cs.cons (C.fld (C.var 0) 9) (Cs.cons (C.var 3) Cs.nil))))
 (CSs.cons (CS.ite (C.cmp .isN (C.var 8) (C.lit D.non))
 (CSs.cons (CS.ret (C.meth 2 32 38 (C.var 0) (Cs.cons (C.var 1) (Cs.cons (C.var 2) (Cs.cons (C.var 3) Cs.nil)))))
 CSs.nil)
 CSs.nil)
 (CSs.cons (CS.ite (C.bool true (Cs.cons (C.cmp .eq (C.var 2) (C.var 3)) (Cs.cons (C.cmp .eq (C.idx (C.fld (C.var 5) 0) (C.lit (D.int 0))) (C.lit (D.str "move"))) Cs.nil)))
 (CSs.cons (CS.ret (C.meth 2 18 31 (C.var 0) (Cs.cons (C.var 1) (Cs.cons (C.tup false (Cs.cons (C.lit (D.str "same")) (Cs.cons (C.var 2) Cs.nil))) (Cs.cons (C.lst false Cs.nil) Cs.nil)))))
 CSs.nil)
 CSs.nil)
 (CSs.cons (CS.asg (Tg.name 9) (C.call 14 (Cs.cons (C.var 6) (Cs.cons (C.var 8) Cs.nil))))
 (CSs.cons (CS.asg (Tg.name 10) (C.ite (C.call 13 (Cs.cons (C.var 9) (Cs.cons (C.var 4) Cs.nil))) (C.var 4) (C.get (C.fld (C.var 5) 2) (C.var 9) (C.lit D.non))))
 (CSs.cons (CS.ite (C.cmp .isN (C.var 10) (C.lit D.non))
 (CSs.cons (CS.expr (C.m1 .append (C.fld (C.var 5) 1) (C.tup false (Cs.cons (C.lit (D.str "carry")) (Cs.cons (C.var 2) (Cs.cons (C.var 3) Cs.nil))))))
 (CSs.cons (CS.asg (Tg.fld (C.var 5) 4) (C.tup false (Cs.cons (C.var 9) (Cs.cons (C.var 2) (Cs.cons (C.var 3) Cs.nil)))))
 (CSs.cons (CS.asg (Tg.fld (C.var 5) 5) (C.lit (D.str "asks")))
 (CSs.cons (CS.ret (C.bin .add (C.tup false (Cs.cons (C.lit (D.str "asks")) Cs.nil)) (C.fld (C.var 5) 4)))
 CSs.nil))))
 CSs.nil)
 (CSs.cons (CS.ret (C.meth 2 20 35 (C.var 0) (Cs.cons (C.var 1) (Cs.cons (C.var 2) (Cs.cons (C.var 3) (Cs.cons (C.var 10) Cs.nil))))))
 CSs.nil))))))))))))
def f_Carrier_carry : Fn := ⟨5, 11, false, b_Carrier_carry⟩
-- Carrier.settled: self number source goal word job node there around
def b_Carrier_settled : CSs := (CSs.cons (CS.asg (Tg.name 5) (C.idx (C.fld (C.var 0) 11) (C.var 1)))
 (CSs.cons (CS.asg (Tg.tup (Tgs.cons (Tg.name 6) (Tgs.cons (Tg.name 7) Tgs.nil))) (C.tup false (Cs.cons (C.call 9 (Cs.cons (C.fld (C.var 0) 9) (Cs.cons (C.var 2) Cs.nil))) (Cs.cons (C.call 9 (Cs.cons (C.fld (C.var 0) 9) (Cs.cons (C.var 3) Cs.nil))) Cs.nil))))
 (CSs.cons (CS.ite (C.cmp .eq (C.var 4) (C.lit (D.str "both")))
 (CSs.cons (CS.asg (Tg.name 8) (C.call 9 (Cs.cons (C.fld (C.var 0) 9) (Cs.cons (C.slc (C.var 3) Co.none (Co.some (C.neg (C.lit (D.int 1))))) Cs.nil))))
 (CSs.cons (CS.ret (C.meth 2 32 38 (C.var 0) (Cs.cons (C.var 1) (Cs.cons (C.var 2) (Cs.cons (C.bin .add (C.slc (C.var 3) Co.none (Co.some (C.neg (C.lit (D.int 1))))) (C.tup false (Cs.cons (C.call 15 (Cs.cons (C.var 8) (Cs.cons (C.idx (C.var 3) (C.neg (C.lit (D.int 1)))) Cs.nil))) Cs.nil))) Cs.nil)))))
 CSs.nil))
 CSs.nil)
 (CSs.cons (CS.ite (C.cmp .eq (C.var 2) (C.var 3))
 (CSs.cons (CS.ret (C.meth 2 18 31 (C.var 0) (Cs.cons (C.var 1) (Cs.cons (C.tup false (Cs.cons (C.lit (D.str "same")) (Cs.cons (C.var 2) Cs.nil))) (Cs.cons (C.lst false Cs.nil) Cs.nil)))))
 CSs.nil)
 CSs.nil)
 (CSs.cons (CS.ite (C.bool false (Cs.cons (C.cmp .eq (C.var 4) (C.lit (D.str "skip"))) (Cs.cons (C.bool true (Cs.cons (C.cmp .eq (C.var 4) (C.lit (D.str "newer"))) (Cs.cons (C.cmp .le (C.idx (C.var 6) (C.lit (D.int 2))) (C.idx (C.var 7) (C.lit (D.int 2)))) Cs.nil))) Cs.nil)))
 (CSs.cons (CS.ret (C.meth 2 18 31 (C.var 0) (Cs.cons (C.var 1) (Cs.cons (C.tup false (Cs.cons (C.lit (D.str "skipped")) (Cs.cons (C.var 2) (Cs.cons (C.var 3) Cs.nil)))) (Cs.cons (C.lst false Cs.nil) Cs.nil)))))
 CSs.nil)
 CSs.nil)
 (CSs.cons (CS.ite (C.cmp .eq (C.var 4) (C.lit (D.str "merge")))
 (CSs.cons (CS.expr (C.meth 2 33 37 (C.var 0) (Cs.cons (C.var 5) (Cs.cons (C.var 2) (Cs.cons (C.var 3) Cs.nil)))))
 (CSs.cons (CS.ret (C.meth 2 18 31 (C.var 0) (Cs.cons (C.var 1) (Cs.cons (C.tup false (Cs.cons (C.lit (D.str "merged")) (Cs.cons (C.var 2) (Cs.cons (C.var 3) Cs.nil)))) (Cs.cons (C.lst false Cs.nil) Cs.nil)))))
 CSs.nil))
 CSs.nil)
 (CSs.cons (CS.ite (C.cmp .eq (C.idx (C.fld (C.var 5) 0) (C.lit (D.int 0))) (C.lit (D.str "move")))
 (CSs.cons (CS.ret (C.meth 2 19 32 (C.var 0) (Cs.cons (C.var 1) (Cs.cons (C.tup false (Cs.cons (C.lit (D.str "over")) (Cs.cons (C.var 2) (Cs.cons (C.var 3) Cs.nil)))) (Cs.cons (C.lst false (Cs.cons (C.tup false (Cs.cons (C.var 2) (Cs.cons (C.lit D.non) Cs.nil))) (Cs.cons (C.tup false (Cs.cons (C.var 3) (Cs.cons (C.var 6) Cs.nil))) Cs.nil))) Cs.nil)))))
 CSs.nil)
 CSs.nil)
 (CSs.cons (CS.ret (C.meth 2 19 32 (C.var 0) (Cs.cons (C.var 1) (Cs.cons (C.tup false (Cs.cons (C.lit (D.str "over")) (Cs.cons (C.var 2) (Cs.cons (C.var 3) Cs.nil)))) (Cs.cons (C.lst false (Cs.cons (C.tup false (Cs.cons (C.var 3) (Cs.cons (C.meth 2 38 36 (C.var 0) (Cs.cons (C.var 5) (Cs.cons (C.var 6) Cs.nil))) Cs.nil))) Cs.nil)) Cs.nil)))))
 CSs.nil))))))))
def f_Carrier_settled : Fn := ⟨5, 9, false, b_Carrier_settled⟩
-- Carrier.marked: self job node inside
def b_Carrier_marked : CSs := (CSs.cons (CS.asg (Tg.name 3) (C.ite (C.cmp .eq (C.idx (C.var 2) (C.lit (D.int 0))) (C.lit (D.str "drawer"))) (C.tup true Cs.nil) (C.idx (C.var 2) (C.lit (D.int 1)))))
 (CSs.cons (CS.ret (C.tup false (Cs.cons (C.idx (C.var 2) (C.lit (D.int 0))) (Cs.cons (C.var 3) (Cs.cons (C.ite (C.idx (C.fld (C.var 1) 0) (C.lit (D.int 3))) (C.idx (C.var 2) (C.lit (D.int 2))) (C.fld (C.var 0) 10)) Cs.nil)))))
 CSs.nil))
def f_Carrier_marked : Fn := ⟨3, 4, false, b_Carrier_marked⟩
-- Carrier.within: self job source goal name inner
def b_Carrier_within : CSs := (CSs.cons (CS.ite (C.cmp .eq (C.idx (C.fld (C.var 1) 0) (C.lit (D.int 0))) (C.lit (D.str "move")))
 (CSs.cons (CS.expr (C.m1 .append (C.fld (C.var 1) 1) (C.tup false (Cs.cons (C.lit (D.str "drop")) (Cs.cons (C.var 2) Cs.nil)))))
 CSs.nil)
 CSs.nil)
 (CSs.cons (CS.fo [4, 5] (It.seq (C.rev false (C.idx (C.call 9 (Cs.cons (C.fld (C.var 0) 9) (Cs.cons (C.var 2) Cs.nil))) (C.lit (D.int 1)))))
 (CSs.cons (CS.expr (C.m1 .append (C.fld (C.var 1) 1) (C.tup false (Cs.cons (C.lit (D.str "carry")) (Cs.cons (C.bin .add (C.var 2) (C.tup false (Cs.cons (C.var 4) Cs.nil))) (Cs.cons (C.bin .add (C.var 3) (C.tup false (Cs.cons (C.var 4) Cs.nil))) Cs.nil))))))
 CSs.nil))
 CSs.nil))
def f_Carrier_within : Fn := ⟨4, 6, false, b_Carrier_within⟩
-- Carrier.placed: self number source goal job node
def b_Carrier_placed : CSs := (CSs.cons (CS.asg (Tg.name 4) (C.idx (C.fld (C.var 0) 11) (C.var 1)))
 (CSs.cons (CS.asg (Tg.name 5) (C.call 9 (Cs.cons (C.fld (C.var 0) 9) (Cs.cons (C.var 2) Cs.nil))))
 (CSs.cons (CS.ite (C.cmp .eq (C.idx (C.fld (C.var 4) 0) (C.lit (D.int 0))) (C.lit (D.str "move")))
 (CSs.cons (CS.ite (C.cmp .gt (C.bin .sub (C.bin .add (C.f1 .len (C.var 3)) (C.call 6 (Cs.cons (C.var 5) Cs.nil))) (C.lit (D.int 1))) (C.gbl 2))
 (CSs.cons (CS.ret (C.meth 2 18 31 (C.var 0) (Cs.cons (C.var 1) (Cs.cons (C.tup false (Cs.cons (C.lit (D.str "deep")) (Cs.cons (C.var 3) Cs.nil))) (Cs.cons (C.lst false Cs.nil) Cs.nil)))))
 CSs.nil)
 CSs.nil)
 (CSs.cons (CS.ret (C.meth 2 19 32 (C.var 0) (Cs.cons (C.var 1) (Cs.cons (C.tup false (Cs.cons (C.lit (D.str "moved")) (Cs.cons (C.var 2) (Cs.cons (C.var 3) Cs.nil)))) (Cs.cons (C.lst false (Cs.cons (C.tup false (Cs.cons (C.var 2) (Cs.cons (C.lit D.non) Cs.nil))) (Cs.cons (C.tup false (Cs.cons (C.var 3) (Cs.cons (C.var 5) Cs.nil))) Cs.nil))) Cs.nil)))))
 CSs.nil))
 CSs.nil)
 (CSs.cons (CS.ite (C.cmp .gt (C.f1 .len (C.var 3)) (C.gbl 2))
 (CSs.cons (CS.ret (C.meth 2 18 31 (C.var 0) (Cs.cons (C.var 1) (Cs.cons (C.tup false (Cs.cons (C.lit (D.str "deep")) (Cs.cons (C.var 3) Cs.nil))) (Cs.cons (C.lst false Cs.nil) Cs.nil)))))
 CSs.nil)
 CSs.nil)
 (CSs.cons (CS.ite (C.cmp .eq (C.call 5 (Cs.cons (C.fld (C.var 0) 9) Cs.nil)) (C.gbl 3))
 (CSs.cons (CS.ret (C.meth 2 18 31 (C.var 0) (Cs.cons (C.var 1) (Cs.cons (C.tup false (Cs.cons (C.lit (D.str "full")) (Cs.cons (C.var 3) Cs.nil))) (Cs.cons (C.lst false Cs.nil) Cs.nil)))))
 CSs.nil)
 CSs.nil)
 (CSs.cons (CS.ite (C.cmp .eq (C.idx (C.var 5) (C.lit (D.int 0))) (C.lit (D.str "drawer")))
 (CSs.cons (CS.expr (C.meth 2 33 37 (C.var 0) (Cs.cons (C.var 4) (Cs.cons (C.var 2) (Cs.cons (C.var 3) Cs.nil)))))
 CSs.nil)
 CSs.nil)
 (CSs.cons (CS.ret (C.meth 2 19 32 (C.var 0) (Cs.cons (C.var 1) (Cs.cons (C.tup false (Cs.cons (C.lit (D.str "made")) (Cs.cons (C.var 2) (Cs.cons (C.var 3) Cs.nil)))) (Cs.cons (C.lst false (Cs.cons (C.tup false (Cs.cons (C.var 3) (Cs.cons (C.meth 2 38 36 (C.var 0) (Cs.cons (C.var 4) (Cs.cons (C.var 5) Cs.nil))) Cs.nil))) Cs.nil)) Cs.nil)))))
 CSs.nil)))))))
def f_Carrier_placed : Fn := ⟨4, 6, false, b_Carrier_placed⟩
-- Carrier.take_back: self number
def b_Carrier_take_back : CSs := (CSs.cons (CS.expr C.never)
 CSs.nil)
def f_Carrier_take_back : Fn := ⟨2, 2, false, b_Carrier_take_back⟩
-- carried: tree now what answers carrier number kinds found told at word kind
def b_carried : CSs := (CSs.cons (CS.asg (Tg.name 4) (C.make 2 19 (Cs.cons (C.var 0) (Cs.cons (C.var 1) Cs.nil))))
 (CSs.cons (CS.asg (Tg.name 5) (C.meth 2 23 22 (C.var 4) (Cs.cons (C.var 2) Cs.nil)))
 (CSs.cons (CS.asg (Tg.name 6) (C.tup false (Cs.cons (C.lit (D.str "files")) (Cs.cons (C.lit (D.str "drawers")) (Cs.cons (C.lit (D.str "unlike")) Cs.nil)))))
 (CSs.cons (CS.ite (C.bool false (Cs.cons (C.not (C.f1 (.isi "tuple") (C.var 3))) (Cs.cons (C.cmp .ne (C.f1 .len (C.var 3)) (C.lit (D.int 3))) Cs.nil)))
 (CSs.cons (CS.raise 6)
 CSs.nil)
 CSs.nil)
 (CSs.cons (CS.ite (C.comp false (C.var 9) [9, 10] (It.enum (C.var 3)) (Co.some (C.not (C.call 13 (Cs.cons (C.idx (C.var 6) (C.var 9)) (Cs.cons (C.var 10) Cs.nil))))))
 (CSs.cons (CS.raise 6)
 CSs.nil)
 CSs.nil)
 (CSs.cons (CS.asg (Tg.fld (C.idx (C.fld (C.var 4) 11) (C.var 5)) 2) (C.f1 (.dict true false) (C.comp false (C.tup false (Cs.cons (C.var 11) (Cs.cons (C.idx (C.var 3) (C.var 9)) Cs.nil))) [9, 11] (It.enum (C.var 6)) Co.none)))
 (CSs.cons (CS.asg (Tg.name 7) (C.lst true Cs.nil))
 (CSs.cons (CS.asg (Tg.name 8) (C.meth 2 24 30 (C.var 4) (Cs.cons (C.var 5) Cs.nil)))
 (CSs.cons (CS.whl 100000 (C.cmp .notN (C.var 8) (C.lit D.non))
 (CSs.cons (CS.expr (C.m1 .append (C.var 7) (C.var 8)))
 (CSs.cons (CS.asg (Tg.name 8) (C.meth 2 24 30 (C.var 4) (Cs.cons (C.var 5) Cs.nil)))
 CSs.nil)))
 (CSs.cons (CS.ret (C.tup false (Cs.cons (C.meth 2 34 20 (C.var 4) Cs.nil) (Cs.cons (C.var 7) Cs.nil))))
 CSs.nil))))))))))
def f_carried : Fn := ⟨4, 12, true, b_carried⟩
-- _law_cell: _law_script _law_k
def b_law_cell : CSs := (CSs.cons (CS.ite (C.cmp .lt (C.var 1) (C.f1 .len (C.var 0)))
 (CSs.cons (CS.ret (C.idx (C.var 0) (C.var 1)))
 CSs.nil)
 CSs.nil)
 (CSs.cons (CS.ret (C.lit (D.int 0)))
 CSs.nil))
def f_law_cell : Fn := ⟨2, 2, true, b_law_cell⟩
-- _law_as: _law_thing _law_due
def b_law_as : CSs := (CSs.cons (CS.ret (C.bool true (Cs.cons (C.f1 (.isi "bool") (C.var 0)) (Cs.cons (C.cmp .eq (C.var 0) (C.var 1)) Cs.nil))))
 CSs.nil)
def f_law_as : Fn := ⟨2, 2, true, b_law_as⟩
-- _law_is_name: _law_thing _law_sign
def b_law_is_name : CSs := (CSs.cons (CS.ite (C.bool false (Cs.cons (C.not (C.f1 (.isi "str") (C.var 0))) (Cs.cons (C.not (C.chain .le .le (C.lit (D.int 1)) (C.f1 .len (C.var 0)) (C.lit (D.int 8)))) Cs.nil)))
 (CSs.cons (CS.ret (C.lit (D.bl false)))
 CSs.nil)
 CSs.nil)
 (CSs.cons (CS.ret (C.cmp .eq (C.comp false (C.var 1) [1] (It.seq (C.var 0)) (Co.some (C.cmp .notin (C.var 1) (C.lit (D.str "abcdefghijklmnopqrstuvwxyz0123456789"))))) (C.lst false Cs.nil)))
 CSs.nil))
def f_law_is_name : Fn := ⟨1, 2, true, b_law_is_name⟩
-- law: _law_script _law_files _law_many _law_name _law_room _law_inner _law_tree _law_carrier _law_number _law_time _law_told _law_steps _law_k _law_step
def b_law : CSs := (CSs.cons (CS.asg (Tg.name 1) (C.comp false (C.tup false (Cs.cons (C.bin .add (C.bin .add (C.lit (D.str "f")) (C.idx (C.lit (D.str "abcdefghijklmnopqrstuvwxyz")) (C.bin .mod (C.var 12) (C.lit (D.int 26))))) (C.f1 .str (C.bin .fdiv (C.var 12) (C.lit (D.int 26))))) (Cs.cons (C.tup false (Cs.cons (C.lit (D.str "file")) (Cs.cons (C.var 12) (Cs.cons (C.var 12) Cs.nil)))) Cs.nil))) [12] (It.rng1 (C.lit (D.int 60))) Co.none))
 (CSs.cons (CS.fo [2] (It.rng2 (C.lit (D.int 57)) (C.lit (D.int 60)))
 (CSs.cons (CS.asg (Tg.name 5) (C.tup false (Cs.cons (C.lit (D.str "drawer")) (Cs.cons (C.f1 (.tuple true) (C.f1 (.srtP false) (C.slc (C.var 1) Co.none (Co.some (C.var 2))))) (Cs.cons (C.lit (D.int 999)) Cs.nil)))))
 (CSs.cons (CS.ite (C.not (C.call 83 (Cs.cons (C.call 7 (Cs.cons (C.tup false (Cs.cons (C.lit (D.str "drawer")) (Cs.cons (C.tup true (Cs.cons (C.tup false (Cs.cons (C.lit (D.str "in")) (Cs.cons (C.var 5) Cs.nil))) Cs.nil)) (Cs.cons (C.lit (D.int 9999)) Cs.nil)))) Cs.nil)) (Cs.cons (C.cmp .lt (C.var 2) (C.lit (D.int 59))) Cs.nil))))
 (CSs.cons (CS.ret (C.lit (D.bl false)))
 CSs.nil)
 CSs.nil)
 CSs.nil)))
 (CSs.cons (CS.fo [3] (It.seq (C.tup false (Cs.cons (C.bin .mul (C.lit (D.str "a")) (C.lit (D.int 8))) (Cs.cons (C.bin .mul (C.lit (D.str "a")) (C.lit (D.int 9))) (Cs.cons (C.lit (D.str "z9")) (Cs.cons (C.lit (D.str "")) (Cs.cons (C.lit (D.str "A")) (Cs.cons (C.lit (D.str "a_")) Cs.nil))))))))
 (CSs.cons (CS.ite (C.not (C.call 83 (Cs.cons (C.call 7 (Cs.cons (C.tup false (Cs.cons (C.lit (D.str "drawer")) (Cs.cons (C.tup true (Cs.cons (C.tup false (Cs.cons (C.var 3) (Cs.cons (C.tup false (Cs.cons (C.lit (D.str "file")) (Cs.cons (C.lit (D.int 999)) (Cs.cons (C.lit (D.int 9999)) Cs.nil)))) Cs.nil))) Cs.nil)) (Cs.cons (C.lit (D.int 0)) Cs.nil)))) Cs.nil)) (Cs.cons (C.call 87 (Cs.cons (C.var 3) Cs.nil)) Cs.nil))))
 (CSs.cons (CS.ret (C.lit (D.bl false)))
 CSs.nil)
 CSs.nil)
 CSs.nil))
 (CSs.cons (CS.asg (Tg.name 4) (C.bin .mod (C.call 40 (Cs.cons (C.var 0) (Cs.cons (C.lit (D.int 0)) Cs.nil))) (C.lit (D.int 4))))
 (CSs.cons (CS.asg (Tg.name 5) (C.tup false (Cs.cons (C.lit (D.str "drawer")) (Cs.cons (C.f1 (.tuple true) (C.f1 (.srtP false) (C.slc (C.var 1) Co.none (Co.some (C.bin .sub (C.lit (D.int 57)) (C.var 4)))))) (Cs.cons (C.lit (D.int 3)) Cs.nil)))))
 (CSs.cons (CS.asg (Tg.name 6) (C.tup false (Cs.cons (C.lit (D.str "drawer")) (Cs.cons (C.tup true (Cs.cons (C.tup false (Cs.cons (C.lit (D.str "in")) (Cs.cons (C.var 5) Cs.nil))) (Cs.cons (C.tup false (Cs.cons (C.lit (D.str "to")) (Cs.cons (C.tup false (Cs.cons (C.lit (D.str "drawer")) (Cs.cons (C.tup true Cs.nil) (Cs.cons (C.lit (D.int 4)) Cs.nil)))) Cs.nil))) Cs.nil))) (Cs.cons (C.lit (D.int 5)) Cs.nil)))))
 (CSs.cons (CS.asg (Tg.tup (Tgs.cons (Tg.name 10) (Tgs.cons (Tg.name 11) Tgs.nil))) (C.call 77 (Cs.cons (C.var 6) (Cs.cons (C.lit (D.int 9998)) (Cs.cons (C.tup false (Cs.cons (C.lit (D.str "copy")) (Cs.cons (C.tup false (Cs.cons (C.tup false (Cs.cons (C.lit (D.str "in")) Cs.nil)) Cs.nil)) (Cs.cons (C.tup false (Cs.cons (C.lit (D.str "to")) Cs.nil)) (Cs.cons (C.lit (D.bl false)) Cs.nil))))) (Cs.cons (C.tup false (Cs.cons (C.lit (D.str "skip")) (Cs.cons (C.lit (D.str "skip")) (Cs.cons (C.lit (D.str "skip")) Cs.nil)))) Cs.nil))))))
 (CSs.cons (CS.ite (C.cmp .ne (C.comp false (C.idx (C.var 13) (C.lit (D.int 0))) [13] (It.seq (C.var 11)) Co.none) (C.ite (C.cmp .gt (C.var 4) (C.lit (D.int 0))) (C.bin .add (C.bin .mul (C.lst false (Cs.cons (C.lit (D.str "made")) Cs.nil)) (C.var 4)) (C.bin .mul (C.lst false (Cs.cons (C.lit (D.str "full")) Cs.nil)) (C.bin .sub (C.lit (D.int 58)) (C.bin .mul (C.lit (D.int 2)) (C.var 4))))) (C.lst false (Cs.cons (C.lit (D.str "full")) Cs.nil))))
 (CSs.cons (CS.ret (C.lit (D.bl false)))
 CSs.nil)
 CSs.nil)
 (CSs.cons (CS.asg (Tg.name 7) (C.make 2 19 (Cs.cons (C.var 6) (Cs.cons (C.lit (D.int 9997)) Cs.nil))))
 (CSs.cons (CS.asg (Tg.name 8) (C.meth 2 23 22 (C.var 7) (Cs.cons (C.tup false (Cs.cons (C.lit (D.str "copy")) (Cs.cons (C.tup false (Cs.cons (C.tup false (Cs.cons (C.lit (D.str "in")) Cs.nil)) Cs.nil)) (Cs.cons (C.tup false (Cs.cons (C.lit (D.str "to")) Cs.nil)) (Cs.cons (C.lit (D.bl false)) Cs.nil))))) Cs.nil)))
 (CSs.cons (CS.fo [9] (It.rng1 (C.lit (D.int 4)))
 (CSs.cons (CS.expr (C.meth 2 24 30 (C.var 7) (Cs.cons (C.var 8) Cs.nil)))
 CSs.nil))
 (CSs.cons (CS.ite (C.cmp .ne (C.meth 2 35 21 (C.var 7) Cs.nil) (C.f2 .min2 (C.lit (D.int 9999)) (C.bin .add (C.lit (D.int 9997)) (C.var 4))))
 (CSs.cons (CS.ret (C.lit (D.bl false)))
 CSs.nil)
 CSs.nil)
 (CSs.cons (CS.ret (C.lit (D.bl true)))
 CSs.nil)))))))))))))
def f_law : Fn := ⟨1, 14, true, b_law⟩
def fns : Nat → Option Fn := fun n => match n with
  | 0 => some f_is_within
  | 1 => some f_is_name
  | 2 => some f_is_path
  | 3 => some f_is_node
  | 4 => some f_are_entries
  | 5 => some f_node_count
  | 6 => some f_node_height
  | 7 => some f_is_tree
  | 8 => some f_look
  | 9 => some f_found_at
  | 10 => some f_with_node
  | 11 => some f_is_job
  | 12 => some f_look_job
  | 13 => some f_is_answer
  | 14 => some f_kind_of
  | 15 => some f_free_name
  | 16 => some f_Job_init
  | 17 => some f_Step_init
  | 18 => some f_Step_touches
  | 19 => some f_Carrier_init
  | 20 => some f_Carrier_whole
  | 21 => some f_Carrier_moment
  | 22 => some f_Carrier_begin
  | 23 => some f_Carrier_job
  | 24 => some f_Carrier_states
  | 25 => some f_Carrier_asked
  | 26 => some f_Carrier_journal
  | 27 => some f_Carrier_halt
  | 28 => some f_Carrier_go_on
  | 29 => some f_Carrier_answer
  | 30 => some f_Carrier_step
  | 31 => some f_Carrier_note
  | 32 => some f_Carrier_change
  | 33 => some f_Carrier_drop
  | 34 => some f_Carrier_carry
  | 35 => some f_Carrier_settled
  | 36 => some f_Carrier_marked
  | 37 => some f_Carrier_within
  | 38 => some f_Carrier_placed
  | 39 => some f_Carrier_take_back
  | 40 => some f_law_cell
  | 77 => some f_carried
  | 83 => some f_law_as
  | 87 => some f_law_is_name
  | 1000 => some f_law
  | _ => none
def gv : Gv := fun n => match n with
  | 0 => some (.str "abcdefghijklmnopqrstuvwxyz0123456789")
  | 1 => some (.int 8)
  | 2 => some (.int 6)
  | 3 => some (.int 60)
  | 4 => some (.int 999)
  | 5 => some (.int 9999)
  | 6 => some (.ktup ((["copy", "move"] : List Str).map D.str))
  | 7 => some (.fd false [[.inr "files"], [.inr "drawers"], [.inr "unlike"]] [(.ktup ((["skip", "over", "newer", "both"] : List Str).map D.str)), (.ktup ((["skip", "merge", "both"] : List Str).map D.str)), (.ktup ((["skip", "both"] : List Str).map D.str))])
  | 8 => some (.int 4)
  | _ => none
end Mini

namespace Mini
open PySem L2 PyProof.Rows

abbrev s_is_within : Stmt := top 17
theorem sc_is_within : FnScope ["thing", "low", "high"] ["thing", "low", "high"] (defScope s_is_within) := ⟨rfl, rfl, rfl, by decide +kernel, rfl, by decide +kernel, by decide +kernel⟩
abbrev s_is_name : Stmt := top 18
theorem sc_is_name : FnScope ["thing", "sign"] ["thing"] (defScope s_is_name) := ⟨rfl, rfl, rfl, by decide +kernel, rfl, by decide +kernel, by decide +kernel⟩
abbrev s_is_path : Stmt := top 19
theorem sc_is_path : FnScope ["thing", "name"] ["thing"] (defScope s_is_path) := ⟨rfl, rfl, rfl, by decide +kernel, rfl, by decide +kernel, by decide +kernel⟩
abbrev s_is_node : Stmt := top 20
theorem sc_is_node : FnScope ["thing", "deep"] ["thing", "deep"] (defScope s_is_node) := ⟨rfl, rfl, rfl, by decide +kernel, rfl, by decide +kernel, by decide +kernel⟩
abbrev s_are_entries : Stmt := top 21
theorem sc_are_entries : FnScope ["thing", "deep", "last", "entry"] ["thing", "deep"] (defScope s_are_entries) := ⟨rfl, rfl, rfl, by decide +kernel, rfl, by decide +kernel, by decide +kernel⟩
abbrev s_node_count : Stmt := top 22
theorem sc_node_count : FnScope ["node", "name", "inner"] ["node"] (defScope s_node_count) := ⟨rfl, rfl, rfl, by decide +kernel, rfl, by decide +kernel, by decide +kernel⟩
abbrev s_node_height : Stmt := top 23
theorem sc_node_height : FnScope ["node", "name", "inner"] ["node"] (defScope s_node_height) := ⟨rfl, rfl, rfl, by decide +kernel, rfl, by decide +kernel, by decide +kernel⟩
abbrev s_is_tree : Stmt := top 24
theorem sc_is_tree : FnScope ["thing"] ["thing"] (defScope s_is_tree) := ⟨rfl, rfl, rfl, by decide +kernel, rfl, by decide +kernel, by decide +kernel⟩
abbrev s_look : Stmt := top 25
theorem sc_look : FnScope ["tree"] ["tree"] (defScope s_look) := ⟨rfl, rfl, rfl, by decide +kernel, rfl, by decide +kernel, by decide +kernel⟩
abbrev s_found_at : Stmt := top 26
theorem sc_found_at : FnScope ["node", "path", "name", "inside"] ["node", "path"] (defScope s_found_at) := ⟨rfl, rfl, rfl, by decide +kernel, rfl, by decide +kernel, by decide +kernel⟩
abbrev s_with_node : Stmt := top 27
theorem sc_with_node : FnScope ["node", "path", "new", "entries", "inner", "entry"] ["node", "path", "new"] (defScope s_with_node) := ⟨rfl, rfl, rfl, by decide +kernel, rfl, by decide +kernel, by decide +kernel⟩
abbrev s_is_job : Stmt := top 32
theorem sc_is_job : FnScope ["tree", "thing", "path"] ["tree", "thing"] (defScope s_is_job) := ⟨rfl, rfl, rfl, by decide +kernel, rfl, by decide +kernel, by decide +kernel⟩
abbrev s_look_job : Stmt := top 33
theorem sc_look_job : FnScope ["tree", "job", "path"] ["tree", "job"] (defScope s_look_job) := ⟨rfl, rfl, rfl, by decide +kernel, rfl, by decide +kernel, by decide +kernel⟩
abbrev s_is_answer : Stmt := top 34
theorem sc_is_answer : FnScope ["kind", "word"] ["kind", "word"] (defScope s_is_answer) := ⟨rfl, rfl, rfl, by decide +kernel, rfl, by decide +kernel, by decide +kernel⟩
abbrev s_kind_of : Stmt := top 35
theorem sc_kind_of : FnScope ["one", "other"] ["one", "other"] (defScope s_kind_of) := ⟨rfl, rfl, rfl, by decide +kernel, rfl, by decide +kernel, by decide +kernel⟩
abbrev s_free_name : Stmt := top 36
theorem sc_free_name : FnScope ["drawer", "name", "taken", "number", "entry"] ["drawer", "name"] (defScope s_free_name) := ⟨rfl, rfl, rfl, by decide +kernel, rfl, by decide +kernel, by decide +kernel⟩
abbrev s_Job_init : Stmt := inClass (top 38) 0
theorem sc_Job_init : FnScope ["self", "what", "path"] ["self", "what"] (defScope s_Job_init) := ⟨rfl, rfl, rfl, by decide +kernel, rfl, by decide +kernel, by decide +kernel⟩
abbrev s_Step_init : Stmt := inClass (top 39) 0
theorem sc_Step_init : FnScope ["self", "number", "told", "before"] ["self", "number", "told", "before"] (defScope s_Step_init) := ⟨rfl, rfl, rfl, by decide +kernel, rfl, by decide +kernel, by decide +kernel⟩
abbrev s_Step_touches : Stmt := inClass (top 39) 1
theorem sc_Step_touches : FnScope ["self", "other"] ["self", "other"] (defScope s_Step_touches) := ⟨rfl, rfl, rfl, by decide +kernel, rfl, by decide +kernel, by decide +kernel⟩
abbrev s_Carrier_init : Stmt := inClass (top 40) 0
theorem sc_Carrier_init : FnScope ["self", "tree", "now"] ["self", "tree", "now"] (defScope s_Carrier_init) := ⟨rfl, rfl, rfl, by decide +kernel, rfl, by decide +kernel, by decide +kernel⟩
abbrev s_Carrier_whole : Stmt := inClass (top 40) 1
theorem sc_Carrier_whole : FnScope ["self"] ["self"] (defScope s_Carrier_whole) := ⟨rfl, rfl, rfl, by decide +kernel, rfl, by decide +kernel, by decide +kernel⟩
abbrev s_Carrier_moment : Stmt := inClass (top 40) 2
theorem sc_Carrier_moment : FnScope ["self"] ["self"] (defScope s_Carrier_moment) := ⟨rfl, rfl, rfl, by decide +kernel, rfl, by decide +kernel, by decide +kernel⟩
abbrev s_Carrier_begin : Stmt := inClass (top 40) 3
theorem sc_Carrier_begin : FnScope ["self", "what"] ["self", "what"] (defScope s_Carrier_begin) := ⟨rfl, rfl, rfl, by decide +kernel, rfl, by decide +kernel, by decide +kernel⟩
abbrev s_Carrier_job : Stmt := inClass (top 40) 4
theorem sc_Carrier_job : FnScope ["self", "number"] ["self", "number"] (defScope s_Carrier_job) := ⟨rfl, rfl, rfl, by decide +kernel, rfl, by decide +kernel, by decide +kernel⟩
abbrev s_Carrier_states : Stmt := inClass (top 40) 5
theorem sc_Carrier_states : FnScope ["self"] ["self"] (defScope s_Carrier_states) := ⟨rfl, rfl, rfl, by decide +kernel, rfl, by decide +kernel, by decide +kernel⟩
abbrev s_Carrier_asked : Stmt := inClass (top 40) 6
theorem sc_Carrier_asked : FnScope ["self", "number"] ["self", "number"] (defScope s_Carrier_asked) := ⟨rfl, rfl, rfl, by decide +kernel, rfl, by decide +kernel, by decide +kernel⟩
abbrev s_Carrier_journal : Stmt := inClass (top 40) 7
theorem sc_Carrier_journal : FnScope ["self"] ["self"] (defScope s_Carrier_journal) := ⟨rfl, rfl, rfl, by decide +kernel, rfl, by decide +kernel, by decide +kernel⟩
abbrev s_Carrier_halt : Stmt := inClass (top 40) 8
theorem sc_Carrier_halt : FnScope ["self", "number"] ["self", "number"] (defScope s_Carrier_halt) := ⟨rfl, rfl, rfl, by decide +kernel, rfl, by decide +kernel, by decide +kernel⟩
abbrev s_Carrier_go_on : Stmt := inClass (top 40) 9
theorem sc_Carrier_go_on : FnScope ["self", "number"] ["self", "number"] (defScope s_Carrier_go_on) := ⟨rfl, rfl, rfl, by decide +kernel, rfl, by decide +kernel, by decide +kernel⟩
abbrev s_Carrier_answer : Stmt := inClass (top 40) 10
theorem sc_Carrier_answer : FnScope ["self", "number", "word", "for_all", "job"] ["self", "number", "word", "for_all"] (defScope s_Carrier_answer) := ⟨rfl, rfl, rfl, by decide +kernel, rfl, by decide +kernel, by decide +kernel⟩
abbrev s_Carrier_step : Stmt := inClass (top 40) 11
theorem sc_Carrier_step : FnScope ["self", "number", "job", "item", "once"] ["self", "number"] (defScope s_Carrier_step) := ⟨rfl, rfl, rfl, by decide +kernel, rfl, by decide +kernel, by decide +kernel⟩
abbrev s_Carrier_note : Stmt := inClass (top 40) 12
theorem sc_Carrier_note : FnScope ["self", "number", "told", "before"] ["self", "number", "told", "before"] (defScope s_Carrier_note) := ⟨rfl, rfl, rfl, by decide +kernel, rfl, by decide +kernel, by decide +kernel⟩
abbrev s_Carrier_change : Stmt := inClass (top 40) 13
theorem sc_Carrier_change : FnScope ["self", "number", "told", "pairs", "before", "path", "node"] ["self", "number", "told", "pairs"] (defScope s_Carrier_change) := ⟨rfl, rfl, rfl, by decide +kernel, rfl, by decide +kernel, by decide +kernel⟩
abbrev s_Carrier_drop : Stmt := inClass (top 40) 14
theorem sc_Carrier_drop : FnScope ["self", "number", "path", "here"] ["self", "number", "path"] (defScope s_Carrier_drop) := ⟨rfl, rfl, rfl, by decide +kernel, rfl, by decide +kernel, by decide +kernel⟩
abbrev s_Carrier_carry : Stmt := inClass (top 40) 15
theorem sc_Carrier_carry : FnScope ["self", "number", "source", "goal", "once", "job", "node", "around", "there", "kind", "word"] ["self", "number", "source", "goal", "once"] (defScope s_Carrier_carry) := ⟨rfl, rfl, rfl, by decide +kernel, rfl, by decide +kernel, by decide +kernel⟩
abbrev s_Carrier_settled : Stmt := inClass (top 40) 16
theorem sc_Carrier_settled : FnScope ["self", "number", "source", "goal", "word", "job", "node", "there", "around"] ["self", "number", "source", "goal", "word"] (defScope s_Carrier_settled) := ⟨rfl, rfl, rfl, by decide +kernel, rfl, by decide +kernel, by decide +kernel⟩
abbrev s_Carrier_marked : Stmt := inClass (top 40) 17
theorem sc_Carrier_marked : FnScope ["self", "job", "node", "inside"] ["self", "job", "node"] (defScope s_Carrier_marked) := ⟨rfl, rfl, rfl, by decide +kernel, rfl, by decide +kernel, by decide +kernel⟩
abbrev s_Carrier_within : Stmt := inClass (top 40) 18
theorem sc_Carrier_within : FnScope ["self", "job", "source", "goal", "name", "inner"] ["self", "job", "source", "goal"] (defScope s_Carrier_within) := ⟨rfl, rfl, rfl, by decide +kernel, rfl, by decide +kernel, by decide +kernel⟩
abbrev s_Carrier_placed : Stmt := inClass (top 40) 19
theorem sc_Carrier_placed : FnScope ["self", "number", "source", "goal", "job", "node"] ["self", "number", "source", "goal"] (defScope s_Carrier_placed) := ⟨rfl, rfl, rfl, by decide +kernel, rfl, by decide +kernel, by decide +kernel⟩
abbrev s_Carrier_take_back : Stmt := inClass (top 40) 20
theorem sc_Carrier_take_back : FnScope ["self", "number"] ["self", "number"] (defScope s_Carrier_take_back) := ⟨rfl, rfl, rfl, by decide +kernel, rfl, by decide +kernel, by decide +kernel⟩
abbrev s_carried : Stmt := top 41
theorem sc_carried : FnScope ["tree", "now", "what", "answers", "carrier", "number", "kinds", "found", "told", "at", "word", "kind"] ["tree", "now", "what", "answers"] (defScope s_carried) := ⟨rfl, rfl, rfl, by decide +kernel, rfl, by decide +kernel, by decide +kernel⟩
abbrev s_law_cell : Stmt := top 43
theorem sc_law_cell : FnScope ["_law_script", "_law_k"] ["_law_script", "_law_k"] (defScope s_law_cell) := ⟨rfl, rfl, rfl, by decide +kernel, rfl, by decide +kernel, by decide +kernel⟩
abbrev s_law_as : Stmt := top 44
theorem sc_law_as : FnScope ["_law_thing", "_law_due"] ["_law_thing", "_law_due"] (defScope s_law_as) := ⟨rfl, rfl, rfl, by decide +kernel, rfl, by decide +kernel, by decide +kernel⟩
abbrev s_law_is_name : Stmt := top 45
theorem sc_law_is_name : FnScope ["_law_thing", "_law_sign"] ["_law_thing"] (defScope s_law_is_name) := ⟨rfl, rfl, rfl, by decide +kernel, rfl, by decide +kernel, by decide +kernel⟩
abbrev s_law : Stmt := top 46
theorem sc_law : FnScope ["_law_script", "_law_files", "_law_many", "_law_name", "_law_room", "_law_inner", "_law_tree", "_law_carrier", "_law_number", "_law_time", "_law_told", "_law_steps", "_law_k", "_law_step"] ["_law_script"] (defScope s_law) := ⟨rfl, rfl, rfl, by decide +kernel, rfl, by decide +kernel, by decide +kernel⟩
/-- where the things lie that the top has made -/
structure Ad where
  a_is_within : Addr
  d_is_within : FuncData
  a_is_name : Addr
  d_is_name : FuncData
  a_is_path : Addr
  d_is_path : FuncData
  a_is_node : Addr
  d_is_node : FuncData
  a_are_entries : Addr
  d_are_entries : FuncData
  a_node_count : Addr
  d_node_count : FuncData
  a_node_height : Addr
  d_node_height : FuncData
  a_is_tree : Addr
  d_is_tree : FuncData
  a_look : Addr
  d_look : FuncData
  a_found_at : Addr
  d_found_at : FuncData
  a_with_node : Addr
  d_with_node : FuncData
  a_is_job : Addr
  d_is_job : FuncData
  a_look_job : Addr
  d_look_job : FuncData
  a_is_answer : Addr
  d_is_answer : FuncData
  a_kind_of : Addr
  d_kind_of : FuncData
  a_free_name : Addr
  d_free_name : FuncData
  a_Job_init : Addr
  d_Job_init : FuncData
  a_Step_init : Addr
  d_Step_init : FuncData
  a_Step_touches : Addr
  d_Step_touches : FuncData
  a_Carrier_init : Addr
  d_Carrier_init : FuncData
  a_Carrier_whole : Addr
  d_Carrier_whole : FuncData
  a_Carrier_moment : Addr
  d_Carrier_moment : FuncData
  a_Carrier_begin : Addr
  d_Carrier_begin : FuncData
  a_Carrier_job : Addr
  d_Carrier_job : FuncData
  a_Carrier_states : Addr
  d_Carrier_states : FuncData
  a_Carrier_asked : Addr
  d_Carrier_asked : FuncData
  a_Carrier_journal : Addr
  d_Carrier_journal : FuncData
  a_Carrier_halt : Addr
  d_Carrier_halt : FuncData
  a_Carrier_go_on : Addr
  d_Carrier_go_on : FuncData
  a_Carrier_answer : Addr
  d_Carrier_answer : FuncData
  a_Carrier_step : Addr
  d_Carrier_step : FuncData
  a_Carrier_note : Addr
  d_Carrier_note : FuncData
  a_Carrier_change : Addr
  d_Carrier_change : FuncData
  a_Carrier_drop : Addr
  d_Carrier_drop : FuncData
  a_Carrier_carry : Addr
  d_Carrier_carry : FuncData
  a_Carrier_settled : Addr
  d_Carrier_settled : FuncData
  a_Carrier_marked : Addr
  d_Carrier_marked : FuncData
  a_Carrier_within : Addr
  d_Carrier_within : FuncData
  a_Carrier_placed : Addr
  d_Carrier_placed : FuncData
  a_Carrier_take_back : Addr
  d_Carrier_take_back : FuncData
  a_carried : Addr
  d_carried : FuncData
  a_law_cell : Addr
  d_law_cell : FuncData
  a_law_as : Addr
  d_law_as : FuncData
  a_law_is_name : Addr
  d_law_is_name : FuncData
  a_law : Addr
  d_law : FuncData
  C_Job : Addr
  C_Step : Addr
  C_Carrier : Addr
  X_NoTree : Addr
  X_NoJob : Addr
  X_Inside : Addr
  X_NoNumber : Addr
  X_NoMoment : Addr
  X_NoAnswer : Addr
  X_Halted : Addr
  u_SIGNS : Value
  u_MOST_NAME : Value
  u_MOST_DEEP : Value
  u_MOST_NODES : Value
  u_MOST_WORTH : Value
  u_MOST_WHEN : Value
  w_WORDS : Addr
  w_KINDS : Addr
  u_MOST_SOURCES : Value
def fldNames : List Str := [("what" : Str), ("left" : Str), ("answers" : Str), ("once" : Str), ("ask" : Str), ("word" : Str), ("number" : Str), ("told" : Str), ("before" : Str), ("tree" : Str), ("now" : Str), ("jobs" : Str), ("steps" : Str), ("append" : Str), ("get" : Str), ("job" : Str), ("pop" : Str), ("carry" : Str), ("note" : Str), ("change" : Str), ("settled" : Str), ("join" : Str), ("update" : Str), ("begin" : Str), ("step" : Str), ("answer" : Str), ("halt" : Str), ("go_on" : Str), ("take_back" : Str), ("states" : Str), ("journal" : Str), ("drop" : Str), ("placed" : Str), ("within" : Str), ("whole" : Str), ("moment" : Str), ("asked" : Str), ("items" : Str), ("marked" : Str), ("touches" : Str), ("split" : Str), ("extend" : Str), ("count" : Str), ("index" : Str), ("values" : Str), ("strip" : Str), ("lstrip" : Str), ("isdigit" : Str)]
theorem fld_nd : fldNames.Nodup := by decide +kernel
def TT (A : Ad) : Tb where
  fldN := fun n => fldNames.getD n Str.empty
  clsA := fun c => match c with
    | 0 => some A.C_Job
    | 1 => some A.C_Step
    | 2 => some A.C_Carrier
    | _ => none
  excA := fun c => match c with
    | 1 => some A.X_NoTree
    | 2 => some A.X_NoJob
    | 3 => some A.X_Inside
    | 4 => some A.X_NoNumber
    | 5 => some A.X_NoMoment
    | 6 => some A.X_NoAnswer
    | 7 => some A.X_Halted
    | _ => none
theorem fi_answer : ∀ g : Nat, fldNames.getD g Str.empty = ("answer" : Str) → g = 25 := inj_of fld_nd rfl (by decide +kernel)
theorem fi_answers : ∀ g : Nat, fldNames.getD g Str.empty = ("answers" : Str) → g = 2 := inj_of fld_nd rfl (by decide +kernel)
theorem fi_ask : ∀ g : Nat, fldNames.getD g Str.empty = ("ask" : Str) → g = 4 := inj_of fld_nd rfl (by decide +kernel)
theorem fi_asked : ∀ g : Nat, fldNames.getD g Str.empty = ("asked" : Str) → g = 36 := inj_of fld_nd rfl (by decide +kernel)
theorem fi_before : ∀ g : Nat, fldNames.getD g Str.empty = ("before" : Str) → g = 8 := inj_of fld_nd rfl (by decide +kernel)
theorem fi_begin : ∀ g : Nat, fldNames.getD g Str.empty = ("begin" : Str) → g = 23 := inj_of fld_nd rfl (by decide +kernel)
theorem fi_carry : ∀ g : Nat, fldNames.getD g Str.empty = ("carry" : Str) → g = 17 := inj_of fld_nd rfl (by decide +kernel)
theorem fi_change : ∀ g : Nat, fldNames.getD g Str.empty = ("change" : Str) → g = 19 := inj_of fld_nd rfl (by decide +kernel)
theorem fi_drop : ∀ g : Nat, fldNames.getD g Str.empty = ("drop" : Str) → g = 31 := inj_of fld_nd rfl (by decide +kernel)
theorem fi_go_on : ∀ g : Nat, fldNames.getD g Str.empty = ("go_on" : Str) → g = 27 := inj_of fld_nd rfl (by decide +kernel)
theorem fi_halt : ∀ g : Nat, fldNames.getD g Str.empty = ("halt" : Str) → g = 26 := inj_of fld_nd rfl (by decide +kernel)
theorem fi_job : ∀ g : Nat, fldNames.getD g Str.empty = ("job" : Str) → g = 15 := inj_of fld_nd rfl (by decide +kernel)
theorem fi_jobs : ∀ g : Nat, fldNames.getD g Str.empty = ("jobs" : Str) → g = 11 := inj_of fld_nd rfl (by decide +kernel)
theorem fi_journal : ∀ g : Nat, fldNames.getD g Str.empty = ("journal" : Str) → g = 30 := inj_of fld_nd rfl (by decide +kernel)
theorem fi_left : ∀ g : Nat, fldNames.getD g Str.empty = ("left" : Str) → g = 1 := inj_of fld_nd rfl (by decide +kernel)
theorem fi_marked : ∀ g : Nat, fldNames.getD g Str.empty = ("marked" : Str) → g = 38 := inj_of fld_nd rfl (by decide +kernel)
theorem fi_moment : ∀ g : Nat, fldNames.getD g Str.empty = ("moment" : Str) → g = 35 := inj_of fld_nd rfl (by decide +kernel)
theorem fi_note : ∀ g : Nat, fldNames.getD g Str.empty = ("note" : Str) → g = 18 := inj_of fld_nd rfl (by decide +kernel)
theorem fi_now : ∀ g : Nat, fldNames.getD g Str.empty = ("now" : Str) → g = 10 := inj_of fld_nd rfl (by decide +kernel)
theorem fi_number : ∀ g : Nat, fldNames.getD g Str.empty = ("number" : Str) → g = 6 := inj_of fld_nd rfl (by decide +kernel)
theorem fi_once : ∀ g : Nat, fldNames.getD g Str.empty = ("once" : Str) → g = 3 := inj_of fld_nd rfl (by decide +kernel)
theorem fi_placed : ∀ g : Nat, fldNames.getD g Str.empty = ("placed" : Str) → g = 32 := inj_of fld_nd rfl (by decide +kernel)
theorem fi_settled : ∀ g : Nat, fldNames.getD g Str.empty = ("settled" : Str) → g = 20 := inj_of fld_nd rfl (by decide +kernel)
theorem fi_states : ∀ g : Nat, fldNames.getD g Str.empty = ("states" : Str) → g = 29 := inj_of fld_nd rfl (by decide +kernel)
theorem fi_step : ∀ g : Nat, fldNames.getD g Str.empty = ("step" : Str) → g = 24 := inj_of fld_nd rfl (by decide +kernel)
theorem fi_steps : ∀ g : Nat, fldNames.getD g Str.empty = ("steps" : Str) → g = 12 := inj_of fld_nd rfl (by decide +kernel)
theorem fi_take_back : ∀ g : Nat, fldNames.getD g Str.empty = ("take_back" : Str) → g = 28 := inj_of fld_nd rfl (by decide +kernel)
theorem fi_told : ∀ g : Nat, fldNames.getD g Str.empty = ("told" : Str) → g = 7 := inj_of fld_nd rfl (by decide +kernel)
theorem fi_touches : ∀ g : Nat, fldNames.getD g Str.empty = ("touches" : Str) → g = 39 := inj_of fld_nd rfl (by decide +kernel)
theorem fi_tree : ∀ g : Nat, fldNames.getD g Str.empty = ("tree" : Str) → g = 9 := inj_of fld_nd rfl (by decide +kernel)
theorem fi_what : ∀ g : Nat, fldNames.getD g Str.empty = ("what" : Str) → g = 0 := inj_of fld_nd rfl (by decide +kernel)
theorem fi_whole : ∀ g : Nat, fldNames.getD g Str.empty = ("whole" : Str) → g = 34 := inj_of fld_nd rfl (by decide +kernel)
theorem fi_within : ∀ g : Nat, fldNames.getD g Str.empty = ("within" : Str) → g = 33 := inj_of fld_nd rfl (by decide +kernel)
theorem fi_word : ∀ g : Nat, fldNames.getD g Str.empty = ("word" : Str) → g = 5 := inj_of fld_nd rfl (by decide +kernel)
theorem cls_cases (A : Ad) {c : Nat} {C : Addr} (h : (TT A).clsA c = some C) : (c = 0 ∧ A.C_Job = C) ∨ (c = 1 ∧ A.C_Step = C) ∨ (c = 2 ∧ A.C_Carrier = C) := by
  simp only [TT] at h
  split at h
  · cases h; exact .inl (⟨rfl, rfl⟩)
  · cases h; exact .inr (.inl (⟨rfl, rfl⟩))
  · cases h; exact .inr (.inr ((⟨rfl, rfl⟩)))
  · cases h
theorem exc_cases (A : Ad) {c : Nat} {C : Addr} (h : (TT A).excA c = some C) : (c = 1 ∧ A.X_NoTree = C) ∨ (c = 2 ∧ A.X_NoJob = C) ∨ (c = 3 ∧ A.X_Inside = C) ∨ (c = 4 ∧ A.X_NoNumber = C) ∨ (c = 5 ∧ A.X_NoMoment = C) ∨ (c = 6 ∧ A.X_NoAnswer = C) ∨ (c = 7 ∧ A.X_Halted = C) := by
  simp only [TT] at h
  split at h
  · cases h; exact .inl (⟨rfl, rfl⟩)
  · cases h; exact .inr (.inl (⟨rfl, rfl⟩))
  · cases h; exact .inr (.inr (.inl (⟨rfl, rfl⟩)))
  · cases h; exact .inr (.inr (.inr (.inl (⟨rfl, rfl⟩))))
  · cases h; exact .inr (.inr (.inr (.inr (.inl (⟨rfl, rfl⟩)))))
  · cases h; exact .inr (.inr (.inr (.inr (.inr (.inl (⟨rfl, rfl⟩))))))
  · cases h; exact .inr (.inr (.inr (.inr (.inr (.inr ((⟨rfl, rfl⟩)))))))
  · cases h
structure Tx (K : PySem.W.Frag) (mg : Str → Option Value) (w : World) (A : Ad) : Prop where
  u_is_within : Fun K "is_within" "is_within" s_is_within A.a_is_within A.d_is_within
  k_is_within : PySem.W.keepIn K (.ref A.a_is_within) = true
  b_is_within : Binds K A.d_is_within ["thing", "low", "high"] []
  g_is_within : mg "is_within" = some (.ref A.a_is_within)
  u_is_name : Fun K "is_name" "is_name" s_is_name A.a_is_name A.d_is_name
  k_is_name : PySem.W.keepIn K (.ref A.a_is_name) = true
  b_is_name : Binds K A.d_is_name ["thing"] []
  g_is_name : mg "is_name" = some (.ref A.a_is_name)
  u_is_path : Fun K "is_path" "is_path" s_is_path A.a_is_path A.d_is_path
  k_is_path : PySem.W.keepIn K (.ref A.a_is_path) = true
  b_is_path : Binds K A.d_is_path ["thing"] []
  g_is_path : mg "is_path" = some (.ref A.a_is_path)
  u_is_node : Fun K "is_node" "is_node" s_is_node A.a_is_node A.d_is_node
  k_is_node : PySem.W.keepIn K (.ref A.a_is_node) = true
  b_is_node : Binds K A.d_is_node ["thing", "deep"] []
  g_is_node : mg "is_node" = some (.ref A.a_is_node)
  u_are_entries : Fun K "are_entries" "are_entries" s_are_entries A.a_are_entries A.d_are_entries
  k_are_entries : PySem.W.keepIn K (.ref A.a_are_entries) = true
  b_are_entries : Binds K A.d_are_entries ["thing", "deep"] []
  g_are_entries : mg "are_entries" = some (.ref A.a_are_entries)
  u_node_count : Fun K "node_count" "node_count" s_node_count A.a_node_count A.d_node_count
  k_node_count : PySem.W.keepIn K (.ref A.a_node_count) = true
  b_node_count : Binds K A.d_node_count ["node"] []
  g_node_count : mg "node_count" = some (.ref A.a_node_count)
  u_node_height : Fun K "node_height" "node_height" s_node_height A.a_node_height A.d_node_height
  k_node_height : PySem.W.keepIn K (.ref A.a_node_height) = true
  b_node_height : Binds K A.d_node_height ["node"] []
  g_node_height : mg "node_height" = some (.ref A.a_node_height)
  u_is_tree : Fun K "is_tree" "is_tree" s_is_tree A.a_is_tree A.d_is_tree
  k_is_tree : PySem.W.keepIn K (.ref A.a_is_tree) = true
  b_is_tree : Binds K A.d_is_tree ["thing"] []
  g_is_tree : mg "is_tree" = some (.ref A.a_is_tree)
  u_look : Fun K "look" "look" s_look A.a_look A.d_look
  k_look : PySem.W.keepIn K (.ref A.a_look) = true
  b_look : Binds K A.d_look ["tree"] []
  g_look : mg "look" = some (.ref A.a_look)
  u_found_at : Fun K "found_at" "found_at" s_found_at A.a_found_at A.d_found_at
  k_found_at : PySem.W.keepIn K (.ref A.a_found_at) = true
  b_found_at : Binds K A.d_found_at ["node", "path"] []
  g_found_at : mg "found_at" = some (.ref A.a_found_at)
  u_with_node : Fun K "with_node" "with_node" s_with_node A.a_with_node A.d_with_node
  k_with_node : PySem.W.keepIn K (.ref A.a_with_node) = true
  b_with_node : Binds K A.d_with_node ["node", "path", "new"] []
  g_with_node : mg "with_node" = some (.ref A.a_with_node)
  u_is_job : Fun K "is_job" "is_job" s_is_job A.a_is_job A.d_is_job
  k_is_job : PySem.W.keepIn K (.ref A.a_is_job) = true
  b_is_job : Binds K A.d_is_job ["tree", "thing"] []
  g_is_job : mg "is_job" = some (.ref A.a_is_job)
  u_look_job : Fun K "look_job" "look_job" s_look_job A.a_look_job A.d_look_job
  k_look_job : PySem.W.keepIn K (.ref A.a_look_job) = true
  b_look_job : Binds K A.d_look_job ["tree", "job"] []
  g_look_job : mg "look_job" = some (.ref A.a_look_job)
  u_is_answer : Fun K "is_answer" "is_answer" s_is_answer A.a_is_answer A.d_is_answer
  k_is_answer : PySem.W.keepIn K (.ref A.a_is_answer) = true
  b_is_answer : Binds K A.d_is_answer ["kind", "word"] []
  g_is_answer : mg "is_answer" = some (.ref A.a_is_answer)
  u_kind_of : Fun K "kind_of" "kind_of" s_kind_of A.a_kind_of A.d_kind_of
  k_kind_of : PySem.W.keepIn K (.ref A.a_kind_of) = true
  b_kind_of : Binds K A.d_kind_of ["one", "other"] []
  g_kind_of : mg "kind_of" = some (.ref A.a_kind_of)
  u_free_name : Fun K "free_name" "free_name" s_free_name A.a_free_name A.d_free_name
  k_free_name : PySem.W.keepIn K (.ref A.a_free_name) = true
  b_free_name : Binds K A.d_free_name ["drawer", "name"] []
  g_free_name : mg "free_name" = some (.ref A.a_free_name)
  u_Job_init : Fun K "__init__" "Job.__init__" s_Job_init A.a_Job_init A.d_Job_init
  k_Job_init : PySem.W.keepIn K (.ref A.a_Job_init) = true
  b_Job_init : Binds K A.d_Job_init ["self", "what"] []
  M_Job : Mk K A.C_Job A.a_Job_init
  u_Step_init : Fun K "__init__" "Step.__init__" s_Step_init A.a_Step_init A.d_Step_init
  k_Step_init : PySem.W.keepIn K (.ref A.a_Step_init) = true
  b_Step_init : Binds K A.d_Step_init ["self", "number", "told", "before"] []
  M_Step : Mk K A.C_Step A.a_Step_init
  u_Step_touches : Fun K "touches" "Step.touches" s_Step_touches A.a_Step_touches A.d_Step_touches
  k_Step_touches : PySem.W.keepIn K (.ref A.a_Step_touches) = true
  b_Step_touches : Binds K A.d_Step_touches ["self", "other"] []
  m_Step_touches : MetOk (TT A) K 1 39 "touches" A.C_Step A.a_Step_touches
  u_Carrier_init : Fun K "__init__" "Carrier.__init__" s_Carrier_init A.a_Carrier_init A.d_Carrier_init
  k_Carrier_init : PySem.W.keepIn K (.ref A.a_Carrier_init) = true
  b_Carrier_init : Binds K A.d_Carrier_init ["self", "tree", "now"] []
  M_Carrier : Mk K A.C_Carrier A.a_Carrier_init
  u_Carrier_whole : Fun K "whole" "Carrier.whole" s_Carrier_whole A.a_Carrier_whole A.d_Carrier_whole
  k_Carrier_whole : PySem.W.keepIn K (.ref A.a_Carrier_whole) = true
  b_Carrier_whole : Binds K A.d_Carrier_whole ["self"] []
  m_Carrier_whole : MetOk (TT A) K 2 34 "whole" A.C_Carrier A.a_Carrier_whole
  u_Carrier_moment : Fun K "moment" "Carrier.moment" s_Carrier_moment A.a_Carrier_moment A.d_Carrier_moment
  k_Carrier_moment : PySem.W.keepIn K (.ref A.a_Carrier_moment) = true
  b_Carrier_moment : Binds K A.d_Carrier_moment ["self"] []
  m_Carrier_moment : MetOk (TT A) K 2 35 "moment" A.C_Carrier A.a_Carrier_moment
  u_Carrier_begin : Fun K "begin" "Carrier.begin" s_Carrier_begin A.a_Carrier_begin A.d_Carrier_begin
  k_Carrier_begin : PySem.W.keepIn K (.ref A.a_Carrier_begin) = true
  b_Carrier_begin : Binds K A.d_Carrier_begin ["self", "what"] []
  m_Carrier_begin : MetOk (TT A) K 2 23 "begin" A.C_Carrier A.a_Carrier_begin
  u_Carrier_job : Fun K "job" "Carrier.job" s_Carrier_job A.a_Carrier_job A.d_Carrier_job
  k_Carrier_job : PySem.W.keepIn K (.ref A.a_Carrier_job) = true
  b_Carrier_job : Binds K A.d_Carrier_job ["self", "number"] []
  m_Carrier_job : MetOk (TT A) K 2 15 "job" A.C_Carrier A.a_Carrier_job
  u_Carrier_states : Fun K "states" "Carrier.states" s_Carrier_states A.a_Carrier_states A.d_Carrier_states
  k_Carrier_states : PySem.W.keepIn K (.ref A.a_Carrier_states) = true
  b_Carrier_states : Binds K A.d_Carrier_states ["self"] []
  m_Carrier_states : MetOk (TT A) K 2 29 "states" A.C_Carrier A.a_Carrier_states
  u_Carrier_asked : Fun K "asked" "Carrier.asked" s_Carrier_asked A.a_Carrier_asked A.d_Carrier_asked
  k_Carrier_asked : PySem.W.keepIn K (.ref A.a_Carrier_asked) = true
  b_Carrier_asked : Binds K A.d_Carrier_asked ["self", "number"] []
  m_Carrier_asked : MetOk (TT A) K 2 36 "asked" A.C_Carrier A.a_Carrier_asked
  u_Carrier_journal : Fun K "journal" "Carrier.journal" s_Carrier_journal A.a_Carrier_journal A.d_Carrier_journal
  k_Carrier_journal : PySem.W.keepIn K (.ref A.a_Carrier_journal) = true
  b_Carrier_journal : Binds K A.d_Carrier_journal ["self"] []
  m_Carrier_journal : MetOk (TT A) K 2 30 "journal" A.C_Carrier A.a_Carrier_journal
  u_Carrier_halt : Fun K "halt" "Carrier.halt" s_Carrier_halt A.a_Carrier_halt A.d_Carrier_halt
  k_Carrier_halt : PySem.W.keepIn K (.ref A.a_Carrier_halt) = true
  b_Carrier_halt : Binds K A.d_Carrier_halt ["self", "number"] []
  m_Carrier_halt : MetOk (TT A) K 2 26 "halt" A.C_Carrier A.a_Carrier_halt
  u_Carrier_go_on : Fun K "go_on" "Carrier.go_on" s_Carrier_go_on A.a_Carrier_go_on A.d_Carrier_go_on
  k_Carrier_go_on : PySem.W.keepIn K (.ref A.a_Carrier_go_on) = true
  b_Carrier_go_on : Binds K A.d_Carrier_go_on ["self", "number"] []
  m_Carrier_go_on : MetOk (TT A) K 2 27 "go_on" A.C_Carrier A.a_Carrier_go_on
  u_Carrier_answer : Fun K "answer" "Carrier.answer" s_Carrier_answer A.a_Carrier_answer A.d_Carrier_answer
  k_Carrier_answer : PySem.W.keepIn K (.ref A.a_Carrier_answer) = true
  b_Carrier_answer : Binds K A.d_Carrier_answer ["self", "number", "word", "for_all"] []
  m_Carrier_answer : MetOk (TT A) K 2 25 "answer" A.C_Carrier A.a_Carrier_answer
  u_Carrier_step : Fun K "step" "Carrier.step" s_Carrier_step A.a_Carrier_step A.d_Carrier_step
  k_Carrier_step : PySem.W.keepIn K (.ref A.a_Carrier_step) = true
  b_Carrier_step : Binds K A.d_Carrier_step ["self", "number"] []
  m_Carrier_step : MetOk (TT A) K 2 24 "step" A.C_Carrier A.a_Carrier_step
  u_Carrier_note : Fun K "note" "Carrier.note" s_Carrier_note A.a_Carrier_note A.d_Carrier_note
  k_Carrier_note : PySem.W.keepIn K (.ref A.a_Carrier_note) = true
  b_Carrier_note : Binds K A.d_Carrier_note ["self", "number", "told", "before"] []
  m_Carrier_note : MetOk (TT A) K 2 18 "note" A.C_Carrier A.a_Carrier_note
  u_Carrier_change : Fun K "change" "Carrier.change" s_Carrier_change A.a_Carrier_change A.d_Carrier_change
  k_Carrier_change : PySem.W.keepIn K (.ref A.a_Carrier_change) = true
  b_Carrier_change : Binds K A.d_Carrier_change ["self", "number", "told", "pairs"] []
  m_Carrier_change : MetOk (TT A) K 2 19 "change" A.C_Carrier A.a_Carrier_change
  u_Carrier_drop : Fun K "drop" "Carrier.drop" s_Carrier_drop A.a_Carrier_drop A.d_Carrier_drop
  k_Carrier_drop : PySem.W.keepIn K (.ref A.a_Carrier_drop) = true
  b_Carrier_drop : Binds K A.d_Carrier_drop ["self", "number", "path"] []
  m_Carrier_drop : MetOk (TT A) K 2 31 "drop" A.C_Carrier A.a_Carrier_drop
  u_Carrier_carry : Fun K "carry" "Carrier.carry" s_Carrier_carry A.a_Carrier_carry A.d_Carrier_carry
  k_Carrier_carry : PySem.W.keepIn K (.ref A.a_Carrier_carry) = true
  b_Carrier_carry : Binds K A.d_Carrier_carry ["self", "number", "source", "goal", "once"] []
  m_Carrier_carry : MetOk (TT A) K 2 17 "carry" A.C_Carrier A.a_Carrier_carry
  u_Carrier_settled : Fun K "settled" "Carrier.settled" s_Carrier_settled A.a_Carrier_settled A.d_Carrier_settled
  k_Carrier_settled : PySem.W.keepIn K (.ref A.a_Carrier_settled) = true
  b_Carrier_settled : Binds K A.d_Carrier_settled ["self", "number", "source", "goal", "word"] []
  m_Carrier_settled : MetOk (TT A) K 2 20 "settled" A.C_Carrier A.a_Carrier_settled
  u_Carrier_marked : Fun K "marked" "Carrier.marked" s_Carrier_marked A.a_Carrier_marked A.d_Carrier_marked
  k_Carrier_marked : PySem.W.keepIn K (.ref A.a_Carrier_marked) = true
  b_Carrier_marked : Binds K A.d_Carrier_marked ["self", "job", "node"] []
  m_Carrier_marked : MetOk (TT A) K 2 38 "marked" A.C_Carrier A.a_Carrier_marked
  u_Carrier_within : Fun K "within" "Carrier.within" s_Carrier_within A.a_Carrier_within A.d_Carrier_within
  k_Carrier_within : PySem.W.keepIn K (.ref A.a_Carrier_within) = true
  b_Carrier_within : Binds K A.d_Carrier_within ["self", "job", "source", "goal"] []
  m_Carrier_within : MetOk (TT A) K 2 33 "within" A.C_Carrier A.a_Carrier_within
  u_Carrier_placed : Fun K "placed" "Carrier.placed" s_Carrier_placed A.a_Carrier_placed A.d_Carrier_placed
  k_Carrier_placed : PySem.W.keepIn K (.ref A.a_Carrier_placed) = true
  b_Carrier_placed : Binds K A.d_Carrier_placed ["self", "number", "source", "goal"] []
  m_Carrier_placed : MetOk (TT A) K 2 32 "placed" A.C_Carrier A.a_Carrier_placed
  u_Carrier_take_back : Fun K "take_back" "Carrier.take_back" s_Carrier_take_back A.a_Carrier_take_back A.d_Carrier_take_back
  k_Carrier_take_back : PySem.W.keepIn K (.ref A.a_Carrier_take_back) = true
  b_Carrier_take_back : Binds K A.d_Carrier_take_back ["self", "number"] []
  m_Carrier_take_back : MetOk (TT A) K 2 28 "take_back" A.C_Carrier A.a_Carrier_take_back
  u_carried : Fun K "carried" "carried" s_carried A.a_carried A.d_carried
  k_carried : PySem.W.keepIn K (.ref A.a_carried) = true
  b_carried : Binds K A.d_carried ["tree", "now", "what", "answers"] []
  g_carried : mg "carried" = some (.ref A.a_carried)
  u_law_cell : Fun K "_law_cell" "_law_cell" s_law_cell A.a_law_cell A.d_law_cell
  k_law_cell : PySem.W.keepIn K (.ref A.a_law_cell) = true
  b_law_cell : Binds K A.d_law_cell ["_law_script", "_law_k"] []
  g_law_cell : mg "_law_cell" = some (.ref A.a_law_cell)
  u_law_as : Fun K "_law_as" "_law_as" s_law_as A.a_law_as A.d_law_as
  k_law_as : PySem.W.keepIn K (.ref A.a_law_as) = true
  b_law_as : Binds K A.d_law_as ["_law_thing", "_law_due"] []
  g_law_as : mg "_law_as" = some (.ref A.a_law_as)
  u_law_is_name : Fun K "_law_is_name" "_law_is_name" s_law_is_name A.a_law_is_name A.d_law_is_name
  k_law_is_name : PySem.W.keepIn K (.ref A.a_law_is_name) = true
  b_law_is_name : Binds K A.d_law_is_name ["_law_thing"] []
  g_law_is_name : mg "_law_is_name" = some (.ref A.a_law_is_name)
  u_law : Fun K "law" "law" s_law A.a_law A.d_law
  k_law : PySem.W.keepIn K (.ref A.a_law) = true
  b_law : Binds K A.d_law ["_law_script"] []
  g_law : mg "law" = some (.ref A.a_law)
  c_Job : mg "Job" = some (.ref A.C_Job)
  c_Step : mg "Step" = some (.ref A.C_Step)
  c_Carrier : mg "Carrier" = some (.ref A.C_Carrier)
  f_answers : FldOk (TT A) K 2
  f_ask : FldOk (TT A) K 4
  f_before : FldOk (TT A) K 8
  f_jobs : FldOk (TT A) K 11
  f_left : FldOk (TT A) K 1
  f_now : FldOk (TT A) K 10
  f_number : FldOk (TT A) K 6
  f_once : FldOk (TT A) K 3
  f_steps : FldOk (TT A) K 12
  f_told : FldOk (TT A) K 7
  f_tree : FldOk (TT A) K 9
  f_what : FldOk (TT A) K 0
  f_word : FldOk (TT A) K 5
  n_bool : mg "bool" = none
  n_dict : mg "dict" = none
  n_enumerate : mg "enumerate" = none
  n_int : mg "int" = none
  n_isinstance : mg "isinstance" = none
  n_len : mg "len" = none
  n_max : mg "max" = none
  n_min : mg "min" = none
  n_range : mg "range" = none
  n_sorted : mg "sorted" = none
  n_str : mg "str" = none
  n_sum : mg "sum" = none
  n_tuple : mg "tuple" = none
  x_NoTree : ExcOk (TT A) K mg 1 "NoTree" A.X_NoTree
  x_NoJob : ExcOk (TT A) K mg 2 "NoJob" A.X_NoJob
  x_Inside : ExcOk (TT A) K mg 3 "Inside" A.X_Inside
  x_NoNumber : ExcOk (TT A) K mg 4 "NoNumber" A.X_NoNumber
  x_NoMoment : ExcOk (TT A) K mg 5 "NoMoment" A.X_NoMoment
  x_NoAnswer : ExcOk (TT A) K mg 6 "NoAnswer" A.X_NoAnswer
  x_Halted : ExcOk (TT A) K mg 7 "Halted" A.X_Halted
  apart : Apart (TT A) K
  g_SIGNS : mg "SIGNS" = some A.u_SIGNS
  v_SIGNS : ∀ (ρ : Rho) (H : Hp), VR K ρ H (.str "abcdefghijklmnopqrstuvwxyz0123456789") (.str "abcdefghijklmnopqrstuvwxyz0123456789")
  r_SIGNS : RelV (.str "abcdefghijklmnopqrstuvwxyz0123456789") A.u_SIGNS
  g_MOST_NAME : mg "MOST_NAME" = some A.u_MOST_NAME
  v_MOST_NAME : ∀ (ρ : Rho) (H : Hp), VR K ρ H (.int 8) (.int 8)
  r_MOST_NAME : RelV (.int 8) A.u_MOST_NAME
  g_MOST_DEEP : mg "MOST_DEEP" = some A.u_MOST_DEEP
  v_MOST_DEEP : ∀ (ρ : Rho) (H : Hp), VR K ρ H (.int 6) (.int 6)
  r_MOST_DEEP : RelV (.int 6) A.u_MOST_DEEP
  g_MOST_NODES : mg "MOST_NODES" = some A.u_MOST_NODES
  v_MOST_NODES : ∀ (ρ : Rho) (H : Hp), VR K ρ H (.int 60) (.int 60)
  r_MOST_NODES : RelV (.int 60) A.u_MOST_NODES
  g_MOST_WORTH : mg "MOST_WORTH" = some A.u_MOST_WORTH
  v_MOST_WORTH : ∀ (ρ : Rho) (H : Hp), VR K ρ H (.int 999) (.int 999)
  r_MOST_WORTH : RelV (.int 999) A.u_MOST_WORTH
  g_MOST_WHEN : mg "MOST_WHEN" = some A.u_MOST_WHEN
  v_MOST_WHEN : ∀ (ρ : Rho) (H : Hp), VR K ρ H (.int 9999) (.int 9999)
  r_MOST_WHEN : RelV (.int 9999) A.u_MOST_WHEN
  g_WORDS : mg "WORDS" = some (.ref A.w_WORDS)
  v_WORDS : ∀ (ρ : Rho) (H : Hp), VR K ρ H (.ktup ((["copy", "move"] : List Str).map D.str)) (.ref A.w_WORDS)
  r_WORDS : RelV (.ref A.w_WORDS) (.ref A.w_WORDS)
  g_KINDS : mg "KINDS" = some (.ref A.w_KINDS)
  v_KINDS : ∀ (z : Str) (d : D), lookK (([[.inr "files"], [.inr "drawers"], [.inr "unlike"]] : List (List Key)).zip ([(.ktup ((["skip", "over", "newer", "both"] : List Str).map D.str)), (.ktup ((["skip", "merge", "both"] : List Str).map D.str)), (.ktup ((["skip", "both"] : List Str).map D.str))] : List D)) [.inr z] = some d → ∃ v, KDct K w A.w_KINDS z v ∧ ∀ (ρ : Rho) (H : Hp), VR K ρ H d v
  g_MOST_SOURCES : mg "MOST_SOURCES" = some A.u_MOST_SOURCES
  v_MOST_SOURCES : ∀ (ρ : Rho) (H : Hp), VR K ρ H (.int 4) (.int 4)
  r_MOST_SOURCES : RelV (.int 4) A.u_MOST_SOURCES
structure Gd (d : Nat) (P : Program) (w : World) (K : PySem.W.Frag) (mg : Str → Option Value) (base : Heap) (A : Ad) : Prop where
  F_is_within : FnOk P w K mg base (L2.CX P w) (2 * d) A.a_is_within A.d_is_within ["thing", "low", "high"] (spI (TT A) K (callD fns gv d) 0 3)
  F_is_name : FnOk P w K mg base (L2.CX P w) (2 * d) A.a_is_name A.d_is_name ["thing"] (spI (TT A) K (callD fns gv d) 1 1)
  F_is_path : FnOk P w K mg base (L2.CX P w) (2 * d) A.a_is_path A.d_is_path ["thing"] (spI (TT A) K (callD fns gv d) 2 1)
  F_is_node : FnOk P w K mg base (L2.CX P w) (2 * d) A.a_is_node A.d_is_node ["thing", "deep"] (spI (TT A) K (callD fns gv d) 3 2)
  F_are_entries : FnOk P w K mg base (L2.CX P w) (2 * d) A.a_are_entries A.d_are_entries ["thing", "deep"] (spI (TT A) K (callD fns gv d) 4 2)
  F_node_count : FnOk P w K mg base (L2.CX P w) (2 * d) A.a_node_count A.d_node_count ["node"] (spI (TT A) K (callD fns gv d) 5 1)
  F_node_height : FnOk P w K mg base (L2.CX P w) (2 * d) A.a_node_height A.d_node_height ["node"] (spI (TT A) K (callD fns gv d) 6 1)
  F_is_tree : FnOk P w K mg base (L2.CX P w) (2 * d) A.a_is_tree A.d_is_tree ["thing"] (spI (TT A) K (callD fns gv d) 7 1)
  F_look : FnOk P w K mg base (L2.CX P w) (2 * d) A.a_look A.d_look ["tree"] (spI (TT A) K (callD fns gv d) 8 1)
  F_found_at : FnOk P w K mg base (L2.CX P w) (2 * d) A.a_found_at A.d_found_at ["node", "path"] (spI (TT A) K (callD fns gv d) 9 2)
  F_with_node : FnOk P w K mg base (L2.CX P w) (2 * d) A.a_with_node A.d_with_node ["node", "path", "new"] (spI (TT A) K (callD fns gv d) 10 3)
  F_is_job : FnOk P w K mg base (L2.CX P w) (2 * d) A.a_is_job A.d_is_job ["tree", "thing"] (spI (TT A) K (callD fns gv d) 11 2)
  F_look_job : FnOk P w K mg base (L2.CX P w) (2 * d) A.a_look_job A.d_look_job ["tree", "job"] (spI (TT A) K (callD fns gv d) 12 2)
  F_is_answer : FnOk P w K mg base (L2.CX P w) (2 * d) A.a_is_answer A.d_is_answer ["kind", "word"] (spI (TT A) K (callD fns gv d) 13 2)
  F_kind_of : FnOk P w K mg base (L2.CX P w) (2 * d) A.a_kind_of A.d_kind_of ["one", "other"] (spI (TT A) K (callD fns gv d) 14 2)
  F_free_name : FnOk P w K mg base (L2.CX P w) (2 * d) A.a_free_name A.d_free_name ["drawer", "name"] (spI (TT A) K (callD fns gv d) 15 2)
  F_Job_init : FnOk P w K mg base (L2.CX P w) (2 * d) A.a_Job_init A.d_Job_init ["self", "what"] (spI (TT A) K (callD fns gv d) 16 2)
  F_Step_init : FnOk P w K mg base (L2.CX P w) (2 * d) A.a_Step_init A.d_Step_init ["self", "number", "told", "before"] (spI (TT A) K (callD fns gv d) 17 4)
  F_Step_touches : FnOk P w K mg base (L2.CX P w) (2 * d) A.a_Step_touches A.d_Step_touches ["self", "other"] (spI (TT A) K (callD fns gv d) 18 2)
  F_Carrier_init : FnOk P w K mg base (L2.CX P w) (2 * d) A.a_Carrier_init A.d_Carrier_init ["self", "tree", "now"] (spI (TT A) K (callD fns gv d) 19 3)
  F_Carrier_whole : FnOk P w K mg base (L2.CX P w) (2 * d) A.a_Carrier_whole A.d_Carrier_whole ["self"] (spI (TT A) K (callD fns gv d) 20 1)
  F_Carrier_moment : FnOk P w K mg base (L2.CX P w) (2 * d) A.a_Carrier_moment A.d_Carrier_moment ["self"] (spI (TT A) K (callD fns gv d) 21 1)
  F_Carrier_begin : FnOk P w K mg base (L2.CX P w) (2 * d) A.a_Carrier_begin A.d_Carrier_begin ["self", "what"] (spI (TT A) K (callD fns gv d) 22 2)
  F_Carrier_job : FnOk P w K mg base (L2.CX P w) (2 * d) A.a_Carrier_job A.d_Carrier_job ["self", "number"] (spI (TT A) K (callD fns gv d) 23 2)
  F_Carrier_states : FnOk P w K mg base (L2.CX P w) (2 * d) A.a_Carrier_states A.d_Carrier_states ["self"] (spI (TT A) K (callD fns gv d) 24 1)
  F_Carrier_asked : FnOk P w K mg base (L2.CX P w) (2 * d) A.a_Carrier_asked A.d_Carrier_asked ["self", "number"] (spI (TT A) K (callD fns gv d) 25 2)
  F_Carrier_journal : FnOk P w K mg base (L2.CX P w) (2 * d) A.a_Carrier_journal A.d_Carrier_journal ["self"] (spI (TT A) K (callD fns gv d) 26 1)
  F_Carrier_halt : FnOk P w K mg base (L2.CX P w) (2 * d) A.a_Carrier_halt A.d_Carrier_halt ["self", "number"] (spI (TT A) K (callD fns gv d) 27 2)
  F_Carrier_go_on : FnOk P w K mg base (L2.CX P w) (2 * d) A.a_Carrier_go_on A.d_Carrier_go_on ["self", "number"] (spI (TT A) K (callD fns gv d) 28 2)
  F_Carrier_answer : FnOk P w K mg base (L2.CX P w) (2 * d) A.a_Carrier_answer A.d_Carrier_answer ["self", "number", "word", "for_all"] (spI (TT A) K (callD fns gv d) 29 4)
  F_Carrier_step : FnOk P w K mg base (L2.CX P w) (2 * d) A.a_Carrier_step A.d_Carrier_step ["self", "number"] (spI (TT A) K (callD fns gv d) 30 2)
  F_Carrier_note : FnOk P w K mg base (L2.CX P w) (2 * d) A.a_Carrier_note A.d_Carrier_note ["self", "number", "told", "before"] (spI (TT A) K (callD fns gv d) 31 4)
  F_Carrier_change : FnOk P w K mg base (L2.CX P w) (2 * d) A.a_Carrier_change A.d_Carrier_change ["self", "number", "told", "pairs"] (spI (TT A) K (callD fns gv d) 32 4)
  F_Carrier_drop : FnOk P w K mg base (L2.CX P w) (2 * d) A.a_Carrier_drop A.d_Carrier_drop ["self", "number", "path"] (spI (TT A) K (callD fns gv d) 33 3)
  F_Carrier_carry : FnOk P w K mg base (L2.CX P w) (2 * d) A.a_Carrier_carry A.d_Carrier_carry ["self", "number", "source", "goal", "once"] (spI (TT A) K (callD fns gv d) 34 5)
  F_Carrier_settled : FnOk P w K mg base (L2.CX P w) (2 * d) A.a_Carrier_settled A.d_Carrier_settled ["self", "number", "source", "goal", "word"] (spI (TT A) K (callD fns gv d) 35 5)
  F_Carrier_marked : FnOk P w K mg base (L2.CX P w) (2 * d) A.a_Carrier_marked A.d_Carrier_marked ["self", "job", "node"] (spI (TT A) K (callD fns gv d) 36 3)
  F_Carrier_within : FnOk P w K mg base (L2.CX P w) (2 * d) A.a_Carrier_within A.d_Carrier_within ["self", "job", "source", "goal"] (spI (TT A) K (callD fns gv d) 37 4)
  F_Carrier_placed : FnOk P w K mg base (L2.CX P w) (2 * d) A.a_Carrier_placed A.d_Carrier_placed ["self", "number", "source", "goal"] (spI (TT A) K (callD fns gv d) 38 4)
  F_Carrier_take_back : FnOk P w K mg base (L2.CX P w) (2 * d) A.a_Carrier_take_back A.d_Carrier_take_back ["self", "number"] (spI (TT A) K (callD fns gv d) 39 2)
  F_carried : FnOk P w K mg base (L2.CX P w) (2 * d) A.a_carried A.d_carried ["tree", "now", "what", "answers"] (spI (TT A) K (callD fns gv d) 77 4)
  F_law_cell : FnOk P w K mg base (L2.CX P w) (2 * d) A.a_law_cell A.d_law_cell ["_law_script", "_law_k"] (spI (TT A) K (callD fns gv d) 40 2)
  F_law_as : FnOk P w K mg base (L2.CX P w) (2 * d) A.a_law_as A.d_law_as ["_law_thing", "_law_due"] (spI (TT A) K (callD fns gv d) 83 2)
  F_law_is_name : FnOk P w K mg base (L2.CX P w) (2 * d) A.a_law_is_name A.d_law_is_name ["_law_thing"] (spI (TT A) K (callD fns gv d) 87 1)
  F_law : FnOk P w K mg base (L2.CX P w) (2 * d) A.a_law A.d_law ["_law_script"] (spI (TT A) K (callD fns gv d) 1000 1)
section
variable {d : Nat} {P : Program} {w : World} {K : PySem.W.Frag} {mg : Str → Option Value} {base : Heap} {A : Ad}
theorem ok_is_within (tx : Tx K mg w A) (gd : Gd d P w K mg base A) : FnOk P w K mg base (L2.CX P w) (2 * d + 1 + 1) A.a_is_within A.d_is_within ["thing", "low", "high"] (spI (TT A) K (callD fns gv (d + 1)) 0 3) :=
  fn_ok tx.u_is_within sc_is_within rfl rfl rfl fun cdv AA outer s H E hrm => by
    have hu := hu_all hrm
    have hr : Room (2 * d) _ := hrm.mono (Nat.le_succ _)
    have tk : Takes (cxOf (L2.CX P w) P w K mg base ["thing", "low", "high"] "is_within" (defScope s_is_within) A.a_is_within cdv AA outer s H E) (fun cls d _ H' => E cls d H') := takes_of rfl rfl rfl rfl
    have hpo : PassesOwn (model P w) (AA.deeper (envOfC "is_within" (defScope s_is_within) s.heap.objs.size A.a_is_within cdv)) (envOfC "is_within" (defScope s_is_within) s.heap.objs.size A.a_is_within cdv) (cxOf (L2.CX P w) P w K mg base ["thing", "low", "high"] "is_within" (defScope s_is_within) A.a_is_within cdv AA outer s H E).xe := PassesOwn.leaving
    exact (mss_cons (ms_ret (me_and (me_isi (t := "int") (by decide) rfl tx.n_isinstance rfl tx.n_int boot_intM (mv 0)) (me_and (me_not (me_isi (t := "bool") (by decide) rfl tx.n_isinstance rfl tx.n_bool boot_boolM (mv 0))) (me_bool1 (me_chain (op := .le) (op' := .le) hu (mv 1) (mv 0) (mv 2))))))
 mss_nil)
theorem ok_is_name (tx : Tx K mg w A) (gd : Gd d P w K mg base A) : FnOk P w K mg base (L2.CX P w) (2 * d + 1 + 1) A.a_is_name A.d_is_name ["thing"] (spI (TT A) K (callD fns gv (d + 1)) 1 1) :=
  fn_ok tx.u_is_name sc_is_name rfl rfl rfl fun cdv AA outer s H E hrm => by
    have hu := hu_all hrm
    have hr : Room (2 * d) _ := hrm.mono (Nat.le_succ _)
    have tk : Takes (cxOf (L2.CX P w) P w K mg base ["thing", "sign"] "is_name" (defScope s_is_name) A.a_is_name cdv AA outer s H E) (fun cls d _ H' => E cls d H') := takes_of rfl rfl rfl rfl
    have hpo : PassesOwn (model P w) (AA.deeper (envOfC "is_name" (defScope s_is_name) s.heap.objs.size A.a_is_name cdv)) (envOfC "is_name" (defScope s_is_name) s.heap.objs.size A.a_is_name cdv) (cxOf (L2.CX P w) P w K mg base ["thing", "sign"] "is_name" (defScope s_is_name) A.a_is_name cdv AA outer s H E).xe := PassesOwn.leaving
    exact (mss_cons (ms_if (PW.pt (mw_or (mt_not (mt_val (me_isi (t := "str") (by decide) rfl tx.n_isinstance rfl tx.n_str boot_strM (mv 0)))) (mw_or1 (mt_not (mt_chain (op := .le) (op' := .le) hu me_int (me_len rfl tx.n_len (mv 0)) (me_gbl (n := 1) rfl tx.v_MOST_NAME rfl tx.g_MOST_NAME tx.r_MOST_NAME))))))
 (mss_cons (ms_ret me_bl)
 mss_nil)
 mss_nil)
 (mss_cons (ms_ret (me_not (me_comp rfl sc_is_name.nd set_name rfl (blkOk_by (own := [("sign", 1)]) (N := ["thing", "sign"]) (sc := defScope s_is_name) (by decide +kernel)) (mi_seq (mv 0)) (fun _ _ _ _ _ => (pgn 1 sc_is_name.nd)) (fun _ _ _ _ _ => (mts_one (mt_cmp (op := .notin) hu (mv 1) (me_gbl (n := 0) rfl tx.v_SIGNS rfl tx.g_SIGNS tx.r_SIGNS)))) (fun _ _ _ _ _ => (mv 1)))))
 mss_nil))
theorem ok_is_path (tx : Tx K mg w A) (gd : Gd d P w K mg base A) : FnOk P w K mg base (L2.CX P w) (2 * d + 1 + 1) A.a_is_path A.d_is_path ["thing"] (spI (TT A) K (callD fns gv (d + 1)) 2 1) :=
  fn_ok tx.u_is_path sc_is_path rfl rfl rfl fun cdv AA outer s H E hrm => by
    have hu := hu_all hrm
    have hr : Room (2 * d) _ := hrm.mono (Nat.le_succ _)
    have tk : Takes (cxOf (L2.CX P w) P w K mg base ["thing", "name"] "is_path" (defScope s_is_path) A.a_is_path cdv AA outer s H E) (fun cls d _ H' => E cls d H') := takes_of rfl rfl rfl rfl
    have hpo : PassesOwn (model P w) (AA.deeper (envOfC "is_path" (defScope s_is_path) s.heap.objs.size A.a_is_path cdv)) (envOfC "is_path" (defScope s_is_path) s.heap.objs.size A.a_is_path cdv) (cxOf (L2.CX P w) P w K mg base ["thing", "name"] "is_path" (defScope s_is_path) A.a_is_path cdv AA outer s H E).xe := PassesOwn.leaving
    exact (mss_cons (ms_ret (me_and (me_isi (t := "tuple") (by decide) rfl tx.n_isinstance rfl tx.n_tuple boot_tupleM (mv 0)) (me_bool1 (me_not (me_comp rfl sc_is_path.nd set_name rfl (blkOk_by (own := [("name", 1)]) (N := ["thing", "name"]) (sc := defScope s_is_path) (by decide +kernel)) (mi_seq (mv 0)) (fun _ _ _ _ _ => (pgn 1 sc_is_path.nd)) (fun _ _ _ _ _ => (mts_one (mt_not (mt_val (me_call gd.F_is_name hr rfl tx.g_is_name tx.k_is_name tx.b_is_name takesW0 (ma_cons (mv 1) ma_nil) rfl))))) (fun _ _ _ _ _ => (mv 1)))))))
 mss_nil)
theorem ok_is_node (tx : Tx K mg w A) (gd : Gd d P w K mg base A) : FnOk P w K mg base (L2.CX P w) (2 * d + 1 + 1) A.a_is_node A.d_is_node ["thing", "deep"] (spI (TT A) K (callD fns gv (d + 1)) 3 2) :=
  fn_ok tx.u_is_node sc_is_node rfl rfl rfl fun cdv AA outer s H E hrm => by
    have hu := hu_all hrm
    have hr : Room (2 * d) _ := hrm.mono (Nat.le_succ _)
    have tk : Takes (cxOf (L2.CX P w) P w K mg base ["thing", "deep"] "is_node" (defScope s_is_node) A.a_is_node cdv AA outer s H E) (fun cls d _ H' => E cls d H') := takes_of rfl rfl rfl rfl
    have hpo : PassesOwn (model P w) (AA.deeper (envOfC "is_node" (defScope s_is_node) s.heap.objs.size A.a_is_node cdv)) (envOfC "is_node" (defScope s_is_node) s.heap.objs.size A.a_is_node cdv) (cxOf (L2.CX P w) P w K mg base ["thing", "deep"] "is_node" (defScope s_is_node) A.a_is_node cdv AA outer s H E).xe := PassesOwn.leaving
    exact (mss_cons (ms_if (PW.pt (mw_or (mt_not (mt_val (me_isi (t := "tuple") (by decide) rfl tx.n_isinstance rfl tx.n_tuple boot_tupleM (mv 0)))) (mw_or (mt_cmp (op := .ne) hu (me_len rfl tx.n_len (mv 0)) me_int) (mw_or1 (mt_not (mt_val (me_isi (t := "str") (by decide) rfl tx.n_isinstance rfl tx.n_str boot_strM (me_idx (hu_one hu) (fun _ _ => rfl) (mv 0) me_int))))))))
 (mss_cons (ms_ret me_bl)
 mss_nil)
 mss_nil)
 (mss_cons (ms_if (PW.pt (mw_or (mt_not (mt_val (me_call gd.F_is_within hr rfl tx.g_is_within tx.k_is_within tx.b_is_within tk (ma_cons (me_idx (hu_one hu) (fun _ _ => rfl) (mv 0) me_int) (ma_cons me_int (ma_cons (me_gbl (n := 5) rfl tx.v_MOST_WHEN rfl tx.g_MOST_WHEN tx.r_MOST_WHEN) ma_nil))) rfl))) (mw_or1 (mt_cmp (op := .gt) hu (mv 1) (me_gbl (n := 2) rfl tx.v_MOST_DEEP rfl tx.g_MOST_DEEP tx.r_MOST_DEEP)))))
 (mss_cons (ms_ret me_bl)
 mss_nil)
 mss_nil)
 (mss_cons (ms_if (mt_cmp (op := .eq) hu (me_idx (hu_one hu) (fun _ _ => rfl) (mv 0) me_int) me_str)
 (mss_cons (ms_ret (me_call gd.F_is_within hr rfl tx.g_is_within tx.k_is_within tx.b_is_within tk (ma_cons (me_idx (hu_one hu) (fun _ _ => rfl) (mv 0) me_int) (ma_cons me_int (ma_cons (me_gbl (n := 4) rfl tx.v_MOST_WORTH rfl tx.g_MOST_WORTH tx.r_MOST_WORTH) ma_nil))) rfl))
 mss_nil)
 mss_nil)
 (mss_cons (ms_ret (me_and (me_cmp (op := .eq) hu (me_idx (hu_one hu) (fun _ _ => rfl) (mv 0) me_int) me_str) (me_bool1 (me_call gd.F_are_entries hr rfl tx.g_are_entries tx.k_are_entries tx.b_are_entries tk (ma_cons (me_idx (hu_one hu) (fun _ _ => rfl) (mv 0) me_int) (ma_cons (mv 1) ma_nil)) rfl))))
 mss_nil))))
theorem ok_are_entries (tx : Tx K mg w A) (gd : Gd d P w K mg base A) : FnOk P w K mg base (L2.CX P w) (2 * d + 1 + 1) A.a_are_entries A.d_are_entries ["thing", "deep"] (spI (TT A) K (callD fns gv (d + 1)) 4 2) :=
  fn_ok tx.u_are_entries sc_are_entries rfl rfl rfl fun cdv AA outer s H E hrm => by
    have hu := hu_all hrm
    have hr : Room (2 * d) _ := hrm.mono (Nat.le_succ _)
    have tk : Takes (cxOf (L2.CX P w) P w K mg base ["thing", "deep", "last", "entry"] "are_entries" (defScope s_are_entries) A.a_are_entries cdv AA outer s H E) (fun cls d _ H' => E cls d H') := takes_of rfl rfl rfl rfl
    have hpo : PassesOwn (model P w) (AA.deeper (envOfC "are_entries" (defScope s_are_entries) s.heap.objs.size A.a_are_entries cdv)) (envOfC "are_entries" (defScope s_are_entries) s.heap.objs.size A.a_are_entries cdv) (cxOf (L2.CX P w) P w K mg base ["thing", "deep", "last", "entry"] "are_entries" (defScope s_are_entries) A.a_are_entries cdv AA outer s H E).xe := PassesOwn.leaving
    exact (mss_cons (ms_if (mt_not (mt_val (me_isi (t := "tuple") (by decide) rfl tx.n_isinstance rfl tx.n_tuple boot_tupleM (mv 0))))
 (mss_cons (ms_ret me_bl)
 mss_nil)
 mss_nil)
 (mss_cons (ms_set 2 sc_are_entries.nd me_str)
 (mss_cons (ms_for hpo rfl set_name (mi_seq (mv 0)) (pgn 3 sc_are_entries.nd)
 (mss_cons (ms_if (PW.pt (mw_or (mt_not (mt_val (me_isi (t := "tuple") (by decide) rfl tx.n_isinstance rfl tx.n_tuple boot_tupleM (mv 3)))) (mw_or (mt_cmp (op := .ne) hu (me_len rfl tx.n_len (mv 3)) me_int) (mw_or (mt_not (mt_val (me_call gd.F_is_name hr rfl tx.g_is_name tx.k_is_name tx.b_is_name tk (ma_cons (me_idx (hu_one hu) (fun _ _ => rfl) (mv 3) me_int) ma_nil) rfl))) (mw_or1 (mt_cmp (op := .le) hu (me_idx (hu_one hu) (fun _ _ => rfl) (mv 3) me_int) (mv 2)))))))
 (mss_cons (ms_ret me_bl)
 mss_nil)
 mss_nil)
 (mss_cons (ms_if (mt_not (mt_val (me_call gd.F_is_node hr rfl tx.g_is_node tx.k_is_node tx.b_is_node tk (ma_cons (me_idx (hu_one hu) (fun _ _ => rfl) (mv 3) me_int) (ma_cons (me_add (mv 1) me_int) ma_nil)) rfl)))
 (mss_cons (ms_ret me_bl)
 mss_nil)
 mss_nil)
 (mss_cons (ms_set 2 sc_are_entries.nd (me_idx (hu_one hu) (fun _ _ => rfl) (mv 3) me_int))
 mss_nil))))
 (mss_cons (ms_ret me_bl)
 mss_nil))))
theorem ok_node_count (tx : Tx K mg w A) (gd : Gd d P w K mg base A) : FnOk P w K mg base (L2.CX P w) (2 * d + 1 + 1) A.a_node_count A.d_node_count ["node"] (spI (TT A) K (callD fns gv (d + 1)) 5 1) :=
  fn_ok tx.u_node_count sc_node_count rfl rfl rfl fun cdv AA outer s H E hrm => by
    have hu := hu_all hrm
    have hr : Room (2 * d) _ := hrm.mono (Nat.le_succ _)
    have tk : Takes (cxOf (L2.CX P w) P w K mg base ["node", "name", "inner"] "node_count" (defScope s_node_count) A.a_node_count cdv AA outer s H E) (fun cls d _ H' => E cls d H') := takes_of rfl rfl rfl rfl
    have hpo : PassesOwn (model P w) (AA.deeper (envOfC "node_count" (defScope s_node_count) s.heap.objs.size A.a_node_count cdv)) (envOfC "node_count" (defScope s_node_count) s.heap.objs.size A.a_node_count cdv) (cxOf (L2.CX P w) P w K mg base ["node", "name", "inner"] "node_count" (defScope s_node_count) A.a_node_count cdv AA outer s H E).xe := PassesOwn.leaving
    exact (mss_cons (ms_if (mt_cmp (op := .eq) hu (me_idx (hu_one hu) (fun _ _ => rfl) (mv 0) me_int) me_str)
 (mss_cons (ms_ret me_int)
 mss_nil)
 mss_nil)
 (mss_cons (ms_ret (me_add me_int (me_sum rfl rfl tx.n_sum (me_comp rfl sc_node_count.nd (set_pair (by decide)) rfl (blkOk_by (own := [("name", 1), ("inner", 2)]) (N := ["node", "name", "inner"]) (sc := defScope s_node_count) (by decide +kernel)) (mi_seq (me_idx (hu_one hu) (fun _ _ => rfl) (mv 0) me_int)) (fun _ _ _ _ _ => (pg_tup rfl (pgs_cons (pgn 1 sc_node_count.nd) (pgs_cons (pgn 2 sc_node_count.nd) pgs_nil)))) (fun _ _ _ _ _ => mts_nil) (fun _ _ _ _ _ => (me_call gd.F_node_count hr rfl tx.g_node_count tx.k_node_count tx.b_node_count takesW0 (ma_cons (mv 2) ma_nil) rfl))))))
 mss_nil))
theorem ok_node_height (tx : Tx K mg w A) (gd : Gd d P w K mg base A) : FnOk P w K mg base (L2.CX P w) (2 * d + 1 + 1) A.a_node_height A.d_node_height ["node"] (spI (TT A) K (callD fns gv (d + 1)) 6 1) :=
  fn_ok tx.u_node_height sc_node_height rfl rfl rfl fun cdv AA outer s H E hrm => by
    have hu := hu_all hrm
    have hr : Room (2 * d) _ := hrm.mono (Nat.le_succ _)
    have tk : Takes (cxOf (L2.CX P w) P w K mg base ["node", "name", "inner"] "node_height" (defScope s_node_height) A.a_node_height cdv AA outer s H E) (fun cls d _ H' => E cls d H') := takes_of rfl rfl rfl rfl
    have hpo : PassesOwn (model P w) (AA.deeper (envOfC "node_height" (defScope s_node_height) s.heap.objs.size A.a_node_height cdv)) (envOfC "node_height" (defScope s_node_height) s.heap.objs.size A.a_node_height cdv) (cxOf (L2.CX P w) P w K mg base ["node", "name", "inner"] "node_height" (defScope s_node_height) A.a_node_height cdv AA outer s H E).xe := PassesOwn.leaving
    exact (mss_cons (ms_if (mt_cmp (op := .eq) hu (me_idx (hu_one hu) (fun _ _ => rfl) (mv 0) me_int) me_str)
 (mss_cons (ms_ret me_int)
 mss_nil)
 mss_nil)
 (mss_cons (ms_ret (me_add me_int (me_maxd rfl rfl tx.n_max (me_comp rfl sc_node_height.nd (set_pair (by decide)) rfl (blkOk_by (own := [("name", 1), ("inner", 2)]) (N := ["node", "name", "inner"]) (sc := defScope s_node_height) (by decide +kernel)) (mi_seq (me_idx (hu_one hu) (fun _ _ => rfl) (mv 0) me_int)) (fun _ _ _ _ _ => (pg_tup rfl (pgs_cons (pgn 1 sc_node_height.nd) (pgs_cons (pgn 2 sc_node_height.nd) pgs_nil)))) (fun _ _ _ _ _ => mts_nil) (fun _ _ _ _ _ => (me_call gd.F_node_height hr rfl tx.g_node_height tx.k_node_height tx.b_node_height takesW0 (ma_cons (mv 2) ma_nil) rfl))) (pk_cons pe_int pk_nil))))
 mss_nil))
theorem ok_is_tree (tx : Tx K mg w A) (gd : Gd d P w K mg base A) : FnOk P w K mg base (L2.CX P w) (2 * d + 1 + 1) A.a_is_tree A.d_is_tree ["thing"] (spI (TT A) K (callD fns gv (d + 1)) 7 1) :=
  fn_ok tx.u_is_tree sc_is_tree rfl rfl rfl fun cdv AA outer s H E hrm => by
    have hu := hu_all hrm
    have hr : Room (2 * d) _ := hrm.mono (Nat.le_succ _)
    have tk : Takes (cxOf (L2.CX P w) P w K mg base ["thing"] "is_tree" (defScope s_is_tree) A.a_is_tree cdv AA outer s H E) (fun cls d _ H' => E cls d H') := takes_of rfl rfl rfl rfl
    have hpo : PassesOwn (model P w) (AA.deeper (envOfC "is_tree" (defScope s_is_tree) s.heap.objs.size A.a_is_tree cdv)) (envOfC "is_tree" (defScope s_is_tree) s.heap.objs.size A.a_is_tree cdv) (cxOf (L2.CX P w) P w K mg base ["thing"] "is_tree" (defScope s_is_tree) A.a_is_tree cdv AA outer s H E).xe := PassesOwn.leaving
    exact (mss_cons (ms_ret (me_and (me_call gd.F_is_node hr rfl tx.g_is_node tx.k_is_node tx.b_is_node tk (ma_cons (mv 0) (ma_cons me_int ma_nil)) rfl) (me_and (me_cmp (op := .eq) hu (me_idx (hu_one hu) (fun _ _ => rfl) (mv 0) me_int) me_str) (me_bool1 (me_cmp (op := .le) hu (me_call gd.F_node_count hr rfl tx.g_node_count tx.k_node_count tx.b_node_count tk (ma_cons (mv 0) ma_nil) rfl) (me_gbl (n := 3) rfl tx.v_MOST_NODES rfl tx.g_MOST_NODES tx.r_MOST_NODES))))))
 mss_nil)
theorem ok_look (tx : Tx K mg w A) (gd : Gd d P w K mg base A) : FnOk P w K mg base (L2.CX P w) (2 * d + 1 + 1) A.a_look A.d_look ["tree"] (spI (TT A) K (callD fns gv (d + 1)) 8 1) :=
  fn_ok tx.u_look sc_look rfl rfl rfl fun cdv AA outer s H E hrm => by
    have hu := hu_all hrm
    have hr : Room (2 * d) _ := hrm.mono (Nat.le_succ _)
    have tk : Takes (cxOf (L2.CX P w) P w K mg base ["tree"] "look" (defScope s_look) A.a_look cdv AA outer s H E) (fun cls d _ H' => E cls d H') := takes_of rfl rfl rfl rfl
    have hpo : PassesOwn (model P w) (AA.deeper (envOfC "look" (defScope s_look) s.heap.objs.size A.a_look cdv)) (envOfC "look" (defScope s_look) s.heap.objs.size A.a_look cdv) (cxOf (L2.CX P w) P w K mg base ["tree"] "look" (defScope s_look) A.a_look cdv AA outer s H E).xe := PassesOwn.leaving
    exact (mss_cons (ms_if (mt_not (mt_val (me_call gd.F_is_tree hr rfl tx.g_is_tree tx.k_is_tree tx.b_is_tree tk (ma_cons (mv 0) ma_nil) rfl)))
 (mss_cons (ms_raise tx.x_NoTree rfl tk rfl)
 mss_nil)
 mss_nil)
 mss_nil)
theorem ok_found_at (tx : Tx K mg w A) (gd : Gd d P w K mg base A) : FnOk P w K mg base (L2.CX P w) (2 * d + 1 + 1) A.a_found_at A.d_found_at ["node", "path"] (spI (TT A) K (callD fns gv (d + 1)) 9 2) :=
  fn_ok tx.u_found_at sc_found_at rfl rfl rfl fun cdv AA outer s H E hrm => by
    have hu := hu_all hrm
    have hr : Room (2 * d) _ := hrm.mono (Nat.le_succ _)
    have tk : Takes (cxOf (L2.CX P w) P w K mg base ["node", "path", "name", "inside"] "found_at" (defScope s_found_at) A.a_found_at cdv AA outer s H E) (fun cls d _ H' => E cls d H') := takes_of rfl rfl rfl rfl
    have hpo : PassesOwn (model P w) (AA.deeper (envOfC "found_at" (defScope s_found_at) s.heap.objs.size A.a_found_at cdv)) (envOfC "found_at" (defScope s_found_at) s.heap.objs.size A.a_found_at cdv) (cxOf (L2.CX P w) P w K mg base ["node", "path", "name", "inside"] "found_at" (defScope s_found_at) A.a_found_at cdv AA outer s H E).xe := PassesOwn.leaving
    exact (mss_cons (ms_for hpo rfl set_name (mi_seq (mv 1)) (pgn 2 sc_found_at.nd)
 (mss_cons (ms_set 3 sc_found_at.nd (me_ite (mt_cmp (op := .eq) hu (me_idx (hu_one hu) (fun _ _ => rfl) (mv 0) me_int) me_str) (me_dictK rfl rfl tx.n_dict (me_idx (hu_one hu) (fun _ _ => rfl) (mv 0) me_int)) me_dct0))
 (mss_cons (ms_if (mt_cmp (op := .notin) hu (mv 2) (mv 3))
 (mss_cons (ms_ret me_non)
 mss_nil)
 mss_nil)
 (mss_cons (ms_set 0 sc_found_at.nd (me_idx (hu_one hu) (fun _ _ => rfl) (mv 3) (mv 2)))
 mss_nil))))
 (mss_cons (ms_ret (mv 0))
 mss_nil))
theorem ok_with_node (tx : Tx K mg w A) (gd : Gd d P w K mg base A) : FnOk P w K mg base (L2.CX P w) (2 * d + 1 + 1) A.a_with_node A.d_with_node ["node", "path", "new"] (spI (TT A) K (callD fns gv (d + 1)) 10 3) :=
  fn_ok tx.u_with_node sc_with_node rfl rfl rfl fun cdv AA outer s H E hrm => by
    have hu := hu_all hrm
    have hr : Room (2 * d) _ := hrm.mono (Nat.le_succ _)
    have tk : Takes (cxOf (L2.CX P w) P w K mg base ["node", "path", "new", "entries", "inner", "entry"] "with_node" (defScope s_with_node) A.a_with_node cdv AA outer s H E) (fun cls d _ H' => E cls d H') := takes_of rfl rfl rfl rfl
    have hpo : PassesOwn (model P w) (AA.deeper (envOfC "with_node" (defScope s_with_node) s.heap.objs.size A.a_with_node cdv)) (envOfC "with_node" (defScope s_with_node) s.heap.objs.size A.a_with_node cdv) (cxOf (L2.CX P w) P w K mg base ["node", "path", "new", "entries", "inner", "entry"] "with_node" (defScope s_with_node) A.a_with_node cdv AA outer s H E).xe := PassesOwn.leaving
    exact (mss_cons (ms_if (mt_not (mt_val (mv 1)))
 (mss_cons (ms_ret (mv 2))
 mss_nil)
 mss_nil)
 (mss_cons (ms_setLc (i := 3) rfl sc_with_node.nd set_name rfl (blkOk_by (own := [("entry", 5)]) (N := ["node", "path", "new", "entries", "inner", "entry"]) (sc := defScope s_with_node) (by decide +kernel)) (sw_true rfl rfl rfl (by decide +kernel)) (mi_seq (me_idx (hu_one hu) (fun _ _ => rfl) (mv 0) me_int)) (fun _ _ _ _ _ => (pgn 5 sc_with_node.nd)) (fun _ _ _ _ _ => (mts_one (mt_cmp (op := .ne) hu (me_idx (hu_one hu) (fun _ _ => rfl) (mv 5) me_int) (me_idx (hu_one hu) (fun _ _ => rfl) (mv 1) me_int)))) (fun _ _ _ _ _ => (mv 5)))
 (mss_cons (ms_set 4 sc_with_node.nd (mv 2))
 (mss_cons (ms_if (mt_cmp (op := .gt) hu (me_len rfl tx.n_len (mv 1)) me_int)
 (mss_cons (ms_set 4 sc_with_node.nd (me_call gd.F_with_node hr rfl tx.g_with_node tx.k_with_node tx.b_with_node tk (ma_cons (me_idx (hu_one hu) (fun _ _ => rfl) (me_dictK rfl rfl tx.n_dict (me_idx (hu_one hu) (fun _ _ => rfl) (mv 0) me_int)) (me_idx (hu_one hu) (fun _ _ => rfl) (mv 1) me_int)) (ma_cons (me_slc (mv 1) (mo_some me_int) mo_none) (ma_cons (mv 2) ma_nil))) rfl))
 mss_nil)
 mss_nil)
 (mss_cons (ms_if (mt_cmp (op := .notN) hu (mv 4) me_non)
 (mss_cons (ms_expr (me_append (mv 3) (me_tup (ma_cons (me_idx (hu_one hu) (fun _ _ => rfl) (mv 1) me_int) (ma_cons (mv 4) ma_nil)))))
 mss_nil)
 mss_nil)
 (mss_cons (ms_ret (me_tup (ma_cons (me_idx (hu_one hu) (fun _ _ => rfl) (mv 0) me_int) (ma_cons (me_tuplez rfl tx.n_tuple (me_srtP rfl tx.n_sorted (mv 3))) (ma_cons (me_idx (hu_one hu) (fun _ _ => rfl) (mv 0) me_int) ma_nil)))))
 mss_nil))))))
theorem ok_is_job (tx : Tx K mg w A) (gd : Gd d P w K mg base A) : FnOk P w K mg base (L2.CX P w) (2 * d + 1 + 1) A.a_is_job A.d_is_job ["tree", "thing"] (spI (TT A) K (callD fns gv (d + 1)) 11 2) :=
  fn_ok tx.u_is_job sc_is_job rfl rfl rfl fun cdv AA outer s H E hrm => by
    have hu := hu_all hrm
    have hr : Room (2 * d) _ := hrm.mono (Nat.le_succ _)
    have tk : Takes (cxOf (L2.CX P w) P w K mg base ["tree", "thing", "path"] "is_job" (defScope s_is_job) A.a_is_job cdv AA outer s H E) (fun cls d _ H' => E cls d H') := takes_of rfl rfl rfl rfl
    have hpo : PassesOwn (model P w) (AA.deeper (envOfC "is_job" (defScope s_is_job) s.heap.objs.size A.a_is_job cdv)) (envOfC "is_job" (defScope s_is_job) s.heap.objs.size A.a_is_job cdv) (cxOf (L2.CX P w) P w K mg base ["tree", "thing", "path"] "is_job" (defScope s_is_job) A.a_is_job cdv AA outer s H E).xe := PassesOwn.leaving
    exact (mss_cons (ms_if (PW.pt (mw_or (mt_not (mt_val (me_isi (t := "tuple") (by decide) rfl tx.n_isinstance rfl tx.n_tuple boot_tupleM (mv 1)))) (mw_or (mt_cmp (op := .ne) hu (me_len rfl tx.n_len (mv 1)) me_int) (mw_or (mt_not (mt_val (me_isi (t := "str") (by decide) rfl tx.n_isinstance rfl tx.n_str boot_strM (me_idx (hu_one hu) (fun _ _ => rfl) (mv 1) me_int)))) (mw_or1 (mt_cmp (op := .notin) hu (me_idx (hu_one hu) (fun _ _ => rfl) (mv 1) me_int) (me_gbl (n := 6) rfl tx.v_WORDS rfl tx.g_WORDS tx.r_WORDS)))))))
 (mss_cons (ms_ret me_bl)
 mss_nil)
 mss_nil)
 (mss_cons (ms_if (PW.pt (mw_or (mt_not (mt_val (me_isi (t := "tuple") (by decide) rfl tx.n_isinstance rfl tx.n_tuple boot_tupleM (me_idx (hu_one hu) (fun _ _ => rfl) (mv 1) me_int)))) (mw_or (mt_not (mt_chain (op := .le) (op' := .le) hu me_int (me_len rfl tx.n_len (me_idx (hu_one hu) (fun _ _ => rfl) (mv 1) me_int)) (me_gbl (n := 8) rfl tx.v_MOST_SOURCES rfl tx.g_MOST_SOURCES tx.r_MOST_SOURCES))) (mw_or1 (mt_not (mt_val (me_isi (t := "bool") (by decide) rfl tx.n_isinstance rfl tx.n_bool boot_boolM (me_idx (hu_one hu) (fun _ _ => rfl) (mv 1) me_int))))))))
 (mss_cons (ms_ret me_bl)
 mss_nil)
 mss_nil)
 (mss_cons (ms_for hpo rfl set_name (mi_seq (me_add (me_idx (hu_one hu) (fun _ _ => rfl) (mv 1) me_int) (me_tup (ma_cons (me_idx (hu_one hu) (fun _ _ => rfl) (mv 1) me_int) ma_nil)))) (pgn 2 sc_is_job.nd)
 (mss_cons (ms_if (PW.pt (mw_or (mt_not (mt_val (me_call gd.F_is_path hr rfl tx.g_is_path tx.k_is_path tx.b_is_path tk (ma_cons (mv 2) ma_nil) rfl))) (mw_or1 (mt_cmp (op := .isN) hu (me_call gd.F_found_at hr rfl tx.g_found_at tx.k_found_at tx.b_found_at tk (ma_cons (mv 0) (ma_cons (mv 2) ma_nil)) rfl) me_non))))
 (mss_cons (ms_ret me_bl)
 mss_nil)
 mss_nil)
 mss_nil))
 (mss_cons (ms_ret (me_and (me_cmp (op := .notin) hu (me_tup ma_nil) (me_idx (hu_one hu) (fun _ _ => rfl) (mv 1) me_int)) (me_bool1 (me_cmp (op := .eq) hu (me_idx (hu_one hu) (fun _ _ => rfl) (me_call gd.F_found_at hr rfl tx.g_found_at tx.k_found_at tx.b_found_at tk (ma_cons (mv 0) (ma_cons (me_idx (hu_one hu) (fun _ _ => rfl) (mv 1) me_int) ma_nil)) rfl) me_int) me_str))))
 mss_nil))))
theorem ok_look_job (tx : Tx K mg w A) (gd : Gd d P w K mg base A) : FnOk P w K mg base (L2.CX P w) (2 * d + 1 + 1) A.a_look_job A.d_look_job ["tree", "job"] (spI (TT A) K (callD fns gv (d + 1)) 12 2) :=
  fn_ok tx.u_look_job sc_look_job rfl rfl rfl fun cdv AA outer s H E hrm => by
    have hu := hu_all hrm
    have hr : Room (2 * d) _ := hrm.mono (Nat.le_succ _)
    have tk : Takes (cxOf (L2.CX P w) P w K mg base ["tree", "job", "path"] "look_job" (defScope s_look_job) A.a_look_job cdv AA outer s H E) (fun cls d _ H' => E cls d H') := takes_of rfl rfl rfl rfl
    have hpo : PassesOwn (model P w) (AA.deeper (envOfC "look_job" (defScope s_look_job) s.heap.objs.size A.a_look_job cdv)) (envOfC "look_job" (defScope s_look_job) s.heap.objs.size A.a_look_job cdv) (cxOf (L2.CX P w) P w K mg base ["tree", "job", "path"] "look_job" (defScope s_look_job) A.a_look_job cdv AA outer s H E).xe := PassesOwn.leaving
    exact (mss_cons (ms_if (mt_not (mt_val (me_call gd.F_is_job hr rfl tx.g_is_job tx.k_is_job tx.b_is_job tk (ma_cons (mv 0) (ma_cons (mv 1) ma_nil)) rfl)))
 (mss_cons (ms_raise tx.x_NoJob rfl tk rfl)
 mss_nil)
 mss_nil)
 (mss_cons (ms_for hpo rfl set_name (mi_seq (me_idx (hu_one hu) (fun _ _ => rfl) (mv 1) me_int)) (pgn 2 sc_look_job.nd)
 (mss_cons (ms_if (mt_cmp (op := .eq) hu (me_slc (me_idx (hu_one hu) (fun _ _ => rfl) (mv 1) me_int) mo_none (mo_some (me_len rfl tx.n_len (mv 2)))) (mv 2))
 (mss_cons (ms_raise tx.x_Inside rfl tk rfl)
 mss_nil)
 mss_nil)
 mss_nil))
 mss_nil))
theorem ok_is_answer (tx : Tx K mg w A) (gd : Gd d P w K mg base A) : FnOk P w K mg base (L2.CX P w) (2 * d + 1 + 1) A.a_is_answer A.d_is_answer ["kind", "word"] (spI (TT A) K (callD fns gv (d + 1)) 13 2) :=
  fn_ok tx.u_is_answer sc_is_answer rfl rfl rfl fun cdv AA outer s H E hrm => by
    have hu := hu_all hrm
    have hr : Room (2 * d) _ := hrm.mono (Nat.le_succ _)
    have tk : Takes (cxOf (L2.CX P w) P w K mg base ["kind", "word"] "is_answer" (defScope s_is_answer) A.a_is_answer cdv AA outer s H E) (fun cls d _ H' => E cls d H') := takes_of rfl rfl rfl rfl
    have hpo : PassesOwn (model P w) (AA.deeper (envOfC "is_answer" (defScope s_is_answer) s.heap.objs.size A.a_is_answer cdv)) (envOfC "is_answer" (defScope s_is_answer) s.heap.objs.size A.a_is_answer cdv) (cxOf (L2.CX P w) P w K mg base ["kind", "word"] "is_answer" (defScope s_is_answer) A.a_is_answer cdv AA outer s H E).xe := PassesOwn.leaving
    exact (mss_cons (ms_ret (me_and (me_isi (t := "str") (by decide) rfl tx.n_isinstance rfl tx.n_str boot_strM (mv 1)) (me_bool1 (me_cmp (op := .isin) hu (mv 1) (me_gidx (n := 7) rfl rfl tx.g_KINDS (fun _ _ => rfl) tx.v_KINDS (mv 0))))))
 mss_nil)
theorem ok_kind_of (tx : Tx K mg w A) (gd : Gd d P w K mg base A) : FnOk P w K mg base (L2.CX P w) (2 * d + 1 + 1) A.a_kind_of A.d_kind_of ["one", "other"] (spI (TT A) K (callD fns gv (d + 1)) 14 2) :=
  fn_ok tx.u_kind_of sc_kind_of rfl rfl rfl fun cdv AA outer s H E hrm => by
    have hu := hu_all hrm
    have hr : Room (2 * d) _ := hrm.mono (Nat.le_succ _)
    have tk : Takes (cxOf (L2.CX P w) P w K mg base ["one", "other"] "kind_of" (defScope s_kind_of) A.a_kind_of cdv AA outer s H E) (fun cls d _ H' => E cls d H') := takes_of rfl rfl rfl rfl
    have hpo : PassesOwn (model P w) (AA.deeper (envOfC "kind_of" (defScope s_kind_of) s.heap.objs.size A.a_kind_of cdv)) (envOfC "kind_of" (defScope s_kind_of) s.heap.objs.size A.a_kind_of cdv) (cxOf (L2.CX P w) P w K mg base ["one", "other"] "kind_of" (defScope s_kind_of) A.a_kind_of cdv AA outer s H E).xe := PassesOwn.leaving
    exact (mss_cons (ms_if (mt_cmp (op := .ne) hu (me_idx (hu_one hu) (fun _ _ => rfl) (mv 0) me_int) (me_idx (hu_one hu) (fun _ _ => rfl) (mv 1) me_int))
 (mss_cons (ms_ret me_str)
 mss_nil)
 mss_nil)
 (mss_cons (ms_ret (me_add (me_idx (hu_one hu) (fun _ _ => rfl) (mv 0) me_int) me_str))
 mss_nil))
theorem ok_free_name (tx : Tx K mg w A) (gd : Gd d P w K mg base A) : FnOk P w K mg base (L2.CX P w) (2 * d + 1 + 1) A.a_free_name A.d_free_name ["drawer", "name"] (spI (TT A) K (callD fns gv (d + 1)) 15 2) :=
  fn_ok tx.u_free_name sc_free_name rfl rfl rfl fun cdv AA outer s H E hrm => by
    have hu := hu_all hrm
    have hr : Room (2 * d) _ := hrm.mono (Nat.le_succ _)
    have tk : Takes (cxOf (L2.CX P w) P w K mg base ["drawer", "name", "taken", "number", "entry"] "free_name" (defScope s_free_name) A.a_free_name cdv AA outer s H E) (fun cls d _ H' => E cls d H') := takes_of rfl rfl rfl rfl
    have hpo : PassesOwn (model P w) (AA.deeper (envOfC "free_name" (defScope s_free_name) s.heap.objs.size A.a_free_name cdv)) (envOfC "free_name" (defScope s_free_name) s.heap.objs.size A.a_free_name cdv) (cxOf (L2.CX P w) P w K mg base ["drawer", "name", "taken", "number", "entry"] "free_name" (defScope s_free_name) A.a_free_name cdv AA outer s H E).xe := PassesOwn.leaving
    exact (mss_cons (ms_setLc (i := 2) rfl sc_free_name.nd set_name rfl (blkOk_by (own := [("entry", 4)]) (N := ["drawer", "name", "taken", "number", "entry"]) (sc := defScope s_free_name) (by decide +kernel)) (sw_true rfl rfl rfl (by decide +kernel)) (mi_seq (me_idx (hu_one hu) (fun _ _ => rfl) (mv 0) me_int)) (fun _ _ _ _ _ => (pgn 4 sc_free_name.nd)) (fun _ _ _ _ _ => mts_nil) (fun _ _ _ _ _ => (me_idx (hu_one hu) (fun _ _ => rfl) (mv 4) me_int)))
 (mss_cons (ms_set 3 sc_free_name.nd me_int)
 (mss_cons (ms_while hpo (mt_cmp (op := .isin) hu (me_add (me_slc (mv 1) mo_none (mo_some (me_sub (me_gbl (n := 1) rfl tx.v_MOST_NAME rfl tx.g_MOST_NAME tx.r_MOST_NAME) (me_len rfl tx.n_len (me_fstr rfl tx.n_str (mv 3)))))) (me_fstr rfl tx.n_str (mv 3))) (mv 2))
 (mss_cons (ms_aug 3 sc_free_name.nd me_int)
 mss_nil))
 (mss_cons (ms_ret (me_add (me_slc (mv 1) mo_none (mo_some (me_sub (me_gbl (n := 1) rfl tx.v_MOST_NAME rfl tx.g_MOST_NAME tx.r_MOST_NAME) (me_len rfl tx.n_len (me_fstr rfl tx.n_str (mv 3)))))) (me_fstr rfl tx.n_str (mv 3))))
 mss_nil))))
theorem ok_Job_init (tx : Tx K mg w A) (gd : Gd d P w K mg base A) : FnOk P w K mg base (L2.CX P w) (2 * d + 1 + 1) A.a_Job_init A.d_Job_init ["self", "what"] (spI (TT A) K (callD fns gv (d + 1)) 16 2) :=
  fn_ok tx.u_Job_init sc_Job_init rfl rfl rfl fun cdv AA outer s H E hrm => by
    have hu := hu_all hrm
    have hr : Room (2 * d) _ := hrm.mono (Nat.le_succ _)
    have tk : Takes (cxOf (L2.CX P w) P w K mg base ["self", "what", "path"] "Job.__init__" (defScope s_Job_init) A.a_Job_init cdv AA outer s H E) (fun cls d _ H' => E cls d H') := takes_of rfl rfl rfl rfl
    have hpo : PassesOwn (model P w) (AA.deeper (envOfC "Job.__init__" (defScope s_Job_init) s.heap.objs.size A.a_Job_init cdv)) (envOfC "Job.__init__" (defScope s_Job_init) s.heap.objs.size A.a_Job_init cdv) (cxOf (L2.CX P w) P w K mg base ["self", "what", "path"] "Job.__init__" (defScope s_Job_init) A.a_Job_init cdv AA outer s H E).xe := PassesOwn.leaving
    exact (mss_cons (ms_fld tx.f_what rfl (mv 0) (mv 1))
 (mss_cons (ms_fld tx.f_left rfl (mv 0) (me_comp rfl sc_Job_init.nd set_name rfl (blkOk_by (own := [("path", 2)]) (N := ["self", "what", "path"]) (sc := defScope s_Job_init) (by decide +kernel)) (mi_seq (me_rev (me_idx (hu_one hu) (fun _ _ => rfl) (mv 1) me_int))) (fun _ _ _ _ _ => (pgn 2 sc_Job_init.nd)) (fun _ _ _ _ _ => mts_nil) (fun _ _ _ _ _ => (me_tup (ma_cons me_str (ma_cons (mv 2) (ma_cons (me_add (me_idx (hu_one hu) (fun _ _ => rfl) (mv 1) me_int) (me_slc (mv 2) (mo_some (me_neg me_int)) mo_none)) ma_nil)))))))
 (mss_cons (ms_fld tx.f_answers rfl (mv 0) me_dct0)
 (mss_cons (ms_fld tx.f_once rfl (mv 0) me_non)
 (mss_cons (ms_fld tx.f_ask rfl (mv 0) me_non)
 (mss_cons (ms_fld tx.f_word rfl (mv 0) me_str)
 mss_nil))))))
theorem ok_Step_init (tx : Tx K mg w A) (gd : Gd d P w K mg base A) : FnOk P w K mg base (L2.CX P w) (2 * d + 1 + 1) A.a_Step_init A.d_Step_init ["self", "number", "told", "before"] (spI (TT A) K (callD fns gv (d + 1)) 17 4) :=
  fn_ok tx.u_Step_init sc_Step_init rfl rfl rfl fun cdv AA outer s H E hrm => by
    have hu := hu_all hrm
    have hr : Room (2 * d) _ := hrm.mono (Nat.le_succ _)
    have tk : Takes (cxOf (L2.CX P w) P w K mg base ["self", "number", "told", "before"] "Step.__init__" (defScope s_Step_init) A.a_Step_init cdv AA outer s H E) (fun cls d _ H' => E cls d H') := takes_of rfl rfl rfl rfl
    have hpo : PassesOwn (model P w) (AA.deeper (envOfC "Step.__init__" (defScope s_Step_init) s.heap.objs.size A.a_Step_init cdv)) (envOfC "Step.__init__" (defScope s_Step_init) s.heap.objs.size A.a_Step_init cdv) (cxOf (L2.CX P w) P w K mg base ["self", "number", "told", "before"] "Step.__init__" (defScope s_Step_init) A.a_Step_init cdv AA outer s H E).xe := PassesOwn.leaving
    exact (mss_cons (ms_fld tx.f_number rfl (mv 0) (mv 1))
 (mss_cons (ms_fld tx.f_told rfl (mv 0) (mv 2))
 (mss_cons (ms_fld tx.f_before rfl (mv 0) (mv 3))
 mss_nil)))
theorem ok_Step_touches (tx : Tx K mg w A) (gd : Gd d P w K mg base A) : FnOk P w K mg base (L2.CX P w) (2 * d + 1 + 1) A.a_Step_touches A.d_Step_touches ["self", "other"] (spI (TT A) K (callD fns gv (d + 1)) 18 2) :=
  fn_ok tx.u_Step_touches sc_Step_touches rfl rfl rfl fun cdv AA outer s H E hrm => PSs_imp pss_never fun D σ H ⟨ρ, S, env, r, ee, g⟩ => g.elim
theorem ok_Carrier_init (tx : Tx K mg w A) (gd : Gd d P w K mg base A) : FnOk P w K mg base (L2.CX P w) (2 * d + 1 + 1) A.a_Carrier_init A.d_Carrier_init ["self", "tree", "now"] (spI (TT A) K (callD fns gv (d + 1)) 19 3) :=
  fn_ok tx.u_Carrier_init sc_Carrier_init rfl rfl rfl fun cdv AA outer s H E hrm => by
    have hu := hu_all hrm
    have hr : Room (2 * d) _ := hrm.mono (Nat.le_succ _)
    have tk : Takes (cxOf (L2.CX P w) P w K mg base ["self", "tree", "now"] "Carrier.__init__" (defScope s_Carrier_init) A.a_Carrier_init cdv AA outer s H E) (fun cls d _ H' => E cls d H') := takes_of rfl rfl rfl rfl
    have hpo : PassesOwn (model P w) (AA.deeper (envOfC "Carrier.__init__" (defScope s_Carrier_init) s.heap.objs.size A.a_Carrier_init cdv)) (envOfC "Carrier.__init__" (defScope s_Carrier_init) s.heap.objs.size A.a_Carrier_init cdv) (cxOf (L2.CX P w) P w K mg base ["self", "tree", "now"] "Carrier.__init__" (defScope s_Carrier_init) A.a_Carrier_init cdv AA outer s H E).xe := PassesOwn.leaving
    exact (mss_cons (ms_expr (me_call gd.F_look hr rfl tx.g_look tx.k_look tx.b_look tk (ma_cons (mv 1) ma_nil) rfl))
 (mss_cons (ms_if (mt_not (mt_val (me_call gd.F_is_within hr rfl tx.g_is_within tx.k_is_within tx.b_is_within tk (ma_cons (mv 2) (ma_cons me_int (ma_cons (me_gbl (n := 5) rfl tx.v_MOST_WHEN rfl tx.g_MOST_WHEN tx.r_MOST_WHEN) ma_nil))) rfl)))
 (mss_cons (ms_raise tx.x_NoMoment rfl tk rfl)
 mss_nil)
 mss_nil)
 (mss_cons (ms_fld tx.f_tree rfl (mv 0) (mv 1))
 (mss_cons (ms_fld tx.f_now rfl (mv 0) (mv 2))
 (mss_cons (ms_fld tx.f_jobs rfl (mv 0) (me_lst ma_nil))
 (mss_cons (ms_fld tx.f_steps rfl (mv 0) (me_lst ma_nil))
 mss_nil))))))
theorem ok_Carrier_whole (tx : Tx K mg w A) (gd : Gd d P w K mg base A) : FnOk P w K mg base (L2.CX P w) (2 * d + 1 + 1) A.a_Carrier_whole A.d_Carrier_whole ["self"] (spI (TT A) K (callD fns gv (d + 1)) 20 1) :=
  fn_ok tx.u_Carrier_whole sc_Carrier_whole rfl rfl rfl fun cdv AA outer s H E hrm => by
    have hu := hu_all hrm
    have hr : Room (2 * d) _ := hrm.mono (Nat.le_succ _)
    have tk : Takes (cxOf (L2.CX P w) P w K mg base ["self"] "Carrier.whole" (defScope s_Carrier_whole) A.a_Carrier_whole cdv AA outer s H E) (fun cls d _ H' => E cls d H') := takes_of rfl rfl rfl rfl
    have hpo : PassesOwn (model P w) (AA.deeper (envOfC "Carrier.whole" (defScope s_Carrier_whole) s.heap.objs.size A.a_Carrier_whole cdv)) (envOfC "Carrier.whole" (defScope s_Carrier_whole) s.heap.objs.size A.a_Carrier_whole cdv) (cxOf (L2.CX P w) P w K mg base ["self"] "Carrier.whole" (defScope s_Carrier_whole) A.a_Carrier_whole cdv AA outer s H E).xe := PassesOwn.leaving
    exact (mss_cons (ms_ret (me_fld tx.f_tree rfl (mv 0)))
 mss_nil)
theorem ok_Carrier_moment (tx : Tx K mg w A) (gd : Gd d P w K mg base A) : FnOk P w K mg base (L2.CX P w) (2 * d + 1 + 1) A.a_Carrier_moment A.d_Carrier_moment ["self"] (spI (TT A) K (callD fns gv (d + 1)) 21 1) :=
  fn_ok tx.u_Carrier_moment sc_Carrier_moment rfl rfl rfl fun cdv AA outer s H E hrm => by
    have hu := hu_all hrm
    have hr : Room (2 * d) _ := hrm.mono (Nat.le_succ _)
    have tk : Takes (cxOf (L2.CX P w) P w K mg base ["self"] "Carrier.moment" (defScope s_Carrier_moment) A.a_Carrier_moment cdv AA outer s H E) (fun cls d _ H' => E cls d H') := takes_of rfl rfl rfl rfl
    have hpo : PassesOwn (model P w) (AA.deeper (envOfC "Carrier.moment" (defScope s_Carrier_moment) s.heap.objs.size A.a_Carrier_moment cdv)) (envOfC "Carrier.moment" (defScope s_Carrier_moment) s.heap.objs.size A.a_Carrier_moment cdv) (cxOf (L2.CX P w) P w K mg base ["self"] "Carrier.moment" (defScope s_Carrier_moment) A.a_Carrier_moment cdv AA outer s H E).xe := PassesOwn.leaving
    exact (mss_cons (ms_ret (me_fld tx.f_now rfl (mv 0)))
 mss_nil)
theorem ok_Carrier_begin (tx : Tx K mg w A) (gd : Gd d P w K mg base A) : FnOk P w K mg base (L2.CX P w) (2 * d + 1 + 1) A.a_Carrier_begin A.d_Carrier_begin ["self", "what"] (spI (TT A) K (callD fns gv (d + 1)) 22 2) :=
  fn_ok tx.u_Carrier_begin sc_Carrier_begin rfl rfl rfl fun cdv AA outer s H E hrm => by
    have hu := hu_all hrm
    have hr : Room (2 * d) _ := hrm.mono (Nat.le_succ _)
    have tk : Takes (cxOf (L2.CX P w) P w K mg base ["self", "what"] "Carrier.begin" (defScope s_Carrier_begin) A.a_Carrier_begin cdv AA outer s H E) (fun cls d _ H' => E cls d H') := takes_of rfl rfl rfl rfl
    have hpo : PassesOwn (model P w) (AA.deeper (envOfC "Carrier.begin" (defScope s_Carrier_begin) s.heap.objs.size A.a_Carrier_begin cdv)) (envOfC "Carrier.begin" (defScope s_Carrier_begin) s.heap.objs.size A.a_Carrier_begin cdv) (cxOf (L2.CX P w) P w K mg base ["self", "what"] "Carrier.begin" (defScope s_Carrier_begin) A.a_Carrier_begin cdv AA outer s H E).xe := PassesOwn.leaving
    exact (mss_cons (ms_expr (me_call gd.F_look_job hr rfl tx.g_look_job tx.k_look_job tx.b_look_job tk (ma_cons (me_fld tx.f_tree rfl (mv 0)) (ma_cons (mv 1) ma_nil)) rfl))
 (mss_cons (ms_expr (me_append (me_fld tx.f_jobs rfl (mv 0)) (me_make rfl tx.M_Job gd.F_Job_init hrm rfl tx.c_Job tx.b_Job_init tk rfl (ma_cons (mv 1) ma_nil))))
 (mss_cons (ms_ret (me_sub (me_len rfl tx.n_len (me_fld tx.f_jobs rfl (mv 0))) me_int))
 mss_nil)))
theorem ok_Carrier_job (tx : Tx K mg w A) (gd : Gd d P w K mg base A) : FnOk P w K mg base (L2.CX P w) (2 * d + 1 + 1) A.a_Carrier_job A.d_Carrier_job ["self", "number"] (spI (TT A) K (callD fns gv (d + 1)) 23 2) :=
  fn_ok tx.u_Carrier_job sc_Carrier_job rfl rfl rfl fun cdv AA outer s H E hrm => by
    have hu := hu_all hrm
    have hr : Room (2 * d) _ := hrm.mono (Nat.le_succ _)
    have tk : Takes (cxOf (L2.CX P w) P w K mg base ["self", "number"] "Carrier.job" (defScope s_Carrier_job) A.a_Carrier_job cdv AA outer s H E) (fun cls d _ H' => E cls d H') := takes_of rfl rfl rfl rfl
    have hpo : PassesOwn (model P w) (AA.deeper (envOfC "Carrier.job" (defScope s_Carrier_job) s.heap.objs.size A.a_Carrier_job cdv)) (envOfC "Carrier.job" (defScope s_Carrier_job) s.heap.objs.size A.a_Carrier_job cdv) (cxOf (L2.CX P w) P w K mg base ["self", "number"] "Carrier.job" (defScope s_Carrier_job) A.a_Carrier_job cdv AA outer s H E).xe := PassesOwn.leaving
    exact (mss_cons (ms_if (mt_not (mt_val (me_call gd.F_is_within hr rfl tx.g_is_within tx.k_is_within tx.b_is_within tk (ma_cons (mv 1) (ma_cons me_int (ma_cons (me_sub (me_len rfl tx.n_len (me_fld tx.f_jobs rfl (mv 0))) me_int) ma_nil))) rfl)))
 (mss_cons (ms_raise tx.x_NoNumber rfl tk rfl)
 mss_nil)
 mss_nil)
 (mss_cons (ms_ret (me_idx (hu_one hu) (fun _ _ => rfl) (me_fld tx.f_jobs rfl (mv 0)) (mv 1)))
 mss_nil))
theorem ok_Carrier_states (tx : Tx K mg w A) (gd : Gd d P w K mg base A) : FnOk P w K mg base (L2.CX P w) (2 * d + 1 + 1) A.a_Carrier_states A.d_Carrier_states ["self"] (spI (TT A) K (callD fns gv (d + 1)) 24 1) :=
  fn_ok tx.u_Carrier_states sc_Carrier_states rfl rfl rfl fun cdv AA outer s H E hrm => PSs_imp pss_never fun D σ H ⟨ρ, S, env, r, ee, g⟩ => g.elim
theorem ok_Carrier_asked (tx : Tx K mg w A) (gd : Gd d P w K mg base A) : FnOk P w K mg base (L2.CX P w) (2 * d + 1 + 1) A.a_Carrier_asked A.d_Carrier_asked ["self", "number"] (spI (TT A) K (callD fns gv (d + 1)) 25 2) :=
  fn_ok tx.u_Carrier_asked sc_Carrier_asked rfl rfl rfl fun cdv AA outer s H E hrm => by
    have hu := hu_all hrm
    have hr : Room (2 * d) _ := hrm.mono (Nat.le_succ _)
    have tk : Takes (cxOf (L2.CX P w) P w K mg base ["self", "number"] "Carrier.asked" (defScope s_Carrier_asked) A.a_Carrier_asked cdv AA outer s H E) (fun cls d _ H' => E cls d H') := takes_of rfl rfl rfl rfl
    have hpo : PassesOwn (model P w) (AA.deeper (envOfC "Carrier.asked" (defScope s_Carrier_asked) s.heap.objs.size A.a_Carrier_asked cdv)) (envOfC "Carrier.asked" (defScope s_Carrier_asked) s.heap.objs.size A.a_Carrier_asked cdv) (cxOf (L2.CX P w) P w K mg base ["self", "number"] "Carrier.asked" (defScope s_Carrier_asked) A.a_Carrier_asked cdv AA outer s H E).xe := PassesOwn.leaving
    exact (mss_cons (ms_ret (me_fld tx.f_ask rfl (me_meth tx.m_Carrier_job gd.F_Carrier_job hr tx.b_Carrier_job tk rfl (mv 0) (ma_cons (mv 1) ma_nil))))
 mss_nil)
theorem ok_Carrier_journal (tx : Tx K mg w A) (gd : Gd d P w K mg base A) : FnOk P w K mg base (L2.CX P w) (2 * d + 1 + 1) A.a_Carrier_journal A.d_Carrier_journal ["self"] (spI (TT A) K (callD fns gv (d + 1)) 26 1) :=
  fn_ok tx.u_Carrier_journal sc_Carrier_journal rfl rfl rfl fun cdv AA outer s H E hrm => PSs_imp pss_never fun D σ H ⟨ρ, S, env, r, ee, g⟩ => g.elim
theorem ok_Carrier_halt (tx : Tx K mg w A) (gd : Gd d P w K mg base A) : FnOk P w K mg base (L2.CX P w) (2 * d + 1 + 1) A.a_Carrier_halt A.d_Carrier_halt ["self", "number"] (spI (TT A) K (callD fns gv (d + 1)) 27 2) :=
  fn_ok tx.u_Carrier_halt sc_Carrier_halt rfl rfl rfl fun cdv AA outer s H E hrm => PSs_imp pss_never fun D σ H ⟨ρ, S, env, r, ee, g⟩ => g.elim
theorem ok_Carrier_go_on (tx : Tx K mg w A) (gd : Gd d P w K mg base A) : FnOk P w K mg base (L2.CX P w) (2 * d + 1 + 1) A.a_Carrier_go_on A.d_Carrier_go_on ["self", "number"] (spI (TT A) K (callD fns gv (d + 1)) 28 2) :=
  fn_ok tx.u_Carrier_go_on sc_Carrier_go_on rfl rfl rfl fun cdv AA outer s H E hrm => PSs_imp pss_never fun D σ H ⟨ρ, S, env, r, ee, g⟩ => g.elim
theorem ok_Carrier_answer (tx : Tx K mg w A) (gd : Gd d P w K mg base A) : FnOk P w K mg base (L2.CX P w) (2 * d + 1 + 1) A.a_Carrier_answer A.d_Carrier_answer ["self", "number", "word", "for_all"] (spI (TT A) K (callD fns gv (d + 1)) 29 4) :=
  fn_ok tx.u_Carrier_answer sc_Carrier_answer rfl rfl rfl fun cdv AA outer s H E hrm => by
    have hu := hu_all hrm
    have hr : Room (2 * d) _ := hrm.mono (Nat.le_succ _)
    have tk : Takes (cxOf (L2.CX P w) P w K mg base ["self", "number", "word", "for_all", "job"] "Carrier.answer" (defScope s_Carrier_answer) A.a_Carrier_answer cdv AA outer s H E) (fun cls d _ H' => E cls d H') := takes_of rfl rfl rfl rfl
    have hpo : PassesOwn (model P w) (AA.deeper (envOfC "Carrier.answer" (defScope s_Carrier_answer) s.heap.objs.size A.a_Carrier_answer cdv)) (envOfC "Carrier.answer" (defScope s_Carrier_answer) s.heap.objs.size A.a_Carrier_answer cdv) (cxOf (L2.CX P w) P w K mg base ["self", "number", "word", "for_all", "job"] "Carrier.answer" (defScope s_Carrier_answer) A.a_Carrier_answer cdv AA outer s H E).xe := PassesOwn.leaving
    exact (mss_cons (ms_set 4 sc_Carrier_answer.nd (me_meth tx.m_Carrier_job gd.F_Carrier_job hr tx.b_Carrier_job tk rfl (mv 0) (ma_cons (mv 1) ma_nil)))
 (mss_cons (ms_if (PW.pt (mw_or (mt_cmp (op := .ne) hu (me_fld tx.f_word rfl (mv 4)) me_str) (mw_or (mt_not (mt_val (me_call gd.F_is_answer hr rfl tx.g_is_answer tx.k_is_answer tx.b_is_answer tk (ma_cons (me_idx (hu_one hu) (fun _ _ => rfl) (me_fld tx.f_ask rfl (mv 4)) me_int) (ma_cons (mv 2) ma_nil)) rfl))) (mw_or1 (mt_not (mt_val (me_isi (t := "bool") (by decide) rfl tx.n_isinstance rfl tx.n_bool boot_boolM (mv 3))))))))
 (mss_cons (ms_raise tx.x_NoAnswer rfl tk rfl)
 mss_nil)
 mss_nil)
 (mss_cons (ms_if (mt_val (mv 3))
 (mss_cons (ms_sub (hu_one hu) (me_fld tx.f_answers rfl (mv 4)) (me_idx (hu_one hu) (fun _ _ => rfl) (me_fld tx.f_ask rfl (mv 4)) me_int) (mv 2))
 mss_nil)
 mss_nil)
 (mss_cons (ms_fld tx.f_once rfl (mv 4) (mv 2))
 (mss_cons (ms_fld tx.f_ask rfl (mv 4) me_non)
 (mss_cons (ms_fld tx.f_word rfl (mv 4) me_str)
 mss_nil))))))
theorem ok_Carrier_step (tx : Tx K mg w A) (gd : Gd d P w K mg base A) : FnOk P w K mg base (L2.CX P w) (2 * d + 1 + 1) A.a_Carrier_step A.d_Carrier_step ["self", "number"] (spI (TT A) K (callD fns gv (d + 1)) 30 2) :=
  fn_ok tx.u_Carrier_step sc_Carrier_step rfl rfl rfl fun cdv AA outer s H E hrm => by
    have hu := hu_all hrm
    have hr : Room (2 * d) _ := hrm.mono (Nat.le_succ _)
    have tk : Takes (cxOf (L2.CX P w) P w K mg base ["self", "number", "job", "item", "once"] "Carrier.step" (defScope s_Carrier_step) A.a_Carrier_step cdv AA outer s H E) (fun cls d _ H' => E cls d H') := takes_of rfl rfl rfl rfl
    have hpo : PassesOwn (model P w) (AA.deeper (envOfC "Carrier.step" (defScope s_Carrier_step) s.heap.objs.size A.a_Carrier_step cdv)) (envOfC "Carrier.step" (defScope s_Carrier_step) s.heap.objs.size A.a_Carrier_step cdv) (cxOf (L2.CX P w) P w K mg base ["self", "number", "job", "item", "once"] "Carrier.step" (defScope s_Carrier_step) A.a_Carrier_step cdv AA outer s H E).xe := PassesOwn.leaving
    exact (mss_cons (ms_set 2 sc_Carrier_step.nd (me_meth tx.m_Carrier_job gd.F_Carrier_job hr tx.b_Carrier_job tk rfl (mv 0) (ma_cons (mv 1) ma_nil)))
 (mss_cons (ms_if (mt_cmp (op := .isin) hu (me_fld tx.f_word rfl (mv 2)) (me_tup (ma_cons me_str (ma_cons me_str ma_nil))))
 (mss_cons (ms_raise tx.x_Halted rfl tk rfl)
 mss_nil)
 mss_nil)
 (mss_cons (ms_if (mt_cmp (op := .eq) hu (me_fld tx.f_word rfl (mv 2)) me_str)
 (mss_cons (ms_ret (me_add (me_tup (ma_cons me_str ma_nil)) (me_fld tx.f_ask rfl (mv 2))))
 mss_nil)
 mss_nil)
 (mss_cons (ms_if (mt_not (mt_val (me_fld tx.f_left rfl (mv 2))))
 (mss_cons (ms_fld tx.f_word rfl (mv 2) me_str)
 (mss_cons (ms_ret me_non)
 mss_nil))
 mss_nil)
 (mss_cons (ms_set 3 sc_Carrier_step.nd (me_pop (me_fld tx.f_left rfl (mv 2))))
 (mss_cons (ms_set 4 sc_Carrier_step.nd (me_fld tx.f_once rfl (mv 2)))
 (mss_cons (ms_fld tx.f_once rfl (mv 2) me_non)
 (mss_cons (ms_if (mt_cmp (op := .eq) hu (me_idx (hu_one hu) (fun _ _ => rfl) (mv 3) me_int) me_str)
 (mss_cons (ms_ret (me_meth tx.m_Carrier_drop gd.F_Carrier_drop hr tx.b_Carrier_drop tk rfl (mv 0) (ma_cons (mv 1) (ma_cons (me_idx (hu_one hu) (fun _ _ => rfl) (mv 3) me_int) ma_nil))))
 mss_nil)
 mss_nil)
 (mss_cons (ms_ret (me_meth tx.m_Carrier_carry gd.F_Carrier_carry hr tx.b_Carrier_carry tk rfl (mv 0) (ma_cons (mv 1) (ma_cons (me_idx (hu_one hu) (fun _ _ => rfl) (mv 3) me_int) (ma_cons (me_idx (hu_one hu) (fun _ _ => rfl) (mv 3) me_int) (ma_cons (mv 4) ma_nil))))))
 mss_nil)))))))))
theorem ok_Carrier_note (tx : Tx K mg w A) (gd : Gd d P w K mg base A) : FnOk P w K mg base (L2.CX P w) (2 * d + 1 + 1) A.a_Carrier_note A.d_Carrier_note ["self", "number", "told", "before"] (spI (TT A) K (callD fns gv (d + 1)) 31 4) :=
  fn_ok tx.u_Carrier_note sc_Carrier_note rfl rfl rfl fun cdv AA outer s H E hrm => by
    have hu := hu_all hrm
    have hr : Room (2 * d) _ := hrm.mono (Nat.le_succ _)
    have tk : Takes (cxOf (L2.CX P w) P w K mg base ["self", "number", "told", "before"] "Carrier.note" (defScope s_Carrier_note) A.a_Carrier_note cdv AA outer s H E) (fun cls d _ H' => E cls d H') := takes_of rfl rfl rfl rfl
    have hpo : PassesOwn (model P w) (AA.deeper (envOfC "Carrier.note" (defScope s_Carrier_note) s.heap.objs.size A.a_Carrier_note cdv)) (envOfC "Carrier.note" (defScope s_Carrier_note) s.heap.objs.size A.a_Carrier_note cdv) (cxOf (L2.CX P w) P w K mg base ["self", "number", "told", "before"] "Carrier.note" (defScope s_Carrier_note) A.a_Carrier_note cdv AA outer s H E).xe := PassesOwn.leaving
    exact (mss_cons (ms_expr (me_append (me_fld tx.f_steps rfl (mv 0)) (me_make rfl tx.M_Step gd.F_Step_init hrm rfl tx.c_Step tx.b_Step_init tk rfl (ma_cons (mv 1) (ma_cons (mv 2) (ma_cons (mv 3) ma_nil))))))
 (mss_cons (ms_ret (mv 2))
 mss_nil))
theorem ok_Carrier_change (tx : Tx K mg w A) (gd : Gd d P w K mg base A) : FnOk P w K mg base (L2.CX P w) (2 * d + 1 + 1) A.a_Carrier_change A.d_Carrier_change ["self", "number", "told", "pairs"] (spI (TT A) K (callD fns gv (d + 1)) 32 4) :=
  fn_ok tx.u_Carrier_change sc_Carrier_change rfl rfl rfl fun cdv AA outer s H E hrm => by
    have hu := hu_all hrm
    have hr : Room (2 * d) _ := hrm.mono (Nat.le_succ _)
    have tk : Takes (cxOf (L2.CX P w) P w K mg base ["self", "number", "told", "pairs", "before", "path", "node"] "Carrier.change" (defScope s_Carrier_change) A.a_Carrier_change cdv AA outer s H E) (fun cls d _ H' => E cls d H') := takes_of rfl rfl rfl rfl
    have hpo : PassesOwn (model P w) (AA.deeper (envOfC "Carrier.change" (defScope s_Carrier_change) s.heap.objs.size A.a_Carrier_change cdv)) (envOfC "Carrier.change" (defScope s_Carrier_change) s.heap.objs.size A.a_Carrier_change cdv) (cxOf (L2.CX P w) P w K mg base ["self", "number", "told", "pairs", "before", "path", "node"] "Carrier.change" (defScope s_Carrier_change) A.a_Carrier_change cdv AA outer s H E).xe := PassesOwn.leaving
    exact (mss_cons (ms_set 4 sc_Carrier_change.nd (me_lst ma_nil))
 (mss_cons (ms_for hpo rfl (set_pair (by decide)) (mi_seq (mv 3)) (pg_tup rfl (pgs_cons (pgn 5 sc_Carrier_change.nd) (pgs_cons (pgn 6 sc_Carrier_change.nd) pgs_nil)))
 (mss_cons (ms_expr (me_append (mv 4) (me_tup (ma_cons (mv 5) (ma_cons (me_call gd.F_found_at hr rfl tx.g_found_at tx.k_found_at tx.b_found_at tk (ma_cons (me_fld tx.f_tree rfl (mv 0)) (ma_cons (mv 5) ma_nil)) rfl) ma_nil)))))
 (mss_cons (ms_fld tx.f_tree rfl (mv 0) (me_call gd.F_with_node hr rfl tx.g_with_node tx.k_with_node tx.b_with_node tk (ma_cons (me_fld tx.f_tree rfl (mv 0)) (ma_cons (mv 5) (ma_cons (mv 6) ma_nil))) rfl))
 mss_nil)))
 (mss_cons (ms_fld tx.f_now rfl (mv 0) (me_min2 rfl rfl tx.n_min (me_gbl (n := 5) rfl tx.v_MOST_WHEN rfl tx.g_MOST_WHEN tx.r_MOST_WHEN) (me_add (me_fld tx.f_now rfl (mv 0)) me_int)))
 (mss_cons (ms_ret (me_meth tx.m_Carrier_note gd.F_Carrier_note hr tx.b_Carrier_note tk rfl (mv 0) (ma_cons (mv 1) (ma_cons (mv 2) (ma_cons (me_rev (mv 4)) ma_nil)))))
 mss_nil))))
theorem ok_Carrier_drop (tx : Tx K mg w A) (gd : Gd d P w K mg base A) : FnOk P w K mg base (L2.CX P w) (2 * d + 1 + 1) A.a_Carrier_drop A.d_Carrier_drop ["self", "number", "path"] (spI (TT A) K (callD fns gv (d + 1)) 33 3) :=
  fn_ok tx.u_Carrier_drop sc_Carrier_drop rfl rfl rfl fun cdv AA outer s H E hrm => by
    have hu := hu_all hrm
    have hr : Room (2 * d) _ := hrm.mono (Nat.le_succ _)
    have tk : Takes (cxOf (L2.CX P w) P w K mg base ["self", "number", "path", "here"] "Carrier.drop" (defScope s_Carrier_drop) A.a_Carrier_drop cdv AA outer s H E) (fun cls d _ H' => E cls d H') := takes_of rfl rfl rfl rfl
    have hpo : PassesOwn (model P w) (AA.deeper (envOfC "Carrier.drop" (defScope s_Carrier_drop) s.heap.objs.size A.a_Carrier_drop cdv)) (envOfC "Carrier.drop" (defScope s_Carrier_drop) s.heap.objs.size A.a_Carrier_drop cdv) (cxOf (L2.CX P w) P w K mg base ["self", "number", "path", "here"] "Carrier.drop" (defScope s_Carrier_drop) A.a_Carrier_drop cdv AA outer s H E).xe := PassesOwn.leaving
    exact (mss_cons (ms_set 3 sc_Carrier_drop.nd (me_call gd.F_found_at hr rfl tx.g_found_at tx.k_found_at tx.b_found_at tk (ma_cons (me_fld tx.f_tree rfl (mv 0)) (ma_cons (mv 2) ma_nil)) rfl))
 (mss_cons (ms_if (PW.pt (mw_or (mt_cmp (op := .isN) hu (mv 3) me_non) (mw_or (mt_cmp (op := .ne) hu (me_idx (hu_one hu) (fun _ _ => rfl) (mv 3) me_int) me_str) (mw_or1 (mt_val (me_idx (hu_one hu) (fun _ _ => rfl) (mv 3) me_int))))))
 (mss_cons (ms_ret (me_meth tx.m_Carrier_note gd.F_Carrier_note hr tx.b_Carrier_note tk rfl (mv 0) (ma_cons (mv 1) (ma_cons (me_tup (ma_cons me_str (ma_cons (mv 2) ma_nil))) (ma_cons (me_lst ma_nil) ma_nil)))))
 mss_nil)
 mss_nil)
 (mss_cons (ms_ret (me_meth tx.m_Carrier_change gd.F_Carrier_change hr tx.b_Carrier_change tk rfl (mv 0) (ma_cons (mv 1) (ma_cons (me_tup (ma_cons me_str (ma_cons (mv 2) ma_nil))) (ma_cons (me_lst (ma_cons (me_tup (ma_cons (mv 2) (ma_cons me_non ma_nil))) ma_nil)) ma_nil)))))
 mss_nil)))
theorem ok_Carrier_carry (tx : Tx K mg w A) (gd : Gd d P w K mg base A) : FnOk P w K mg base (L2.CX P w) (2 * d + 1 + 1) A.a_Carrier_carry A.d_Carrier_carry ["self", "number", "source", "goal", "once"] (spI (TT A) K (callD fns gv (d + 1)) 34 5) :=
  fn_ok tx.u_Carrier_carry sc_Carrier_carry rfl rfl rfl fun cdv AA outer s H E hrm => by
    have hu := hu_all hrm
    have hr : Room (2 * d) _ := hrm.mono (Nat.le_succ _)
    have tk : Takes (cxOf (L2.CX P w) P w K mg base ["self", "number", "source", "goal", "once", "job", "node", "around", "there", "kind", "word"] "Carrier.carry" (defScope s_Carrier_carry) A.a_Carrier_carry cdv AA outer s H E) (fun cls d _ H' => E cls d H') := takes_of rfl rfl rfl rfl
    have hpo : PassesOwn (model P w) (AA.deeper (envOfC "Carrier.carry" (defScope s_Carrier_carry) s.heap.objs.size A.a_Carrier_carry cdv)) (envOfC "Carrier.carry" (defScope s_Carrier_carry) s.heap.objs.size A.a_Carrier_carry cdv) (cxOf (L2.CX P w) P w K mg base ["self", "number", "source", "goal", "once", "job", "node", "around", "there", "kind", "word"] "Carrier.carry" (defScope s_Carrier_carry) A.a_Carrier_carry cdv AA outer s H E).xe := PassesOwn.leaving
    exact (mss_cons (ms_set 5 sc_Carrier_carry.nd (me_idx (hu_one hu) (fun _ _ => rfl) (me_fld tx.f_jobs rfl (mv 0)) (mv 1)))
 (mss_cons (ms_set 6 sc_Carrier_carry.nd (me_call gd.F_found_at hr rfl tx.g_found_at tx.k_found_at tx.b_found_at tk (ma_cons (me_fld tx.f_tree rfl (mv 0)) (ma_cons (mv 2) ma_nil)) rfl))
 (mss_cons (ms_set 7 sc_Carrier_carry.nd (me_call gd.F_found_at hr rfl tx.g_found_at tx.k_found_at tx.b_found_at tk (ma_cons (me_fld tx.f_tree rfl (mv 0)) (ma_cons (me_slc (mv 3) mo_none (mo_some (me_neg me_int))) ma_nil)) rfl))
 (mss_cons (ms_if (mt_cmp (op := .isN) hu (mv 6) me_non)
 (mss_cons (ms_ret (me_meth tx.m_Carrier_note gd.F_Carrier_note hr tx.b_Carrier_note tk rfl (mv 0) (ma_cons (mv 1) (ma_cons (me_tup (ma_cons me_str (ma_cons (mv 2) ma_nil))) (ma_cons (me_lst ma_nil) ma_nil)))))
 mss_nil)
 mss_nil)
 (mss_cons (ms_if (PW.pt (mw_or (mt_cmp (op := .isN) hu (mv 7) me_non) (mw_or1 (mt_cmp (op := .ne) hu (me_idx (hu_one hu) (fun _ _ => rfl) (mv 7) me_int) me_str))))
 (mss_cons (ms_ret (me_meth tx.m_Carrier_note gd.F_Carrier_note hr tx.b_Carrier_note tk rfl (mv 0) (ma_cons (mv 1) (ma_cons (me_tup (ma_cons me_str (ma_cons (mv 3) ma_nil))) (ma_cons (me_lst ma_nil) ma_nil)))))
 mss_nil)
 mss_nil)
 (mss_cons (ms_set 8 sc_Carrier_carry.nd (me_call gd.F_found_at hr rfl tx.g_found_at tx.k_found_at tx.b_found_at tk (ma_cons (me_fld tx.f_tree rfl (mv 0)) (ma_cons (mv 3) ma_nil)) rfl))
 (mss_cons (ms_if (mt_cmp (op := .isN) hu (mv 8) me_non)
 (mss_cons (ms_ret (me_meth tx.m_Carrier_placed gd.F_Carrier_placed hr tx.b_Carrier_placed tk rfl (mv 0) (ma_cons (mv 1) (ma_cons (mv 2) (ma_cons (mv 3) ma_nil)))))
 mss_nil)
 mss_nil)
 (mss_cons (ms_if (PW.pt (mw_and (mt_cmp (op := .eq) hu (mv 2) (mv 3)) (mw_and1 (mt_cmp (op := .eq) hu (me_idx (hu_one hu) (fun _ _ => rfl) (me_fld tx.f_what rfl (mv 5)) me_int) me_str))))
 (mss_cons (ms_ret (me_meth tx.m_Carrier_note gd.F_Carrier_note hr tx.b_Carrier_note tk rfl (mv 0) (ma_cons (mv 1) (ma_cons (me_tup (ma_cons me_str (ma_cons (mv 2) ma_nil))) (ma_cons (me_lst ma_nil) ma_nil)))))
 mss_nil)
 mss_nil)
 (mss_cons (ms_set 9 sc_Carrier_carry.nd (me_call gd.F_kind_of hr rfl tx.g_kind_of tx.k_kind_of tx.b_kind_of tk (ma_cons (mv 6) (ma_cons (mv 8) ma_nil)) rfl))
 (mss_cons (ms_set 10 sc_Carrier_carry.nd (me_ite (mt_val (me_call gd.F_is_answer hr rfl tx.g_is_answer tx.k_is_answer tx.b_is_answer tk (ma_cons (mv 9) (ma_cons (mv 4) ma_nil)) rfl)) (mv 4) (me_get (hu_one hu) (me_fld tx.f_answers rfl (mv 5)) (mv 9) me_non ⟨rfl, rfl, rfl, rfl⟩)))
 (mss_cons (ms_if (mt_cmp (op := .isN) hu (mv 10) me_non)
 (mss_cons (ms_expr (me_append (me_fld tx.f_left rfl (mv 5)) (me_tup (ma_cons me_str (ma_cons (mv 2) (ma_cons (mv 3) ma_nil))))))
 (mss_cons (ms_fld tx.f_ask rfl (mv 5) (me_tup (ma_cons (mv 9) (ma_cons (mv 2) (ma_cons (mv 3) ma_nil)))))
 (mss_cons (ms_fld tx.f_word rfl (mv 5) me_str)
 (mss_cons (ms_ret (me_add (me_tup (ma_cons me_str ma_nil)) (me_fld tx.f_ask rfl (mv 5))))
 mss_nil))))
 mss_nil)
 (mss_cons (ms_ret (me_meth tx.m_Carrier_settled gd.F_Carrier_settled hr tx.b_Carrier_settled tk rfl (mv 0) (ma_cons (mv 1) (ma_cons (mv 2) (ma_cons (mv 3) (ma_cons (mv 10) ma_nil))))))
 mss_nil))))))))))))
theorem ok_Carrier_settled (tx : Tx K mg w A) (gd : Gd d P w K mg base A) : FnOk P w K mg base (L2.CX P w) (2 * d + 1 + 1) A.a_Carrier_settled A.d_Carrier_settled ["self", "number", "source", "goal", "word"] (spI (TT A) K (callD fns gv (d + 1)) 35 5) :=
  fn_ok tx.u_Carrier_settled sc_Carrier_settled rfl rfl rfl fun cdv AA outer s H E hrm => by
    have hu := hu_all hrm
    have hr : Room (2 * d) _ := hrm.mono (Nat.le_succ _)
    have tk : Takes (cxOf (L2.CX P w) P w K mg base ["self", "number", "source", "goal", "word", "job", "node", "there", "around"] "Carrier.settled" (defScope s_Carrier_settled) A.a_Carrier_settled cdv AA outer s H E) (fun cls d _ H' => E cls d H') := takes_of rfl rfl rfl rfl
    have hpo : PassesOwn (model P w) (AA.deeper (envOfC "Carrier.settled" (defScope s_Carrier_settled) s.heap.objs.size A.a_Carrier_settled cdv)) (envOfC "Carrier.settled" (defScope s_Carrier_settled) s.heap.objs.size A.a_Carrier_settled cdv) (cxOf (L2.CX P w) P w K mg base ["self", "number", "source", "goal", "word", "job", "node", "there", "around"] "Carrier.settled" (defScope s_Carrier_settled) A.a_Carrier_settled cdv AA outer s H E).xe := PassesOwn.leaving
    exact (mss_cons (ms_set 5 sc_Carrier_settled.nd (me_idx (hu_one hu) (fun _ _ => rfl) (me_fld tx.f_jobs rfl (mv 0)) (mv 1)))
 (mss_cons (ms_par rfl sc_Carrier_settled.nd (by decide) (ma_cons (me_call gd.F_found_at hr rfl tx.g_found_at tx.k_found_at tx.b_found_at tk (ma_cons (me_fld tx.f_tree rfl (mv 0)) (ma_cons (mv 2) ma_nil)) rfl) (ma_cons (me_call gd.F_found_at hr rfl tx.g_found_at tx.k_found_at tx.b_found_at tk (ma_cons (me_fld tx.f_tree rfl (mv 0)) (ma_cons (mv 3) ma_nil)) rfl) ma_nil)))
 (mss_cons (ms_if (mt_cmp (op := .eq) hu (mv 4) me_str)
 (mss_cons (ms_set 8 sc_Carrier_settled.nd (me_call gd.F_found_at hr rfl tx.g_found_at tx.k_found_at tx.b_found_at tk (ma_cons (me_fld tx.f_tree rfl (mv 0)) (ma_cons (me_slc (mv 3) mo_none (mo_some (me_neg me_int))) ma_nil)) rfl))
 (mss_cons (ms_ret (me_meth tx.m_Carrier_placed gd.F_Carrier_placed hr tx.b_Carrier_placed tk rfl (mv 0) (ma_cons (mv 1) (ma_cons (mv 2) (ma_cons (me_add (me_slc (mv 3) mo_none (mo_some (me_neg me_int))) (me_tup (ma_cons (me_call gd.F_free_name hr rfl tx.g_free_name tx.k_free_name tx.b_free_name tk (ma_cons (mv 8) (ma_cons (me_idx (hu_one hu) (fun _ _ => rfl) (mv 3) (me_neg me_int)) ma_nil)) rfl) ma_nil))) ma_nil)))))
 mss_nil))
 mss_nil)
 (mss_cons (ms_if (mt_cmp (op := .eq) hu (mv 2) (mv 3))
 (mss_cons (ms_ret (me_meth tx.m_Carrier_note gd.F_Carrier_note hr tx.b_Carrier_note tk rfl (mv 0) (ma_cons (mv 1) (ma_cons (me_tup (ma_cons me_str (ma_cons (mv 2) ma_nil))) (ma_cons (me_lst ma_nil) ma_nil)))))
 mss_nil)
 mss_nil)
 (mss_cons (ms_if (PW.pt (mw_or (mt_cmp (op := .eq) hu (mv 4) me_str) (mw_or1 (PW.pt (mw_and (mt_cmp (op := .eq) hu (mv 4) me_str) (mw_and1 (mt_cmp (op := .le) hu (me_idx (hu_one hu) (fun _ _ => rfl) (mv 6) me_int) (me_idx (hu_one hu) (fun _ _ => rfl) (mv 7) me_int))))))))
 (mss_cons (ms_ret (me_meth tx.m_Carrier_note gd.F_Carrier_note hr tx.b_Carrier_note tk rfl (mv 0) (ma_cons (mv 1) (ma_cons (me_tup (ma_cons me_str (ma_cons (mv 2) (ma_cons (mv 3) ma_nil)))) (ma_cons (me_lst ma_nil) ma_nil)))))
 mss_nil)
 mss_nil)
 (mss_cons (ms_if (mt_cmp (op := .eq) hu (mv 4) me_str)
 (mss_cons (ms_expr (me_meth tx.m_Carrier_within gd.F_Carrier_within hr tx.b_Carrier_within tk rfl (mv 0) (ma_cons (mv 5) (ma_cons (mv 2) (ma_cons (mv 3) ma_nil)))))
 (mss_cons (ms_ret (me_meth tx.m_Carrier_note gd.F_Carrier_note hr tx.b_Carrier_note tk rfl (mv 0) (ma_cons (mv 1) (ma_cons (me_tup (ma_cons me_str (ma_cons (mv 2) (ma_cons (mv 3) ma_nil)))) (ma_cons (me_lst ma_nil) ma_nil)))))
 mss_nil))
 mss_nil)
 (mss_cons (ms_if (mt_cmp (op := .eq) hu (me_idx (hu_one hu) (fun _ _ => rfl) (me_fld tx.f_what rfl (mv 5)) me_int) me_str)
 (mss_cons (ms_ret (me_meth tx.m_Carrier_change gd.F_Carrier_change hr tx.b_Carrier_change tk rfl (mv 0) (ma_cons (mv 1) (ma_cons (me_tup (ma_cons me_str (ma_cons (mv 2) (ma_cons (mv 3) ma_nil)))) (ma_cons (me_lst (ma_cons (me_tup (ma_cons (mv 2) (ma_cons me_non ma_nil))) (ma_cons (me_tup (ma_cons (mv 3) (ma_cons (mv 6) ma_nil))) ma_nil))) ma_nil)))))
 mss_nil)
 mss_nil)
 (mss_cons (ms_ret (me_meth tx.m_Carrier_change gd.F_Carrier_change hr tx.b_Carrier_change tk rfl (mv 0) (ma_cons (mv 1) (ma_cons (me_tup (ma_cons me_str (ma_cons (mv 2) (ma_cons (mv 3) ma_nil)))) (ma_cons (me_lst (ma_cons (me_tup (ma_cons (mv 3) (ma_cons (me_meth tx.m_Carrier_marked gd.F_Carrier_marked hr tx.b_Carrier_marked tk rfl (mv 0) (ma_cons (mv 5) (ma_cons (mv 6) ma_nil))) ma_nil))) ma_nil)) ma_nil)))))
 mss_nil))))))))
theorem ok_Carrier_marked (tx : Tx K mg w A) (gd : Gd d P w K mg base A) : FnOk P w K mg base (L2.CX P w) (2 * d + 1 + 1) A.a_Carrier_marked A.d_Carrier_marked ["self", "job", "node"] (spI (TT A) K (callD fns gv (d + 1)) 36 3) :=
  fn_ok tx.u_Carrier_marked sc_Carrier_marked rfl rfl rfl fun cdv AA outer s H E hrm => by
    have hu := hu_all hrm
    have hr : Room (2 * d) _ := hrm.mono (Nat.le_succ _)
    have tk : Takes (cxOf (L2.CX P w) P w K mg base ["self", "job", "node", "inside"] "Carrier.marked" (defScope s_Carrier_marked) A.a_Carrier_marked cdv AA outer s H E) (fun cls d _ H' => E cls d H') := takes_of rfl rfl rfl rfl
    have hpo : PassesOwn (model P w) (AA.deeper (envOfC "Carrier.marked" (defScope s_Carrier_marked) s.heap.objs.size A.a_Carrier_marked cdv)) (envOfC "Carrier.marked" (defScope s_Carrier_marked) s.heap.objs.size A.a_Carrier_marked cdv) (cxOf (L2.CX P w) P w K mg base ["self", "job", "node", "inside"] "Carrier.marked" (defScope s_Carrier_marked) A.a_Carrier_marked cdv AA outer s H E).xe := PassesOwn.leaving
    exact (mss_cons (ms_set 3 sc_Carrier_marked.nd (me_ite (mt_cmp (op := .eq) hu (me_idx (hu_one hu) (fun _ _ => rfl) (mv 2) me_int) me_str) (me_tupz ma_nil) (me_idx (hu_one hu) (fun _ _ => rfl) (mv 2) me_int)))
 (mss_cons (ms_ret (me_tup (ma_cons (me_idx (hu_one hu) (fun _ _ => rfl) (mv 2) me_int) (ma_cons (mv 3) (ma_cons (me_ite (mt_val (me_idx (hu_one hu) (fun _ _ => rfl) (me_fld tx.f_what rfl (mv 1)) me_int)) (me_idx (hu_one hu) (fun _ _ => rfl) (mv 2) me_int) (me_fld tx.f_now rfl (mv 0))) ma_nil)))))
 mss_nil))
theorem ok_Carrier_within (tx : Tx K mg w A) (gd : Gd d P w K mg base A) : FnOk P w K mg base (L2.CX P w) (2 * d + 1 + 1) A.a_Carrier_within A.d_Carrier_within ["self", "job", "source", "goal"] (spI (TT A) K (callD fns gv (d + 1)) 37 4) :=
  fn_ok tx.u_Carrier_within sc_Carrier_within rfl rfl rfl fun cdv AA outer s H E hrm => by
    have hu := hu_all hrm
    have hr : Room (2 * d) _ := hrm.mono (Nat.le_succ _)
    have tk : Takes (cxOf (L2.CX P w) P w K mg base ["self", "job", "source", "goal", "name", "inner"] "Carrier.within" (defScope s_Carrier_within) A.a_Carrier_within cdv AA outer s H E) (fun cls d _ H' => E cls d H') := takes_of rfl rfl rfl rfl
    have hpo : PassesOwn (model P w) (AA.deeper (envOfC "Carrier.within" (defScope s_Carrier_within) s.heap.objs.size A.a_Carrier_within cdv)) (envOfC "Carrier.within" (defScope s_Carrier_within) s.heap.objs.size A.a_Carrier_within cdv) (cxOf (L2.CX P w) P w K mg base ["self", "job", "source", "goal", "name", "inner"] "Carrier.within" (defScope s_Carrier_within) A.a_Carrier_within cdv AA outer s H E).xe := PassesOwn.leaving
    exact (mss_cons (ms_if (mt_cmp (op := .eq) hu (me_idx (hu_one hu) (fun _ _ => rfl) (me_fld tx.f_what rfl (mv 1)) me_int) me_str)
 (mss_cons (ms_expr (me_append (me_fld tx.f_left rfl (mv 1)) (me_tup (ma_cons me_str (ma_cons (mv 2) ma_nil)))))
 mss_nil)
 mss_nil)
 (mss_cons (ms_for hpo rfl (set_pair (by decide)) (mi_seq (me_rev (me_idx (hu_one hu) (fun _ _ => rfl) (me_call gd.F_found_at hr rfl tx.g_found_at tx.k_found_at tx.b_found_at tk (ma_cons (me_fld tx.f_tree rfl (mv 0)) (ma_cons (mv 2) ma_nil)) rfl) me_int))) (pg_tup rfl (pgs_cons (pgn 4 sc_Carrier_within.nd) (pgs_cons (pgn 5 sc_Carrier_within.nd) pgs_nil)))
 (mss_cons (ms_expr (me_append (me_fld tx.f_left rfl (mv 1)) (me_tup (ma_cons me_str (ma_cons (me_add (mv 2) (me_tup (ma_cons (mv 4) ma_nil))) (ma_cons (me_add (mv 3) (me_tup (ma_cons (mv 4) ma_nil))) ma_nil))))))
 mss_nil))
 mss_nil))
theorem ok_Carrier_placed (tx : Tx K mg w A) (gd : Gd d P w K mg base A) : FnOk P w K mg base (L2.CX P w) (2 * d + 1 + 1) A.a_Carrier_placed A.d_Carrier_placed ["self", "number", "source", "goal"] (spI (TT A) K (callD fns gv (d + 1)) 38 4) :=
  fn_ok tx.u_Carrier_placed sc_Carrier_placed rfl rfl rfl fun cdv AA outer s H E hrm => by
    have hu := hu_all hrm
    have hr : Room (2 * d) _ := hrm.mono (Nat.le_succ _)
    have tk : Takes (cxOf (L2.CX P w) P w K mg base ["self", "number", "source", "goal", "job", "node"] "Carrier.placed" (defScope s_Carrier_placed) A.a_Carrier_placed cdv AA outer s H E) (fun cls d _ H' => E cls d H') := takes_of rfl rfl rfl rfl
    have hpo : PassesOwn (model P w) (AA.deeper (envOfC "Carrier.placed" (defScope s_Carrier_placed) s.heap.objs.size A.a_Carrier_placed cdv)) (envOfC "Carrier.placed" (defScope s_Carrier_placed) s.heap.objs.size A.a_Carrier_placed cdv) (cxOf (L2.CX P w) P w K mg base ["self", "number", "source", "goal", "job", "node"] "Carrier.placed" (defScope s_Carrier_placed) A.a_Carrier_placed cdv AA outer s H E).xe := PassesOwn.leaving
    exact (mss_cons (ms_set 4 sc_Carrier_placed.nd (me_idx (hu_one hu) (fun _ _ => rfl) (me_fld tx.f_jobs rfl (mv 0)) (mv 1)))
 (mss_cons (ms_set 5 sc_Carrier_placed.nd (me_call gd.F_found_at hr rfl tx.g_found_at tx.k_found_at tx.b_found_at tk (ma_cons (me_fld tx.f_tree rfl (mv 0)) (ma_cons (mv 2) ma_nil)) rfl))
 (mss_cons (ms_if (mt_cmp (op := .eq) hu (me_idx (hu_one hu) (fun _ _ => rfl) (me_fld tx.f_what rfl (mv 4)) me_int) me_str)
 (mss_cons (ms_if (mt_cmp (op := .gt) hu (me_sub (me_add (me_len rfl tx.n_len (mv 3)) (me_call gd.F_node_height hr rfl tx.g_node_height tx.k_node_height tx.b_node_height tk (ma_cons (mv 5) ma_nil) rfl)) me_int) (me_gbl (n := 2) rfl tx.v_MOST_DEEP rfl tx.g_MOST_DEEP tx.r_MOST_DEEP))
 (mss_cons (ms_ret (me_meth tx.m_Carrier_note gd.F_Carrier_note hr tx.b_Carrier_note tk rfl (mv 0) (ma_cons (mv 1) (ma_cons (me_tup (ma_cons me_str (ma_cons (mv 3) ma_nil))) (ma_cons (me_lst ma_nil) ma_nil)))))
 mss_nil)
 mss_nil)
 (mss_cons (ms_ret (me_meth tx.m_Carrier_change gd.F_Carrier_change hr tx.b_Carrier_change tk rfl (mv 0) (ma_cons (mv 1) (ma_cons (me_tup (ma_cons me_str (ma_cons (mv 2) (ma_cons (mv 3) ma_nil)))) (ma_cons (me_lst (ma_cons (me_tup (ma_cons (mv 2) (ma_cons me_non ma_nil))) (ma_cons (me_tup (ma_cons (mv 3) (ma_cons (mv 5) ma_nil))) ma_nil))) ma_nil)))))
 mss_nil))
 mss_nil)
 (mss_cons (ms_if (mt_cmp (op := .gt) hu (me_len rfl tx.n_len (mv 3)) (me_gbl (n := 2) rfl tx.v_MOST_DEEP rfl tx.g_MOST_DEEP tx.r_MOST_DEEP))
 (mss_cons (ms_ret (me_meth tx.m_Carrier_note gd.F_Carrier_note hr tx.b_Carrier_note tk rfl (mv 0) (ma_cons (mv 1) (ma_cons (me_tup (ma_cons me_str (ma_cons (mv 3) ma_nil))) (ma_cons (me_lst ma_nil) ma_nil)))))
 mss_nil)
 mss_nil)
 (mss_cons (ms_if (mt_cmp (op := .eq) hu (me_call gd.F_node_count hr rfl tx.g_node_count tx.k_node_count tx.b_node_count tk (ma_cons (me_fld tx.f_tree rfl (mv 0)) ma_nil) rfl) (me_gbl (n := 3) rfl tx.v_MOST_NODES rfl tx.g_MOST_NODES tx.r_MOST_NODES))
 (mss_cons (ms_ret (me_meth tx.m_Carrier_note gd.F_Carrier_note hr tx.b_Carrier_note tk rfl (mv 0) (ma_cons (mv 1) (ma_cons (me_tup (ma_cons me_str (ma_cons (mv 3) ma_nil))) (ma_cons (me_lst ma_nil) ma_nil)))))
 mss_nil)
 mss_nil)
 (mss_cons (ms_if (mt_cmp (op := .eq) hu (me_idx (hu_one hu) (fun _ _ => rfl) (mv 5) me_int) me_str)
 (mss_cons (ms_expr (me_meth tx.m_Carrier_within gd.F_Carrier_within hr tx.b_Carrier_within tk rfl (mv 0) (ma_cons (mv 4) (ma_cons (mv 2) (ma_cons (mv 3) ma_nil)))))
 mss_nil)
 mss_nil)
 (mss_cons (ms_ret (me_meth tx.m_Carrier_change gd.F_Carrier_change hr tx.b_Carrier_change tk rfl (mv 0) (ma_cons (mv 1) (ma_cons (me_tup (ma_cons me_str (ma_cons (mv 2) (ma_cons (mv 3) ma_nil)))) (ma_cons (me_lst (ma_cons (me_tup (ma_cons (mv 3) (ma_cons (me_meth tx.m_Carrier_marked gd.F_Carrier_marked hr tx.b_Carrier_marked tk rfl (mv 0) (ma_cons (mv 4) (ma_cons (mv 5) ma_nil))) ma_nil))) ma_nil)) ma_nil)))))
 mss_nil)))))))
theorem ok_Carrier_take_back (tx : Tx K mg w A) (gd : Gd d P w K mg base A) : FnOk P w K mg base (L2.CX P w) (2 * d + 1 + 1) A.a_Carrier_take_back A.d_Carrier_take_back ["self", "number"] (spI (TT A) K (callD fns gv (d + 1)) 39 2) :=
  fn_ok tx.u_Carrier_take_back sc_Carrier_take_back rfl rfl rfl fun cdv AA outer s H E hrm => PSs_imp pss_never fun D σ H ⟨ρ, S, env, r, ee, g⟩ => g.elim
theorem ok_carried (tx : Tx K mg w A) (gd : Gd d P w K mg base A) : FnOk P w K mg base (L2.CX P w) (2 * d + 1 + 1) A.a_carried A.d_carried ["tree", "now", "what", "answers"] (spI (TT A) K (callD fns gv (d + 1)) 77 4) :=
  fn_ok tx.u_carried sc_carried rfl rfl rfl fun cdv AA outer s H E hrm => by
    have hu := hu_all hrm
    have hr : Room (2 * d) _ := hrm.mono (Nat.le_succ _)
    have tk : Takes (cxOf (L2.CX P w) P w K mg base ["tree", "now", "what", "answers", "carrier", "number", "kinds", "found", "told", "at", "word", "kind"] "carried" (defScope s_carried) A.a_carried cdv AA outer s H E) (fun cls d _ H' => E cls d H') := takes_of rfl rfl rfl rfl
    have hpo : PassesOwn (model P w) (AA.deeper (envOfC "carried" (defScope s_carried) s.heap.objs.size A.a_carried cdv)) (envOfC "carried" (defScope s_carried) s.heap.objs.size A.a_carried cdv) (cxOf (L2.CX P w) P w K mg base ["tree", "now", "what", "answers", "carrier", "number", "kinds", "found", "told", "at", "word", "kind"] "carried" (defScope s_carried) A.a_carried cdv AA outer s H E).xe := PassesOwn.leaving
    exact (mss_cons (ms_set 4 sc_carried.nd (me_make rfl tx.M_Carrier gd.F_Carrier_init hrm rfl tx.c_Carrier tx.b_Carrier_init tk rfl (ma_cons (mv 0) (ma_cons (mv 1) ma_nil))))
 (mss_cons (ms_set 5 sc_carried.nd (me_meth tx.m_Carrier_begin gd.F_Carrier_begin hr tx.b_Carrier_begin tk rfl (mv 4) (ma_cons (mv 2) ma_nil)))
 (mss_cons (ms_set 6 sc_carried.nd (me_tup (ma_cons me_str (ma_cons me_str (ma_cons me_str ma_nil)))))
 (mss_cons (ms_if (PW.pt (mw_or (mt_not (mt_val (me_isi (t := "tuple") (by decide) rfl tx.n_isinstance rfl tx.n_tuple boot_tupleM (mv 3)))) (mw_or1 (mt_cmp (op := .ne) hu (me_len rfl tx.n_len (mv 3)) me_int))))
 (mss_cons (ms_raise tx.x_NoAnswer rfl tk rfl)
 mss_nil)
 mss_nil)
 (mss_cons (ms_if (mt_val (me_comp rfl sc_carried.nd (set_pair (by decide)) rfl (blkOk_by (own := [("at", 9), ("word", 10)]) (N := ["tree", "now", "what", "answers", "carrier", "number", "kinds", "found", "told", "at", "word", "kind"]) (sc := defScope s_carried) (by decide +kernel)) (mi_enum rfl tx.n_enumerate (mv 3)) (fun _ _ _ _ _ => (pg_tup rfl (pgs_cons (pgn 9 sc_carried.nd) (pgs_cons (pgn 10 sc_carried.nd) pgs_nil)))) (fun _ _ _ _ _ => (mts_one (mt_not (mt_val (me_call gd.F_is_answer hr rfl tx.g_is_answer tx.k_is_answer tx.b_is_answer takesW0 (ma_cons (me_idx (hu_one hu) (fun _ _ => rfl) (mv 6) (mv 9)) (ma_cons (mv 10) ma_nil)) rfl))))) (fun _ _ _ _ _ => (mv 9))))
 (mss_cons (ms_raise tx.x_NoAnswer rfl tk rfl)
 mss_nil)
 mss_nil)
 (mss_cons (ms_fld tx.f_answers rfl (me_idx (hu_one hu) (fun _ _ => rfl) (me_fld tx.f_jobs rfl (mv 4)) (mv 5)) (me_dictK rfl rfl tx.n_dict (me_comp rfl sc_carried.nd (set_pair (by decide)) rfl (blkOk_by (own := [("at", 9), ("kind", 11)]) (N := ["tree", "now", "what", "answers", "carrier", "number", "kinds", "found", "told", "at", "word", "kind"]) (sc := defScope s_carried) (by decide +kernel)) (mi_enum rfl tx.n_enumerate (mv 6)) (fun _ _ _ _ _ => (pg_tup rfl (pgs_cons (pgn 9 sc_carried.nd) (pgs_cons (pgn 11 sc_carried.nd) pgs_nil)))) (fun _ _ _ _ _ => mts_nil) (fun _ _ _ _ _ => (me_tup (ma_cons (mv 11) (ma_cons (me_idx (hu_one hu) (fun _ _ => rfl) (mv 3) (mv 9)) ma_nil)))))))
 (mss_cons (ms_set 7 sc_carried.nd (me_lst ma_nil))
 (mss_cons (ms_set 8 sc_carried.nd (me_meth tx.m_Carrier_step gd.F_Carrier_step hr tx.b_Carrier_step tk rfl (mv 4) (ma_cons (mv 5) ma_nil)))
 (mss_cons (ms_while hpo (mt_cmp (op := .notN) hu (mv 8) me_non)
 (mss_cons (ms_expr (me_append (mv 7) (mv 8)))
 (mss_cons (ms_set 8 sc_carried.nd (me_meth tx.m_Carrier_step gd.F_Carrier_step hr tx.b_Carrier_step tk rfl (mv 4) (ma_cons (mv 5) ma_nil)))
 mss_nil)))
 (mss_cons (ms_ret (me_tup (ma_cons (me_meth0 tx.m_Carrier_whole gd.F_Carrier_whole hr tx.b_Carrier_whole tk (mv 4)) (ma_cons (mv 7) ma_nil))))
 mss_nil))))))))))
theorem ok_law_cell (tx : Tx K mg w A) (gd : Gd d P w K mg base A) : FnOk P w K mg base (L2.CX P w) (2 * d + 1 + 1) A.a_law_cell A.d_law_cell ["_law_script", "_law_k"] (spI (TT A) K (callD fns gv (d + 1)) 40 2) :=
  fn_ok tx.u_law_cell sc_law_cell rfl rfl rfl fun cdv AA outer s H E hrm => by
    have hu := hu_all hrm
    have hr : Room (2 * d) _ := hrm.mono (Nat.le_succ _)
    have tk : Takes (cxOf (L2.CX P w) P w K mg base ["_law_script", "_law_k"] "_law_cell" (defScope s_law_cell) A.a_law_cell cdv AA outer s H E) (fun cls d _ H' => E cls d H') := takes_of rfl rfl rfl rfl
    have hpo : PassesOwn (model P w) (AA.deeper (envOfC "_law_cell" (defScope s_law_cell) s.heap.objs.size A.a_law_cell cdv)) (envOfC "_law_cell" (defScope s_law_cell) s.heap.objs.size A.a_law_cell cdv) (cxOf (L2.CX P w) P w K mg base ["_law_script", "_law_k"] "_law_cell" (defScope s_law_cell) A.a_law_cell cdv AA outer s H E).xe := PassesOwn.leaving
    exact (mss_cons (ms_if (mt_cmp (op := .lt) hu (mv 1) (me_len rfl tx.n_len (mv 0)))
 (mss_cons (ms_ret (me_idx (hu_one hu) (fun _ _ => rfl) (mv 0) (mv 1)))
 mss_nil)
 mss_nil)
 (mss_cons (ms_ret me_int)
 mss_nil))
theorem ok_law_as (tx : Tx K mg w A) (gd : Gd d P w K mg base A) : FnOk P w K mg base (L2.CX P w) (2 * d + 1 + 1) A.a_law_as A.d_law_as ["_law_thing", "_law_due"] (spI (TT A) K (callD fns gv (d + 1)) 83 2) :=
  fn_ok tx.u_law_as sc_law_as rfl rfl rfl fun cdv AA outer s H E hrm => by
    have hu := hu_all hrm
    have hr : Room (2 * d) _ := hrm.mono (Nat.le_succ _)
    have tk : Takes (cxOf (L2.CX P w) P w K mg base ["_law_thing", "_law_due"] "_law_as" (defScope s_law_as) A.a_law_as cdv AA outer s H E) (fun cls d _ H' => E cls d H') := takes_of rfl rfl rfl rfl
    have hpo : PassesOwn (model P w) (AA.deeper (envOfC "_law_as" (defScope s_law_as) s.heap.objs.size A.a_law_as cdv)) (envOfC "_law_as" (defScope s_law_as) s.heap.objs.size A.a_law_as cdv) (cxOf (L2.CX P w) P w K mg base ["_law_thing", "_law_due"] "_law_as" (defScope s_law_as) A.a_law_as cdv AA outer s H E).xe := PassesOwn.leaving
    exact (mss_cons (ms_ret (me_and (me_isi (t := "bool") (by decide) rfl tx.n_isinstance rfl tx.n_bool boot_boolM (mv 0)) (me_bool1 (me_cmp (op := .eq) hu (mv 0) (mv 1)))))
 mss_nil)
theorem ok_law_is_name (tx : Tx K mg w A) (gd : Gd d P w K mg base A) : FnOk P w K mg base (L2.CX P w) (2 * d + 1 + 1) A.a_law_is_name A.d_law_is_name ["_law_thing"] (spI (TT A) K (callD fns gv (d + 1)) 87 1) :=
  fn_ok tx.u_law_is_name sc_law_is_name rfl rfl rfl fun cdv AA outer s H E hrm => by
    have hu := hu_all hrm
    have hr : Room (2 * d) _ := hrm.mono (Nat.le_succ _)
    have tk : Takes (cxOf (L2.CX P w) P w K mg base ["_law_thing", "_law_sign"] "_law_is_name" (defScope s_law_is_name) A.a_law_is_name cdv AA outer s H E) (fun cls d _ H' => E cls d H') := takes_of rfl rfl rfl rfl
    have hpo : PassesOwn (model P w) (AA.deeper (envOfC "_law_is_name" (defScope s_law_is_name) s.heap.objs.size A.a_law_is_name cdv)) (envOfC "_law_is_name" (defScope s_law_is_name) s.heap.objs.size A.a_law_is_name cdv) (cxOf (L2.CX P w) P w K mg base ["_law_thing", "_law_sign"] "_law_is_name" (defScope s_law_is_name) A.a_law_is_name cdv AA outer s H E).xe := PassesOwn.leaving
    exact (mss_cons (ms_if (PW.pt (mw_or (mt_not (mt_val (me_isi (t := "str") (by decide) rfl tx.n_isinstance rfl tx.n_str boot_strM (mv 0)))) (mw_or1 (mt_not (mt_chain (op := .le) (op' := .le) hu me_int (me_len rfl tx.n_len (mv 0)) me_int)))))
 (mss_cons (ms_ret me_bl)
 mss_nil)
 mss_nil)
 (mss_cons (ms_ret (me_cmp (op := .eq) hu (me_comp rfl sc_law_is_name.nd set_name rfl (blkOk_by (own := [("_law_sign", 1)]) (N := ["_law_thing", "_law_sign"]) (sc := defScope s_law_is_name) (by decide +kernel)) (mi_seq (mv 0)) (fun _ _ _ _ _ => (pgn 1 sc_law_is_name.nd)) (fun _ _ _ _ _ => (mts_one (mt_cmp (op := .notin) hu (mv 1) me_str))) (fun _ _ _ _ _ => (mv 1))) (me_lst ma_nil)))
 mss_nil))
theorem ok_law (tx : Tx K mg w A) (gd : Gd d P w K mg base A) : FnOk P w K mg base (L2.CX P w) (2 * d + 1 + 1) A.a_law A.d_law ["_law_script"] (spI (TT A) K (callD fns gv (d + 1)) 1000 1) :=
  fn_ok tx.u_law sc_law rfl rfl rfl fun cdv AA outer s H E hrm => by
    have hu := hu_all hrm
    have hr : Room (2 * d) _ := hrm.mono (Nat.le_succ _)
    have tk : Takes (cxOf (L2.CX P w) P w K mg base ["_law_script", "_law_files", "_law_many", "_law_name", "_law_room", "_law_inner", "_law_tree", "_law_carrier", "_law_number", "_law_time", "_law_told", "_law_steps", "_law_k", "_law_step"] "law" (defScope s_law) A.a_law cdv AA outer s H E) (fun cls d _ H' => E cls d H') := takes_of rfl rfl rfl rfl
    have hpo : PassesOwn (model P w) (AA.deeper (envOfC "law" (defScope s_law) s.heap.objs.size A.a_law cdv)) (envOfC "law" (defScope s_law) s.heap.objs.size A.a_law cdv) (cxOf (L2.CX P w) P w K mg base ["_law_script", "_law_files", "_law_many", "_law_name", "_law_room", "_law_inner", "_law_tree", "_law_carrier", "_law_number", "_law_time", "_law_told", "_law_steps", "_law_k", "_law_step"] "law" (defScope s_law) A.a_law cdv AA outer s H E).xe := PassesOwn.leaving
    exact (mss_cons (ms_setLc (i := 1) rfl sc_law.nd set_name rfl (blkOk_by (own := [("_law_k", 12)]) (N := ["_law_script", "_law_files", "_law_many", "_law_name", "_law_room", "_law_inner", "_law_tree", "_law_carrier", "_law_number", "_law_time", "_law_told", "_law_steps", "_law_k", "_law_step"]) (sc := defScope s_law) (by decide +kernel)) (sw_true rfl rfl rfl (by decide +kernel)) (mi_rng1 rfl tx.n_range me_int) (fun _ _ _ _ _ => (pgn 12 sc_law.nd)) (fun _ _ _ _ _ => mts_nil) (fun _ _ _ _ _ => (me_tup (ma_cons (me_add (me_add me_str (me_idx (hu_one hu) (fun _ _ => rfl) me_str (me_mod (mv 12) me_int))) (me_fstr rfl tx.n_str (me_fdiv (mv 12) me_int))) (ma_cons (me_tup (ma_cons me_str (ma_cons (mv 12) (ma_cons (mv 12) ma_nil)))) ma_nil)))))
 (mss_cons (ms_for hpo rfl set_name (mi_rng2 rfl tx.n_range me_int me_int) (pgn 2 sc_law.nd)
 (mss_cons (ms_set 5 sc_law.nd (me_tup (ma_cons me_str (ma_cons (me_tuplez rfl tx.n_tuple (me_srtP rfl tx.n_sorted (me_slc (mv 1) mo_none (mo_some (mv 2))))) (ma_cons me_int ma_nil)))))
 (mss_cons (ms_if (mt_not (mt_val (me_call gd.F_law_as hr rfl tx.g_law_as tx.k_law_as tx.b_law_as tk (ma_cons (me_call gd.F_is_tree hr rfl tx.g_is_tree tx.k_is_tree tx.b_is_tree tk (ma_cons (me_tup (ma_cons me_str (ma_cons (me_tupz (ma_cons (me_tup (ma_cons me_str (ma_cons (mv 5) ma_nil))) ma_nil)) (ma_cons me_int ma_nil)))) ma_nil) rfl) (ma_cons (me_cmp (op := .lt) hu (mv 2) me_int) ma_nil)) rfl)))
 (mss_cons (ms_ret me_bl)
 mss_nil)
 mss_nil)
 mss_nil)))
 (mss_cons (ms_for hpo rfl set_name (mi_seq (me_tup (ma_cons (me_mul me_str me_int) (ma_cons (me_mul me_str me_int) (ma_cons me_str (ma_cons me_str (ma_cons me_str (ma_cons me_str ma_nil)))))))) (pgn 3 sc_law.nd)
 (mss_cons (ms_if (mt_not (mt_val (me_call gd.F_law_as hr rfl tx.g_law_as tx.k_law_as tx.b_law_as tk (ma_cons (me_call gd.F_is_tree hr rfl tx.g_is_tree tx.k_is_tree tx.b_is_tree tk (ma_cons (me_tup (ma_cons me_str (ma_cons (me_tupz (ma_cons (me_tup (ma_cons (mv 3) (ma_cons (me_tup (ma_cons me_str (ma_cons me_int (ma_cons me_int ma_nil)))) ma_nil))) ma_nil)) (ma_cons me_int ma_nil)))) ma_nil) rfl) (ma_cons (me_call gd.F_law_is_name hr rfl tx.g_law_is_name tx.k_law_is_name tx.b_law_is_name tk (ma_cons (mv 3) ma_nil) rfl) ma_nil)) rfl)))
 (mss_cons (ms_ret me_bl)
 mss_nil)
 mss_nil)
 mss_nil))
 (mss_cons (ms_set 4 sc_law.nd (me_mod (me_call gd.F_law_cell hr rfl tx.g_law_cell tx.k_law_cell tx.b_law_cell tk (ma_cons (mv 0) (ma_cons me_int ma_nil)) rfl) me_int))
 (mss_cons (ms_set 5 sc_law.nd (me_tup (ma_cons me_str (ma_cons (me_tuplez rfl tx.n_tuple (me_srtP rfl tx.n_sorted (me_slc (mv 1) mo_none (mo_some (me_sub me_int (mv 4)))))) (ma_cons me_int ma_nil)))))
 (mss_cons (ms_set 6 sc_law.nd (me_tup (ma_cons me_str (ma_cons (me_tupz (ma_cons (me_tup (ma_cons me_str (ma_cons (mv 5) ma_nil))) (ma_cons (me_tup (ma_cons me_str (ma_cons (me_tup (ma_cons me_str (ma_cons (me_tupz ma_nil) (ma_cons me_int ma_nil)))) ma_nil))) ma_nil))) (ma_cons me_int ma_nil)))))
 (mss_cons (ms_names (is := [10, 11]) rfl (pgs_cons (pgn 10 sc_law.nd) (pgs_cons (pgn 11 sc_law.nd) pgs_nil)) rfl (me_call gd.F_carried hr rfl tx.g_carried tx.k_carried tx.b_carried tk (ma_cons (mv 6) (ma_cons me_int (ma_cons (me_tup (ma_cons me_str (ma_cons (me_tup (ma_cons (me_tup (ma_cons me_str ma_nil)) ma_nil)) (ma_cons (me_tup (ma_cons me_str ma_nil)) (ma_cons me_bl ma_nil))))) (ma_cons (me_tup (ma_cons me_str (ma_cons me_str (ma_cons me_str ma_nil)))) ma_nil)))) rfl))
 (mss_cons (ms_if (mt_cmp (op := .ne) hu (me_comp rfl sc_law.nd set_name rfl (blkOk_by (own := [("_law_step", 13)]) (N := ["_law_script", "_law_files", "_law_many", "_law_name", "_law_room", "_law_inner", "_law_tree", "_law_carrier", "_law_number", "_law_time", "_law_told", "_law_steps", "_law_k", "_law_step"]) (sc := defScope s_law) (by decide +kernel)) (mi_seq (mv 11)) (fun _ _ _ _ _ => (pgn 13 sc_law.nd)) (fun _ _ _ _ _ => mts_nil) (fun _ _ _ _ _ => (me_idx (hu_one hu) (fun _ _ => rfl) (mv 13) me_int))) (me_ite (mt_cmp (op := .gt) hu (mv 4) me_int) (me_add (me_mul (me_lst (ma_cons me_str ma_nil)) (mv 4)) (me_mul (me_lst (ma_cons me_str ma_nil)) (me_sub me_int (me_mul me_int (mv 4))))) (me_lst (ma_cons me_str ma_nil))))
 (mss_cons (ms_ret me_bl)
 mss_nil)
 mss_nil)
 (mss_cons (ms_set 7 sc_law.nd (me_make rfl tx.M_Carrier gd.F_Carrier_init hrm rfl tx.c_Carrier tx.b_Carrier_init tk rfl (ma_cons (mv 6) (ma_cons me_int ma_nil))))
 (mss_cons (ms_set 8 sc_law.nd (me_meth tx.m_Carrier_begin gd.F_Carrier_begin hr tx.b_Carrier_begin tk rfl (mv 7) (ma_cons (me_tup (ma_cons me_str (ma_cons (me_tup (ma_cons (me_tup (ma_cons me_str ma_nil)) ma_nil)) (ma_cons (me_tup (ma_cons me_str ma_nil)) (ma_cons me_bl ma_nil))))) ma_nil)))
 (mss_cons (ms_for hpo rfl set_name (mi_rng1 rfl tx.n_range me_int) (pgn 9 sc_law.nd)
 (mss_cons (ms_expr (me_meth tx.m_Carrier_step gd.F_Carrier_step hr tx.b_Carrier_step tk rfl (mv 7) (ma_cons (mv 8) ma_nil)))
 mss_nil))
 (mss_cons (ms_if (mt_cmp (op := .ne) hu (me_meth0 tx.m_Carrier_moment gd.F_Carrier_moment hr tx.b_Carrier_moment tk (mv 7)) (me_min2 rfl rfl tx.n_min me_int (me_add me_int (mv 4))))
 (mss_cons (ms_ret me_bl)
 mss_nil)
 mss_nil)
 (mss_cons (ms_ret me_bl)
 mss_nil)))))))))))))
theorem gd_succ (tx : Tx K mg w A) (gd : Gd d P w K mg base A) : Gd (d + 1) P w K mg base A where
  F_is_within := ok_is_within tx gd
  F_is_name := ok_is_name tx gd
  F_is_path := ok_is_path tx gd
  F_is_node := ok_is_node tx gd
  F_are_entries := ok_are_entries tx gd
  F_node_count := ok_node_count tx gd
  F_node_height := ok_node_height tx gd
  F_is_tree := ok_is_tree tx gd
  F_look := ok_look tx gd
  F_found_at := ok_found_at tx gd
  F_with_node := ok_with_node tx gd
  F_is_job := ok_is_job tx gd
  F_look_job := ok_look_job tx gd
  F_is_answer := ok_is_answer tx gd
  F_kind_of := ok_kind_of tx gd
  F_free_name := ok_free_name tx gd
  F_Job_init := ok_Job_init tx gd
  F_Step_init := ok_Step_init tx gd
  F_Step_touches := ok_Step_touches tx gd
  F_Carrier_init := ok_Carrier_init tx gd
  F_Carrier_whole := ok_Carrier_whole tx gd
  F_Carrier_moment := ok_Carrier_moment tx gd
  F_Carrier_begin := ok_Carrier_begin tx gd
  F_Carrier_job := ok_Carrier_job tx gd
  F_Carrier_states := ok_Carrier_states tx gd
  F_Carrier_asked := ok_Carrier_asked tx gd
  F_Carrier_journal := ok_Carrier_journal tx gd
  F_Carrier_halt := ok_Carrier_halt tx gd
  F_Carrier_go_on := ok_Carrier_go_on tx gd
  F_Carrier_answer := ok_Carrier_answer tx gd
  F_Carrier_step := ok_Carrier_step tx gd
  F_Carrier_note := ok_Carrier_note tx gd
  F_Carrier_change := ok_Carrier_change tx gd
  F_Carrier_drop := ok_Carrier_drop tx gd
  F_Carrier_carry := ok_Carrier_carry tx gd
  F_Carrier_settled := ok_Carrier_settled tx gd
  F_Carrier_marked := ok_Carrier_marked tx gd
  F_Carrier_within := ok_Carrier_within tx gd
  F_Carrier_placed := ok_Carrier_placed tx gd
  F_Carrier_take_back := ok_Carrier_take_back tx gd
  F_carried := ok_carried tx gd
  F_law_cell := ok_law_cell tx gd
  F_law_as := ok_law_as tx gd
  F_law_is_name := ok_law_is_name tx gd
  F_law := ok_law tx gd
theorem gd_zero : Gd 0 P w K mg base A where
  F_is_within := fn_zero
  F_is_name := fn_zero
  F_is_path := fn_zero
  F_is_node := fn_zero
  F_are_entries := fn_zero
  F_node_count := fn_zero
  F_node_height := fn_zero
  F_is_tree := fn_zero
  F_look := fn_zero
  F_found_at := fn_zero
  F_with_node := fn_zero
  F_is_job := fn_zero
  F_look_job := fn_zero
  F_is_answer := fn_zero
  F_kind_of := fn_zero
  F_free_name := fn_zero
  F_Job_init := fn_zero
  F_Step_init := fn_zero
  F_Step_touches := fn_zero
  F_Carrier_init := fn_zero
  F_Carrier_whole := fn_zero
  F_Carrier_moment := fn_zero
  F_Carrier_begin := fn_zero
  F_Carrier_job := fn_zero
  F_Carrier_states := fn_zero
  F_Carrier_asked := fn_zero
  F_Carrier_journal := fn_zero
  F_Carrier_halt := fn_zero
  F_Carrier_go_on := fn_zero
  F_Carrier_answer := fn_zero
  F_Carrier_step := fn_zero
  F_Carrier_note := fn_zero
  F_Carrier_change := fn_zero
  F_Carrier_drop := fn_zero
  F_Carrier_carry := fn_zero
  F_Carrier_settled := fn_zero
  F_Carrier_marked := fn_zero
  F_Carrier_within := fn_zero
  F_Carrier_placed := fn_zero
  F_Carrier_take_back := fn_zero
  F_carried := fn_zero
  F_law_cell := fn_zero
  F_law_as := fn_zero
  F_law_is_name := fn_zero
  F_law := fn_zero
theorem gd_all (tx : Tx K mg w A) : ∀ d, Gd d P w K mg base A
  | 0 => gd_zero
  | d + 1 => gd_succ tx (gd_all tx d)
end
end Mini
namespace Mini
open PySem L2
theorem cell_ok (ns : List Int) (hl : ns.length ≤ 63) (k : Nat) (d : Nat) (S : Sto) : callD fns gv (d + 1) 40 [.scr ns, .int k] S = .ok (.int (cellI ns k)) S := by
  have e : exSs (callD fns gv d) gv b_law_cell [some (.scr ns), some (.int k)] [] = .ret (.int (cellI ns k)) [] := by
    by_cases hk : k < ns.length
    · have h1 : ((k : Int) < (ns.length : Int)) := by omega
      simp [b_law_cell, exSs, exS, evC, evE, sF1, Mini.getD, getS, sCmp, ordD, truth, h1, sIdx, atI, ixN, hk, cellI]
    · have h1 : ¬ ((k : Int) < (ns.length : Int)) := by omega
      simp [b_law_cell, exSs, exS, evC, evE, sF1, Mini.getD, getS, sCmp, ordD, truth, h1, cellI]
      rw [List.getElem?_eq_none (by omega)]; rfl
  exact callD_ret (F := f_law_cell) rfl rfl rfl rfl e rfl
theorem look3_nil (k m : Int) : look3 [] k m = none := rfl
theorem look3_cons (q : Int × Int × Int) (L : Rm) (k m : Int) : look3 (q :: L) k m = if q.1 = k ∧ q.2.1 = m then some q.2.2 else look3 L k m := by
  unfold look3
  rw [List.find?_cons]
  by_cases h1 : q.1 = k
  · by_cases h2 : q.2.1 = m
    · simp [h1, h2]
    · simp [h1, h2]
  · simp [h1]
/-- what the remainders tell -/
theorem lok (ns : List Int) (hl : ns.length ≤ 63) (d : Nat) : ∀ L : List (Nat × Int × Int), (∀ q ∈ L, 0 < q.2.1 ∧ cellI ns q.1 % q.2.1 = q.2.2) → LOk (callD fns gv (d + 1)) ns (L.map fun q => ((q.1 : Int), q.2.1, q.2.2))
  | [], _ => fun k m r e => by simp [look3_nil] at e
  | q :: L, h => fun k m r e => by
    rw [List.map_cons, look3_cons] at e
    split at e
    · rename_i hq
      obtain ⟨h1, h2⟩ := hq
      dsimp only at h1 h2
      cases e
      subst h1 h2
      obtain ⟨g1, g2⟩ := h q List.mem_cons_self
      exact ⟨g1, _, g2, fun S => cell_ok ns hl q.1 d S⟩
    · exact lok ns hl d L (fun q hq => h q (List.mem_cons_of_mem _ hq)) k m r e
def runL (ns : List Int) (r0 : Int) : Bool := isTrue1 (exSs (callD fns gv 59) gv (sbSs [(0, 4, r0)] b_law) (some (.scr ns) :: List.replicate 13 none) [])
def allL (ns : List Int) (r0 : Int) : Bool := runL ns r0
theorem t0 (ns : List Int) : allL ns 0 = true := by kernel_rfl
theorem t1 (ns : List Int) : allL ns 1 = true := by kernel_rfl
theorem t2 (ns : List Int) : allL ns 2 = true := by kernel_rfl
theorem t3 (ns : List Int) : allL ns 3 = true := by kernel_rfl
theorem allL_ok (ns : List Int) {r0 : Int} (hr0 : r0 = 0 ∨ r0 = 1 ∨ r0 = 2 ∨ r0 = 3) : allL ns r0 = true := by
  rcases hr0 with rfl | rfl | rfl | rfl
  · exact t0 ns
  · exact t1 ns
  · exact t2 ns
  · exact t3 ns
theorem law_true (ns : List Int) (hl : ns.length ≤ 63) : callD fns gv 60 1000 [.scr ns] [] = .ok (.bl true) [] := by
  have h := allL_ok ns (r0 := cellI ns 0 % 4) (by omega)
  refine law_by (F0 := f_law) _ rfl (by decide +kernel) (lok ns hl 58 [(0, 4, cellI ns 0 % 4)] fun q hq => ?_) h
  simp only [List.mem_cons, List.not_mem_nil, or_false] at hq
  subst hq; exact ⟨by dsimp only; decide, rfl⟩
end Mini


namespace Mini
open PySem L2 PyProof.Rows

theorem exm_gen {K : PySem.W.Frag} {S S2 : Addr} {r : Bool} (h1 : PySem.W.subIn K (.ref S) (.type "BaseException") = some true) (h2 : PySem.W.isClsIn K S = true) (h3 : PySem.W.typeIn K (.ref S) = some (.type "type"))
    (h4 : PySem.W.subIn K (.ref S2) (.ref S) = some r) : PySem.W.exmOne K (.ref S2) (.ref S) = some r := by
  unfold PySem.W.exmOne
  have e1 : (PySem.W.subIn K (.ref S) (.type "BaseException") == some true) = true := by simp [h1]
  rw [if_pos e1]
  have h2' : (PySem.W.clsIn K S).isSome = true := h2
  simp only [PySem.W.kitCls, h2', h3, Bool.true_and]
  simpa using h4
section
theorem all_mk {l : PySem.W.OpenLaw} {w : World} {K : PySem.W.Frag} {h : Heap} {mg : Str → Option Value} {fa : Addr} (X : K.In h) (G : h.Ns mainGlobals mg) (hfa : mg "law" = some (.ref fa))
    {C_Carrier : Addr}
    {C_Step : Addr}
    {C_Job : Addr}
    {a_is_within : Addr} {od_is_within an_is_within : Option Addr} {sl_is_within : Array (Option Value)} {oc_is_within kV_is_within dc_is_within pm_is_within cd_is_within ct_is_within : Value}
    {a_is_name : Addr} {od_is_name an_is_name : Option Addr} {sl_is_name : Array (Option Value)} {oc_is_name kV_is_name dc_is_name pm_is_name cd_is_name ct_is_name : Value}
    {a_is_path : Addr} {od_is_path an_is_path : Option Addr} {sl_is_path : Array (Option Value)} {oc_is_path kV_is_path dc_is_path pm_is_path cd_is_path ct_is_path : Value}
    {a_is_node : Addr} {od_is_node an_is_node : Option Addr} {sl_is_node : Array (Option Value)} {oc_is_node kV_is_node dc_is_node pm_is_node cd_is_node ct_is_node : Value}
    {a_are_entries : Addr} {od_are_entries an_are_entries : Option Addr} {sl_are_entries : Array (Option Value)} {oc_are_entries kV_are_entries dc_are_entries pm_are_entries cd_are_entries ct_are_entries : Value}
    {a_node_count : Addr} {od_node_count an_node_count : Option Addr} {sl_node_count : Array (Option Value)} {oc_node_count kV_node_count dc_node_count pm_node_count cd_node_count ct_node_count : Value}
    {a_node_height : Addr} {od_node_height an_node_height : Option Addr} {sl_node_height : Array (Option Value)} {oc_node_height kV_node_height dc_node_height pm_node_height cd_node_height ct_node_height : Value}
    {a_is_tree : Addr} {od_is_tree an_is_tree : Option Addr} {sl_is_tree : Array (Option Value)} {oc_is_tree kV_is_tree dc_is_tree pm_is_tree cd_is_tree ct_is_tree : Value}
    {a_look : Addr} {od_look an_look : Option Addr} {sl_look : Array (Option Value)} {oc_look kV_look dc_look pm_look cd_look ct_look : Value}
    {a_found_at : Addr} {od_found_at an_found_at : Option Addr} {sl_found_at : Array (Option Value)} {oc_found_at kV_found_at dc_found_at pm_found_at cd_found_at ct_found_at : Value}
    {a_with_node : Addr} {od_with_node an_with_node : Option Addr} {sl_with_node : Array (Option Value)} {oc_with_node kV_with_node dc_with_node pm_with_node cd_with_node ct_with_node : Value}
    {a_is_job : Addr} {od_is_job an_is_job : Option Addr} {sl_is_job : Array (Option Value)} {oc_is_job kV_is_job dc_is_job pm_is_job cd_is_job ct_is_job : Value}
    {a_look_job : Addr} {od_look_job an_look_job : Option Addr} {sl_look_job : Array (Option Value)} {oc_look_job kV_look_job dc_look_job pm_look_job cd_look_job ct_look_job : Value}
    {a_is_answer : Addr} {od_is_answer an_is_answer : Option Addr} {sl_is_answer : Array (Option Value)} {oc_is_answer kV_is_answer dc_is_answer pm_is_answer cd_is_answer ct_is_answer : Value}
    {a_kind_of : Addr} {od_kind_of an_kind_of : Option Addr} {sl_kind_of : Array (Option Value)} {oc_kind_of kV_kind_of dc_kind_of pm_kind_of cd_kind_of ct_kind_of : Value}
    {a_free_name : Addr} {od_free_name an_free_name : Option Addr} {sl_free_name : Array (Option Value)} {oc_free_name kV_free_name dc_free_name pm_free_name cd_free_name ct_free_name : Value}
    {a_Job_init : Addr} {od_Job_init an_Job_init : Option Addr} {sl_Job_init : Array (Option Value)} {oc_Job_init kV_Job_init dc_Job_init pm_Job_init cd_Job_init ct_Job_init : Value}
    {a_Step_init : Addr} {od_Step_init an_Step_init : Option Addr} {sl_Step_init : Array (Option Value)} {oc_Step_init kV_Step_init dc_Step_init pm_Step_init cd_Step_init ct_Step_init : Value}
    {a_Step_touches : Addr} {od_Step_touches an_Step_touches : Option Addr} {sl_Step_touches : Array (Option Value)} {oc_Step_touches kV_Step_touches dc_Step_touches pm_Step_touches cd_Step_touches ct_Step_touches : Value}
    {a_Carrier_init : Addr} {od_Carrier_init an_Carrier_init : Option Addr} {sl_Carrier_init : Array (Option Value)} {oc_Carrier_init kV_Carrier_init dc_Carrier_init pm_Carrier_init cd_Carrier_init ct_Carrier_init : Value}
    {a_Carrier_whole : Addr} {od_Carrier_whole an_Carrier_whole : Option Addr} {sl_Carrier_whole : Array (Option Value)} {oc_Carrier_whole kV_Carrier_whole dc_Carrier_whole pm_Carrier_whole cd_Carrier_whole ct_Carrier_whole : Value}
    {a_Carrier_moment : Addr} {od_Carrier_moment an_Carrier_moment : Option Addr} {sl_Carrier_moment : Array (Option Value)} {oc_Carrier_moment kV_Carrier_moment dc_Carrier_moment pm_Carrier_moment cd_Carrier_moment ct_Carrier_moment : Value}
    {a_Carrier_begin : Addr} {od_Carrier_begin an_Carrier_begin : Option Addr} {sl_Carrier_begin : Array (Option Value)} {oc_Carrier_begin kV_Carrier_begin dc_Carrier_begin pm_Carrier_begin cd_Carrier_begin ct_Carrier_begin : Value}
    {a_Carrier_job : Addr} {od_Carrier_job an_Carrier_job : Option Addr} {sl_Carrier_job : Array (Option Value)} {oc_Carrier_job kV_Carrier_job dc_Carrier_job pm_Carrier_job cd_Carrier_job ct_Carrier_job : Value}
    {a_Carrier_states : Addr} {od_Carrier_states an_Carrier_states : Option Addr} {sl_Carrier_states : Array (Option Value)} {oc_Carrier_states kV_Carrier_states dc_Carrier_states pm_Carrier_states cd_Carrier_states ct_Carrier_states : Value}
    {a_Carrier_asked : Addr} {od_Carrier_asked an_Carrier_asked : Option Addr} {sl_Carrier_asked : Array (Option Value)} {oc_Carrier_asked kV_Carrier_asked dc_Carrier_asked pm_Carrier_asked cd_Carrier_asked ct_Carrier_asked : Value}
    {a_Carrier_journal : Addr} {od_Carrier_journal an_Carrier_journal : Option Addr} {sl_Carrier_journal : Array (Option Value)} {oc_Carrier_journal kV_Carrier_journal dc_Carrier_journal pm_Carrier_journal cd_Carrier_journal ct_Carrier_journal : Value}
    {a_Carrier_halt : Addr} {od_Carrier_halt an_Carrier_halt : Option Addr} {sl_Carrier_halt : Array (Option Value)} {oc_Carrier_halt kV_Carrier_halt dc_Carrier_halt pm_Carrier_halt cd_Carrier_halt ct_Carrier_halt : Value}
    {a_Carrier_go_on : Addr} {od_Carrier_go_on an_Carrier_go_on : Option Addr} {sl_Carrier_go_on : Array (Option Value)} {oc_Carrier_go_on kV_Carrier_go_on dc_Carrier_go_on pm_Carrier_go_on cd_Carrier_go_on ct_Carrier_go_on : Value}
    {a_Carrier_answer : Addr} {od_Carrier_answer an_Carrier_answer : Option Addr} {sl_Carrier_answer : Array (Option Value)} {oc_Carrier_answer kV_Carrier_answer dc_Carrier_answer pm_Carrier_answer cd_Carrier_answer ct_Carrier_answer : Value}
    {a_Carrier_step : Addr} {od_Carrier_step an_Carrier_step : Option Addr} {sl_Carrier_step : Array (Option Value)} {oc_Carrier_step kV_Carrier_step dc_Carrier_step pm_Carrier_step cd_Carrier_step ct_Carrier_step : Value}
    {a_Carrier_note : Addr} {od_Carrier_note an_Carrier_note : Option Addr} {sl_Carrier_note : Array (Option Value)} {oc_Carrier_note kV_Carrier_note dc_Carrier_note pm_Carrier_note cd_Carrier_note ct_Carrier_note : Value}
    {a_Carrier_change : Addr} {od_Carrier_change an_Carrier_change : Option Addr} {sl_Carrier_change : Array (Option Value)} {oc_Carrier_change kV_Carrier_change dc_Carrier_change pm_Carrier_change cd_Carrier_change ct_Carrier_change : Value}
    {a_Carrier_drop : Addr} {od_Carrier_drop an_Carrier_drop : Option Addr} {sl_Carrier_drop : Array (Option Value)} {oc_Carrier_drop kV_Carrier_drop dc_Carrier_drop pm_Carrier_drop cd_Carrier_drop ct_Carrier_drop : Value}
    {a_Carrier_carry : Addr} {od_Carrier_carry an_Carrier_carry : Option Addr} {sl_Carrier_carry : Array (Option Value)} {oc_Carrier_carry kV_Carrier_carry dc_Carrier_carry pm_Carrier_carry cd_Carrier_carry ct_Carrier_carry : Value}
    {a_Carrier_settled : Addr} {od_Carrier_settled an_Carrier_settled : Option Addr} {sl_Carrier_settled : Array (Option Value)} {oc_Carrier_settled kV_Carrier_settled dc_Carrier_settled pm_Carrier_settled cd_Carrier_settled ct_Carrier_settled : Value}
    {a_Carrier_marked : Addr} {od_Carrier_marked an_Carrier_marked : Option Addr} {sl_Carrier_marked : Array (Option Value)} {oc_Carrier_marked kV_Carrier_marked dc_Carrier_marked pm_Carrier_marked cd_Carrier_marked ct_Carrier_marked : Value}
    {a_Carrier_within : Addr} {od_Carrier_within an_Carrier_within : Option Addr} {sl_Carrier_within : Array (Option Value)} {oc_Carrier_within kV_Carrier_within dc_Carrier_within pm_Carrier_within cd_Carrier_within ct_Carrier_within : Value}
    {a_Carrier_placed : Addr} {od_Carrier_placed an_Carrier_placed : Option Addr} {sl_Carrier_placed : Array (Option Value)} {oc_Carrier_placed kV_Carrier_placed dc_Carrier_placed pm_Carrier_placed cd_Carrier_placed ct_Carrier_placed : Value}
    {a_Carrier_take_back : Addr} {od_Carrier_take_back an_Carrier_take_back : Option Addr} {sl_Carrier_take_back : Array (Option Value)} {oc_Carrier_take_back kV_Carrier_take_back dc_Carrier_take_back pm_Carrier_take_back cd_Carrier_take_back ct_Carrier_take_back : Value}
    {a_carried : Addr} {od_carried an_carried : Option Addr} {sl_carried : Array (Option Value)} {oc_carried kV_carried dc_carried pm_carried cd_carried ct_carried : Value}
    {a_law_cell : Addr} {od_law_cell an_law_cell : Option Addr} {sl_law_cell : Array (Option Value)} {oc_law_cell kV_law_cell dc_law_cell pm_law_cell cd_law_cell ct_law_cell : Value}
    {a_law_as : Addr} {od_law_as an_law_as : Option Addr} {sl_law_as : Array (Option Value)} {oc_law_as kV_law_as dc_law_as pm_law_as cd_law_as ct_law_as : Value}
    {a_law_is_name : Addr} {od_law_is_name an_law_is_name : Option Addr} {sl_law_is_name : Array (Option Value)} {oc_law_is_name kV_law_is_name dc_law_is_name pm_law_is_name cd_law_is_name ct_law_is_name : Value}
    {a_law : Addr} {od_law an_law : Option Addr} {sl_law : Array (Option Value)} {oc_law kV_law dc_law pm_law cd_law ct_law : Value}
    {X_NoTree : Addr}
    {X_NoJob : Addr}
    {X_Inside : Addr}
    {X_NoNumber : Addr}
    {X_NoMoment : Addr}
    {X_NoAnswer : Addr}
    {X_Halted : Addr}
    {t_SIGNS : Tok}
    {t_MOST_NAME : Tok}
    {t_MOST_DEEP : Tok}
    {t_MOST_NODES : Tok}
    {t_MOST_WORTH : Tok}
    {t_MOST_WHEN : Tok}
    {w_WORDS : Addr} {dd_WORDS : Option Addr} {nn_WORDS : Nat} {sl_WORDS : Array (Option Value)} {t_WORDS0 t_WORDS1 : Tok}
    {w_KINDS : Addr} {es_KINDS : Array DictEntry} {nn_KINDS : Nat}
    {w_KINDS0 : Addr} {dd_KINDS0 : Option Addr} {nn_KINDS0 : Nat} {sl_KINDS0 : Array (Option Value)} {t_KINDS0_0 t_KINDS0_1 t_KINDS0_2 t_KINDS0_3 : Tok}
    {w_KINDS1 : Addr} {dd_KINDS1 : Option Addr} {nn_KINDS1 : Nat} {sl_KINDS1 : Array (Option Value)} {t_KINDS1_0 t_KINDS1_1 t_KINDS1_2 : Tok}
    {w_KINDS2 : Addr} {dd_KINDS2 : Option Addr} {nn_KINDS2 : Nat} {sl_KINDS2 : Array (Option Value)} {t_KINDS2_0 t_KINDS2_1 : Tok}
    {t_MOST_SOURCES : Tok}
    (aC_Job : PySem.W.nsIn K mainGlobals "Job" = some (some (.ref C_Job)))
    (pg_Job : PySem.W.plainGet K C_Job Str.empty = true)
    (hd_Job : PySem.W.hasDictIn K C_Job = true)
    (po_Job : PySem.W.plainOver K C_Job = true)
    (sa_Job : PySem.W.findIn K (.ref C_Job) "__setattr__" = some (some (.builtin "object.__setattr__")))
    (mk_Job : PySem.W.makesIn K C_Job = true)
    (kc_Job : PySem.W.keepIn K (.ref C_Job) = true)
    (no_Job_answers : PySem.W.findIn K (.ref C_Job) "answers" = some none)
    (no_Job_ask : PySem.W.findIn K (.ref C_Job) "ask" = some none)
    (no_Job_before : PySem.W.findIn K (.ref C_Job) "before" = some none)
    (no_Job_jobs : PySem.W.findIn K (.ref C_Job) "jobs" = some none)
    (no_Job_left : PySem.W.findIn K (.ref C_Job) "left" = some none)
    (no_Job_now : PySem.W.findIn K (.ref C_Job) "now" = some none)
    (no_Job_number : PySem.W.findIn K (.ref C_Job) "number" = some none)
    (no_Job_once : PySem.W.findIn K (.ref C_Job) "once" = some none)
    (no_Job_steps : PySem.W.findIn K (.ref C_Job) "steps" = some none)
    (no_Job_told : PySem.W.findIn K (.ref C_Job) "told" = some none)
    (no_Job_tree : PySem.W.findIn K (.ref C_Job) "tree" = some none)
    (no_Job_what : PySem.W.findIn K (.ref C_Job) "what" = some none)
    (no_Job_word : PySem.W.findIn K (.ref C_Job) "word" = some none)
    (aC_Step : PySem.W.nsIn K mainGlobals "Step" = some (some (.ref C_Step)))
    (pg_Step : PySem.W.plainGet K C_Step Str.empty = true)
    (hd_Step : PySem.W.hasDictIn K C_Step = true)
    (po_Step : PySem.W.plainOver K C_Step = true)
    (sa_Step : PySem.W.findIn K (.ref C_Step) "__setattr__" = some (some (.builtin "object.__setattr__")))
    (mk_Step : PySem.W.makesIn K C_Step = true)
    (kc_Step : PySem.W.keepIn K (.ref C_Step) = true)
    (no_Step_answers : PySem.W.findIn K (.ref C_Step) "answers" = some none)
    (no_Step_ask : PySem.W.findIn K (.ref C_Step) "ask" = some none)
    (no_Step_before : PySem.W.findIn K (.ref C_Step) "before" = some none)
    (no_Step_jobs : PySem.W.findIn K (.ref C_Step) "jobs" = some none)
    (no_Step_left : PySem.W.findIn K (.ref C_Step) "left" = some none)
    (no_Step_now : PySem.W.findIn K (.ref C_Step) "now" = some none)
    (no_Step_number : PySem.W.findIn K (.ref C_Step) "number" = some none)
    (no_Step_once : PySem.W.findIn K (.ref C_Step) "once" = some none)
    (no_Step_steps : PySem.W.findIn K (.ref C_Step) "steps" = some none)
    (no_Step_told : PySem.W.findIn K (.ref C_Step) "told" = some none)
    (no_Step_tree : PySem.W.findIn K (.ref C_Step) "tree" = some none)
    (no_Step_what : PySem.W.findIn K (.ref C_Step) "what" = some none)
    (no_Step_word : PySem.W.findIn K (.ref C_Step) "word" = some none)
    (aC_Carrier : PySem.W.nsIn K mainGlobals "Carrier" = some (some (.ref C_Carrier)))
    (pg_Carrier : PySem.W.plainGet K C_Carrier Str.empty = true)
    (hd_Carrier : PySem.W.hasDictIn K C_Carrier = true)
    (po_Carrier : PySem.W.plainOver K C_Carrier = true)
    (sa_Carrier : PySem.W.findIn K (.ref C_Carrier) "__setattr__" = some (some (.builtin "object.__setattr__")))
    (mk_Carrier : PySem.W.makesIn K C_Carrier = true)
    (kc_Carrier : PySem.W.keepIn K (.ref C_Carrier) = true)
    (no_Carrier_answers : PySem.W.findIn K (.ref C_Carrier) "answers" = some none)
    (no_Carrier_ask : PySem.W.findIn K (.ref C_Carrier) "ask" = some none)
    (no_Carrier_before : PySem.W.findIn K (.ref C_Carrier) "before" = some none)
    (no_Carrier_jobs : PySem.W.findIn K (.ref C_Carrier) "jobs" = some none)
    (no_Carrier_left : PySem.W.findIn K (.ref C_Carrier) "left" = some none)
    (no_Carrier_now : PySem.W.findIn K (.ref C_Carrier) "now" = some none)
    (no_Carrier_number : PySem.W.findIn K (.ref C_Carrier) "number" = some none)
    (no_Carrier_once : PySem.W.findIn K (.ref C_Carrier) "once" = some none)
    (no_Carrier_steps : PySem.W.findIn K (.ref C_Carrier) "steps" = some none)
    (no_Carrier_told : PySem.W.findIn K (.ref C_Carrier) "told" = some none)
    (no_Carrier_tree : PySem.W.findIn K (.ref C_Carrier) "tree" = some none)
    (no_Carrier_what : PySem.W.findIn K (.ref C_Carrier) "what" = some none)
    (no_Carrier_word : PySem.W.findIn K (.ref C_Carrier) "word" = some none)
    (at_is_within : PySem.W.nsIn K mainGlobals "is_within" = some (some (.ref a_is_within)))
    (l_is_within : K.lookup a_is_within = some ⟨oc_is_within, od_is_within, .func (PySem.W.fnOf "is_within" "is_within" (defArgs s_is_within) (defBody s_is_within) (defScope s_is_within) .none kV_is_within dc_is_within pm_is_within an_is_within cd_is_within ct_is_within), sl_is_within⟩)
    (cc_is_within : PySem.W.codeIn K cd_is_within "is_within" = true)
    (k_is_within : PySem.W.keepIn K (.ref a_is_within) = true)
    (at_is_name : PySem.W.nsIn K mainGlobals "is_name" = some (some (.ref a_is_name)))
    (l_is_name : K.lookup a_is_name = some ⟨oc_is_name, od_is_name, .func (PySem.W.fnOf "is_name" "is_name" (defArgs s_is_name) (defBody s_is_name) (defScope s_is_name) .none kV_is_name dc_is_name pm_is_name an_is_name cd_is_name ct_is_name), sl_is_name⟩)
    (cc_is_name : PySem.W.codeIn K cd_is_name "is_name" = true)
    (k_is_name : PySem.W.keepIn K (.ref a_is_name) = true)
    (at_is_path : PySem.W.nsIn K mainGlobals "is_path" = some (some (.ref a_is_path)))
    (l_is_path : K.lookup a_is_path = some ⟨oc_is_path, od_is_path, .func (PySem.W.fnOf "is_path" "is_path" (defArgs s_is_path) (defBody s_is_path) (defScope s_is_path) .none kV_is_path dc_is_path pm_is_path an_is_path cd_is_path ct_is_path), sl_is_path⟩)
    (cc_is_path : PySem.W.codeIn K cd_is_path "is_path" = true)
    (k_is_path : PySem.W.keepIn K (.ref a_is_path) = true)
    (at_is_node : PySem.W.nsIn K mainGlobals "is_node" = some (some (.ref a_is_node)))
    (l_is_node : K.lookup a_is_node = some ⟨oc_is_node, od_is_node, .func (PySem.W.fnOf "is_node" "is_node" (defArgs s_is_node) (defBody s_is_node) (defScope s_is_node) .none kV_is_node dc_is_node pm_is_node an_is_node cd_is_node ct_is_node), sl_is_node⟩)
    (cc_is_node : PySem.W.codeIn K cd_is_node "is_node" = true)
    (k_is_node : PySem.W.keepIn K (.ref a_is_node) = true)
    (at_are_entries : PySem.W.nsIn K mainGlobals "are_entries" = some (some (.ref a_are_entries)))
    (l_are_entries : K.lookup a_are_entries = some ⟨oc_are_entries, od_are_entries, .func (PySem.W.fnOf "are_entries" "are_entries" (defArgs s_are_entries) (defBody s_are_entries) (defScope s_are_entries) .none kV_are_entries dc_are_entries pm_are_entries an_are_entries cd_are_entries ct_are_entries), sl_are_entries⟩)
    (cc_are_entries : PySem.W.codeIn K cd_are_entries "are_entries" = true)
    (k_are_entries : PySem.W.keepIn K (.ref a_are_entries) = true)
    (at_node_count : PySem.W.nsIn K mainGlobals "node_count" = some (some (.ref a_node_count)))
    (l_node_count : K.lookup a_node_count = some ⟨oc_node_count, od_node_count, .func (PySem.W.fnOf "node_count" "node_count" (defArgs s_node_count) (defBody s_node_count) (defScope s_node_count) .none kV_node_count dc_node_count pm_node_count an_node_count cd_node_count ct_node_count), sl_node_count⟩)
    (cc_node_count : PySem.W.codeIn K cd_node_count "node_count" = true)
    (k_node_count : PySem.W.keepIn K (.ref a_node_count) = true)
    (at_node_height : PySem.W.nsIn K mainGlobals "node_height" = some (some (.ref a_node_height)))
    (l_node_height : K.lookup a_node_height = some ⟨oc_node_height, od_node_height, .func (PySem.W.fnOf "node_height" "node_height" (defArgs s_node_height) (defBody s_node_height) (defScope s_node_height) .none kV_node_height dc_node_height pm_node_height an_node_height cd_node_height ct_node_height), sl_node_height⟩)
    (cc_node_height : PySem.W.codeIn K cd_node_height "node_height" = true)
    (k_node_height : PySem.W.keepIn K (.ref a_node_height) = true)
    (at_is_tree : PySem.W.nsIn K mainGlobals "is_tree" = some (some (.ref a_is_tree)))
    (l_is_tree : K.lookup a_is_tree = some ⟨oc_is_tree, od_is_tree, .func (PySem.W.fnOf "is_tree" "is_tree" (defArgs s_is_tree) (defBody s_is_tree) (defScope s_is_tree) .none kV_is_tree dc_is_tree pm_is_tree an_is_tree cd_is_tree ct_is_tree), sl_is_tree⟩)
    (cc_is_tree : PySem.W.codeIn K cd_is_tree "is_tree" = true)
    (k_is_tree : PySem.W.keepIn K (.ref a_is_tree) = true)
    (at_look : PySem.W.nsIn K mainGlobals "look" = some (some (.ref a_look)))
    (l_look : K.lookup a_look = some ⟨oc_look, od_look, .func (PySem.W.fnOf "look" "look" (defArgs s_look) (defBody s_look) (defScope s_look) .none kV_look dc_look pm_look an_look cd_look ct_look), sl_look⟩)
    (cc_look : PySem.W.codeIn K cd_look "look" = true)
    (k_look : PySem.W.keepIn K (.ref a_look) = true)
    (at_found_at : PySem.W.nsIn K mainGlobals "found_at" = some (some (.ref a_found_at)))
    (l_found_at : K.lookup a_found_at = some ⟨oc_found_at, od_found_at, .func (PySem.W.fnOf "found_at" "found_at" (defArgs s_found_at) (defBody s_found_at) (defScope s_found_at) .none kV_found_at dc_found_at pm_found_at an_found_at cd_found_at ct_found_at), sl_found_at⟩)
    (cc_found_at : PySem.W.codeIn K cd_found_at "found_at" = true)
    (k_found_at : PySem.W.keepIn K (.ref a_found_at) = true)
    (at_with_node : PySem.W.nsIn K mainGlobals "with_node" = some (some (.ref a_with_node)))
    (l_with_node : K.lookup a_with_node = some ⟨oc_with_node, od_with_node, .func (PySem.W.fnOf "with_node" "with_node" (defArgs s_with_node) (defBody s_with_node) (defScope s_with_node) .none kV_with_node dc_with_node pm_with_node an_with_node cd_with_node ct_with_node), sl_with_node⟩)
    (cc_with_node : PySem.W.codeIn K cd_with_node "with_node" = true)
    (k_with_node : PySem.W.keepIn K (.ref a_with_node) = true)
    (at_is_job : PySem.W.nsIn K mainGlobals "is_job" = some (some (.ref a_is_job)))
    (l_is_job : K.lookup a_is_job = some ⟨oc_is_job, od_is_job, .func (PySem.W.fnOf "is_job" "is_job" (defArgs s_is_job) (defBody s_is_job) (defScope s_is_job) .none kV_is_job dc_is_job pm_is_job an_is_job cd_is_job ct_is_job), sl_is_job⟩)
    (cc_is_job : PySem.W.codeIn K cd_is_job "is_job" = true)
    (k_is_job : PySem.W.keepIn K (.ref a_is_job) = true)
    (at_look_job : PySem.W.nsIn K mainGlobals "look_job" = some (some (.ref a_look_job)))
    (l_look_job : K.lookup a_look_job = some ⟨oc_look_job, od_look_job, .func (PySem.W.fnOf "look_job" "look_job" (defArgs s_look_job) (defBody s_look_job) (defScope s_look_job) .none kV_look_job dc_look_job pm_look_job an_look_job cd_look_job ct_look_job), sl_look_job⟩)
    (cc_look_job : PySem.W.codeIn K cd_look_job "look_job" = true)
    (k_look_job : PySem.W.keepIn K (.ref a_look_job) = true)
    (at_is_answer : PySem.W.nsIn K mainGlobals "is_answer" = some (some (.ref a_is_answer)))
    (l_is_answer : K.lookup a_is_answer = some ⟨oc_is_answer, od_is_answer, .func (PySem.W.fnOf "is_answer" "is_answer" (defArgs s_is_answer) (defBody s_is_answer) (defScope s_is_answer) .none kV_is_answer dc_is_answer pm_is_answer an_is_answer cd_is_answer ct_is_answer), sl_is_answer⟩)
    (cc_is_answer : PySem.W.codeIn K cd_is_answer "is_answer" = true)
    (k_is_answer : PySem.W.keepIn K (.ref a_is_answer) = true)
    (at_kind_of : PySem.W.nsIn K mainGlobals "kind_of" = some (some (.ref a_kind_of)))
    (l_kind_of : K.lookup a_kind_of = some ⟨oc_kind_of, od_kind_of, .func (PySem.W.fnOf "kind_of" "kind_of" (defArgs s_kind_of) (defBody s_kind_of) (defScope s_kind_of) .none kV_kind_of dc_kind_of pm_kind_of an_kind_of cd_kind_of ct_kind_of), sl_kind_of⟩)
    (cc_kind_of : PySem.W.codeIn K cd_kind_of "kind_of" = true)
    (k_kind_of : PySem.W.keepIn K (.ref a_kind_of) = true)
    (at_free_name : PySem.W.nsIn K mainGlobals "free_name" = some (some (.ref a_free_name)))
    (l_free_name : K.lookup a_free_name = some ⟨oc_free_name, od_free_name, .func (PySem.W.fnOf "free_name" "free_name" (defArgs s_free_name) (defBody s_free_name) (defScope s_free_name) .none kV_free_name dc_free_name pm_free_name an_free_name cd_free_name ct_free_name), sl_free_name⟩)
    (cc_free_name : PySem.W.codeIn K cd_free_name "free_name" = true)
    (k_free_name : PySem.W.keepIn K (.ref a_free_name) = true)
    (at_Job_init : PySem.W.findIn K (.ref C_Job) "__init__" = some (some (.ref a_Job_init)))
    (is_Job_init : PySem.W.isFn K (.ref a_Job_init) = true)
    (l_Job_init : K.lookup a_Job_init = some ⟨oc_Job_init, od_Job_init, .func (PySem.W.fnOf "__init__" "Job.__init__" (defArgs s_Job_init) (defBody s_Job_init) (defScope s_Job_init) .none kV_Job_init dc_Job_init pm_Job_init an_Job_init cd_Job_init ct_Job_init), sl_Job_init⟩)
    (cc_Job_init : PySem.W.codeIn K cd_Job_init "Job.__init__" = true)
    (k_Job_init : PySem.W.keepIn K (.ref a_Job_init) = true)
    (at_Step_init : PySem.W.findIn K (.ref C_Step) "__init__" = some (some (.ref a_Step_init)))
    (is_Step_init : PySem.W.isFn K (.ref a_Step_init) = true)
    (l_Step_init : K.lookup a_Step_init = some ⟨oc_Step_init, od_Step_init, .func (PySem.W.fnOf "__init__" "Step.__init__" (defArgs s_Step_init) (defBody s_Step_init) (defScope s_Step_init) .none kV_Step_init dc_Step_init pm_Step_init an_Step_init cd_Step_init ct_Step_init), sl_Step_init⟩)
    (cc_Step_init : PySem.W.codeIn K cd_Step_init "Step.__init__" = true)
    (k_Step_init : PySem.W.keepIn K (.ref a_Step_init) = true)
    (at_Step_touches : PySem.W.findIn K (.ref C_Step) "touches" = some (some (.ref a_Step_touches)))
    (is_Step_touches : PySem.W.isFn K (.ref a_Step_touches) = true)
    (l_Step_touches : K.lookup a_Step_touches = some ⟨oc_Step_touches, od_Step_touches, .func (PySem.W.fnOf "touches" "Step.touches" (defArgs s_Step_touches) (defBody s_Step_touches) (defScope s_Step_touches) .none kV_Step_touches dc_Step_touches pm_Step_touches an_Step_touches cd_Step_touches ct_Step_touches), sl_Step_touches⟩)
    (cc_Step_touches : PySem.W.codeIn K cd_Step_touches "Step.touches" = true)
    (k_Step_touches : PySem.W.keepIn K (.ref a_Step_touches) = true)
    (at_Carrier_init : PySem.W.findIn K (.ref C_Carrier) "__init__" = some (some (.ref a_Carrier_init)))
    (is_Carrier_init : PySem.W.isFn K (.ref a_Carrier_init) = true)
    (l_Carrier_init : K.lookup a_Carrier_init = some ⟨oc_Carrier_init, od_Carrier_init, .func (PySem.W.fnOf "__init__" "Carrier.__init__" (defArgs s_Carrier_init) (defBody s_Carrier_init) (defScope s_Carrier_init) .none kV_Carrier_init dc_Carrier_init pm_Carrier_init an_Carrier_init cd_Carrier_init ct_Carrier_init), sl_Carrier_init⟩)
    (cc_Carrier_init : PySem.W.codeIn K cd_Carrier_init "Carrier.__init__" = true)
    (k_Carrier_init : PySem.W.keepIn K (.ref a_Carrier_init) = true)
    (at_Carrier_whole : PySem.W.findIn K (.ref C_Carrier) "whole" = some (some (.ref a_Carrier_whole)))
    (is_Carrier_whole : PySem.W.isFn K (.ref a_Carrier_whole) = true)
    (l_Carrier_whole : K.lookup a_Carrier_whole = some ⟨oc_Carrier_whole, od_Carrier_whole, .func (PySem.W.fnOf "whole" "Carrier.whole" (defArgs s_Carrier_whole) (defBody s_Carrier_whole) (defScope s_Carrier_whole) .none kV_Carrier_whole dc_Carrier_whole pm_Carrier_whole an_Carrier_whole cd_Carrier_whole ct_Carrier_whole), sl_Carrier_whole⟩)
    (cc_Carrier_whole : PySem.W.codeIn K cd_Carrier_whole "Carrier.whole" = true)
    (k_Carrier_whole : PySem.W.keepIn K (.ref a_Carrier_whole) = true)
    (at_Carrier_moment : PySem.W.findIn K (.ref C_Carrier) "moment" = some (some (.ref a_Carrier_moment)))
    (is_Carrier_moment : PySem.W.isFn K (.ref a_Carrier_moment) = true)
    (l_Carrier_moment : K.lookup a_Carrier_moment = some ⟨oc_Carrier_moment, od_Carrier_moment, .func (PySem.W.fnOf "moment" "Carrier.moment" (defArgs s_Carrier_moment) (defBody s_Carrier_moment) (defScope s_Carrier_moment) .none kV_Carrier_moment dc_Carrier_moment pm_Carrier_moment an_Carrier_moment cd_Carrier_moment ct_Carrier_moment), sl_Carrier_moment⟩)
    (cc_Carrier_moment : PySem.W.codeIn K cd_Carrier_moment "Carrier.moment" = true)
    (k_Carrier_moment : PySem.W.keepIn K (.ref a_Carrier_moment) = true)
    (at_Carrier_begin : PySem.W.findIn K (.ref C_Carrier) "begin" = some (some (.ref a_Carrier_begin)))
    (is_Carrier_begin : PySem.W.isFn K (.ref a_Carrier_begin) = true)
    (l_Carrier_begin : K.lookup a_Carrier_begin = some ⟨oc_Carrier_begin, od_Carrier_begin, .func (PySem.W.fnOf "begin" "Carrier.begin" (defArgs s_Carrier_begin) (defBody s_Carrier_begin) (defScope s_Carrier_begin) .none kV_Carrier_begin dc_Carrier_begin pm_Carrier_begin an_Carrier_begin cd_Carrier_begin ct_Carrier_begin), sl_Carrier_begin⟩)
    (cc_Carrier_begin : PySem.W.codeIn K cd_Carrier_begin "Carrier.begin" = true)
    (k_Carrier_begin : PySem.W.keepIn K (.ref a_Carrier_begin) = true)
    (at_Carrier_job : PySem.W.findIn K (.ref C_Carrier) "job" = some (some (.ref a_Carrier_job)))
    (is_Carrier_job : PySem.W.isFn K (.ref a_Carrier_job) = true)
    (l_Carrier_job : K.lookup a_Carrier_job = some ⟨oc_Carrier_job, od_Carrier_job, .func (PySem.W.fnOf "job" "Carrier.job" (defArgs s_Carrier_job) (defBody s_Carrier_job) (defScope s_Carrier_job) .none kV_Carrier_job dc_Carrier_job pm_Carrier_job an_Carrier_job cd_Carrier_job ct_Carrier_job), sl_Carrier_job⟩)
    (cc_Carrier_job : PySem.W.codeIn K cd_Carrier_job "Carrier.job" = true)
    (k_Carrier_job : PySem.W.keepIn K (.ref a_Carrier_job) = true)
    (at_Carrier_states : PySem.W.findIn K (.ref C_Carrier) "states" = some (some (.ref a_Carrier_states)))
    (is_Carrier_states : PySem.W.isFn K (.ref a_Carrier_states) = true)
    (l_Carrier_states : K.lookup a_Carrier_states = some ⟨oc_Carrier_states, od_Carrier_states, .func (PySem.W.fnOf "states" "Carrier.states" (defArgs s_Carrier_states) (defBody s_Carrier_states) (defScope s_Carrier_states) .none kV_Carrier_states dc_Carrier_states pm_Carrier_states an_Carrier_states cd_Carrier_states ct_Carrier_states), sl_Carrier_states⟩)
    (cc_Carrier_states : PySem.W.codeIn K cd_Carrier_states "Carrier.states" = true)
    (k_Carrier_states : PySem.W.keepIn K (.ref a_Carrier_states) = true)
    (at_Carrier_asked : PySem.W.findIn K (.ref C_Carrier) "asked" = some (some (.ref a_Carrier_asked)))
    (is_Carrier_asked : PySem.W.isFn K (.ref a_Carrier_asked) = true)
    (l_Carrier_asked : K.lookup a_Carrier_asked = some ⟨oc_Carrier_asked, od_Carrier_asked, .func (PySem.W.fnOf "asked" "Carrier.asked" (defArgs s_Carrier_asked) (defBody s_Carrier_asked) (defScope s_Carrier_asked) .none kV_Carrier_asked dc_Carrier_asked pm_Carrier_asked an_Carrier_asked cd_Carrier_asked ct_Carrier_asked), sl_Carrier_asked⟩)
    (cc_Carrier_asked : PySem.W.codeIn K cd_Carrier_asked "Carrier.asked" = true)
    (k_Carrier_asked : PySem.W.keepIn K (.ref a_Carrier_asked) = true)
    (at_Carrier_journal : PySem.W.findIn K (.ref C_Carrier) "journal" = some (some (.ref a_Carrier_journal)))
    (is_Carrier_journal : PySem.W.isFn K (.ref a_Carrier_journal) = true)
    (l_Carrier_journal : K.lookup a_Carrier_journal = some ⟨oc_Carrier_journal, od_Carrier_journal, .func (PySem.W.fnOf "journal" "Carrier.journal" (defArgs s_Carrier_journal) (defBody s_Carrier_journal) (defScope s_Carrier_journal) .none kV_Carrier_journal dc_Carrier_journal pm_Carrier_journal an_Carrier_journal cd_Carrier_journal ct_Carrier_journal), sl_Carrier_journal⟩)
    (cc_Carrier_journal : PySem.W.codeIn K cd_Carrier_journal "Carrier.journal" = true)
    (k_Carrier_journal : PySem.W.keepIn K (.ref a_Carrier_journal) = true)
    (at_Carrier_halt : PySem.W.findIn K (.ref C_Carrier) "halt" = some (some (.ref a_Carrier_halt)))
    (is_Carrier_halt : PySem.W.isFn K (.ref a_Carrier_halt) = true)
    (l_Carrier_halt : K.lookup a_Carrier_halt = some ⟨oc_Carrier_halt, od_Carrier_halt, .func (PySem.W.fnOf "halt" "Carrier.halt" (defArgs s_Carrier_halt) (defBody s_Carrier_halt) (defScope s_Carrier_halt) .none kV_Carrier_halt dc_Carrier_halt pm_Carrier_halt an_Carrier_halt cd_Carrier_halt ct_Carrier_halt), sl_Carrier_halt⟩)
    (cc_Carrier_halt : PySem.W.codeIn K cd_Carrier_halt "Carrier.halt" = true)
    (k_Carrier_halt : PySem.W.keepIn K (.ref a_Carrier_halt) = true)
    (at_Carrier_go_on : PySem.W.findIn K (.ref C_Carrier) "go_on" = some (some (.ref a_Carrier_go_on)))
    (is_Carrier_go_on : PySem.W.isFn K (.ref a_Carrier_go_on) = true)
    (l_Carrier_go_on : K.lookup a_Carrier_go_on = some ⟨oc_Carrier_go_on, od_Carrier_go_on, .func (PySem.W.fnOf "go_on" "Carrier.go_on" (defArgs s_Carrier_go_on) (defBody s_Carrier_go_on) (defScope s_Carrier_go_on) .none kV_Carrier_go_on dc_Carrier_go_on pm_Carrier_go_on an_Carrier_go_on cd_Carrier_go_on ct_Carrier_go_on), sl_Carrier_go_on⟩)
    (cc_Carrier_go_on : PySem.W.codeIn K cd_Carrier_go_on "Carrier.go_on" = true)
    (k_Carrier_go_on : PySem.W.keepIn K (.ref a_Carrier_go_on) = true)
    (at_Carrier_answer : PySem.W.findIn K (.ref C_Carrier) "answer" = some (some (.ref a_Carrier_answer)))
    (is_Carrier_answer : PySem.W.isFn K (.ref a_Carrier_answer) = true)
    (l_Carrier_answer : K.lookup a_Carrier_answer = some ⟨oc_Carrier_answer, od_Carrier_answer, .func (PySem.W.fnOf "answer" "Carrier.answer" (defArgs s_Carrier_answer) (defBody s_Carrier_answer) (defScope s_Carrier_answer) .none kV_Carrier_answer dc_Carrier_answer pm_Carrier_answer an_Carrier_answer cd_Carrier_answer ct_Carrier_answer), sl_Carrier_answer⟩)
    (cc_Carrier_answer : PySem.W.codeIn K cd_Carrier_answer "Carrier.answer" = true)
    (k_Carrier_answer : PySem.W.keepIn K (.ref a_Carrier_answer) = true)
    (at_Carrier_step : PySem.W.findIn K (.ref C_Carrier) "step" = some (some (.ref a_Carrier_step)))
    (is_Carrier_step : PySem.W.isFn K (.ref a_Carrier_step) = true)
    (l_Carrier_step : K.lookup a_Carrier_step = some ⟨oc_Carrier_step, od_Carrier_step, .func (PySem.W.fnOf "step" "Carrier.step" (defArgs s_Carrier_step) (defBody s_Carrier_step) (defScope s_Carrier_step) .none kV_Carrier_step dc_Carrier_step pm_Carrier_step an_Carrier_step cd_Carrier_step ct_Carrier_step), sl_Carrier_step⟩)
    (cc_Carrier_step : PySem.W.codeIn K cd_Carrier_step "Carrier.step" = true)
    (k_Carrier_step : PySem.W.keepIn K (.ref a_Carrier_step) = true)
    (at_Carrier_note : PySem.W.findIn K (.ref C_Carrier) "note" = some (some (.ref a_Carrier_note)))
    (is_Carrier_note : PySem.W.isFn K (.ref a_Carrier_note) = true)
    (l_Carrier_note : K.lookup a_Carrier_note = some ⟨oc_Carrier_note, od_Carrier_note, .func (PySem.W.fnOf "note" "Carrier.note" (defArgs s_Carrier_note) (defBody s_Carrier_note) (defScope s_Carrier_note) .none kV_Carrier_note dc_Carrier_note pm_Carrier_note an_Carrier_note cd_Carrier_note ct_Carrier_note), sl_Carrier_note⟩)
    (cc_Carrier_note : PySem.W.codeIn K cd_Carrier_note "Carrier.note" = true)
    (k_Carrier_note : PySem.W.keepIn K (.ref a_Carrier_note) = true)
    (at_Carrier_change : PySem.W.findIn K (.ref C_Carrier) "change" = some (some (.ref a_Carrier_change)))
    (is_Carrier_change : PySem.W.isFn K (.ref a_Carrier_change) = true)
    (l_Carrier_change : K.lookup a_Carrier_change = some ⟨oc_Carrier_change, od_Carrier_change, .func (PySem.W.fnOf "change" "Carrier.change" (defArgs s_Carrier_change) (defBody s_Carrier_change) (defScope s_Carrier_change) .none kV_Carrier_change dc_Carrier_change pm_Carrier_change an_Carrier_change cd_Carrier_change ct_Carrier_change), sl_Carrier_change⟩)
    (cc_Carrier_change : PySem.W.codeIn K cd_Carrier_change "Carrier.change" = true)
    (k_Carrier_change : PySem.W.keepIn K (.ref a_Carrier_change) = true)
    (at_Carrier_drop : PySem.W.findIn K (.ref C_Carrier) "drop" = some (some (.ref a_Carrier_drop)))
    (is_Carrier_drop : PySem.W.isFn K (.ref a_Carrier_drop) = true)
    (l_Carrier_drop : K.lookup a_Carrier_drop = some ⟨oc_Carrier_drop, od_Carrier_drop, .func (PySem.W.fnOf "drop" "Carrier.drop" (defArgs s_Carrier_drop) (defBody s_Carrier_drop) (defScope s_Carrier_drop) .none kV_Carrier_drop dc_Carrier_drop pm_Carrier_drop an_Carrier_drop cd_Carrier_drop ct_Carrier_drop), sl_Carrier_drop⟩)
    (cc_Carrier_drop : PySem.W.codeIn K cd_Carrier_drop "Carrier.drop" = true)
    (k_Carrier_drop : PySem.W.keepIn K (.ref a_Carrier_drop) = true)
    (at_Carrier_carry : PySem.W.findIn K (.ref C_Carrier) "carry" = some (some (.ref a_Carrier_carry)))
    (is_Carrier_carry : PySem.W.isFn K (.ref a_Carrier_carry) = true)
    (l_Carrier_carry : K.lookup a_Carrier_carry = some ⟨oc_Carrier_carry, od_Carrier_carry, .func (PySem.W.fnOf "carry" "Carrier.carry" (defArgs s_Carrier_carry) (defBody s_Carrier_carry) (defScope s_Carrier_carry) .none kV_Carrier_carry dc_Carrier_carry pm_Carrier_carry an_Carrier_carry cd_Carrier_carry ct_Carrier_carry), sl_Carrier_carry⟩)
    (cc_Carrier_carry : PySem.W.codeIn K cd_Carrier_carry "Carrier.carry" = true)
    (k_Carrier_carry : PySem.W.keepIn K (.ref a_Carrier_carry) = true)
    (at_Carrier_settled : PySem.W.findIn K (.ref C_Carrier) "settled" = some (some (.ref a_Carrier_settled)))
    (is_Carrier_settled : PySem.W.isFn K (.ref a_Carrier_settled) = true)
    (l_Carrier_settled : K.lookup a_Carrier_settled = some ⟨oc_Carrier_settled, od_Carrier_settled, .func (PySem.W.fnOf "settled" "Carrier.settled" (defArgs s_Carrier_settled) (defBody s_Carrier_settled) (defScope s_Carrier_settled) .none kV_Carrier_settled dc_Carrier_settled pm_Carrier_settled an_Carrier_settled cd_Carrier_settled ct_Carrier_settled), sl_Carrier_settled⟩)
    (cc_Carrier_settled : PySem.W.codeIn K cd_Carrier_settled "Carrier.settled" = true)
    (k_Carrier_settled : PySem.W.keepIn K (.ref a_Carrier_settled) = true)
    (at_Carrier_marked : PySem.W.findIn K (.ref C_Carrier) "marked" = some (some (.ref a_Carrier_marked)))
    (is_Carrier_marked : PySem.W.isFn K (.ref a_Carrier_marked) = true)
    (l_Carrier_marked : K.lookup a_Carrier_marked = some ⟨oc_Carrier_marked, od_Carrier_marked, .func (PySem.W.fnOf "marked" "Carrier.marked" (defArgs s_Carrier_marked) (defBody s_Carrier_marked) (defScope s_Carrier_marked) .none kV_Carrier_marked dc_Carrier_marked pm_Carrier_marked an_Carrier_marked cd_Carrier_marked ct_Carrier_marked), sl_Carrier_marked⟩)
    (cc_Carrier_marked : PySem.W.codeIn K cd_Carrier_marked "Carrier.marked" = true)
    (k_Carrier_marked : PySem.W.keepIn K (.ref a_Carrier_marked) = true)
    (at_Carrier_within : PySem.W.findIn K (.ref C_Carrier) "within" = some (some (.ref a_Carrier_within)))
    (is_Carrier_within : PySem.W.isFn K (.ref a_Carrier_within) = true)
    (l_Carrier_within : K.lookup a_Carrier_within = some ⟨oc_Carrier_within, od_Carrier_within, .func (PySem.W.fnOf "within" "Carrier.within" (defArgs s_Carrier_within) (defBody s_Carrier_within) (defScope s_Carrier_within) .none kV_Carrier_within dc_Carrier_within pm_Carrier_within an_Carrier_within cd_Carrier_within ct_Carrier_within), sl_Carrier_within⟩)
    (cc_Carrier_within : PySem.W.codeIn K cd_Carrier_within "Carrier.within" = true)
    (k_Carrier_within : PySem.W.keepIn K (.ref a_Carrier_within) = true)
    (at_Carrier_placed : PySem.W.findIn K (.ref C_Carrier) "placed" = some (some (.ref a_Carrier_placed)))
    (is_Carrier_placed : PySem.W.isFn K (.ref a_Carrier_placed) = true)
    (l_Carrier_placed : K.lookup a_Carrier_placed = some ⟨oc_Carrier_placed, od_Carrier_placed, .func (PySem.W.fnOf "placed" "Carrier.placed" (defArgs s_Carrier_placed) (defBody s_Carrier_placed) (defScope s_Carrier_placed) .none kV_Carrier_placed dc_Carrier_placed pm_Carrier_placed an_Carrier_placed cd_Carrier_placed ct_Carrier_placed), sl_Carrier_placed⟩)
    (cc_Carrier_placed : PySem.W.codeIn K cd_Carrier_placed "Carrier.placed" = true)
    (k_Carrier_placed : PySem.W.keepIn K (.ref a_Carrier_placed) = true)
    (at_Carrier_take_back : PySem.W.findIn K (.ref C_Carrier) "take_back" = some (some (.ref a_Carrier_take_back)))
    (is_Carrier_take_back : PySem.W.isFn K (.ref a_Carrier_take_back) = true)
    (l_Carrier_take_back : K.lookup a_Carrier_take_back = some ⟨oc_Carrier_take_back, od_Carrier_take_back, .func (PySem.W.fnOf "take_back" "Carrier.take_back" (defArgs s_Carrier_take_back) (defBody s_Carrier_take_back) (defScope s_Carrier_take_back) .none kV_Carrier_take_back dc_Carrier_take_back pm_Carrier_take_back an_Carrier_take_back cd_Carrier_take_back ct_Carrier_take_back), sl_Carrier_take_back⟩)
    (cc_Carrier_take_back : PySem.W.codeIn K cd_Carrier_take_back "Carrier.take_back" = true)
    (k_Carrier_take_back : PySem.W.keepIn K (.ref a_Carrier_take_back) = true)
    (at_carried : PySem.W.nsIn K mainGlobals "carried" = some (some (.ref a_carried)))
    (l_carried : K.lookup a_carried = some ⟨oc_carried, od_carried, .func (PySem.W.fnOf "carried" "carried" (defArgs s_carried) (defBody s_carried) (defScope s_carried) .none kV_carried dc_carried pm_carried an_carried cd_carried ct_carried), sl_carried⟩)
    (cc_carried : PySem.W.codeIn K cd_carried "carried" = true)
    (k_carried : PySem.W.keepIn K (.ref a_carried) = true)
    (at_law_cell : PySem.W.nsIn K mainGlobals "_law_cell" = some (some (.ref a_law_cell)))
    (l_law_cell : K.lookup a_law_cell = some ⟨oc_law_cell, od_law_cell, .func (PySem.W.fnOf "_law_cell" "_law_cell" (defArgs s_law_cell) (defBody s_law_cell) (defScope s_law_cell) .none kV_law_cell dc_law_cell pm_law_cell an_law_cell cd_law_cell ct_law_cell), sl_law_cell⟩)
    (cc_law_cell : PySem.W.codeIn K cd_law_cell "_law_cell" = true)
    (k_law_cell : PySem.W.keepIn K (.ref a_law_cell) = true)
    (at_law_as : PySem.W.nsIn K mainGlobals "_law_as" = some (some (.ref a_law_as)))
    (l_law_as : K.lookup a_law_as = some ⟨oc_law_as, od_law_as, .func (PySem.W.fnOf "_law_as" "_law_as" (defArgs s_law_as) (defBody s_law_as) (defScope s_law_as) .none kV_law_as dc_law_as pm_law_as an_law_as cd_law_as ct_law_as), sl_law_as⟩)
    (cc_law_as : PySem.W.codeIn K cd_law_as "_law_as" = true)
    (k_law_as : PySem.W.keepIn K (.ref a_law_as) = true)
    (at_law_is_name : PySem.W.nsIn K mainGlobals "_law_is_name" = some (some (.ref a_law_is_name)))
    (l_law_is_name : K.lookup a_law_is_name = some ⟨oc_law_is_name, od_law_is_name, .func (PySem.W.fnOf "_law_is_name" "_law_is_name" (defArgs s_law_is_name) (defBody s_law_is_name) (defScope s_law_is_name) .none kV_law_is_name dc_law_is_name pm_law_is_name an_law_is_name cd_law_is_name ct_law_is_name), sl_law_is_name⟩)
    (cc_law_is_name : PySem.W.codeIn K cd_law_is_name "_law_is_name" = true)
    (k_law_is_name : PySem.W.keepIn K (.ref a_law_is_name) = true)
    (at_law : PySem.W.nsIn K mainGlobals "law" = some (some (.ref a_law)))
    (l_law : K.lookup a_law = some ⟨oc_law, od_law, .func (PySem.W.fnOf "law" "law" (defArgs s_law) (defBody s_law) (defScope s_law) .none kV_law dc_law pm_law an_law cd_law ct_law), sl_law⟩)
    (cc_law : PySem.W.codeIn K cd_law "law" = true)
    (k_law : PySem.W.keepIn K (.ref a_law) = true)
    (aX_NoTree : PySem.W.nsIn K mainGlobals "NoTree" = some (some (.ref X_NoTree)))
    (eX_NoTree : PySem.W.excIn K X_NoTree [.type "ValueError", .type "Exception", .type "BaseException", .type "object"] "ValueError.__new__" = true)
    (kX_NoTree : PySem.W.keepIn K (.ref X_NoTree) = true)
    (sX_NoTree : PySem.W.subIn K (.ref X_NoTree) (.type "BaseException") = some true)
    (iX_NoTree : PySem.W.isClsIn K X_NoTree = true)
    (tX_NoTree : PySem.W.typeIn K (.ref X_NoTree) = some (.type "type"))
    (aX_NoJob : PySem.W.nsIn K mainGlobals "NoJob" = some (some (.ref X_NoJob)))
    (eX_NoJob : PySem.W.excIn K X_NoJob [.type "ValueError", .type "Exception", .type "BaseException", .type "object"] "ValueError.__new__" = true)
    (kX_NoJob : PySem.W.keepIn K (.ref X_NoJob) = true)
    (sX_NoJob : PySem.W.subIn K (.ref X_NoJob) (.type "BaseException") = some true)
    (iX_NoJob : PySem.W.isClsIn K X_NoJob = true)
    (tX_NoJob : PySem.W.typeIn K (.ref X_NoJob) = some (.type "type"))
    (aX_Inside : PySem.W.nsIn K mainGlobals "Inside" = some (some (.ref X_Inside)))
    (eX_Inside : PySem.W.excIn K X_Inside [.type "ValueError", .type "Exception", .type "BaseException", .type "object"] "ValueError.__new__" = true)
    (kX_Inside : PySem.W.keepIn K (.ref X_Inside) = true)
    (sX_Inside : PySem.W.subIn K (.ref X_Inside) (.type "BaseException") = some true)
    (iX_Inside : PySem.W.isClsIn K X_Inside = true)
    (tX_Inside : PySem.W.typeIn K (.ref X_Inside) = some (.type "type"))
    (aX_NoNumber : PySem.W.nsIn K mainGlobals "NoNumber" = some (some (.ref X_NoNumber)))
    (eX_NoNumber : PySem.W.excIn K X_NoNumber [.type "ValueError", .type "Exception", .type "BaseException", .type "object"] "ValueError.__new__" = true)
    (kX_NoNumber : PySem.W.keepIn K (.ref X_NoNumber) = true)
    (sX_NoNumber : PySem.W.subIn K (.ref X_NoNumber) (.type "BaseException") = some true)
    (iX_NoNumber : PySem.W.isClsIn K X_NoNumber = true)
    (tX_NoNumber : PySem.W.typeIn K (.ref X_NoNumber) = some (.type "type"))
    (aX_NoMoment : PySem.W.nsIn K mainGlobals "NoMoment" = some (some (.ref X_NoMoment)))
    (eX_NoMoment : PySem.W.excIn K X_NoMoment [.type "ValueError", .type "Exception", .type "BaseException", .type "object"] "ValueError.__new__" = true)
    (kX_NoMoment : PySem.W.keepIn K (.ref X_NoMoment) = true)
    (sX_NoMoment : PySem.W.subIn K (.ref X_NoMoment) (.type "BaseException") = some true)
    (iX_NoMoment : PySem.W.isClsIn K X_NoMoment = true)
    (tX_NoMoment : PySem.W.typeIn K (.ref X_NoMoment) = some (.type "type"))
    (aX_NoAnswer : PySem.W.nsIn K mainGlobals "NoAnswer" = some (some (.ref X_NoAnswer)))
    (eX_NoAnswer : PySem.W.excIn K X_NoAnswer [.type "ValueError", .type "Exception", .type "BaseException", .type "object"] "ValueError.__new__" = true)
    (kX_NoAnswer : PySem.W.keepIn K (.ref X_NoAnswer) = true)
    (sX_NoAnswer : PySem.W.subIn K (.ref X_NoAnswer) (.type "BaseException") = some true)
    (iX_NoAnswer : PySem.W.isClsIn K X_NoAnswer = true)
    (tX_NoAnswer : PySem.W.typeIn K (.ref X_NoAnswer) = some (.type "type"))
    (aX_Halted : PySem.W.nsIn K mainGlobals "Halted" = some (some (.ref X_Halted)))
    (eX_Halted : PySem.W.excIn K X_Halted [.type "ValueError", .type "Exception", .type "BaseException", .type "object"] "ValueError.__new__" = true)
    (kX_Halted : PySem.W.keepIn K (.ref X_Halted) = true)
    (sX_Halted : PySem.W.subIn K (.ref X_Halted) (.type "BaseException") = some true)
    (iX_Halted : PySem.W.isClsIn K X_Halted = true)
    (tX_Halted : PySem.W.typeIn K (.ref X_Halted) = some (.type "type"))
    (xm_NoTree_NoTree : PySem.W.subIn K (.ref X_NoTree) (.ref X_NoTree) = some true)
    (xm_NoTree_NoJob : PySem.W.subIn K (.ref X_NoTree) (.ref X_NoJob) = some false)
    (xm_NoTree_Inside : PySem.W.subIn K (.ref X_NoTree) (.ref X_Inside) = some false)
    (xm_NoTree_NoNumber : PySem.W.subIn K (.ref X_NoTree) (.ref X_NoNumber) = some false)
    (xm_NoTree_NoMoment : PySem.W.subIn K (.ref X_NoTree) (.ref X_NoMoment) = some false)
    (xm_NoTree_NoAnswer : PySem.W.subIn K (.ref X_NoTree) (.ref X_NoAnswer) = some false)
    (xm_NoTree_Halted : PySem.W.subIn K (.ref X_NoTree) (.ref X_Halted) = some false)
    (xm_NoJob_NoTree : PySem.W.subIn K (.ref X_NoJob) (.ref X_NoTree) = some false)
    (xm_NoJob_NoJob : PySem.W.subIn K (.ref X_NoJob) (.ref X_NoJob) = some true)
    (xm_NoJob_Inside : PySem.W.subIn K (.ref X_NoJob) (.ref X_Inside) = some false)
    (xm_NoJob_NoNumber : PySem.W.subIn K (.ref X_NoJob) (.ref X_NoNumber) = some false)
    (xm_NoJob_NoMoment : PySem.W.subIn K (.ref X_NoJob) (.ref X_NoMoment) = some false)
    (xm_NoJob_NoAnswer : PySem.W.subIn K (.ref X_NoJob) (.ref X_NoAnswer) = some false)
    (xm_NoJob_Halted : PySem.W.subIn K (.ref X_NoJob) (.ref X_Halted) = some false)
    (xm_Inside_NoTree : PySem.W.subIn K (.ref X_Inside) (.ref X_NoTree) = some false)
    (xm_Inside_NoJob : PySem.W.subIn K (.ref X_Inside) (.ref X_NoJob) = some false)
    (xm_Inside_Inside : PySem.W.subIn K (.ref X_Inside) (.ref X_Inside) = some true)
    (xm_Inside_NoNumber : PySem.W.subIn K (.ref X_Inside) (.ref X_NoNumber) = some false)
    (xm_Inside_NoMoment : PySem.W.subIn K (.ref X_Inside) (.ref X_NoMoment) = some false)
    (xm_Inside_NoAnswer : PySem.W.subIn K (.ref X_Inside) (.ref X_NoAnswer) = some false)
    (xm_Inside_Halted : PySem.W.subIn K (.ref X_Inside) (.ref X_Halted) = some false)
    (xm_NoNumber_NoTree : PySem.W.subIn K (.ref X_NoNumber) (.ref X_NoTree) = some false)
    (xm_NoNumber_NoJob : PySem.W.subIn K (.ref X_NoNumber) (.ref X_NoJob) = some false)
    (xm_NoNumber_Inside : PySem.W.subIn K (.ref X_NoNumber) (.ref X_Inside) = some false)
    (xm_NoNumber_NoNumber : PySem.W.subIn K (.ref X_NoNumber) (.ref X_NoNumber) = some true)
    (xm_NoNumber_NoMoment : PySem.W.subIn K (.ref X_NoNumber) (.ref X_NoMoment) = some false)
    (xm_NoNumber_NoAnswer : PySem.W.subIn K (.ref X_NoNumber) (.ref X_NoAnswer) = some false)
    (xm_NoNumber_Halted : PySem.W.subIn K (.ref X_NoNumber) (.ref X_Halted) = some false)
    (xm_NoMoment_NoTree : PySem.W.subIn K (.ref X_NoMoment) (.ref X_NoTree) = some false)
    (xm_NoMoment_NoJob : PySem.W.subIn K (.ref X_NoMoment) (.ref X_NoJob) = some false)
    (xm_NoMoment_Inside : PySem.W.subIn K (.ref X_NoMoment) (.ref X_Inside) = some false)
    (xm_NoMoment_NoNumber : PySem.W.subIn K (.ref X_NoMoment) (.ref X_NoNumber) = some false)
    (xm_NoMoment_NoMoment : PySem.W.subIn K (.ref X_NoMoment) (.ref X_NoMoment) = some true)
    (xm_NoMoment_NoAnswer : PySem.W.subIn K (.ref X_NoMoment) (.ref X_NoAnswer) = some false)
    (xm_NoMoment_Halted : PySem.W.subIn K (.ref X_NoMoment) (.ref X_Halted) = some false)
    (xm_NoAnswer_NoTree : PySem.W.subIn K (.ref X_NoAnswer) (.ref X_NoTree) = some false)
    (xm_NoAnswer_NoJob : PySem.W.subIn K (.ref X_NoAnswer) (.ref X_NoJob) = some false)
    (xm_NoAnswer_Inside : PySem.W.subIn K (.ref X_NoAnswer) (.ref X_Inside) = some false)
    (xm_NoAnswer_NoNumber : PySem.W.subIn K (.ref X_NoAnswer) (.ref X_NoNumber) = some false)
    (xm_NoAnswer_NoMoment : PySem.W.subIn K (.ref X_NoAnswer) (.ref X_NoMoment) = some false)
    (xm_NoAnswer_NoAnswer : PySem.W.subIn K (.ref X_NoAnswer) (.ref X_NoAnswer) = some true)
    (xm_NoAnswer_Halted : PySem.W.subIn K (.ref X_NoAnswer) (.ref X_Halted) = some false)
    (xm_Halted_NoTree : PySem.W.subIn K (.ref X_Halted) (.ref X_NoTree) = some false)
    (xm_Halted_NoJob : PySem.W.subIn K (.ref X_Halted) (.ref X_NoJob) = some false)
    (xm_Halted_Inside : PySem.W.subIn K (.ref X_Halted) (.ref X_Inside) = some false)
    (xm_Halted_NoNumber : PySem.W.subIn K (.ref X_Halted) (.ref X_NoNumber) = some false)
    (xm_Halted_NoMoment : PySem.W.subIn K (.ref X_Halted) (.ref X_NoMoment) = some false)
    (xm_Halted_NoAnswer : PySem.W.subIn K (.ref X_Halted) (.ref X_NoAnswer) = some false)
    (xm_Halted_Halted : PySem.W.subIn K (.ref X_Halted) (.ref X_Halted) = some true)
    (n_bool : PySem.W.nsIn K mainGlobals "bool" = some none)
    (n_dict : PySem.W.nsIn K mainGlobals "dict" = some none)
    (n_enumerate : PySem.W.nsIn K mainGlobals "enumerate" = some none)
    (n_int : PySem.W.nsIn K mainGlobals "int" = some none)
    (n_isinstance : PySem.W.nsIn K mainGlobals "isinstance" = some none)
    (n_len : PySem.W.nsIn K mainGlobals "len" = some none)
    (n_max : PySem.W.nsIn K mainGlobals "max" = some none)
    (n_min : PySem.W.nsIn K mainGlobals "min" = some none)
    (n_range : PySem.W.nsIn K mainGlobals "range" = some none)
    (n_sorted : PySem.W.nsIn K mainGlobals "sorted" = some none)
    (n_str : PySem.W.nsIn K mainGlobals "str" = some none)
    (n_sum : PySem.W.nsIn K mainGlobals "sum" = some none)
    (n_tuple : PySem.W.nsIn K mainGlobals "tuple" = some none)
    (g_SIGNS : PySem.W.nsIn K mainGlobals "SIGNS" = some (some (.str "abcdefghijklmnopqrstuvwxyz0123456789" t_SIGNS)))
    (g_MOST_NAME : PySem.W.nsIn K mainGlobals "MOST_NAME" = some (some (.int 8 t_MOST_NAME)))
    (g_MOST_DEEP : PySem.W.nsIn K mainGlobals "MOST_DEEP" = some (some (.int 6 t_MOST_DEEP)))
    (g_MOST_NODES : PySem.W.nsIn K mainGlobals "MOST_NODES" = some (some (.int 60 t_MOST_NODES)))
    (g_MOST_WORTH : PySem.W.nsIn K mainGlobals "MOST_WORTH" = some (some (.int 999 t_MOST_WORTH)))
    (g_MOST_WHEN : PySem.W.nsIn K mainGlobals "MOST_WHEN" = some (some (.int 9999 t_MOST_WHEN)))
    (g_WORDS : PySem.W.nsIn K mainGlobals "WORDS" = some (some (.ref w_WORDS)))
    (l_WORDS : K.lookup w_WORDS = some ⟨.type "tuple", dd_WORDS, .seq #[.str "copy" t_WORDS0, .str "move" t_WORDS1] nn_WORDS, sl_WORDS⟩)
    (g_KINDS : PySem.W.nsIn K mainGlobals "KINDS" = some (some (.ref w_KINDS)))
    (l_KINDS : K.lookup w_KINDS = some ⟨.type "dict", none, .dict es_KINDS nn_KINDS, #[]⟩)
    (y_KINDS : PySem.W.KeysLit w.params es_KINDS.toList)
    (g_KINDS0 : PySem.W.nsIn K w_KINDS "files" = some (some (.ref w_KINDS0)))
    (l_KINDS0 : K.lookup w_KINDS0 = some ⟨.type "tuple", dd_KINDS0, .seq #[.str "skip" t_KINDS0_0, .str "over" t_KINDS0_1, .str "newer" t_KINDS0_2, .str "both" t_KINDS0_3] nn_KINDS0, sl_KINDS0⟩)
    (g_KINDS1 : PySem.W.nsIn K w_KINDS "drawers" = some (some (.ref w_KINDS1)))
    (l_KINDS1 : K.lookup w_KINDS1 = some ⟨.type "tuple", dd_KINDS1, .seq #[.str "skip" t_KINDS1_0, .str "merge" t_KINDS1_1, .str "both" t_KINDS1_2] nn_KINDS1, sl_KINDS1⟩)
    (g_KINDS2 : PySem.W.nsIn K w_KINDS "unlike" = some (some (.ref w_KINDS2)))
    (l_KINDS2 : K.lookup w_KINDS2 = some ⟨.type "tuple", dd_KINDS2, .seq #[.str "skip" t_KINDS2_0, .str "both" t_KINDS2_1] nn_KINDS2, sl_KINDS2⟩)
    (g_MOST_SOURCES : PySem.W.nsIn K mainGlobals "MOST_SOURCES" = some (some (.int 4 t_MOST_SOURCES)))
    : ∃ fd : FuncData, (∀ (s : Shared) (v : Value), BindsTo s fd ⟨[v], []⟩ [("_law_script", v)]) ∧ ∀ base : Heap, K.In base → base.Ns mainGlobals mg → FnOk l.prog w K mg base (L2.CX l.prog w) (2 * 60) fa fd ["_law_script"] (Mini.spLaw K) := by
  have e : fa = a_law := by
    have q := hfa.symm.trans (PySem.W.mg_of X G at_law)
    injection q with q; injection q
  rw [e]
  let A : Ad := ⟨a_is_within, (PySem.W.fnOf "is_within" "is_within" (defArgs s_is_within) (defBody s_is_within) (defScope s_is_within) .none kV_is_within dc_is_within pm_is_within an_is_within cd_is_within ct_is_within), a_is_name, (PySem.W.fnOf "is_name" "is_name" (defArgs s_is_name) (defBody s_is_name) (defScope s_is_name) .none kV_is_name dc_is_name pm_is_name an_is_name cd_is_name ct_is_name), a_is_path, (PySem.W.fnOf "is_path" "is_path" (defArgs s_is_path) (defBody s_is_path) (defScope s_is_path) .none kV_is_path dc_is_path pm_is_path an_is_path cd_is_path ct_is_path), a_is_node, (PySem.W.fnOf "is_node" "is_node" (defArgs s_is_node) (defBody s_is_node) (defScope s_is_node) .none kV_is_node dc_is_node pm_is_node an_is_node cd_is_node ct_is_node), a_are_entries, (PySem.W.fnOf "are_entries" "are_entries" (defArgs s_are_entries) (defBody s_are_entries) (defScope s_are_entries) .none kV_are_entries dc_are_entries pm_are_entries an_are_entries cd_are_entries ct_are_entries), a_node_count, (PySem.W.fnOf "node_count" "node_count" (defArgs s_node_count) (defBody s_node_count) (defScope s_node_count) .none kV_node_count dc_node_count pm_node_count an_node_count cd_node_count ct_node_count), a_node_height, (PySem.W.fnOf "node_height" "node_height" (defArgs s_node_height) (defBody s_node_height) (defScope s_node_height) .none kV_node_height dc_node_height pm_node_height an_node_height cd_node_height ct_node_height), a_is_tree, (PySem.W.fnOf "is_tree" "is_tree" (defArgs s_is_tree) (defBody s_is_tree) (defScope s_is_tree) .none kV_is_tree dc_is_tree pm_is_tree an_is_tree cd_is_tree ct_is_tree), a_look, (PySem.W.fnOf "look" "look" (defArgs s_look) (defBody s_look) (defScope s_look) .none kV_look dc_look pm_look an_look cd_look ct_look), a_found_at, (PySem.W.fnOf "found_at" "found_at" (defArgs s_found_at) (defBody s_found_at) (defScope s_found_at) .none kV_found_at dc_found_at pm_found_at an_found_at cd_found_at ct_found_at), a_with_node, (PySem.W.fnOf "with_node" "with_node" (defArgs s_with_node) (defBody s_with_node) (defScope s_with_node) .none kV_with_node dc_with_node pm_with_node an_with_node cd_with_node ct_with_node), a_is_job, (PySem.W.fnOf "is_job" "is_job" (defArgs s_is_job) (defBody s_is_job) (defScope s_is_job) .none kV_is_job dc_is_job pm_is_job an_is_job cd_is_job ct_is_job), a_look_job, (PySem.W.fnOf "look_job" "look_job" (defArgs s_look_job) (defBody s_look_job) (defScope s_look_job) .none kV_look_job dc_look_job pm_look_job an_look_job cd_look_job ct_look_job), a_is_answer, (PySem.W.fnOf "is_answer" "is_answer" (defArgs s_is_answer) (defBody s_is_answer) (defScope s_is_answer) .none kV_is_answer dc_is_answer pm_is_answer an_is_answer cd_is_answer ct_is_answer), a_kind_of, (PySem.W.fnOf "kind_of" "kind_of" (defArgs s_kind_of) (defBody s_kind_of) (defScope s_kind_of) .none kV_kind_of dc_kind_of pm_kind_of an_kind_of cd_kind_of ct_kind_of), a_free_name, (PySem.W.fnOf "free_name" "free_name" (defArgs s_free_name) (defBody s_free_name) (defScope s_free_name) .none kV_free_name dc_free_name pm_free_name an_free_name cd_free_name ct_free_name), a_Job_init, (PySem.W.fnOf "__init__" "Job.__init__" (defArgs s_Job_init) (defBody s_Job_init) (defScope s_Job_init) .none kV_Job_init dc_Job_init pm_Job_init an_Job_init cd_Job_init ct_Job_init), a_Step_init, (PySem.W.fnOf "__init__" "Step.__init__" (defArgs s_Step_init) (defBody s_Step_init) (defScope s_Step_init) .none kV_Step_init dc_Step_init pm_Step_init an_Step_init cd_Step_init ct_Step_init), a_Step_touches, (PySem.W.fnOf "touches" "Step.touches" (defArgs s_Step_touches) (defBody s_Step_touches) (defScope s_Step_touches) .none kV_Step_touches dc_Step_touches pm_Step_touches an_Step_touches cd_Step_touches ct_Step_touches), a_Carrier_init, (PySem.W.fnOf "__init__" "Carrier.__init__" (defArgs s_Carrier_init) (defBody s_Carrier_init) (defScope s_Carrier_init) .none kV_Carrier_init dc_Carrier_init pm_Carrier_init an_Carrier_init cd_Carrier_init ct_Carrier_init), a_Carrier_whole, (PySem.W.fnOf "whole" "Carrier.whole" (defArgs s_Carrier_whole) (defBody s_Carrier_whole) (defScope s_Carrier_whole) .none kV_Carrier_whole dc_Carrier_whole pm_Carrier_whole an_Carrier_whole cd_Carrier_whole ct_Carrier_whole), a_Carrier_moment, (PySem.W.fnOf "moment" "Carrier.moment" (defArgs s_Carrier_moment) (defBody s_Carrier_moment) (defScope s_Carrier_moment) .none kV_Carrier_moment dc_Carrier_moment pm_Carrier_moment an_Carrier_moment cd_Carrier_moment ct_Carrier_moment), a_Carrier_begin, (PySem.W.fnOf "begin" "Carrier.begin" (defArgs s_Carrier_begin) (defBody s_Carrier_begin) (defScope s_Carrier_begin) .none kV_Carrier_begin dc_Carrier_begin pm_Carrier_begin an_Carrier_begin cd_Carrier_begin ct_Carrier_begin), a_Carrier_job, (PySem.W.fnOf "job" "Carrier.job" (defArgs s_Carrier_job) (defBody s_Carrier_job) (defScope s_Carrier_job) .none kV_Carrier_job dc_Carrier_job pm_Carrier_job an_Carrier_job cd_Carrier_job ct_Carrier_job), a_Carrier_states, (PySem.W.fnOf "states" "Carrier.states" (defArgs s_Carrier_states) (defBody s_Carrier_states) (defScope s_Carrier_states) .none kV_Carrier_states dc_Carrier_states pm_Carrier_states an_Carrier_states cd_Carrier_states ct_Carrier_states), a_Carrier_asked, (PySem.W.fnOf "asked" "Carrier.asked" (defArgs s_Carrier_asked) (defBody s_Carrier_asked) (defScope s_Carrier_asked) .none kV_Carrier_asked dc_Carrier_asked pm_Carrier_asked an_Carrier_asked cd_Carrier_asked ct_Carrier_asked), a_Carrier_journal, (PySem.W.fnOf "journal" "Carrier.journal" (defArgs s_Carrier_journal) (defBody s_Carrier_journal) (defScope s_Carrier_journal) .none kV_Carrier_journal dc_Carrier_journal pm_Carrier_journal an_Carrier_journal cd_Carrier_journal ct_Carrier_journal), a_Carrier_halt, (PySem.W.fnOf "halt" "Carrier.halt" (defArgs s_Carrier_halt) (defBody s_Carrier_halt) (defScope s_Carrier_halt) .none kV_Carrier_halt dc_Carrier_halt pm_Carrier_halt an_Carrier_halt cd_Carrier_halt ct_Carrier_halt), a_Carrier_go_on, (PySem.W.fnOf "go_on" "Carrier.go_on" (defArgs s_Carrier_go_on) (defBody s_Carrier_go_on) (defScope s_Carrier_go_on) .none kV_Carrier_go_on dc_Carrier_go_on pm_Carrier_go_on an_Carrier_go_on cd_Carrier_go_on ct_Carrier_go_on), a_Carrier_answer, (PySem.W.fnOf "answer" "Carrier.answer" (defArgs s_Carrier_answer) (defBody s_Carrier_answer) (defScope s_Carrier_answer) .none kV_Carrier_answer dc_Carrier_answer pm_Carrier_answer an_Carrier_answer cd_Carrier_answer ct_Carrier_answer), a_Carrier_step, (PySem.W.fnOf "step" "Carrier.step" (defArgs s_Carrier_step) (defBody s_Carrier_step) (defScope s_Carrier_step) .none kV_Carrier_step dc_Carrier_step pm_Carrier_step an_Carrier_step cd_Carrier_step ct_Carrier_step), a_Carrier_note, (PySem.W.fnOf "note" "Carrier.note" (defArgs s_Carrier_note) (defBody s_Carrier_note) (defScope s_Carrier_note) .none kV_Carrier_note dc_Carrier_note pm_Carrier_note an_Carrier_note cd_Carrier_note ct_Carrier_note), a_Carrier_change, (PySem.W.fnOf "change" "Carrier.change" (defArgs s_Carrier_change) (defBody s_Carrier_change) (defScope s_Carrier_change) .none kV_Carrier_change dc_Carrier_change pm_Carrier_change an_Carrier_change cd_Carrier_change ct_Carrier_change), a_Carrier_drop, (PySem.W.fnOf "drop" "Carrier.drop" (defArgs s_Carrier_drop) (defBody s_Carrier_drop) (defScope s_Carrier_drop) .none kV_Carrier_drop dc_Carrier_drop pm_Carrier_drop an_Carrier_drop cd_Carrier_drop ct_Carrier_drop), a_Carrier_carry, (PySem.W.fnOf "carry" "Carrier.carry" (defArgs s_Carrier_carry) (defBody s_Carrier_carry) (defScope s_Carrier_carry) .none kV_Carrier_carry dc_Carrier_carry pm_Carrier_carry an_Carrier_carry cd_Carrier_carry ct_Carrier_carry), a_Carrier_settled, (PySem.W.fnOf "settled" "Carrier.settled" (defArgs s_Carrier_settled) (defBody s_Carrier_settled) (defScope s_Carrier_settled) .none kV_Carrier_settled dc_Carrier_settled pm_Carrier_settled an_Carrier_settled cd_Carrier_settled ct_Carrier_settled), a_Carrier_marked, (PySem.W.fnOf "marked" "Carrier.marked" (defArgs s_Carrier_marked) (defBody s_Carrier_marked) (defScope s_Carrier_marked) .none kV_Carrier_marked dc_Carrier_marked pm_Carrier_marked an_Carrier_marked cd_Carrier_marked ct_Carrier_marked), a_Carrier_within, (PySem.W.fnOf "within" "Carrier.within" (defArgs s_Carrier_within) (defBody s_Carrier_within) (defScope s_Carrier_within) .none kV_Carrier_within dc_Carrier_within pm_Carrier_within an_Carrier_within cd_Carrier_within ct_Carrier_within), a_Carrier_placed, (PySem.W.fnOf "placed" "Carrier.placed" (defArgs s_Carrier_placed) (defBody s_Carrier_placed) (defScope s_Carrier_placed) .none kV_Carrier_placed dc_Carrier_placed pm_Carrier_placed an_Carrier_placed cd_Carrier_placed ct_Carrier_placed), a_Carrier_take_back, (PySem.W.fnOf "take_back" "Carrier.take_back" (defArgs s_Carrier_take_back) (defBody s_Carrier_take_back) (defScope s_Carrier_take_back) .none kV_Carrier_take_back dc_Carrier_take_back pm_Carrier_take_back an_Carrier_take_back cd_Carrier_take_back ct_Carrier_take_back), a_carried, (PySem.W.fnOf "carried" "carried" (defArgs s_carried) (defBody s_carried) (defScope s_carried) .none kV_carried dc_carried pm_carried an_carried cd_carried ct_carried), a_law_cell, (PySem.W.fnOf "_law_cell" "_law_cell" (defArgs s_law_cell) (defBody s_law_cell) (defScope s_law_cell) .none kV_law_cell dc_law_cell pm_law_cell an_law_cell cd_law_cell ct_law_cell), a_law_as, (PySem.W.fnOf "_law_as" "_law_as" (defArgs s_law_as) (defBody s_law_as) (defScope s_law_as) .none kV_law_as dc_law_as pm_law_as an_law_as cd_law_as ct_law_as), a_law_is_name, (PySem.W.fnOf "_law_is_name" "_law_is_name" (defArgs s_law_is_name) (defBody s_law_is_name) (defScope s_law_is_name) .none kV_law_is_name dc_law_is_name pm_law_is_name an_law_is_name cd_law_is_name ct_law_is_name), a_law, (PySem.W.fnOf "law" "law" (defArgs s_law) (defBody s_law) (defScope s_law) .none kV_law dc_law pm_law an_law cd_law ct_law), C_Job, C_Step, C_Carrier, X_NoTree, X_NoJob, X_Inside, X_NoNumber, X_NoMoment, X_NoAnswer, X_Halted, (.str "abcdefghijklmnopqrstuvwxyz0123456789" t_SIGNS), (.int 8 t_MOST_NAME), (.int 6 t_MOST_DEEP), (.int 60 t_MOST_NODES), (.int 999 t_MOST_WORTH), (.int 9999 t_MOST_WHEN), w_WORDS, w_KINDS, (.int 4 t_MOST_SOURCES)⟩
  have F_is_within := fun_mk (st := s_is_within) l_is_within cc_is_within k_is_within
  have b_is_within := F_is_within.binds (ps := ["thing", "low", "high"]) fun _ _ _ _ _ _ us hl => match us, hl with | [_, _, _], _ => rfl
  have F_is_name := fun_mk (st := s_is_name) l_is_name cc_is_name k_is_name
  have b_is_name := F_is_name.binds (ps := ["thing"]) fun _ _ _ _ _ _ us hl => match us, hl with | [_], _ => rfl
  have F_is_path := fun_mk (st := s_is_path) l_is_path cc_is_path k_is_path
  have b_is_path := F_is_path.binds (ps := ["thing"]) fun _ _ _ _ _ _ us hl => match us, hl with | [_], _ => rfl
  have F_is_node := fun_mk (st := s_is_node) l_is_node cc_is_node k_is_node
  have b_is_node := F_is_node.binds (ps := ["thing", "deep"]) fun _ _ _ _ _ _ us hl => match us, hl with | [_, _], _ => rfl
  have F_are_entries := fun_mk (st := s_are_entries) l_are_entries cc_are_entries k_are_entries
  have b_are_entries := F_are_entries.binds (ps := ["thing", "deep"]) fun _ _ _ _ _ _ us hl => match us, hl with | [_, _], _ => rfl
  have F_node_count := fun_mk (st := s_node_count) l_node_count cc_node_count k_node_count
  have b_node_count := F_node_count.binds (ps := ["node"]) fun _ _ _ _ _ _ us hl => match us, hl with | [_], _ => rfl
  have F_node_height := fun_mk (st := s_node_height) l_node_height cc_node_height k_node_height
  have b_node_height := F_node_height.binds (ps := ["node"]) fun _ _ _ _ _ _ us hl => match us, hl with | [_], _ => rfl
  have F_is_tree := fun_mk (st := s_is_tree) l_is_tree cc_is_tree k_is_tree
  have b_is_tree := F_is_tree.binds (ps := ["thing"]) fun _ _ _ _ _ _ us hl => match us, hl with | [_], _ => rfl
  have F_look := fun_mk (st := s_look) l_look cc_look k_look
  have b_look := F_look.binds (ps := ["tree"]) fun _ _ _ _ _ _ us hl => match us, hl with | [_], _ => rfl
  have F_found_at := fun_mk (st := s_found_at) l_found_at cc_found_at k_found_at
  have b_found_at := F_found_at.binds (ps := ["node", "path"]) fun _ _ _ _ _ _ us hl => match us, hl with | [_, _], _ => rfl
  have F_with_node := fun_mk (st := s_with_node) l_with_node cc_with_node k_with_node
  have b_with_node := F_with_node.binds (ps := ["node", "path", "new"]) fun _ _ _ _ _ _ us hl => match us, hl with | [_, _, _], _ => rfl
  have F_is_job := fun_mk (st := s_is_job) l_is_job cc_is_job k_is_job
  have b_is_job := F_is_job.binds (ps := ["tree", "thing"]) fun _ _ _ _ _ _ us hl => match us, hl with | [_, _], _ => rfl
  have F_look_job := fun_mk (st := s_look_job) l_look_job cc_look_job k_look_job
  have b_look_job := F_look_job.binds (ps := ["tree", "job"]) fun _ _ _ _ _ _ us hl => match us, hl with | [_, _], _ => rfl
  have F_is_answer := fun_mk (st := s_is_answer) l_is_answer cc_is_answer k_is_answer
  have b_is_answer := F_is_answer.binds (ps := ["kind", "word"]) fun _ _ _ _ _ _ us hl => match us, hl with | [_, _], _ => rfl
  have F_kind_of := fun_mk (st := s_kind_of) l_kind_of cc_kind_of k_kind_of
  have b_kind_of := F_kind_of.binds (ps := ["one", "other"]) fun _ _ _ _ _ _ us hl => match us, hl with | [_, _], _ => rfl
  have F_free_name := fun_mk (st := s_free_name) l_free_name cc_free_name k_free_name
  have b_free_name := F_free_name.binds (ps := ["drawer", "name"]) fun _ _ _ _ _ _ us hl => match us, hl with | [_, _], _ => rfl
  have F_Job_init := fun_mk (st := s_Job_init) l_Job_init cc_Job_init k_Job_init
  have b_Job_init := F_Job_init.binds (ps := ["self", "what"]) fun _ _ _ _ _ _ us hl => match us, hl with | [_, _], _ => rfl
  have F_Step_init := fun_mk (st := s_Step_init) l_Step_init cc_Step_init k_Step_init
  have b_Step_init := F_Step_init.binds (ps := ["self", "number", "told", "before"]) fun _ _ _ _ _ _ us hl => match us, hl with | [_, _, _, _], _ => rfl
  have F_Step_touches := fun_mk (st := s_Step_touches) l_Step_touches cc_Step_touches k_Step_touches
  have b_Step_touches := F_Step_touches.binds (ps := ["self", "other"]) fun _ _ _ _ _ _ us hl => match us, hl with | [_, _], _ => rfl
  have F_Carrier_init := fun_mk (st := s_Carrier_init) l_Carrier_init cc_Carrier_init k_Carrier_init
  have b_Carrier_init := F_Carrier_init.binds (ps := ["self", "tree", "now"]) fun _ _ _ _ _ _ us hl => match us, hl with | [_, _, _], _ => rfl
  have F_Carrier_whole := fun_mk (st := s_Carrier_whole) l_Carrier_whole cc_Carrier_whole k_Carrier_whole
  have b_Carrier_whole := F_Carrier_whole.binds (ps := ["self"]) fun _ _ _ _ _ _ us hl => match us, hl with | [_], _ => rfl
  have F_Carrier_moment := fun_mk (st := s_Carrier_moment) l_Carrier_moment cc_Carrier_moment k_Carrier_moment
  have b_Carrier_moment := F_Carrier_moment.binds (ps := ["self"]) fun _ _ _ _ _ _ us hl => match us, hl with | [_], _ => rfl
  have F_Carrier_begin := fun_mk (st := s_Carrier_begin) l_Carrier_begin cc_Carrier_begin k_Carrier_begin
  have b_Carrier_begin := F_Carrier_begin.binds (ps := ["self", "what"]) fun _ _ _ _ _ _ us hl => match us, hl with | [_, _], _ => rfl
  have F_Carrier_job := fun_mk (st := s_Carrier_job) l_Carrier_job cc_Carrier_job k_Carrier_job
  have b_Carrier_job := F_Carrier_job.binds (ps := ["self", "number"]) fun _ _ _ _ _ _ us hl => match us, hl with | [_, _], _ => rfl
  have F_Carrier_states := fun_mk (st := s_Carrier_states) l_Carrier_states cc_Carrier_states k_Carrier_states
  have b_Carrier_states := F_Carrier_states.binds (ps := ["self"]) fun _ _ _ _ _ _ us hl => match us, hl with | [_], _ => rfl
  have F_Carrier_asked := fun_mk (st := s_Carrier_asked) l_Carrier_asked cc_Carrier_asked k_Carrier_asked
  have b_Carrier_asked := F_Carrier_asked.binds (ps := ["self", "number"]) fun _ _ _ _ _ _ us hl => match us, hl with | [_, _], _ => rfl
  have F_Carrier_journal := fun_mk (st := s_Carrier_journal) l_Carrier_journal cc_Carrier_journal k_Carrier_journal
  have b_Carrier_journal := F_Carrier_journal.binds (ps := ["self"]) fun _ _ _ _ _ _ us hl => match us, hl with | [_], _ => rfl
  have F_Carrier_halt := fun_mk (st := s_Carrier_halt) l_Carrier_halt cc_Carrier_halt k_Carrier_halt
  have b_Carrier_halt := F_Carrier_halt.binds (ps := ["self", "number"]) fun _ _ _ _ _ _ us hl => match us, hl with | [_, _], _ => rfl
  have F_Carrier_go_on := fun_mk (st := s_Carrier_go_on) l_Carrier_go_on cc_Carrier_go_on k_Carrier_go_on
  have b_Carrier_go_on := F_Carrier_go_on.binds (ps := ["self", "number"]) fun _ _ _ _ _ _ us hl => match us, hl with | [_, _], _ => rfl
  have F_Carrier_answer := fun_mk (st := s_Carrier_answer) l_Carrier_answer cc_Carrier_answer k_Carrier_answer
  have b_Carrier_answer := F_Carrier_answer.binds (ps := ["self", "number", "word", "for_all"]) fun _ _ _ _ _ _ us hl => match us, hl with | [_, _, _, _], _ => rfl
  have F_Carrier_step := fun_mk (st := s_Carrier_step) l_Carrier_step cc_Carrier_step k_Carrier_step
  have b_Carrier_step := F_Carrier_step.binds (ps := ["self", "number"]) fun _ _ _ _ _ _ us hl => match us, hl with | [_, _], _ => rfl
  have F_Carrier_note := fun_mk (st := s_Carrier_note) l_Carrier_note cc_Carrier_note k_Carrier_note
  have b_Carrier_note := F_Carrier_note.binds (ps := ["self", "number", "told", "before"]) fun _ _ _ _ _ _ us hl => match us, hl with | [_, _, _, _], _ => rfl
  have F_Carrier_change := fun_mk (st := s_Carrier_change) l_Carrier_change cc_Carrier_change k_Carrier_change
  have b_Carrier_change := F_Carrier_change.binds (ps := ["self", "number", "told", "pairs"]) fun _ _ _ _ _ _ us hl => match us, hl with | [_, _, _, _], _ => rfl
  have F_Carrier_drop := fun_mk (st := s_Carrier_drop) l_Carrier_drop cc_Carrier_drop k_Carrier_drop
  have b_Carrier_drop := F_Carrier_drop.binds (ps := ["self", "number", "path"]) fun _ _ _ _ _ _ us hl => match us, hl with | [_, _, _], _ => rfl
  have F_Carrier_carry := fun_mk (st := s_Carrier_carry) l_Carrier_carry cc_Carrier_carry k_Carrier_carry
  have b_Carrier_carry := F_Carrier_carry.binds (ps := ["self", "number", "source", "goal", "once"]) fun _ _ _ _ _ _ us hl => match us, hl with | [_, _, _, _, _], _ => rfl
  have F_Carrier_settled := fun_mk (st := s_Carrier_settled) l_Carrier_settled cc_Carrier_settled k_Carrier_settled
  have b_Carrier_settled := F_Carrier_settled.binds (ps := ["self", "number", "source", "goal", "word"]) fun _ _ _ _ _ _ us hl => match us, hl with | [_, _, _, _, _], _ => rfl
  have F_Carrier_marked := fun_mk (st := s_Carrier_marked) l_Carrier_marked cc_Carrier_marked k_Carrier_marked
  have b_Carrier_marked := F_Carrier_marked.binds (ps := ["self", "job", "node"]) fun _ _ _ _ _ _ us hl => match us, hl with | [_, _, _], _ => rfl
  have F_Carrier_within := fun_mk (st := s_Carrier_within) l_Carrier_within cc_Carrier_within k_Carrier_within
  have b_Carrier_within := F_Carrier_within.binds (ps := ["self", "job", "source", "goal"]) fun _ _ _ _ _ _ us hl => match us, hl with | [_, _, _, _], _ => rfl
  have F_Carrier_placed := fun_mk (st := s_Carrier_placed) l_Carrier_placed cc_Carrier_placed k_Carrier_placed
  have b_Carrier_placed := F_Carrier_placed.binds (ps := ["self", "number", "source", "goal"]) fun _ _ _ _ _ _ us hl => match us, hl with | [_, _, _, _], _ => rfl
  have F_Carrier_take_back := fun_mk (st := s_Carrier_take_back) l_Carrier_take_back cc_Carrier_take_back k_Carrier_take_back
  have b_Carrier_take_back := F_Carrier_take_back.binds (ps := ["self", "number"]) fun _ _ _ _ _ _ us hl => match us, hl with | [_, _], _ => rfl
  have F_carried := fun_mk (st := s_carried) l_carried cc_carried k_carried
  have b_carried := F_carried.binds (ps := ["tree", "now", "what", "answers"]) fun _ _ _ _ _ _ us hl => match us, hl with | [_, _, _, _], _ => rfl
  have F_law_cell := fun_mk (st := s_law_cell) l_law_cell cc_law_cell k_law_cell
  have b_law_cell := F_law_cell.binds (ps := ["_law_script", "_law_k"]) fun _ _ _ _ _ _ us hl => match us, hl with | [_, _], _ => rfl
  have F_law_as := fun_mk (st := s_law_as) l_law_as cc_law_as k_law_as
  have b_law_as := F_law_as.binds (ps := ["_law_thing", "_law_due"]) fun _ _ _ _ _ _ us hl => match us, hl with | [_, _], _ => rfl
  have F_law_is_name := fun_mk (st := s_law_is_name) l_law_is_name cc_law_is_name k_law_is_name
  have b_law_is_name := F_law_is_name.binds (ps := ["_law_thing"]) fun _ _ _ _ _ _ us hl => match us, hl with | [_], _ => rfl
  have F_law := fun_mk (st := s_law) l_law cc_law k_law
  have b_law := F_law.binds (ps := ["_law_script"]) fun _ _ _ _ _ _ us hl => match us, hl with | [_], _ => rfl
  have K_Job : Cls K C_Job := ⟨pg_Job, hd_Job, po_Job, sa_Job⟩
  have K_Step : Cls K C_Step := ⟨pg_Step, hd_Step, po_Step, sa_Step⟩
  have K_Carrier : Cls K C_Carrier := ⟨pg_Carrier, hd_Carrier, po_Carrier, sa_Carrier⟩
  have tx : Tx K mg w A := {
    u_is_within := F_is_within
    k_is_within := k_is_within
    b_is_within := b_is_within
    g_is_within := PySem.W.mg_of X G at_is_within
    u_is_name := F_is_name
    k_is_name := k_is_name
    b_is_name := b_is_name
    g_is_name := PySem.W.mg_of X G at_is_name
    u_is_path := F_is_path
    k_is_path := k_is_path
    b_is_path := b_is_path
    g_is_path := PySem.W.mg_of X G at_is_path
    u_is_node := F_is_node
    k_is_node := k_is_node
    b_is_node := b_is_node
    g_is_node := PySem.W.mg_of X G at_is_node
    u_are_entries := F_are_entries
    k_are_entries := k_are_entries
    b_are_entries := b_are_entries
    g_are_entries := PySem.W.mg_of X G at_are_entries
    u_node_count := F_node_count
    k_node_count := k_node_count
    b_node_count := b_node_count
    g_node_count := PySem.W.mg_of X G at_node_count
    u_node_height := F_node_height
    k_node_height := k_node_height
    b_node_height := b_node_height
    g_node_height := PySem.W.mg_of X G at_node_height
    u_is_tree := F_is_tree
    k_is_tree := k_is_tree
    b_is_tree := b_is_tree
    g_is_tree := PySem.W.mg_of X G at_is_tree
    u_look := F_look
    k_look := k_look
    b_look := b_look
    g_look := PySem.W.mg_of X G at_look
    u_found_at := F_found_at
    k_found_at := k_found_at
    b_found_at := b_found_at
    g_found_at := PySem.W.mg_of X G at_found_at
    u_with_node := F_with_node
    k_with_node := k_with_node
    b_with_node := b_with_node
    g_with_node := PySem.W.mg_of X G at_with_node
    u_is_job := F_is_job
    k_is_job := k_is_job
    b_is_job := b_is_job
    g_is_job := PySem.W.mg_of X G at_is_job
    u_look_job := F_look_job
    k_look_job := k_look_job
    b_look_job := b_look_job
    g_look_job := PySem.W.mg_of X G at_look_job
    u_is_answer := F_is_answer
    k_is_answer := k_is_answer
    b_is_answer := b_is_answer
    g_is_answer := PySem.W.mg_of X G at_is_answer
    u_kind_of := F_kind_of
    k_kind_of := k_kind_of
    b_kind_of := b_kind_of
    g_kind_of := PySem.W.mg_of X G at_kind_of
    u_free_name := F_free_name
    k_free_name := k_free_name
    b_free_name := b_free_name
    g_free_name := PySem.W.mg_of X G at_free_name
    u_Job_init := F_Job_init
    k_Job_init := k_Job_init
    b_Job_init := b_Job_init
    M_Job := ⟨mk_Job, at_Job_init, is_Job_init, kc_Job⟩
    u_Step_init := F_Step_init
    k_Step_init := k_Step_init
    b_Step_init := b_Step_init
    M_Step := ⟨mk_Step, at_Step_init, is_Step_init, kc_Step⟩
    u_Step_touches := F_Step_touches
    k_Step_touches := k_Step_touches
    b_Step_touches := b_Step_touches
    m_Step_touches := ⟨fun g e => fi_touches g e, rfl, rfl, K_Step, ⟨at_Step_touches, is_Step_touches, k_Step_touches⟩⟩
    u_Carrier_init := F_Carrier_init
    k_Carrier_init := k_Carrier_init
    b_Carrier_init := b_Carrier_init
    M_Carrier := ⟨mk_Carrier, at_Carrier_init, is_Carrier_init, kc_Carrier⟩
    u_Carrier_whole := F_Carrier_whole
    k_Carrier_whole := k_Carrier_whole
    b_Carrier_whole := b_Carrier_whole
    m_Carrier_whole := ⟨fun g e => fi_whole g e, rfl, rfl, K_Carrier, ⟨at_Carrier_whole, is_Carrier_whole, k_Carrier_whole⟩⟩
    u_Carrier_moment := F_Carrier_moment
    k_Carrier_moment := k_Carrier_moment
    b_Carrier_moment := b_Carrier_moment
    m_Carrier_moment := ⟨fun g e => fi_moment g e, rfl, rfl, K_Carrier, ⟨at_Carrier_moment, is_Carrier_moment, k_Carrier_moment⟩⟩
    u_Carrier_begin := F_Carrier_begin
    k_Carrier_begin := k_Carrier_begin
    b_Carrier_begin := b_Carrier_begin
    m_Carrier_begin := ⟨fun g e => fi_begin g e, rfl, rfl, K_Carrier, ⟨at_Carrier_begin, is_Carrier_begin, k_Carrier_begin⟩⟩
    u_Carrier_job := F_Carrier_job
    k_Carrier_job := k_Carrier_job
    b_Carrier_job := b_Carrier_job
    m_Carrier_job := ⟨fun g e => fi_job g e, rfl, rfl, K_Carrier, ⟨at_Carrier_job, is_Carrier_job, k_Carrier_job⟩⟩
    u_Carrier_states := F_Carrier_states
    k_Carrier_states := k_Carrier_states
    b_Carrier_states := b_Carrier_states
    m_Carrier_states := ⟨fun g e => fi_states g e, rfl, rfl, K_Carrier, ⟨at_Carrier_states, is_Carrier_states, k_Carrier_states⟩⟩
    u_Carrier_asked := F_Carrier_asked
    k_Carrier_asked := k_Carrier_asked
    b_Carrier_asked := b_Carrier_asked
    m_Carrier_asked := ⟨fun g e => fi_asked g e, rfl, rfl, K_Carrier, ⟨at_Carrier_asked, is_Carrier_asked, k_Carrier_asked⟩⟩
    u_Carrier_journal := F_Carrier_journal
    k_Carrier_journal := k_Carrier_journal
    b_Carrier_journal := b_Carrier_journal
    m_Carrier_journal := ⟨fun g e => fi_journal g e, rfl, rfl, K_Carrier, ⟨at_Carrier_journal, is_Carrier_journal, k_Carrier_journal⟩⟩
    u_Carrier_halt := F_Carrier_halt
    k_Carrier_halt := k_Carrier_halt
    b_Carrier_halt := b_Carrier_halt
    m_Carrier_halt := ⟨fun g e => fi_halt g e, rfl, rfl, K_Carrier, ⟨at_Carrier_halt, is_Carrier_halt, k_Carrier_halt⟩⟩
    u_Carrier_go_on := F_Carrier_go_on
    k_Carrier_go_on := k_Carrier_go_on
    b_Carrier_go_on := b_Carrier_go_on
    m_Carrier_go_on := ⟨fun g e => fi_go_on g e, rfl, rfl, K_Carrier, ⟨at_Carrier_go_on, is_Carrier_go_on, k_Carrier_go_on⟩⟩
    u_Carrier_answer := F_Carrier_answer
    k_Carrier_answer := k_Carrier_answer
    b_Carrier_answer := b_Carrier_answer
    m_Carrier_answer := ⟨fun g e => fi_answer g e, rfl, rfl, K_Carrier, ⟨at_Carrier_answer, is_Carrier_answer, k_Carrier_answer⟩⟩
    u_Carrier_step := F_Carrier_step
    k_Carrier_step := k_Carrier_step
    b_Carrier_step := b_Carrier_step
    m_Carrier_step := ⟨fun g e => fi_step g e, rfl, rfl, K_Carrier, ⟨at_Carrier_step, is_Carrier_step, k_Carrier_step⟩⟩
    u_Carrier_note := F_Carrier_note
    k_Carrier_note := k_Carrier_note
    b_Carrier_note := b_Carrier_note
    m_Carrier_note := ⟨fun g e => fi_note g e, rfl, rfl, K_Carrier, ⟨at_Carrier_note, is_Carrier_note, k_Carrier_note⟩⟩
    u_Carrier_change := F_Carrier_change
    k_Carrier_change := k_Carrier_change
    b_Carrier_change := b_Carrier_change
    m_Carrier_change := ⟨fun g e => fi_change g e, rfl, rfl, K_Carrier, ⟨at_Carrier_change, is_Carrier_change, k_Carrier_change⟩⟩
    u_Carrier_drop := F_Carrier_drop
    k_Carrier_drop := k_Carrier_drop
    b_Carrier_drop := b_Carrier_drop
    m_Carrier_drop := ⟨fun g e => fi_drop g e, rfl, rfl, K_Carrier, ⟨at_Carrier_drop, is_Carrier_drop, k_Carrier_drop⟩⟩
    u_Carrier_carry := F_Carrier_carry
    k_Carrier_carry := k_Carrier_carry
    b_Carrier_carry := b_Carrier_carry
    m_Carrier_carry := ⟨fun g e => fi_carry g e, rfl, rfl, K_Carrier, ⟨at_Carrier_carry, is_Carrier_carry, k_Carrier_carry⟩⟩
    u_Carrier_settled := F_Carrier_settled
    k_Carrier_settled := k_Carrier_settled
    b_Carrier_settled := b_Carrier_settled
    m_Carrier_settled := ⟨fun g e => fi_settled g e, rfl, rfl, K_Carrier, ⟨at_Carrier_settled, is_Carrier_settled, k_Carrier_settled⟩⟩
    u_Carrier_marked := F_Carrier_marked
    k_Carrier_marked := k_Carrier_marked
    b_Carrier_marked := b_Carrier_marked
    m_Carrier_marked := ⟨fun g e => fi_marked g e, rfl, rfl, K_Carrier, ⟨at_Carrier_marked, is_Carrier_marked, k_Carrier_marked⟩⟩
    u_Carrier_within := F_Carrier_within
    k_Carrier_within := k_Carrier_within
    b_Carrier_within := b_Carrier_within
    m_Carrier_within := ⟨fun g e => fi_within g e, rfl, rfl, K_Carrier, ⟨at_Carrier_within, is_Carrier_within, k_Carrier_within⟩⟩
    u_Carrier_placed := F_Carrier_placed
    k_Carrier_placed := k_Carrier_placed
    b_Carrier_placed := b_Carrier_placed
    m_Carrier_placed := ⟨fun g e => fi_placed g e, rfl, rfl, K_Carrier, ⟨at_Carrier_placed, is_Carrier_placed, k_Carrier_placed⟩⟩
    u_Carrier_take_back := F_Carrier_take_back
    k_Carrier_take_back := k_Carrier_take_back
    b_Carrier_take_back := b_Carrier_take_back
    m_Carrier_take_back := ⟨fun g e => fi_take_back g e, rfl, rfl, K_Carrier, ⟨at_Carrier_take_back, is_Carrier_take_back, k_Carrier_take_back⟩⟩
    u_carried := F_carried
    k_carried := k_carried
    b_carried := b_carried
    g_carried := PySem.W.mg_of X G at_carried
    u_law_cell := F_law_cell
    k_law_cell := k_law_cell
    b_law_cell := b_law_cell
    g_law_cell := PySem.W.mg_of X G at_law_cell
    u_law_as := F_law_as
    k_law_as := k_law_as
    b_law_as := b_law_as
    g_law_as := PySem.W.mg_of X G at_law_as
    u_law_is_name := F_law_is_name
    k_law_is_name := k_law_is_name
    b_law_is_name := b_law_is_name
    g_law_is_name := PySem.W.mg_of X G at_law_is_name
    u_law := F_law
    k_law := k_law
    b_law := b_law
    g_law := PySem.W.mg_of X G at_law
    c_Job := PySem.W.mg_of X G aC_Job
    c_Step := PySem.W.mg_of X G aC_Step
    c_Carrier := PySem.W.mg_of X G aC_Carrier
    f_answers := ⟨fun g e => fi_answers g e, fun c C hc => by
      rcases cls_cases A hc with ⟨rfl, rfl⟩ | ⟨rfl, rfl⟩ | ⟨rfl, rfl⟩
      · exact ⟨K_Job, no_Job_answers⟩
      · exact ⟨K_Step, no_Step_answers⟩
      · exact ⟨K_Carrier, no_Carrier_answers⟩⟩
    f_ask := ⟨fun g e => fi_ask g e, fun c C hc => by
      rcases cls_cases A hc with ⟨rfl, rfl⟩ | ⟨rfl, rfl⟩ | ⟨rfl, rfl⟩
      · exact ⟨K_Job, no_Job_ask⟩
      · exact ⟨K_Step, no_Step_ask⟩
      · exact ⟨K_Carrier, no_Carrier_ask⟩⟩
    f_before := ⟨fun g e => fi_before g e, fun c C hc => by
      rcases cls_cases A hc with ⟨rfl, rfl⟩ | ⟨rfl, rfl⟩ | ⟨rfl, rfl⟩
      · exact ⟨K_Job, no_Job_before⟩
      · exact ⟨K_Step, no_Step_before⟩
      · exact ⟨K_Carrier, no_Carrier_before⟩⟩
    f_jobs := ⟨fun g e => fi_jobs g e, fun c C hc => by
      rcases cls_cases A hc with ⟨rfl, rfl⟩ | ⟨rfl, rfl⟩ | ⟨rfl, rfl⟩
      · exact ⟨K_Job, no_Job_jobs⟩
      · exact ⟨K_Step, no_Step_jobs⟩
      · exact ⟨K_Carrier, no_Carrier_jobs⟩⟩
    f_left := ⟨fun g e => fi_left g e, fun c C hc => by
      rcases cls_cases A hc with ⟨rfl, rfl⟩ | ⟨rfl, rfl⟩ | ⟨rfl, rfl⟩
      · exact ⟨K_Job, no_Job_left⟩
      · exact ⟨K_Step, no_Step_left⟩
      · exact ⟨K_Carrier, no_Carrier_left⟩⟩
    f_now := ⟨fun g e => fi_now g e, fun c C hc => by
      rcases cls_cases A hc with ⟨rfl, rfl⟩ | ⟨rfl, rfl⟩ | ⟨rfl, rfl⟩
      · exact ⟨K_Job, no_Job_now⟩
      · exact ⟨K_Step, no_Step_now⟩
      · exact ⟨K_Carrier, no_Carrier_now⟩⟩
    f_number := ⟨fun g e => fi_number g e, fun c C hc => by
      rcases cls_cases A hc with ⟨rfl, rfl⟩ | ⟨rfl, rfl⟩ | ⟨rfl, rfl⟩
      · exact ⟨K_Job, no_Job_number⟩
      · exact ⟨K_Step, no_Step_number⟩
      · exact ⟨K_Carrier, no_Carrier_number⟩⟩
    f_once := ⟨fun g e => fi_once g e, fun c C hc => by
      rcases cls_cases A hc with ⟨rfl, rfl⟩ | ⟨rfl, rfl⟩ | ⟨rfl, rfl⟩
      · exact ⟨K_Job, no_Job_once⟩
      · exact ⟨K_Step, no_Step_once⟩
      · exact ⟨K_Carrier, no_Carrier_once⟩⟩
    f_steps := ⟨fun g e => fi_steps g e, fun c C hc => by
      rcases cls_cases A hc with ⟨rfl, rfl⟩ | ⟨rfl, rfl⟩ | ⟨rfl, rfl⟩
      · exact ⟨K_Job, no_Job_steps⟩
      · exact ⟨K_Step, no_Step_steps⟩
      · exact ⟨K_Carrier, no_Carrier_steps⟩⟩
    f_told := ⟨fun g e => fi_told g e, fun c C hc => by
      rcases cls_cases A hc with ⟨rfl, rfl⟩ | ⟨rfl, rfl⟩ | ⟨rfl, rfl⟩
      · exact ⟨K_Job, no_Job_told⟩
      · exact ⟨K_Step, no_Step_told⟩
      · exact ⟨K_Carrier, no_Carrier_told⟩⟩
    f_tree := ⟨fun g e => fi_tree g e, fun c C hc => by
      rcases cls_cases A hc with ⟨rfl, rfl⟩ | ⟨rfl, rfl⟩ | ⟨rfl, rfl⟩
      · exact ⟨K_Job, no_Job_tree⟩
      · exact ⟨K_Step, no_Step_tree⟩
      · exact ⟨K_Carrier, no_Carrier_tree⟩⟩
    f_what := ⟨fun g e => fi_what g e, fun c C hc => by
      rcases cls_cases A hc with ⟨rfl, rfl⟩ | ⟨rfl, rfl⟩ | ⟨rfl, rfl⟩
      · exact ⟨K_Job, no_Job_what⟩
      · exact ⟨K_Step, no_Step_what⟩
      · exact ⟨K_Carrier, no_Carrier_what⟩⟩
    f_word := ⟨fun g e => fi_word g e, fun c C hc => by
      rcases cls_cases A hc with ⟨rfl, rfl⟩ | ⟨rfl, rfl⟩ | ⟨rfl, rfl⟩
      · exact ⟨K_Job, no_Job_word⟩
      · exact ⟨K_Step, no_Step_word⟩
      · exact ⟨K_Carrier, no_Carrier_word⟩⟩
    n_bool := PySem.W.mg_none_of X G n_bool
    n_dict := PySem.W.mg_none_of X G n_dict
    n_enumerate := PySem.W.mg_none_of X G n_enumerate
    n_int := PySem.W.mg_none_of X G n_int
    n_isinstance := PySem.W.mg_none_of X G n_isinstance
    n_len := PySem.W.mg_none_of X G n_len
    n_max := PySem.W.mg_none_of X G n_max
    n_min := PySem.W.mg_none_of X G n_min
    n_range := PySem.W.mg_none_of X G n_range
    n_sorted := PySem.W.mg_none_of X G n_sorted
    n_str := PySem.W.mg_none_of X G n_str
    n_sum := PySem.W.mg_none_of X G n_sum
    n_tuple := PySem.W.mg_none_of X G n_tuple
    x_NoTree := ⟨rfl, eX_NoTree, PySem.W.mg_of X G aX_NoTree, kX_NoTree, sX_NoTree, tX_NoTree⟩
    x_NoJob := ⟨rfl, eX_NoJob, PySem.W.mg_of X G aX_NoJob, kX_NoJob, sX_NoJob, tX_NoJob⟩
    x_Inside := ⟨rfl, eX_Inside, PySem.W.mg_of X G aX_Inside, kX_Inside, sX_Inside, tX_Inside⟩
    x_NoNumber := ⟨rfl, eX_NoNumber, PySem.W.mg_of X G aX_NoNumber, kX_NoNumber, sX_NoNumber, tX_NoNumber⟩
    x_NoMoment := ⟨rfl, eX_NoMoment, PySem.W.mg_of X G aX_NoMoment, kX_NoMoment, sX_NoMoment, tX_NoMoment⟩
    x_NoAnswer := ⟨rfl, eX_NoAnswer, PySem.W.mg_of X G aX_NoAnswer, kX_NoAnswer, sX_NoAnswer, tX_NoAnswer⟩
    x_Halted := ⟨rfl, eX_Halted, PySem.W.mg_of X G aX_Halted, kX_Halted, sX_Halted, tX_Halted⟩
    apart := fun c c' C C' h1 h2 => by
      rcases exc_cases A h1 with ⟨rfl, rfl⟩ | ⟨rfl, rfl⟩ | ⟨rfl, rfl⟩ | ⟨rfl, rfl⟩ | ⟨rfl, rfl⟩ | ⟨rfl, rfl⟩ | ⟨rfl, rfl⟩
      · rcases exc_cases A h2 with ⟨rfl, rfl⟩ | ⟨rfl, rfl⟩ | ⟨rfl, rfl⟩ | ⟨rfl, rfl⟩ | ⟨rfl, rfl⟩ | ⟨rfl, rfl⟩ | ⟨rfl, rfl⟩
        · exact exm_gen sX_NoTree iX_NoTree tX_NoTree xm_NoTree_NoTree
        · exact exm_gen sX_NoJob iX_NoJob tX_NoJob xm_NoTree_NoJob
        · exact exm_gen sX_Inside iX_Inside tX_Inside xm_NoTree_Inside
        · exact exm_gen sX_NoNumber iX_NoNumber tX_NoNumber xm_NoTree_NoNumber
        · exact exm_gen sX_NoMoment iX_NoMoment tX_NoMoment xm_NoTree_NoMoment
        · exact exm_gen sX_NoAnswer iX_NoAnswer tX_NoAnswer xm_NoTree_NoAnswer
        · exact exm_gen sX_Halted iX_Halted tX_Halted xm_NoTree_Halted
      · rcases exc_cases A h2 with ⟨rfl, rfl⟩ | ⟨rfl, rfl⟩ | ⟨rfl, rfl⟩ | ⟨rfl, rfl⟩ | ⟨rfl, rfl⟩ | ⟨rfl, rfl⟩ | ⟨rfl, rfl⟩
        · exact exm_gen sX_NoTree iX_NoTree tX_NoTree xm_NoJob_NoTree
        · exact exm_gen sX_NoJob iX_NoJob tX_NoJob xm_NoJob_NoJob
        · exact exm_gen sX_Inside iX_Inside tX_Inside xm_NoJob_Inside
        · exact exm_gen sX_NoNumber iX_NoNumber tX_NoNumber xm_NoJob_NoNumber
        · exact exm_gen sX_NoMoment iX_NoMoment tX_NoMoment xm_NoJob_NoMoment
        · exact exm_gen sX_NoAnswer iX_NoAnswer tX_NoAnswer xm_NoJob_NoAnswer
        · exact exm_gen sX_Halted iX_Halted tX_Halted xm_NoJob_Halted
      · rcases exc_cases A h2 with ⟨rfl, rfl⟩ | ⟨rfl, rfl⟩ | ⟨rfl, rfl⟩ | ⟨rfl, rfl⟩ | ⟨rfl, rfl⟩ | ⟨rfl, rfl⟩ | ⟨rfl, rfl⟩
        · exact exm_gen sX_NoTree iX_NoTree tX_NoTree xm_Inside_NoTree
        · exact exm_gen sX_NoJob iX_NoJob tX_NoJob xm_Inside_NoJob
        · exact exm_gen sX_Inside iX_Inside tX_Inside xm_Inside_Inside
        · exact exm_gen sX_NoNumber iX_NoNumber tX_NoNumber xm_Inside_NoNumber
        · exact exm_gen sX_NoMoment iX_NoMoment tX_NoMoment xm_Inside_NoMoment
        · exact exm_gen sX_NoAnswer iX_NoAnswer tX_NoAnswer xm_Inside_NoAnswer
        · exact exm_gen sX_Halted iX_Halted tX_Halted xm_Inside_Halted
      · rcases exc_cases A h2 with ⟨rfl, rfl⟩ | ⟨rfl, rfl⟩ | ⟨rfl, rfl⟩ | ⟨rfl, rfl⟩ | ⟨rfl, rfl⟩ | ⟨rfl, rfl⟩ | ⟨rfl, rfl⟩
        · exact exm_gen sX_NoTree iX_NoTree tX_NoTree xm_NoNumber_NoTree
        · exact exm_gen sX_NoJob iX_NoJob tX_NoJob xm_NoNumber_NoJob
        · exact exm_gen sX_Inside iX_Inside tX_Inside xm_NoNumber_Inside
        · exact exm_gen sX_NoNumber iX_NoNumber tX_NoNumber xm_NoNumber_NoNumber
        · exact exm_gen sX_NoMoment iX_NoMoment tX_NoMoment xm_NoNumber_NoMoment
        · exact exm_gen sX_NoAnswer iX_NoAnswer tX_NoAnswer xm_NoNumber_NoAnswer
        · exact exm_gen sX_Halted iX_Halted tX_Halted xm_NoNumber_Halted
      · rcases exc_cases A h2 with ⟨rfl, rfl⟩ | ⟨rfl, rfl⟩ | ⟨rfl, rfl⟩ | ⟨rfl, rfl⟩ | ⟨rfl, rfl⟩ | ⟨rfl, rfl⟩ | ⟨rfl, rfl⟩
        · exact exm_gen sX_NoTree iX_NoTree tX_NoTree xm_NoMoment_NoTree
        · exact exm_gen sX_NoJob iX_NoJob tX_NoJob xm_NoMoment_NoJob
        · exact exm_gen sX_Inside iX_Inside tX_Inside xm_NoMoment_Inside
        · exact exm_gen sX_NoNumber iX_NoNumber tX_NoNumber xm_NoMoment_NoNumber
        · exact exm_gen sX_NoMoment iX_NoMoment tX_NoMoment xm_NoMoment_NoMoment
        · exact exm_gen sX_NoAnswer iX_NoAnswer tX_NoAnswer xm_NoMoment_NoAnswer
        · exact exm_gen sX_Halted iX_Halted tX_Halted xm_NoMoment_Halted
      · rcases exc_cases A h2 with ⟨rfl, rfl⟩ | ⟨rfl, rfl⟩ | ⟨rfl, rfl⟩ | ⟨rfl, rfl⟩ | ⟨rfl, rfl⟩ | ⟨rfl, rfl⟩ | ⟨rfl, rfl⟩
        · exact exm_gen sX_NoTree iX_NoTree tX_NoTree xm_NoAnswer_NoTree
        · exact exm_gen sX_NoJob iX_NoJob tX_NoJob xm_NoAnswer_NoJob
        · exact exm_gen sX_Inside iX_Inside tX_Inside xm_NoAnswer_Inside
        · exact exm_gen sX_NoNumber iX_NoNumber tX_NoNumber xm_NoAnswer_NoNumber
        · exact exm_gen sX_NoMoment iX_NoMoment tX_NoMoment xm_NoAnswer_NoMoment
        · exact exm_gen sX_NoAnswer iX_NoAnswer tX_NoAnswer xm_NoAnswer_NoAnswer
        · exact exm_gen sX_Halted iX_Halted tX_Halted xm_NoAnswer_Halted
      · rcases exc_cases A h2 with ⟨rfl, rfl⟩ | ⟨rfl, rfl⟩ | ⟨rfl, rfl⟩ | ⟨rfl, rfl⟩ | ⟨rfl, rfl⟩ | ⟨rfl, rfl⟩ | ⟨rfl, rfl⟩
        · exact exm_gen sX_NoTree iX_NoTree tX_NoTree xm_Halted_NoTree
        · exact exm_gen sX_NoJob iX_NoJob tX_NoJob xm_Halted_NoJob
        · exact exm_gen sX_Inside iX_Inside tX_Inside xm_Halted_Inside
        · exact exm_gen sX_NoNumber iX_NoNumber tX_NoNumber xm_Halted_NoNumber
        · exact exm_gen sX_NoMoment iX_NoMoment tX_NoMoment xm_Halted_NoMoment
        · exact exm_gen sX_NoAnswer iX_NoAnswer tX_NoAnswer xm_Halted_NoAnswer
        · exact exm_gen sX_Halted iX_Halted tX_Halted xm_Halted_Halted
    g_SIGNS := PySem.W.mg_of X G g_SIGNS
    v_SIGNS := vr_str (by decide +kernel)
    r_SIGNS := ⟨_, rfl⟩
    g_MOST_NAME := PySem.W.mg_of X G g_MOST_NAME
    v_MOST_NAME := vr_int
    r_MOST_NAME := ⟨_, rfl⟩
    g_MOST_DEEP := PySem.W.mg_of X G g_MOST_DEEP
    v_MOST_DEEP := vr_int
    r_MOST_DEEP := ⟨_, rfl⟩
    g_MOST_NODES := PySem.W.mg_of X G g_MOST_NODES
    v_MOST_NODES := vr_int
    r_MOST_NODES := ⟨_, rfl⟩
    g_MOST_WORTH := PySem.W.mg_of X G g_MOST_WORTH
    v_MOST_WORTH := vr_int
    r_MOST_WORTH := ⟨_, rfl⟩
    g_MOST_WHEN := PySem.W.mg_of X G g_MOST_WHEN
    v_MOST_WHEN := vr_int
    r_MOST_WHEN := ⟨_, rfl⟩
    g_WORDS := PySem.W.mg_of X G g_WORDS
    v_WORDS := vr_ktup l_WORDS (show 2 ≤ sizeLine by rw [sizeLine_eq]; decide) (.cons ⟨_, rfl⟩ (.cons ⟨_, rfl⟩ (.nil))) (by decide +kernel)
    r_WORDS := rfl
    g_KINDS := PySem.W.mg_of X G g_KINDS
    v_KINDS := fun z d e => by
      by_cases h_KINDS0 : z = "files"
      · subst h_KINDS0
        have e2 : d = .ktup ((["skip", "over", "newer", "both"] : List Str).map D.str) := by
          have : lookK (([[.inr "files"], [.inr "drawers"], [.inr "unlike"]] : List (List Key)).zip ([(.ktup ((["skip", "over", "newer", "both"] : List Str).map D.str)), (.ktup ((["skip", "merge", "both"] : List Str).map D.str)), (.ktup ((["skip", "both"] : List Str).map D.str))] : List D)) [.inr "files"] = some (.ktup ((["skip", "over", "newer", "both"] : List Str).map D.str)) := by rfl
          exact Option.some.inj (e.symm.trans this)
        subst e2
        exact ⟨.ref w_KINDS0, ⟨_, _, _, l_KINDS, y_KINDS, g_KINDS0, rfl⟩, vr_ktup l_KINDS0 (show 4 ≤ sizeLine by rw [sizeLine_eq]; decide) (.cons ⟨_, rfl⟩ (.cons ⟨_, rfl⟩ (.cons ⟨_, rfl⟩ (.cons ⟨_, rfl⟩ (.nil))))) (by decide +kernel)⟩
      by_cases h_KINDS1 : z = "drawers"
      · subst h_KINDS1
        have e2 : d = .ktup ((["skip", "merge", "both"] : List Str).map D.str) := by
          have : lookK (([[.inr "files"], [.inr "drawers"], [.inr "unlike"]] : List (List Key)).zip ([(.ktup ((["skip", "over", "newer", "both"] : List Str).map D.str)), (.ktup ((["skip", "merge", "both"] : List Str).map D.str)), (.ktup ((["skip", "both"] : List Str).map D.str))] : List D)) [.inr "drawers"] = some (.ktup ((["skip", "merge", "both"] : List Str).map D.str)) := by rfl
          exact Option.some.inj (e.symm.trans this)
        subst e2
        exact ⟨.ref w_KINDS1, ⟨_, _, _, l_KINDS, y_KINDS, g_KINDS1, rfl⟩, vr_ktup l_KINDS1 (show 3 ≤ sizeLine by rw [sizeLine_eq]; decide) (.cons ⟨_, rfl⟩ (.cons ⟨_, rfl⟩ (.cons ⟨_, rfl⟩ (.nil)))) (by decide +kernel)⟩
      by_cases h_KINDS2 : z = "unlike"
      · subst h_KINDS2
        have e2 : d = .ktup ((["skip", "both"] : List Str).map D.str) := by
          have : lookK (([[.inr "files"], [.inr "drawers"], [.inr "unlike"]] : List (List Key)).zip ([(.ktup ((["skip", "over", "newer", "both"] : List Str).map D.str)), (.ktup ((["skip", "merge", "both"] : List Str).map D.str)), (.ktup ((["skip", "both"] : List Str).map D.str))] : List D)) [.inr "unlike"] = some (.ktup ((["skip", "both"] : List Str).map D.str)) := by rfl
          exact Option.some.inj (e.symm.trans this)
        subst e2
        exact ⟨.ref w_KINDS2, ⟨_, _, _, l_KINDS, y_KINDS, g_KINDS2, rfl⟩, vr_ktup l_KINDS2 (show 2 ≤ sizeLine by rw [sizeLine_eq]; decide) (.cons ⟨_, rfl⟩ (.cons ⟨_, rfl⟩ (.nil))) (by decide +kernel)⟩
      exfalso
      have g_KINDS0 := fun q => h_KINDS0 (Eq.symm q)
      have g_KINDS1 := fun q => h_KINDS1 (Eq.symm q)
      have g_KINDS2 := fun q => h_KINDS2 (Eq.symm q)
      have hn : ((([[.inr "files"], [.inr "drawers"], [.inr "unlike"]] : List (List Key)).zip ([(.ktup ((["skip", "over", "newer", "both"] : List Str).map D.str)), (.ktup ((["skip", "merge", "both"] : List Str).map D.str)), (.ktup ((["skip", "both"] : List Str).map D.str))] : List D)).find? fun kv => decide (kv.1 = [.inr z])) = none := List.find?_eq_none.mpr fun x hx => by
        simp only [List.zip_cons_cons, List.zip_nil_right, List.mem_cons, List.not_mem_nil, or_false] at hx
        rcases hx with rfl | rfl | rfl
        · exact fun q => g_KINDS0 (by have q := of_decide_eq_true q; injection q with q _; injection q)
        · exact fun q => g_KINDS1 (by have q := of_decide_eq_true q; injection q with q _; injection q)
        · exact fun q => g_KINDS2 (by have q := of_decide_eq_true q; injection q with q _; injection q)
      unfold lookK at e
      rw [hn] at e
      cases e
    g_MOST_SOURCES := PySem.W.mg_of X G g_MOST_SOURCES
    v_MOST_SOURCES := vr_int
    r_MOST_SOURCES := ⟨_, rfl⟩
  }
  exact ⟨A.d_law, fun s v => .of_eq rfl, fun base _ _ => by
    have h0 := ((gd_all (P := l.prog) (base := base) tx 60).F_law).imp fun vs H Q E q => law_sp law_true vs H Q E q
    exact h0⟩
end
end Mini
open PySem PySem.W PyProof.Rows
set_option maxRecDepth 100000 in
set_option maxHeartbeats 0 in
theorem PySem.Challenge.cw_treecarry_k16_at_the_edges_holds : PySem.Challenge.rw_treecarry_k16_at_the_edges.Holds := by
  w_on; o_law; k_head; (case hw => w_witness2)
  k_fill
  refine L2.walk_of (l := PySem.Challenge.rw_treecarry_k16_at_the_edges) (n := 63) (k := 2 * 60) (x := "_law_script") (CX := fun w => L2.CX PySem.Challenge.rw_treecarry_k16_at_the_edges.prog w) (sp := fun w => Mini.spLaw (_)) rfl (by decide) rfl ⟨rfl, by decide, by decide⟩ (fun w h Y => PySem.W.kIn_of Y) ?F (fun _ _ a ns hl _ hS => ⟨a, ns, rfl, hS, hl, fun _ => rfl⟩) (fun _ _ _ _ _ z => by obtain ⟨_, _, _, _, _, _, _, _, _, _, _, _, z⟩ := z; exact z)
  case F =>
    intro w mg fa h KX G hmg
    refine' Mini.all_mk KX G hmg ?aC_Job ?pg_Job ?hd_Job ?po_Job ?sa_Job ?mk_Job ?kc_Job ?no_Job_answers ?no_Job_ask ?no_Job_before ?no_Job_jobs ?no_Job_left ?no_Job_now ?no_Job_number ?no_Job_once ?no_Job_steps ?no_Job_told ?no_Job_tree ?no_Job_what ?no_Job_word ?aC_Step ?pg_Step ?hd_Step ?po_Step ?sa_Step ?mk_Step ?kc_Step ?no_Step_answers ?no_Step_ask ?no_Step_before ?no_Step_jobs ?no_Step_left ?no_Step_now ?no_Step_number ?no_Step_once ?no_Step_steps ?no_Step_told ?no_Step_tree ?no_Step_what ?no_Step_word ?aC_Carrier ?pg_Carrier ?hd_Carrier ?po_Carrier ?sa_Carrier ?mk_Carrier ?kc_Carrier ?no_Carrier_answers ?no_Carrier_ask ?no_Carrier_before ?no_Carrier_jobs ?no_Carrier_left ?no_Carrier_now ?no_Carrier_number ?no_Carrier_once ?no_Carrier_steps ?no_Carrier_told ?no_Carrier_tree ?no_Carrier_what ?no_Carrier_word ?at_is_within ?l_is_within ?cc_is_within ?k_is_within ?at_is_name ?l_is_name ?cc_is_name ?k_is_name ?at_is_path ?l_is_path ?cc_is_path ?k_is_path ?at_is_node ?l_is_node ?cc_is_node ?k_is_node ?at_are_entries ?l_are_entries ?cc_are_entries ?k_are_entries ?at_node_count ?l_node_count ?cc_node_count ?k_node_count ?at_node_height ?l_node_height ?cc_node_height ?k_node_height ?at_is_tree ?l_is_tree ?cc_is_tree ?k_is_tree ?at_look ?l_look ?cc_look ?k_look ?at_found_at ?l_found_at ?cc_found_at ?k_found_at ?at_with_node ?l_with_node ?cc_with_node ?k_with_node ?at_is_job ?l_is_job ?cc_is_job ?k_is_job ?at_look_job ?l_look_job ?cc_look_job ?k_look_job ?at_is_answer ?l_is_answer ?cc_is_answer ?k_is_answer ?at_kind_of ?l_kind_of ?cc_kind_of ?k_kind_of ?at_free_name ?l_free_name ?cc_free_name ?k_free_name ?at_Job_init ?is_Job_init ?l_Job_init ?cc_Job_init ?k_Job_init ?at_Step_init ?is_Step_init ?l_Step_init ?cc_Step_init ?k_Step_init ?at_Step_touches ?is_Step_touches ?l_Step_touches ?cc_Step_touches ?k_Step_touches ?at_Carrier_init ?is_Carrier_init ?l_Carrier_init ?cc_Carrier_init ?k_Carrier_init ?at_Carrier_whole ?is_Carrier_whole ?l_Carrier_whole ?cc_Carrier_whole ?k_Carrier_whole ?at_Carrier_moment ?is_Carrier_moment ?l_Carrier_moment ?cc_Carrier_moment ?k_Carrier_moment ?at_Carrier_begin ?is_Carrier_begin ?l_Carrier_begin ?cc_Carrier_begin ?k_Carrier_begin ?at_Carrier_job ?is_Carrier_job ?l_Carrier_job ?cc_Carrier_job ?k_Carrier_job ?at_Carrier_states ?is_Carrier_states ?l_Carrier_states ?cc_Carrier_states ?k_Carrier_states ?at_Carrier_asked ?is_Carrier_asked ?l_Carrier_asked ?cc_Carrier_asked ?k_Carrier_asked ?at_Carrier_journal ?is_Carrier_journal ?l_Carrier_journal ?cc_Carrier_journal ?k_Carrier_journal ?at_Carrier_halt ?is_Carrier_halt ?l_Carrier_halt ?cc_Carrier_halt ?k_Carrier_halt ?at_Carrier_go_on ?is_Carrier_go_on ?l_Carrier_go_on ?cc_Carrier_go_on ?k_Carrier_go_on ?at_Carrier_answer ?is_Carrier_answer ?l_Carrier_answer ?cc_Carrier_answer ?k_Carrier_answer ?at_Carrier_step ?is_Carrier_step ?l_Carrier_step ?cc_Carrier_step ?k_Carrier_step ?at_Carrier_note ?is_Carrier_note ?l_Carrier_note ?cc_Carrier_note ?k_Carrier_note ?at_Carrier_change ?is_Carrier_change ?l_Carrier_change ?cc_Carrier_change ?k_Carrier_change ?at_Carrier_drop ?is_Carrier_drop ?l_Carrier_drop ?cc_Carrier_drop ?k_Carrier_drop ?at_Carrier_carry ?is_Carrier_carry ?l_Carrier_carry ?cc_Carrier_carry ?k_Carrier_carry ?at_Carrier_settled ?is_Carrier_settled ?l_Carrier_settled ?cc_Carrier_settled ?k_Carrier_settled ?at_Carrier_marked ?is_Carrier_marked ?l_Carrier_marked ?cc_Carrier_marked ?k_Carrier_marked ?at_Carrier_within ?is_Carrier_within ?l_Carrier_within ?cc_Carrier_within ?k_Carrier_within ?at_Carrier_placed ?is_Carrier_placed ?l_Carrier_placed ?cc_Carrier_placed ?k_Carrier_placed ?at_Carrier_take_back ?is_Carrier_take_back ?l_Carrier_take_back ?cc_Carrier_take_back ?k_Carrier_take_back ?at_carried ?l_carried ?cc_carried ?k_carried ?at_law_cell ?l_law_cell ?cc_law_cell ?k_law_cell ?at_law_as ?l_law_as ?cc_law_as ?k_law_as ?at_law_is_name ?l_law_is_name ?cc_law_is_name ?k_law_is_name ?at_law ?l_law ?cc_law ?k_law ?aX_NoTree ?eX_NoTree ?kX_NoTree ?sX_NoTree ?iX_NoTree ?tX_NoTree ?aX_NoJob ?eX_NoJob ?kX_NoJob ?sX_NoJob ?iX_NoJob ?tX_NoJob ?aX_Inside ?eX_Inside ?kX_Inside ?sX_Inside ?iX_Inside ?tX_Inside ?aX_NoNumber ?eX_NoNumber ?kX_NoNumber ?sX_NoNumber ?iX_NoNumber ?tX_NoNumber ?aX_NoMoment ?eX_NoMoment ?kX_NoMoment ?sX_NoMoment ?iX_NoMoment ?tX_NoMoment ?aX_NoAnswer ?eX_NoAnswer ?kX_NoAnswer ?sX_NoAnswer ?iX_NoAnswer ?tX_NoAnswer ?aX_Halted ?eX_Halted ?kX_Halted ?sX_Halted ?iX_Halted ?tX_Halted ?xm_NoTree_NoTree ?xm_NoTree_NoJob ?xm_NoTree_Inside ?xm_NoTree_NoNumber ?xm_NoTree_NoMoment ?xm_NoTree_NoAnswer ?xm_NoTree_Halted ?xm_NoJob_NoTree ?xm_NoJob_NoJob ?xm_NoJob_Inside ?xm_NoJob_NoNumber ?xm_NoJob_NoMoment ?xm_NoJob_NoAnswer ?xm_NoJob_Halted ?xm_Inside_NoTree ?xm_Inside_NoJob ?xm_Inside_Inside ?xm_Inside_NoNumber ?xm_Inside_NoMoment ?xm_Inside_NoAnswer ?xm_Inside_Halted ?xm_NoNumber_NoTree ?xm_NoNumber_NoJob ?xm_NoNumber_Inside ?xm_NoNumber_NoNumber ?xm_NoNumber_NoMoment ?xm_NoNumber_NoAnswer ?xm_NoNumber_Halted ?xm_NoMoment_NoTree ?xm_NoMoment_NoJob ?xm_NoMoment_Inside ?xm_NoMoment_NoNumber ?xm_NoMoment_NoMoment ?xm_NoMoment_NoAnswer ?xm_NoMoment_Halted ?xm_NoAnswer_NoTree ?xm_NoAnswer_NoJob ?xm_NoAnswer_Inside ?xm_NoAnswer_NoNumber ?xm_NoAnswer_NoMoment ?xm_NoAnswer_NoAnswer ?xm_NoAnswer_Halted ?xm_Halted_NoTree ?xm_Halted_NoJob ?xm_Halted_Inside ?xm_Halted_NoNumber ?xm_Halted_NoMoment ?xm_Halted_NoAnswer ?xm_Halted_Halted ?n_bool ?n_dict ?n_enumerate ?n_int ?n_isinstance ?n_len ?n_max ?n_min ?n_range ?n_sorted ?n_str ?n_sum ?n_tuple ?g_SIGNS ?g_MOST_NAME ?g_MOST_DEEP ?g_MOST_NODES ?g_MOST_WORTH ?g_MOST_WHEN ?g_WORDS ?l_WORDS ?g_KINDS ?l_KINDS ?y_KINDS ?g_KINDS0 ?l_KINDS0 ?g_KINDS1 ?l_KINDS1 ?g_KINDS2 ?l_KINDS2 ?g_MOST_SOURCES
    (case aC_Job => k_is)
    (case pg_Job => k_is)
    (case hd_Job => k_is)
    (case po_Job => k_is)
    (case sa_Job => k_is)
    (case mk_Job => k_is)
    (case kc_Job => k_is)
    (case no_Job_answers => k_is)
    (case no_Job_ask => k_is)
    (case no_Job_before => k_is)
    (case no_Job_jobs => k_is)
    (case no_Job_left => k_is)
    (case no_Job_now => k_is)
    (case no_Job_number => k_is)
    (case no_Job_once => k_is)
    (case no_Job_steps => k_is)
    (case no_Job_told => k_is)
    (case no_Job_tree => k_is)
    (case no_Job_what => k_is)
    (case no_Job_word => k_is)
    (case aC_Step => k_is)
    (case pg_Step => k_is)
    (case hd_Step => k_is)
    (case po_Step => k_is)
    (case sa_Step => k_is)
    (case mk_Step => k_is)
    (case kc_Step => k_is)
    (case no_Step_answers => k_is)
    (case no_Step_ask => k_is)
    (case no_Step_before => k_is)
    (case no_Step_jobs => k_is)
    (case no_Step_left => k_is)
    (case no_Step_now => k_is)
    (case no_Step_number => k_is)
    (case no_Step_once => k_is)
    (case no_Step_steps => k_is)
    (case no_Step_told => k_is)
    (case no_Step_tree => k_is)
    (case no_Step_what => k_is)
    (case no_Step_word => k_is)
    (case aC_Carrier => k_is)
    (case pg_Carrier => k_is)
    (case hd_Carrier => k_is)
    (case po_Carrier => k_is)
    (case sa_Carrier => k_is)
    (case mk_Carrier => k_is)
    (case kc_Carrier => k_is)
    (case no_Carrier_answers => k_is)
    (case no_Carrier_ask => k_is)
    (case no_Carrier_before => k_is)
    (case no_Carrier_jobs => k_is)
    (case no_Carrier_left => k_is)
    (case no_Carrier_now => k_is)
    (case no_Carrier_number => k_is)
    (case no_Carrier_once => k_is)
    (case no_Carrier_steps => k_is)
    (case no_Carrier_told => k_is)
    (case no_Carrier_tree => k_is)
    (case no_Carrier_what => k_is)
    (case no_Carrier_word => k_is)
    (case at_is_within => k_is)
    (case l_is_within => k_is)
    (case cc_is_within => k_is)
    (case k_is_within => k_is)
    (case at_is_name => k_is)
    (case l_is_name => k_is)
    (case cc_is_name => k_is)
    (case k_is_name => k_is)
    (case at_is_path => k_is)
    (case l_is_path => k_is)
    (case cc_is_path => k_is)
    (case k_is_path => k_is)
    (case at_is_node => k_is)
    (case l_is_node => k_is)
    (case cc_is_node => k_is)
    (case k_is_node => k_is)
    (case at_are_entries => k_is)
    (case l_are_entries => k_is)
    (case cc_are_entries => k_is)
    (case k_are_entries => k_is)
    (case at_node_count => k_is)
    (case l_node_count => k_is)
    (case cc_node_count => k_is)
    (case k_node_count => k_is)
    (case at_node_height => k_is)
    (case l_node_height => k_is)
    (case cc_node_height => k_is)
    (case k_node_height => k_is)
    (case at_is_tree => k_is)
    (case l_is_tree => k_is)
    (case cc_is_tree => k_is)
    (case k_is_tree => k_is)
    (case at_look => k_is)
    (case l_look => k_is)
    (case cc_look => k_is)
    (case k_look => k_is)
    (case at_found_at => k_is)
    (case l_found_at => k_is)
    (case cc_found_at => k_is)
    (case k_found_at => k_is)
    (case at_with_node => k_is)
    (case l_with_node => k_is)
    (case cc_with_node => k_is)
    (case k_with_node => k_is)
    (case at_is_job => k_is)
    (case l_is_job => k_is)
    (case cc_is_job => k_is)
    (case k_is_job => k_is)
    (case at_look_job => k_is)
    (case l_look_job => k_is)
    (case cc_look_job => k_is)
    (case k_look_job => k_is)
    (case at_is_answer => k_is)
    (case l_is_answer => k_is)
    (case cc_is_answer => k_is)
    (case k_is_answer => k_is)
    (case at_kind_of => k_is)
    (case l_kind_of => k_is)
    (case cc_kind_of => k_is)
    (case k_kind_of => k_is)
    (case at_free_name => k_is)
    (case l_free_name => k_is)
    (case cc_free_name => k_is)
    (case k_free_name => k_is)
    (case at_Job_init => k_is)
    (case is_Job_init => k_is)
    (case l_Job_init => k_is)
    (case cc_Job_init => k_is)
    (case k_Job_init => k_is)
    (case at_Step_init => k_is)
    (case is_Step_init => k_is)
    (case l_Step_init => k_is)
    (case cc_Step_init => k_is)
    (case k_Step_init => k_is)
    (case at_Step_touches => k_is)
    (case is_Step_touches => k_is)
    (case l_Step_touches => k_is)
    (case cc_Step_touches => k_is)
    (case k_Step_touches => k_is)
    (case at_Carrier_init => k_is)
    (case is_Carrier_init => k_is)
    (case l_Carrier_init => k_is)
    (case cc_Carrier_init => k_is)
    (case k_Carrier_init => k_is)
    (case at_Carrier_whole => k_is)
    (case is_Carrier_whole => k_is)
    (case l_Carrier_whole => k_is)
    (case cc_Carrier_whole => k_is)
    (case k_Carrier_whole => k_is)
    (case at_Carrier_moment => k_is)
    (case is_Carrier_moment => k_is)
    (case l_Carrier_moment => k_is)
    (case cc_Carrier_moment => k_is)
    (case k_Carrier_moment => k_is)
    (case at_Carrier_begin => k_is)
    (case is_Carrier_begin => k_is)
    (case l_Carrier_begin => k_is)
    (case cc_Carrier_begin => k_is)
    (case k_Carrier_begin => k_is)
    (case at_Carrier_job => k_is)
    (case is_Carrier_job => k_is)
    (case l_Carrier_job => k_is)
    (case cc_Carrier_job => k_is)
    (case k_Carrier_job => k_is)
    (case at_Carrier_states => k_is)
    (case is_Carrier_states => k_is)
    (case l_Carrier_states => k_is)
    (case cc_Carrier_states => k_is)
    (case k_Carrier_states => k_is)
    (case at_Carrier_asked => k_is)
    (case is_Carrier_asked => k_is)
    (case l_Carrier_asked => k_is)
    (case cc_Carrier_asked => k_is)
    (case k_Carrier_asked => k_is)
    (case at_Carrier_journal => k_is)
    (case is_Carrier_journal => k_is)
    (case l_Carrier_journal => k_is)
    (case cc_Carrier_journal => k_is)
    (case k_Carrier_journal => k_is)
    (case at_Carrier_halt => k_is)
    (case is_Carrier_halt => k_is)
    (case l_Carrier_halt => k_is)
    (case cc_Carrier_halt => k_is)
    (case k_Carrier_halt => k_is)
    (case at_Carrier_go_on => k_is)
    (case is_Carrier_go_on => k_is)
    (case l_Carrier_go_on => k_is)
    (case cc_Carrier_go_on => k_is)
    (case k_Carrier_go_on => k_is)
    (case at_Carrier_answer => k_is)
    (case is_Carrier_answer => k_is)
    (case l_Carrier_answer => k_is)
    (case cc_Carrier_answer => k_is)
    (case k_Carrier_answer => k_is)
    (case at_Carrier_step => k_is)
    (case is_Carrier_step => k_is)
    (case l_Carrier_step => k_is)
    (case cc_Carrier_step => k_is)
    (case k_Carrier_step => k_is)
    (case at_Carrier_note => k_is)
    (case is_Carrier_note => k_is)
    (case l_Carrier_note => k_is)
    (case cc_Carrier_note => k_is)
    (case k_Carrier_note => k_is)
    (case at_Carrier_change => k_is)
    (case is_Carrier_change => k_is)
    (case l_Carrier_change => k_is)
    (case cc_Carrier_change => k_is)
    (case k_Carrier_change => k_is)
    (case at_Carrier_drop => k_is)
    (case is_Carrier_drop => k_is)
    (case l_Carrier_drop => k_is)
    (case cc_Carrier_drop => k_is)
    (case k_Carrier_drop => k_is)
    (case at_Carrier_carry => k_is)
    (case is_Carrier_carry => k_is)
    (case l_Carrier_carry => k_is)
    (case cc_Carrier_carry => k_is)
    (case k_Carrier_carry => k_is)
    (case at_Carrier_settled => k_is)
    (case is_Carrier_settled => k_is)
    (case l_Carrier_settled => k_is)
    (case cc_Carrier_settled => k_is)
    (case k_Carrier_settled => k_is)
    (case at_Carrier_marked => k_is)
    (case is_Carrier_marked => k_is)
    (case l_Carrier_marked => k_is)
    (case cc_Carrier_marked => k_is)
    (case k_Carrier_marked => k_is)
    (case at_Carrier_within => k_is)
    (case is_Carrier_within => k_is)
    (case l_Carrier_within => k_is)
    (case cc_Carrier_within => k_is)
    (case k_Carrier_within => k_is)
    (case at_Carrier_placed => k_is)
    (case is_Carrier_placed => k_is)
    (case l_Carrier_placed => k_is)
    (case cc_Carrier_placed => k_is)
    (case k_Carrier_placed => k_is)
    (case at_Carrier_take_back => k_is)
    (case is_Carrier_take_back => k_is)
    (case l_Carrier_take_back => k_is)
    (case cc_Carrier_take_back => k_is)
    (case k_Carrier_take_back => k_is)
    (case at_carried => k_is)
    (case l_carried => k_is)
    (case cc_carried => k_is)
    (case k_carried => k_is)
    (case at_law_cell => k_is)
    (case l_law_cell => k_is)
    (case cc_law_cell => k_is)
    (case k_law_cell => k_is)
    (case at_law_as => k_is)
    (case l_law_as => k_is)
    (case cc_law_as => k_is)
    (case k_law_as => k_is)
    (case at_law_is_name => k_is)
    (case l_law_is_name => k_is)
    (case cc_law_is_name => k_is)
    (case k_law_is_name => k_is)
    (case at_law => k_is)
    (case l_law => k_is)
    (case cc_law => k_is)
    (case k_law => k_is)
    (case aX_NoTree => k_is)
    (case eX_NoTree => k_exc)
    (case kX_NoTree => k_is)
    (case sX_NoTree => k_is)
    (case iX_NoTree => k_is)
    (case tX_NoTree => k_is)
    (case aX_NoJob => k_is)
    (case eX_NoJob => k_exc)
    (case kX_NoJob => k_is)
    (case sX_NoJob => k_is)
    (case iX_NoJob => k_is)
    (case tX_NoJob => k_is)
    (case aX_Inside => k_is)
    (case eX_Inside => k_exc)
    (case kX_Inside => k_is)
    (case sX_Inside => k_is)
    (case iX_Inside => k_is)
    (case tX_Inside => k_is)
    (case aX_NoNumber => k_is)
    (case eX_NoNumber => k_exc)
    (case kX_NoNumber => k_is)
    (case sX_NoNumber => k_is)
    (case iX_NoNumber => k_is)
    (case tX_NoNumber => k_is)
    (case aX_NoMoment => k_is)
    (case eX_NoMoment => k_exc)
    (case kX_NoMoment => k_is)
    (case sX_NoMoment => k_is)
    (case iX_NoMoment => k_is)
    (case tX_NoMoment => k_is)
    (case aX_NoAnswer => k_is)
    (case eX_NoAnswer => k_exc)
    (case kX_NoAnswer => k_is)
    (case sX_NoAnswer => k_is)
    (case iX_NoAnswer => k_is)
    (case tX_NoAnswer => k_is)
    (case aX_Halted => k_is)
    (case eX_Halted => k_exc)
    (case kX_Halted => k_is)
    (case sX_Halted => k_is)
    (case iX_Halted => k_is)
    (case tX_Halted => k_is)
    (case xm_NoTree_NoTree => first | rfl | k_is)
    (case xm_NoTree_NoJob => first | rfl | k_is)
    (case xm_NoTree_Inside => first | rfl | k_is)
    (case xm_NoTree_NoNumber => first | rfl | k_is)
    (case xm_NoTree_NoMoment => first | rfl | k_is)
    (case xm_NoTree_NoAnswer => first | rfl | k_is)
    (case xm_NoTree_Halted => first | rfl | k_is)
    (case xm_NoJob_NoTree => first | rfl | k_is)
    (case xm_NoJob_NoJob => first | rfl | k_is)
    (case xm_NoJob_Inside => first | rfl | k_is)
    (case xm_NoJob_NoNumber => first | rfl | k_is)
    (case xm_NoJob_NoMoment => first | rfl | k_is)
    (case xm_NoJob_NoAnswer => first | rfl | k_is)
    (case xm_NoJob_Halted => first | rfl | k_is)
    (case xm_Inside_NoTree => first | rfl | k_is)
    (case xm_Inside_NoJob => first | rfl | k_is)
    (case xm_Inside_Inside => first | rfl | k_is)
    (case xm_Inside_NoNumber => first | rfl | k_is)
    (case xm_Inside_NoMoment => first | rfl | k_is)
    (case xm_Inside_NoAnswer => first | rfl | k_is)
    (case xm_Inside_Halted => first | rfl | k_is)
    (case xm_NoNumber_NoTree => first | rfl | k_is)
    (case xm_NoNumber_NoJob => first | rfl | k_is)
    (case xm_NoNumber_Inside => first | rfl | k_is)
    (case xm_NoNumber_NoNumber => first | rfl | k_is)
    (case xm_NoNumber_NoMoment => first | rfl | k_is)
    (case xm_NoNumber_NoAnswer => first | rfl | k_is)
    (case xm_NoNumber_Halted => first | rfl | k_is)
    (case xm_NoMoment_NoTree => first | rfl | k_is)
    (case xm_NoMoment_NoJob => first | rfl | k_is)
    (case xm_NoMoment_Inside => first | rfl | k_is)
    (case xm_NoMoment_NoNumber => first | rfl | k_is)
    (case xm_NoMoment_NoMoment => first | rfl | k_is)
    (case xm_NoMoment_NoAnswer => first | rfl | k_is)
    (case xm_NoMoment_Halted => first | rfl | k_is)
    (case xm_NoAnswer_NoTree => first | rfl | k_is)
    (case xm_NoAnswer_NoJob => first | rfl | k_is)
    (case xm_NoAnswer_Inside => first | rfl | k_is)
    (case xm_NoAnswer_NoNumber => first | rfl | k_is)
    (case xm_NoAnswer_NoMoment => first | rfl | k_is)
    (case xm_NoAnswer_NoAnswer => first | rfl | k_is)
    (case xm_NoAnswer_Halted => first | rfl | k_is)
    (case xm_Halted_NoTree => first | rfl | k_is)
    (case xm_Halted_NoJob => first | rfl | k_is)
    (case xm_Halted_Inside => first | rfl | k_is)
    (case xm_Halted_NoNumber => first | rfl | k_is)
    (case xm_Halted_NoMoment => first | rfl | k_is)
    (case xm_Halted_NoAnswer => first | rfl | k_is)
    (case xm_Halted_Halted => first | rfl | k_is)
    (case n_bool => k_is)
    (case n_dict => k_is)
    (case n_enumerate => k_is)
    (case n_int => k_is)
    (case n_isinstance => k_is)
    (case n_len => k_is)
    (case n_max => k_is)
    (case n_min => k_is)
    (case n_range => k_is)
    (case n_sorted => k_is)
    (case n_str => k_is)
    (case n_sum => k_is)
    (case n_tuple => k_is)
    (case g_SIGNS => k_is)
    (case g_MOST_NAME => k_is)
    (case g_MOST_DEEP => k_is)
    (case g_MOST_NODES => k_is)
    (case g_MOST_WORTH => k_is)
    (case g_MOST_WHEN => k_is)
    (case g_WORDS => k_is)
    (case l_WORDS => k_is)
    (case g_KINDS => k_is)
    (case l_KINDS => k_is)
    (case y_KINDS => first | k_is | exact ⟨⟨_, _, rfl, rfl⟩, ⟨_, _, rfl, rfl⟩, ⟨_, _, rfl, rfl⟩, trivial⟩)
    (case g_KINDS0 => k_is)
    (case l_KINDS0 => k_is)
    (case g_KINDS1 => k_is)
    (case l_KINDS1 => k_is)
    (case g_KINDS2 => k_is)
    (case l_KINDS2 => k_is)
    (case g_MOST_SOURCES => k_is)
