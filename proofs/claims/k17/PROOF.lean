import PyProof.Rows.All
import HandS.ForMost
import KE.GoesEnum
import HandS.Exc
import HandS.Defaults
import HandS.IsInst
import HandS.Star
import KE.DataEq
import KE.DataCmp
import KE.SortData
import KE.DataMinMax
import HandS.TupAny
import HandS.More
import PyProof.TupleOfStr
import KE.KDictPairs
import HandS.Conv
import HandS.WordsDict
import KE.KeyNested
import HandS.TupSets
import HandS.SetKeys
import HandS.Flow
import HandS.Lambda
import PyProof.WalkInts
import PyProof.FString5
import PyProof.StrOps
import HandS.SortKw
import HandS.Zip
import HandS.Comp
import HandS.DictComp
import HandS.Style
import KE.KExcIs
import HandS.ExcField
import HandS.ExcBuiltin
import HandS.Small
import HandS.ExcOwn
import KE.KExcSuper
import KE.KSuper
import KE.KExcInit
import HandS.ExcInit
import HandS.Codes
import HandS.Head0
import HandS.Head1
import HandS.Head2
import HandS.HeadEnd
import HandS.HeadHook1
import HandS.HeadHook2
import PySem.Challenge.RW_waysup_k17_things_and_what_lies_straight
/-! WyCore: data, the small language, its evaluator. Plain Lean, no program in sight. -/
set_option autoImplicit false
set_option linter.all false
namespace Wy

/-- data: a text is its codes; a dict is keys and values; cell g: the g-th shared list; exc: an error of class c -/
inductive D where
  | non
  | bl (b : Bool)
  | int (i : Int)
  | str (s : List Nat)
  | tup (xs : List D)
  | lst (xs : List D)
  | dic (ks vs : List D)
  | cell (g : Nat)
  | exc (c : Nat) (xs : List D)
  | scr (xs : List D)
  /-- an error that was caught: its class, its fields -/
  | err (k : Nat) (ys : List D)
  deriving Inhabited

def bInt (b : Bool) : Int := if b then 1 else 0

mutual
/-- == of Python -/
def deq : D → D → Bool
  | .non, .non => true
  | .bl a, .bl b => a == b
  | .bl a, .int j => bInt a == j
  | .int i, .bl b => i == bInt b
  | .int i, .int j => i == j
  | .str x, .str y => x == y
  | .tup xs, .tup ys => deqs xs ys
  | .lst xs, .lst ys => deqs xs ys
  | _, _ => false
def deqs : List D → List D → Bool
  | [], [] => true
  | x :: xs, y :: ys => deq x y && deqs xs ys
  | _, _ => false
end

mutual
/-- no dict, no cell, no error within -/
def plain : D → Bool
  | .non | .bl _ | .int _ | .str _ => true
  | .tup xs | .lst xs => plains xs
  | _ => false
def plains : List D → Bool
  | [] => true
  | x :: xs => plain x && plains xs
end

mutual
def dep : D → Nat
  | .tup xs | .lst xs => deps xs + 1
  | _ => 0
def deps : List D → Nat
  | [] => 0
  | x :: xs => max (dep x) (deps xs)
end

def flat (d : D) : Bool := match d with
  | .tup _ | .lst _ => Nat.ble (dep d) 60
  | _ => true
/-- what == and in may look at -/
def okD (d : D) : Bool := plain d && flat d
mutual
/-- can be compared, place by place -/
def alk : D → D → Bool
  | .non, .non => true
  | .bl _, .bl _ => true
  | .int _, .int _ => true
  | .str _, .str _ => true
  | .lst xs, .lst ys => alks xs ys
  | .tup xs, .tup ys => alks xs ys
  | _, _ => false
def alks : List D → List D → Bool
  | x :: xs, y :: ys => alk x y && alks xs ys
  | _, _ => true
end

def slt : List Nat → List Nat → Bool
  | [], [] => false
  | [], _ :: _ => true
  | _ :: _, [] => false
  | x :: xs, y :: ys => if Nat.blt x y then true else if Nat.beq x y then slt xs ys else false

mutual
/-- < of Python, for what is alike -/
def dlt : D → D → Bool
  | .bl a, .bl b => !a && b
  | .int i, .int j => decide (i < j)
  | .str x, .str y => slt x y
  | .lst xs, .lst ys => dlts xs ys
  | .tup xs, .tup ys => dlts xs ys
  | _, _ => false
def dlts : List D → List D → Bool
  | [], [] => false
  | [], _ :: _ => true
  | _ :: _, [] => false
  | x :: xs, y :: ys => if deq x y then dlts xs ys else dlt x y
end


mutual
def wgt : D → Nat
  | .tup xs | .lst xs => Nat.succ (wgts xs)
  | _ => 1
def wgts : List D → Nat
  | [] => 0
  | x :: xs => Nat.add (wgt x) (wgts xs)
end
mutual
/-- nothing in x that w has not, too -/
def under : D → D → Bool
  | .non, .non => true
  | .bl _, .bl _ => true
  | .int _, .int _ => true
  | .str _, .str _ => true
  | .lst xs, .lst ys => unders xs ys
  | .tup xs, .tup ys => unders xs ys
  | _, _ => false
def unders : List D → List D → Bool
  | [], _ => true
  | x :: xs, y :: ys => under x y && unders xs ys
  | _ :: _, [] => false
end
/-- the greatest one -/
def bigD (x : D) (n : Nat) : List D → D
  | [] => x
  | y :: ys => let m := wgt y; if Nat.ble (Nat.succ n) m then bigD y m ys else bigD x n ys
def fastAlk : List D → Bool
  | [] => true
  | x :: xs => let w := bigD x (wgt x) xs; (x :: xs).all fun y => under y w
/-- all alike, pairwise -/
def allAlk (xs : List D) : Bool := fastAlk xs || xs.all fun x => xs.all fun y => alk x y
/-- none is None; tuples are not empty -/
def srtOk1 : D → Bool
  | .non => false
  | _ => true
def isTup1 : D → Bool
  | .tup _ => true
  | _ => false
def notTup : D → Bool
  | .tup _ => false
  | .non => false
  | _ => true
def srtOk (xs : List D) : Bool := plains xs && allAlk xs && (xs.all isTup1 || xs.all notTup) && xs.all flat
/-- sorted -/
def dsort : List D → List D
  | [] => []
  | x :: xs => dins' x (dsort xs)
where
  /-- x ahead of those that are not less -/
  dins' (x : D) : List D → List D
  | [] => [x]
  | y :: ys => if dlt y x then y :: dins' x ys else x :: y :: ys

mutual
/-- may be a member of a set -/
def kOk : D → Bool
  | .int _ | .str _ => true
  | .tup xs => kOks xs
  | _ => false
def kOks : List D → Bool
  | [] => true
  | x :: xs => kOk x && kOks xs
end
/-- what set() may be called on -/
def setOk (xs : List D) : Bool := xs.all kOk && ((xs.all isTup1 && (Nat.ble xs.length 63 && xs.all fun d => Nat.ble (dep d) 8)) || (xs.all notTup && Nat.ble xs.length 4000))
/-- each once -/
def ddup : List D → List D
  | [] => []
  | x :: xs => if xs.any (fun y => deq y x) then ddup xs else x :: ddup xs
abbrev St := List (List D)
inductive Res (α : Type) where
  | ok (a : α) (st : St)
  | exc (c : Nat) (xs : List D) (st : St)
  | stuck
abbrev M (α : Type) := St → Res α
def M.pure {α : Type} (a : α) : M α := fun st => .ok a st
def M.bind {α β : Type} (m : M α) (f : α → M β) : M β := fun st =>
  match m st with
  | .ok a st' => f a st'
  | .exc c xs st' => .exc c xs st'
  | .stuck => .stuck
instance : Monad M where
  pure := M.pure
  bind := M.bind
def M.stuck {α : Type} : M α := fun _ => .stuck
def M.exc {α : Type} (k : Nat) (ys : List D) : M α := fun st => .exc k ys st
def M.of {α : Type} : Option α → M α
  | some a => M.pure a
  | none => M.stuck

abbrev Slot := Option (D × Bool)
abbrev Env := List Slot

inductive Cls where
  | list | tuple | dict | str | int | bool
  deriving DecidableEq
def isCls : D → Cls → Option Bool
  | .non, _ => some false
  | .bl _, .bool => some true
  | .bl _, .int => some true
  | .bl _, _ => some false
  | .int _, c => some (c = .int)
  | .str _, c => some (c = .str)
  | .tup _, c => some (c = .tuple)
  | .lst _, c => some (c = .list)
  | .dic _ _, c => some (c = .dict)
  | _, _ => none
def isAny (d : D) : List Cls → Option Bool
  | [] => some false
  | c :: cs => match isCls d c with
    | some true => some true
    | some false => isAny d cs
    | none => none

inductive B1 where
  | len | tuple | list | int | sorted | all | any | sum | min | max | abs | dict
  deriving DecidableEq
inductive B2 where
  | min | max
  deriving DecidableEq
inductive Bin where
  | add | sub | mul | mod | fdiv | pow
  deriving DecidableEq
inductive Cmp where
  | eq | ne | lt | le | gt | ge | is_ | isnot | in_ | notin
  deriving DecidableEq

inductive Tg where
  | n (i : Nat)
  | t (is : List Nat)
  deriving DecidableEq

inductive IE where
  | k (d : D)
  | g (n : Nat)
  | v (i : Nat)
  | tup (es : List IE)
  | lst (es : List IE)
  | star (e : IE)
  | call (f : Nat) (es : List IE)
  | callk (f : Nat) (es : List IE) (ks : List Nat) (kes : List IE)
  | b1 (op : B1) (e : IE)
  | b2 (op : B2) (a b : IE)
  | dst (n : Bool) (e : IE)
  | isi (e : IE) (tuple : Bool) (cs : List Cls)
  | bin (op : Bin) (a b : IE)
  | neg (a : IE)
  | cmp (op : Cmp) (a b : IE)
  | chain (op op' : Cmp) (a b c : IE)
  | and (a b : IE)
  | or (a b : IE)
  | not (a : IE)
  | ite (c a b : IE)
  | idx (a b : IE)
  | slc (a : IE) (lo hi : Option IE)
  | rev (a : IE)
  | lc (own : List Nat) (elt : IE) (tg : Tg) (it : IE) (cond : Option IE)
  | lc2 (own own1 : List Nat) (elt : IE) (tg : Tg) (it : IE) (tg1 : Tg) (it1 : IE) (cond : Option IE)
  | range (a : IE)
  | range2 (a b : IE)
  | enum (a : IE)
  | zip (a b : IE)
  | dic0
  | dc (own : List Nat) (k v : IE) (tg : Tg) (it : IE)
  | dget (a b e : IE)
  | fld (e : IE) (f : Nat)
  | isx (e : IE) (v : Bool)
  | nox (e : IE)
  /-- min(e, default=None) -/
  | mn0 (e : IE)

/-- what an except clause makes of the error: a constant, one of its fields -/
inductive HA where
  | k (d : D)
  | f (n : Nat)
inductive HX where
  | one (a : HA)
  | lst (as : List HA)
  | tup (as : List HA)
/-- .. and where it goes: into a name, back to the caller; the error itself into a name; nowhere -/
inductive HAct where
  | set (t : Nat) (e : HX)
  | ret (e : HX)
  | keep (t : Nat)
/-- an except clause: the class, the error's name, what is done -/
structure Hd where
  k : Nat
  nm : Option Nat
  act : HAct
inductive IS where
  | set (tg : Tg) (e : IE)
  | setX (tg : Tg) (e : IE)
  | exX (e : IE)
  | retX (e : IE)
  | raise_ (k : Nat) (es : List IE)
  | try_ (body : List IS) (hs : List Hd)
  /-- ahead of a body that may let errors out -/
  | raises
  | own (i : Nat) (e : IE)
  | par (is : List Nat) (os : List Bool) (es : List IE)
  | frz (i : Nat)
  | ret (e : IE)
  | retCell (es : List IE)
  | ife (c : IE) (a b : List IS)
  | for_ (tg : Tg) (it : IE) (body : List IS)
  | while_ (c : IE) (body : List IS)
  | app (i : Nat) (e : IE)
  | appPop (i j : Nat) (e : IE)
  | ext (i : Nat) (e : IE)
  | pop (tg : Nat) (j : Nat)
  | popI (tg : Nat) (j : Nat) (e : IE)
  | seti (i : Nat) (a b : IE)
  | ex (e : IE)
  | pass
  | never

/-! ### operations on data -/
def seqOf : D → Option (List D)
  | .tup xs => some xs
  | .lst xs => some xs
  | _ => none
def strsOf (s : List Nat) : List D := s.map fun c => .str [c]
/-- what a loop over it goes through (a dict: its keys) -/
def itemsOf : D → Option (List D)
  | .tup xs => some xs
  | .lst xs => some xs
  | .str s => some (strsOf s)
  | _ => none
def truth : D → Option Bool
  | .non => some false
  | .bl b => some b
  | .int i => some (i != 0)
  | .tup xs => some (!xs.isEmpty)
  | .lst xs => some (!xs.isEmpty)
  | _ => none
def big64 (i : Int) : Bool := decide (-18446744073709551616 < i) && decide (i < 18446744073709551616)
def sizeMax : Nat := 16000000
def ixNat (n : Nat) (i : Int) : Option Nat :=
  if 0 ≤ i then (if i < n then some i.toNat else none) else if -(n : Int) ≤ i then some (i + n).toNat else none
def dlook (k : D) : List D → List D → Option D
  | x :: ks, v :: vs => if deq x k then some v else dlook k ks vs
  | _, _ => none
def isKey : D → Bool
  | .int _ => true
  | .str _ => true
  | _ => false
def doIdx (a b : D) : Option D := match a, b with
  | .tup xs, .int i => (ixNat xs.length i).bind fun j => xs[j]?
  | .lst xs, .int i => (ixNat xs.length i).bind fun j => xs[j]?
  | .str cs, .int i => if Nat.ble cs.length sizeMax then (ixNat cs.length i).bind fun j => (cs[j]?).map fun c => .str [c] else none
  | .dic ks vs, k => if isKey k then dlook k ks vs else none
  | _, _ => none
/-- a bound of a slice, as a place -/
def cutIx (n : Nat) (dflt : Nat) : Option Int → Nat
  | none => dflt
  | some i => if i < 0 then (i + (n : Int)).toNat else min i.toNat n
def cutD (xs : List D) (lo hi : Option Int) : List D :=
  (xs.drop (cutIx xs.length 0 lo)).take (cutIx xs.length xs.length hi - cutIx xs.length 0 lo)
def intOf : D → Option Int
  | .int i => some i
  | _ => none
def dInts : List D → Option (List Int)
  | [] => some []
  | .int i :: r => (dInts r).map (i :: ·)
  | _ :: _ => none
def dBools : List D → Option (List Bool)
  | [] => some []
  | .bl i :: r => (dBools r).map (i :: ·)
  | _ :: _ => none
def dmin : D → List D → D
  | x, [] => x
  | x, y :: r => if dlt y x then dmin y r else dmin x r
def dmax : D → List D → D
  | x, [] => x
  | x, y :: r => if dlt x y then dmax y r else dmax x r
/-- a dict's store -/
def dputK (k : D) (ks : List D) : List D := if ks.any (fun x => deq x k) then ks else ks ++ [k]
def dsub (k v : D) : List D → List D → List D
  | x :: ks, w :: vs => (if deq x k then v else w) :: dsub k v ks vs
  | _, _ => []
def dputV (k v : D) (ks vs : List D) : List D := if ks.any (fun x => deq x k) then dsub k v ks vs else vs ++ [v]
def mkDict : List D → List D → List D → Option (List D × List D)
  | [], ks, vs => some (ks, vs)
  | p :: ps, ks, vs => match p with
    | .tup [k, v] => if isKey k then mkDict ps (dputK k ks) (dputV k v ks vs) else none
    | _ => none
def short (xs : List D) : Option (List D) := if Nat.ble xs.length sizeMax then some xs else none
def isKeep : D → Bool
  | .lst _ => false
  | .dic _ _ => false
  | _ => true
def doB1 (op : B1) (d : D) : Option D := match op with
  | .len => (match d with
    | .tup xs | .lst xs => some (.int xs.length)
    | .dic ks _ => some (.int ks.length)
    | .str s => if Nat.ble s.length sizeMax then some (.int s.length) else none
    | _ => none)
  | .tuple => (match d with
    | .tup xs | .lst xs => some (.tup xs)
    | .str s => (short (strsOf s)).map .tup
    | _ => none)
  | .list => (match d with
    | .tup xs | .lst xs => some (.lst xs)
    | .dic ks _ => some (.lst ks)
    | _ => none)
  | .int => (match d with
    | .int i => some (.int i)
    | .bl b => some (.int (bInt b))
    | _ => none)
  | .sorted => (match d with
    | .lst xs => if srtOk xs then some (.lst (dsort xs)) else none
    | .tup xs => if srtOk xs then some (.lst (dsort xs)) else none
    | _ => none)
  | .all => (match d with
    | .lst xs => (dBools xs).map fun bs => .bl (bs.all id)
    | _ => none)
  | .any => (match d with
    | .lst xs => (dBools xs).map fun bs => .bl (bs.any id)
    | _ => none)
  | .sum => (match d with
    | .lst xs => (dInts xs).map fun ns => .int ns.sum
    | _ => none)
  | .min => (match d with
    | .lst (x :: xs) => if srtOk (x :: xs) && isKeep (dmin x xs) then some (dmin x xs) else none
    | _ => none)
  | .max => (match d with
    | .lst (x :: xs) => if srtOk (x :: xs) && isKeep (dmax x xs) then some (dmax x xs) else none
    | _ => none)
  | .abs => (match d with
    | .int i => some (.int (if i < 0 then -i else i))
    | _ => none)
  | .dict => (match d with
    | .tup xs | .lst xs => (mkDict xs [] []).map fun p => .dic p.1 p.2
    | _ => none)
/-- min(d, default=None) -/
def doMn0 (d : D) : Option D := match d with
  | .lst [] => some .non
  | .lst (x :: xs) => doB1 .min (.lst (x :: xs))
  | _ => none
/-- n: len(set(d)); else sorted(set(d)) -/
def doSet (n : Bool) (d : D) : Option D := match d with
  | .tup xs | .lst xs => if setOk xs then (if n then some (.int (ddup xs).length) else if srtOk xs then some (.lst (dsort (ddup xs))) else none) else none
  | _ => none
def doB2 (op : B2) (a b : D) : Option D := match op, a, b with
  | .min, .int i, .int j => some (.int (if j < i then j else i))
  | .max, .int i, .int j => some (.int (if j > i then j else i))
  | .min, .str x, .str y => some (.str (if slt y x then y else x))
  | .max, .str x, .str y => some (.str (if slt x y then y else x))
  | _, _, _ => none
def doBin (op : Bin) (a b : D) : Option D := match op, a, b with
  | .add, .int i, .int j => some (.int (i + j))
  | .add, .str x, .str y => if Nat.ble (x.length + y.length) sizeMax then some (.str (x ++ y)) else none
  | .add, .tup x, .tup y => if Nat.ble (x.length + y.length) sizeMax then some (.tup (x ++ y)) else none
  | .add, .lst x, .lst y => if Nat.ble (x.length + y.length) sizeMax then some (.lst (x ++ y)) else none
  | .sub, .int i, .int j => some (.int (i - j))
  | .mul, .int i, .int j => if big64 i || big64 j then some (.int (i * j)) else none
  | .mul, .lst xs, .int j => if 0 ≤ j ∧ j ≤ 1000 ∧ xs.length ≤ 1000 then some (.lst (List.replicate j.toNat xs).flatten) else none
  | .mod, .int i, .int j => if 0 < j then some (.int (i % j)) else none
  | .fdiv, .int i, .int j => if 0 < j ∧ j < 1073741824 then some (.int (i / j)) else none
  | .pow, .int i, .int j => if 0 ≤ j ∧ j ≤ 1000 ∧ big64 i then some (.int (i ^ j.toNat)) else none
  | _, _, _ => none
def doIn (a b : D) : Option Bool := match b with
  | .tup xs | .lst xs => if okD a && plains xs then some (xs.any fun y => deq y a) else none
  | .dic ks vs => if isKey a then some (ks.any fun y => deq y a) else none
  | .str s => (match a with
    | .str [c] => some (s.contains c)
    | _ => none)
  | _ => none
def doCmp (op : Cmp) (a b : D) : Option Bool := match op with
  | .eq => if okD a && plain b then some (deq a b) else none
  | .ne => if okD a && plain b then some (!deq a b) else none
  | .lt => if (okD a && plain b) && (alk a b && srtOk1 a) then some (dlt a b) else none
  | .gt => if (okD a && plain b) && (alk a b && srtOk1 a) then some (dlt b a) else none
  | .le => if (okD a && plain b) && (alk a b && srtOk1 a) then some (!dlt b a) else none
  | .ge => if (okD a && plain b) && (alk a b && srtOk1 a) then some (!dlt a b) else none
  | .is_ => (match b with
    | .non => some (match a with | .non => true | _ => false)
    | _ => none)
  | .isnot => (match b with
    | .non => some (match a with | .non => false | _ => true)
    | _ => none)
  | .in_ => doIn a b
  | .notin => (doIn a b).map not

/-- the fields of the package's errors: 0 name, 1 number, 2 owner, 3 thing -/
def exFi : Nat → List Nat
  | 0 => [0] | 1 => [1] | 2 => [0] | 3 => [] | 4 => [0] | 5 => [2, 3] | 6 => [] | 7 => [3] | 8 => [] | 9 => [] | _ => [1]
/-- ValueErrors (else LookupErrors) -/
def exV : Nat → Bool
  | 0 => false | 1 => false | 2 => false | 3 => false | _ => true
def ixOf (f : Nat) : List Nat → Option Nat
  | [] => none
  | g :: gs => if Nat.beq g f then some 0 else (ixOf f gs).map (· + 1)
def doFld (d : D) (f : Nat) : Option D := match d with
  | .err k ys => (ixOf f (exFi k)).bind fun i => ys[i]?
  | _ => none
def doIsx (d : D) (v : Bool) : Option D := match d with
  | .err k _ => some (.bl (exV k == v))
  | _ => none
/-! ### the evaluator -/
def getB (ρ : Env) (i : Nat) : Option D := (ρ[i]?.join).map (·.1)
def getS (ρ : Env) (i : Nat) : Option D := match ρ[i]?.join with
  | some (d, false) => some d
  | _ => none
def setS (ρ : Env) (i : Nat) (d : D) (o : Bool) : Env := ρ.set i (some (d, o))
def setMany : Env → List Nat → List D → Option Env
  | ρ, [], [] => some ρ
  | ρ, i :: is, d :: ds => setMany (setS ρ i d false) is ds
  | _, _, _ => none
/-- what a row of names takes apart; exc: a pair that enumerate, zip make -/
def tgOf : D → Option (List D)
  | .tup xs => some xs
  | .lst xs => some xs
  | .exc _ xs => some xs
  | _ => none
def setTg (ρ : Env) (tg : Tg) (d : D) : Option Env := match tg with
  | .n i => some (setS ρ i d false)
  | .t is => match tgOf d with
    | some ds => setMany ρ is ds
    | none => none
def wipeE (ρ : Env) : List Nat → Env
  | [] => ρ
  | i :: is => (wipeE ρ is).set i none
def withIx (n : Nat) : List D → List D
  | [] => []
  | x :: xs => .exc 0 [.int n, x] :: withIx (n + 1) xs
def pairUp : List D → List D → List D
  | x :: xs, y :: ys => .exc 0 [x, y] :: pairUp xs ys
  | _, _ => []
def enumOf : D → Option (List D)
  | .lst xs => some (withIx 0 xs)
  | .tup xs => some (withIx 0 xs)
  | .str cs => some (withIx 0 (strsOf cs))
  | _ => none
def zipOf : D → D → Option (List D)
  | .tup xs, .tup ys => some (pairUp xs ys)
  | .lst xs, .lst ys => some (pairUp xs ys)
  | _, _ => none
def rangeD (lo : Int) : Nat → List D
  | 0 => []
  | n + 1 => .int lo :: rangeD (lo + 1) n
def mapM' (f : D → M D) : List D → M (List D)
  | [] => M.pure []
  | x :: xs => M.bind (f x) fun y => M.bind (mapM' f xs) fun ys => M.pure (y :: ys)
/-- [f x | x, where it is some] -/
def mapO (f : D → M (List D)) : List D → M (List D)
  | [] => M.pure []
  | x :: xs => M.bind (f x) fun y => M.bind (mapO f xs) fun ys => M.pure (y ++ ys)
/-- an error out of a comprehension is not served -/
def noExc {α : Type} (m : M α) : M α := fun st => match m st with
  | .ok a st' => .ok a st'
  | _ => .stuck
def cellGet (g : Nat) : M (List D) := fun st => match st[g]? with
  | some xs => .ok xs st
  | none => .stuck

structure Ctx where
  call : Nat → List D → M D
  glob : Nat → Option D
  /-- turns of a while -/
  turns : Nat := 100000

/-- n values by place, l by keyword: in the parameters' order -/
def gP {α : Type} (n l : Nat) (perm : List Nat) (us ws : List α) : List α := if us.length = n ∧ ws.length = l then us ++ perm.filterMap (fun j => ws[j]?) else []
/-- what an expression is: a value that may be kept (s), one that is looked at and let go (b: it may be a list of our own), a test (t), what a loop goes through (i), a part of a row (m) -/
structure Md where
  s : Env → M D
  b : Env → M D
  t : Env → M Bool
  i : Env → M (List D)
  m : Env → M (List D)
@[reducible] def tOf (f : Env → M D) : Env → M Bool := fun ρ => M.bind (f ρ) fun d => M.of (truth d)
@[reducible] def iOf (f : Env → M D) : Env → M (List D) := fun ρ => M.bind (f ρ) fun d => M.of (itemsOf d)
@[reducible] def mOf (f : Env → M D) : Env → M (List D) := fun ρ => M.bind (f ρ) fun d => M.pure [d]
@[reducible] def Md.of (f : Env → M D) : Md := ⟨f, f, tOf f, iOf f, mOf f⟩
@[reducible] def no {α : Type} : Env → M α := fun _ => M.stuck
@[reducible] def Md.it (f : Env → M (List D)) : Md := ⟨no, no, no, f, no⟩
/-- a row -/
def row : List Md → Env → M (List D)
  | [], _ => M.pure []
  | e :: es, ρ => M.bind (e.m ρ) fun xs => M.bind (row es ρ) fun ys => M.pure (xs ++ ys)
def part : Option Md → Env → M (Option Int)
  | none, _ => M.pure none
  | some e, ρ => M.bind (e.s ρ) fun d => M.of ((intOf d).map some)
def cnd : Option Md → Env → M Bool
  | none, _ => M.pure true
  | some e, ρ => e.t ρ
def doSlc (x : D) (l h : Option Int) : Option D := match x with
  | .tup xs => some (.tup (cutD xs l h))
  | .lst xs => some (.lst (cutD xs l h))
  | .scr xs => some (.lst (cutD xs l h))
  | _ => none
def doRev : D → Option D
  | .tup xs => some (.tup xs.reverse)
  | .lst xs => some (.lst xs.reverse)
  | _ => none
def getIx (x y : D) : M D := match x with
  | .cell g => M.bind (cellGet g) fun xs => M.of (doIdx (.lst xs) y)
  | _ => M.of (doIdx x y)
def rng1 (x : D) : Option (List D) := (intOf x).bind fun n => if n ≤ 1000000000 ∧ -1000000000 ≤ n then some (rangeD 0 n.toNat) else none
def rng2 (x y : D) : Option (List D) := (intOf x).bind fun m => (intOf y).bind fun n => if n ≤ 1000000000 ∧ -1000000000 ≤ n ∧ m ≤ 1000000000 ∧ -1000000000 ≤ m then some (rangeD m (n - m).toNat) else none
/-- one clause of a comprehension -/
def lcTurn (ρ : Env) (own : List Nat) (tg : Tg) (f : Env → M (List D)) (d : D) : M (List D) :=
  M.bind (M.of (setTg (wipeE ρ own) tg d)) f
def lcElt (cond : Env → M Bool) (elt : Env → M D) (ρ : Env) : M (List D) :=
  M.bind (cond ρ) fun t => if t then M.bind (elt ρ) fun y => M.pure [y] else M.pure []

def dcLoop (f : D → M (D × D)) : List D → List D → List D → M D
  | [], ks, vs => M.pure (.dic ks vs)
  | x :: xs, ks, vs => M.bind (f x) fun p => if isKey p.1 && Nat.ble ks.length sizeMax then dcLoop f xs (dputK p.1 ks) (dputV p.1 p.2 ks vs) else M.stuck
def doGet (a b e : D) : Option D := match a with
  | .dic ks vs => if isKey b then some ((dlook b ks vs).getD e) else none
  | _ => none
mutual
def md (c : Ctx) : IE → Md
  | .k d => .of fun _ => M.pure d
  | .g n => .of fun _ => M.of (c.glob n)
  | .v i => ⟨fun ρ => M.of (getS ρ i), fun ρ => M.of (getB ρ i), tOf fun ρ => M.of (getB ρ i), iOf fun ρ => M.of (getB ρ i), mOf fun ρ => M.of (getS ρ i)⟩
  | .tup es => .of fun ρ => M.bind (row (mds c es) ρ) fun ds => M.of ((short ds).map .tup)
  | .lst es => .of fun ρ => M.bind (row (mds c es) ρ) fun ds => M.of ((short ds).map .lst)
  | .star e => ⟨no, no, no, no, fun ρ => M.bind ((md c e).b ρ) fun d => M.of (seqOf d)⟩
  | .call f es => .of fun ρ => M.bind (row (mds c es) ρ) fun ds => c.call f ds
  | .callk f es ks kes => .of fun ρ => M.bind (row (mds c es) ρ) fun ds => M.bind (row (mds c kes) ρ) fun kds => c.call f (gP es.length kes.length ks ds kds)
  | .b1 op e => .of fun ρ => M.bind ((md c e).b ρ) fun d => M.of (doB1 op d)
  | .dst n e => .of fun ρ => M.bind ((md c e).b ρ) fun d => M.of (doSet n d)
  | .mn0 e => .of fun ρ => M.bind ((md c e).b ρ) fun d => M.of (doMn0 d)
  | .b2 op a b => .of fun ρ => M.bind ((md c a).s ρ) fun x => M.bind ((md c b).s ρ) fun y => M.of (doB2 op x y)
  | .isi e _ cs => .of fun ρ => M.bind ((md c e).b ρ) fun d => M.of ((isAny d cs).map .bl)
  | .bin op a b => .of fun ρ => M.bind ((md c a).b ρ) fun x => M.bind ((md c b).b ρ) fun y => M.of (doBin op x y)
  | .neg a => .of fun ρ => M.bind ((md c a).s ρ) fun x => M.of ((intOf x).map fun i => .int (-i))
  | .cmp op a b => .of fun ρ => M.bind ((md c a).b ρ) fun x => M.bind ((md c b).b ρ) fun y => M.of ((doCmp op x y).map .bl)
  | .chain op op' a b e => .of fun ρ => M.bind ((md c a).b ρ) fun x => M.bind ((md c b).b ρ) fun y => M.bind (M.of (doCmp op x y)) fun t =>
      if t then M.bind ((md c e).b ρ) fun z => M.of ((doCmp op' y z).map .bl) else M.pure (.bl false)
  | .and a b =>
    let f : Env → M D := fun ρ => M.bind ((md c a).s ρ) fun x => M.bind (M.of (truth x)) fun t => if t then (md c b).s ρ else M.pure x
    ⟨f, f, fun ρ => M.bind ((md c a).t ρ) fun t => if t then (md c b).t ρ else M.pure false, iOf f, mOf f⟩
  | .or a b =>
    let f : Env → M D := fun ρ => M.bind ((md c a).s ρ) fun x => M.bind (M.of (truth x)) fun t => if t then M.pure x else (md c b).s ρ
    ⟨f, f, fun ρ => M.bind ((md c a).t ρ) fun t => if t then M.pure true else (md c b).t ρ, iOf f, mOf f⟩
  | .not a =>
    let f : Env → M D := fun ρ => M.bind ((md c a).b ρ) fun x => M.bind (M.of (truth x)) fun t => M.pure (.bl (!t))
    ⟨f, f, fun ρ => M.bind ((md c a).t ρ) fun t => M.pure (!t), no, mOf f⟩
  | .ite e a b =>
    let f : Env → M D := fun ρ => M.bind ((md c e).t ρ) fun t => if t then (md c a).s ρ else (md c b).s ρ
    ⟨f, f, fun ρ => M.bind ((md c e).t ρ) fun t => if t then (md c a).t ρ else (md c b).t ρ, iOf f, mOf f⟩
  | .idx a b => .of fun ρ => M.bind ((md c a).b ρ) fun x => M.bind ((md c b).s ρ) fun y => getIx x y
  | .slc a lo hi => .of fun ρ => M.bind ((md c a).b ρ) fun x => M.bind (part (mdo c lo) ρ) fun l => M.bind (part (mdo c hi) ρ) fun h => M.of (doSlc x l h)
  | .rev a => .of fun ρ => M.bind ((md c a).b ρ) fun x => M.of (doRev x)
  | .lc own elt tg it cond => .of fun ρ => M.bind ((md c it).i ρ) fun ds =>
      M.bind (noExc (mapO (lcTurn ρ own tg (lcElt (cnd (mdo c cond)) (md c elt).s)) ds)) fun ys => M.of ((short ys).map .lst)
  | .lc2 own own1 elt tg it tg1 it1 cond => .of fun ρ => M.bind ((md c it).i ρ) fun ds =>
      M.bind (noExc (mapO (lcTurn ρ own tg fun ρ' => M.bind (iOf (md c it1).s ρ') fun es => mapO (lcTurn ρ' own1 tg1 (lcElt (cnd (mdo c cond)) (md c elt).s)) es) ds)) fun ys => M.of ((short ys).map .lst)
  | .range a => .it fun ρ => M.bind ((md c a).s ρ) fun x => M.of (rng1 x)
  | .range2 a b => .it fun ρ => M.bind ((md c a).s ρ) fun x => M.bind ((md c b).s ρ) fun y => M.of (rng2 x y)
  | .enum a => .it fun ρ => M.bind ((md c a).b ρ) fun x => M.of (enumOf x)
  | .zip a b => .it fun ρ => M.bind ((md c a).b ρ) fun x => M.bind ((md c b).b ρ) fun y => M.of (zipOf x y)
  | .dic0 => .of fun _ => M.pure (.dic [] [])
  | .dc own k v tg it => .of fun ρ => M.bind ((md c it).i ρ) fun ds => noExc (dcLoop (fun d =>
      M.bind (M.of (setTg (wipeE ρ own) tg d)) fun ρ' => M.bind ((md c k).s ρ') fun x => M.bind ((md c v).s ρ') fun y => M.pure (x, y)) ds [] [])
  | .nox e => ⟨fun ρ => noExc ((md c e).s ρ), fun ρ => noExc ((md c e).b ρ), fun ρ => noExc ((md c e).t ρ), fun ρ => noExc ((md c e).i ρ), mOf fun ρ => noExc ((md c e).s ρ)⟩
  | .fld e f => .of fun ρ => M.bind ((md c e).s ρ) fun x => M.of (doFld x f)
  | .isx e v => .of fun ρ => M.bind ((md c e).s ρ) fun x => M.of (doIsx x v)
  | .dget a b e => .of fun ρ => M.bind ((md c a).b ρ) fun x => M.bind ((md c b).s ρ) fun y => M.bind ((md c e).s ρ) fun z => M.of (doGet x y z)
def mds (c : Ctx) : List IE → List Md
  | [] => []
  | e :: es => md c e :: mds c es
def mdo (c : Ctx) : Option IE → Option Md
  | none => none
  | some e => some (md c e)
end

/-! ### statements -/
inductive Out where
  | nx (ρ : Env)
  | rt (d : D)
  | er (ρ : Env) (k : Nat) (ys : List D)
def mutD : D → Bool
  | .lst _ => true
  | .dic _ _ => true
  | _ => false
/-- a list of our own at i, changed -/
def ownPut (ρ : Env) (i : Nat) (f : List D → Option (List D)) : Option Env := match ρ[i]?.join with
  | some (.lst xs, true) => (f xs).map fun ys => setS ρ i (.lst ys) true
  | _ => none
def popAt (ρ : Env) (j : Nat) (n : Int) : Option (D × Env) := match ρ[j]?.join with
  | some (.lst xs, true) => if Nat.ble xs.length sizeMax then (ixNat xs.length n).bind fun k => (xs[k]?).map fun d => (d, setS ρ j (.lst (xs.eraseIdx k)) true) else none
  | _ => none
def frzS (ρ : Env) (i : Nat) : Option Env := match ρ[i]?.join with
  | some (d, _) => some (setS ρ i d false)
  | none => none
/-- o[a] = b -/
def putIx (ρ : Env) (i : Nat) (a b : D) : M Env := match ρ[i]?.join with
  | some (.cell g, _) => (match a with
    | .int n => fun st => (match st[g]? with
      | some xs => (match ixNat xs.length n, b with
        | some k, .int _ => .ok ρ (st.set g (xs.set k b))
        | _, _ => .stuck)
      | none => .stuck)
    | _ => M.stuck)
  | some (.lst xs, true) => (match a with
    | .int n => (match ixNat xs.length n with
      | some k => M.pure (setS ρ i (.lst (xs.set k b)) true)
      | none => M.stuck)
    | _ => M.stuck)
  | some (.dic ks vs, true) => if isKey a && Nat.ble ks.length sizeMax then M.pure (setS ρ i (.dic (dputK a ks) (dputV a b ks vs)) true) else M.stuck
  | _ => M.stuck
def setPar : Env → List Nat → List Bool → List D → Option Env
  | ρ, [], [], [] => some ρ
  | ρ, i :: is, o :: os, d :: ds => if o && !mutD d then none else setPar (setS ρ i d o) is os ds
  | _, _, _, _ => none
def allInts : List D → Bool
  | [] => true
  | .int _ :: r => allInts r
  | _ => false
def newCell (ds : List D) : M D := fun st => if allInts ds && Nat.ble ds.length sizeMax then .ok (.cell st.length) (st ++ [ds]) else .stuck

def forLoop (tg : Tg) (body : Env → M Out) : List D → Env → M Out
  | [], ρ => M.pure (.nx ρ)
  | d :: ds, ρ => M.bind (M.of (setTg ρ tg d)) fun ρ1 => M.bind (body ρ1) fun o => match o with
    | .nx ρ2 => forLoop tg body ds ρ2
    | .rt v => M.pure (.rt v)
    | .er ρ2 k ys => M.pure (.er ρ2 k ys)
def whileLoop (test : Env → M Bool) (body : Env → M Out) : Nat → Env → M Out
  | 0, _ => M.stuck
  | n + 1, ρ => M.bind (test ρ) fun t => if t then M.bind (body ρ) fun o => match o with
    | .nx ρ2 => whileLoop test body n ρ2
    | .rt v => M.pure (.rt v)
    | .er ρ2 k ys => M.pure (.er ρ2 k ys)
    else M.pure (.nx ρ)
@[reducible] def nxt (m : M Env) : M Out := M.bind m fun ρ => M.pure (.nx ρ)

/-- what a call may let out -/
def tryX (m : M D) (ρ : Env) (f : D → M Out) : M Out := fun st => match m st with
  | .ok d st' => f d st'
  | .exc k ys st' => .ok (.er ρ k ys) st'
  | .stuck => .stuck
/-- an expression whose calls may let errors out -/
def mx (c : Ctx) : IE → Env → M D
  | .call f es => fun ρ => M.bind (noExc (row (mds c es) ρ)) fun ds => c.call f ds
  | .ite e a b => fun ρ => M.bind (noExc ((md c e).t ρ)) fun t => if t then mx c a ρ else mx c b ρ
  | e => fun ρ => noExc ((md c e).s ρ)
def haOf (ys : List D) : HA → Option D
  | .k d => some d
  | .f n => ys[n]?
def hasOf (ys : List D) : List HA → Option (List D)
  | [] => some []
  | a :: as => (haOf ys a).bind fun d => (hasOf ys as).map (d :: ·)
def hxOf (ys : List D) : HX → Option D
  | .one a => haOf ys a
  | .lst as => (hasOf ys as).map .lst
  | .tup as => (hasOf ys as).map .tup
def Hd.drop (h : Hd) (ρ : Env) : Env := match h.nm with
  | some i => ρ.set i none
  | none => ρ
def Hd.run (h : Hd) (ρ : Env) (ys : List D) : M Out := match h.act with
  | .set t e => M.bind (M.of (hxOf ys e)) fun d => M.pure (.nx (h.drop (setS ρ t d false)))
  | .ret e => M.bind (M.of (hxOf ys e)) fun d => M.pure (.rt d)
  | .keep t => M.pure (.nx (h.drop (setS ρ t (.err h.k ys) false)))
def handle : List Hd → Env → Nat → List D → M Out
  | [], ρ, k, ys => M.pure (.er ρ k ys)
  | h :: hs, ρ, k, ys => if Nat.beq h.k k then h.run ρ ys else handle hs ρ k ys
def caught (hs : List Hd) : Out → M Out
  | .er ρ k ys => handle hs ρ k ys
  | o => M.pure o
/-- what a for goes through: values that may be kept -/
def itS (c : Ctx) : IE → Env → M (List D)
  | .range a => (md c (.range a)).i
  | .range2 a b => (md c (.range2 a b)).i
  | .enum a => fun ρ => M.bind ((md c a).s ρ) fun x => M.of (enumOf x)
  | .zip a b => fun ρ => M.bind ((md c a).s ρ) fun x => M.bind ((md c b).s ρ) fun y => M.of (zipOf x y)
  | e => iOf (md c e).s
mutual
def xs (c : Ctx) : IS → Env → M Out
  | .set tg e, ρ => M.bind ((md c e).s ρ) fun d => nxt (M.of (setTg ρ tg d))
  | .own i e, ρ => M.bind ((md c e).s ρ) fun d => if mutD d then M.pure (.nx (setS ρ i d true)) else M.stuck
  | .par is os es, ρ => M.bind (row (mds c es) ρ) fun ds => nxt (M.of (setPar ρ is os ds))
  | .frz i, ρ => nxt (M.of (frzS ρ i))
  | .ret e, ρ => M.bind ((md c e).s ρ) fun d => M.pure (.rt d)
  | .retCell es, ρ => M.bind (row (mds c es) ρ) fun ds => M.bind (newCell ds) fun d => M.pure (.rt d)
  | .ife e a b, ρ => M.bind ((md c e).t ρ) fun t => if t then xb c a ρ else xb c b ρ
  | .for_ tg it body, ρ => M.bind (itS c it ρ) fun ds => forLoop tg (xb c body) ds ρ
  | .while_ e body, ρ => whileLoop (md c e).t (xb c body) c.turns ρ
  | .app i e, ρ => M.bind ((md c e).s ρ) fun d => nxt (M.of (ownPut ρ i fun xs => short (xs ++ [d])))
  | .appPop i j e, ρ => M.bind ((md c e).s ρ) fun n => M.bind (M.of ((intOf n).bind (popAt ρ j))) fun p => nxt (M.of (ownPut p.2 i fun xs => short (xs ++ [p.1])))
  | .ext i e, ρ => M.bind ((md c e).b ρ) fun d => M.bind (M.of (seqOf d)) fun ys => nxt (M.of (ownPut ρ i fun xs => short (xs ++ ys)))
  | .pop t j, ρ => M.bind (M.of (popAt ρ j (-1))) fun p => M.pure (.nx (setS p.2 t p.1 false))
  | .popI t j e, ρ => M.bind ((md c e).s ρ) fun n => M.bind (M.of ((intOf n).bind (popAt ρ j))) fun p => M.pure (.nx (setS p.2 t p.1 false))
  | .seti i a b, ρ => M.bind ((md c b).s ρ) fun y => M.bind ((md c a).s ρ) fun x => nxt (putIx ρ i x y)
  | .ex e, ρ => M.bind ((md c e).s ρ) fun _ => M.pure (.nx ρ)
  | .setX tg e, ρ => tryX (mx c e ρ) ρ fun d => nxt (M.of (setTg ρ tg d))
  | .exX e, ρ => tryX (mx c e ρ) ρ fun _ => M.pure (.nx ρ)
  | .retX e, ρ => tryX (mx c e ρ) ρ fun d => M.pure (.rt d)
  | .raise_ k es, ρ => M.bind (row (mds c es) ρ) fun ds => M.pure (.er ρ k ds)
  | .try_ body hs, ρ => M.bind (xb c body ρ) (caught hs)
  | .raises, ρ => M.pure (.nx ρ)
  | .pass, ρ => M.pure (.nx ρ)
  | .never, _ => M.stuck
def xb (c : Ctx) : List IS → Env → M Out
  | [], ρ => M.pure (.nx ρ)
  | s :: ss, ρ => M.bind (xs c s ρ) fun o => match o with
    | .nx ρ' => xb c ss ρ'
    | .rt d => M.pure (.rt d)
    | .er ρ' k ys => M.pure (.er ρ' k ys)
end

/-- a def: how many parameters, how many slots, its body -/
structure Fn where
  np : Nat
  ns : Nat
  body : List IS
def startE (np ns : Nat) (ds : List D) : Env := ds.map (fun d => some (d, false)) ++ List.replicate (ns - np) none
/-- how a def ends -/
def finO : Out → M D
  | .rt d => M.pure d
  | .nx _ => M.pure .non
  | .er _ _ _ => M.stuck
/-- .. one that may let errors out -/
def finX : Out → M D
  | .rt d => M.pure d
  | .nx _ => M.pure .non
  | .er _ k ys => M.exc k ys
def raisesB : List IS → Bool
  | .raises :: _ => true
  | _ => false
def finF (b : List IS) : Out → M D := if raisesB b then finX else finO
structure Prog where
  fns : List Fn
  glob : List D
  turns : Nat
def Prog.run (p : Prog) : Nat → Nat → List D → M D
  | 0, _, _ => M.stuck
  | n + 1, f, ds => match p.fns[f]? with
    | some F => if ds.length = F.np then M.bind (xb ⟨p.run n, fun i => p.glob[i]?, p.turns⟩ F.body (startE F.np F.ns ds)) (finF F.body) else M.stuck
    | none => M.stuck
end Wy

set_option Elab.async false
set_option linter.all false
set_option maxRecDepth 100000
set_option autoImplicit false
/-! WyEn: enumerate over a tuple. -/
namespace WyEn
open PySem PySem.Spec PyProof.Rows L2
open PySem.Sem (wp)
/-- the two new things of enumerate(tuple) -/
abbrev ti (t : Addr) : Obj := { cls := .type "tuple_iterator", data := .fields #[.ref t, .int 0 0] }
abbrev en (i : Addr) : Obj := { cls := .type "enumerate", data := .fields #[.none, .bool false, .ref i, rawInt 0, .none, .none] }
open AutoSeq1 (wpAny_loadPart') in
theorem new_enumT (l : Addr) (items : Array Value) (n : Nat) (dct : Option Addr) (sl : Array (Option Value)) :
    Meets (Builtin.«enumerate.__new__» ⟨[.type "enumerate", .ref l], []⟩) (fun _ R s => s.heap.get? l = some { cls := .type "tuple", dict := dct, data := .seq items n, slots := sl } ∧
      R (.ok (.ret (.ref (s.heap.push (ti l)).objs.size))) { s with heap := (s.heap.push (ti l)).push (en s.heap.objs.size) }) :=
  .of_wp fun prog w A R s h => by
    obtain ⟨hp, g, d, tk, os⟩ := s
    obtain ⟨hl, h⟩ := h
    have hsub := sub_enumerate
    have hL : Heap.IsTuple (Shared.heap ⟨hp, g, d, tk, os⟩) l items := ⟨_, hl, rfl, n, rfl⟩
    wp_walk using wpAny_loadPart' hl
    refine wpAny_stack_any fun st => wpAny_pure ?_
    split
    · rename_i c _ _ _ _ _
      cases (c == Value.type "enumerate") <;> (wp_walk using wpAny_loadPart' hl, wpAny_pyIter_tuple hL; exact ⟨_, rfl, h⟩)
    · wp_walk using wpAny_loadPart' hl, wpAny_pyIter_tuple hL
      exact ⟨_, rfl, h⟩
section
variable {prog : Program} {w : World} {A : Around} {E : Value → Shared → Prop} {s : Shared}
theorem call_enumT {l : Addr} {items : Array Value} {Q : Value → Shared → Prop} (hL : s.heap.IsTuple l items)
    (h : ∀ h', IsEnum h' (s.heap.objs.size + 1) s.heap.objs.size 0 .none → h'.IsTupleIter s.heap.objs.size l 0 → (∀ b o, s.heap.get? b = some o → h'.get? b = some o) → Q (.ref (s.heap.objs.size + 1)) { s with heap := h' }) :
    wpAny (model prog w) A (call (.type "enumerate") [.ref l]) Q E s := by
  obtain ⟨⟨c, dct, dt, sl⟩, hl, hc, n, hd⟩ := hL
  cases (show c = .type "tuple" from hc)
  cases (show dt = .seq items n from hd)
  refine callType_new F.called_enumerate (by decide) (F.typeCall_enumerate_1 _) (F.newCall_enumerate_1 _) (fun obj => F.args_object_init_2 obj _) F.entry_enumerate_new (new_enumT l items n dct sl) ⟨hl, ?_⟩
  have hz : (s.heap.push (ti l)).objs.size = s.heap.objs.size + 1 := Heap.size_push ..
  show _ ∧ _
  rw [hz]
  have he : IsEnum ((s.heap.push (ti l)).push (en s.heap.objs.size)) (s.heap.objs.size + 1) s.heap.objs.size 0 .none := by
    have q := Heap.get?_push_size (s.heap.push (ti l)) (o := en s.heap.objs.size) rfl
    rwa [hz] at q
  exact ⟨⟨_, he, rfl⟩, h _ he ⟨_, Heap.get?_push_of_some _ (Heap.get?_push_size _ rfl), rfl, rfl⟩ fun b o x => Heap.get?_push_of_some _ (Heap.get?_push_of_some _ x)⟩
end
/-- the tuple at a, each item in a new pair -/
def Iet (K : PySem.W.Frag) (a : Addr) : It :=
  ⟨fun i H => ∃ (xs : List V) (x : V), SqT K H a xs ∧ xs[i]? = some x, fun i H v H' => ∃ T x, v = .ref T ∧ H T = none ∧ H' = upd H T (.tup [.int (i : Nat), x]) ∧ ∀ xs, SqT K H a xs → xs[i]? = some x, fun i H => ∃ xs : List V, SqT K H a xs ∧ xs.length ≤ i⟩
theorem turn_enumT {P : Program} {w : World} {K : PySem.W.Frag} {elts : List Expr} {kk : Nat} {tpos : Pos} (a e it : Addr) :
    Turn P w K (.Tuple elts kk tpos) (Iet K a) [e, it] e (fun i h => (∃ old, IsEnum h e it ((i : Nat) : Int) old) ∧ h.IsTupleIter it a i ∧ e ≠ it ∧ a ≠ it ∧ e ≠ a) where
  mem := List.mem_cons_self
  obj := fun i h st b hb => by
    obtain ⟨⟨old, he⟩, ⟨o, ho, hc, hd⟩, _⟩ := st
    rcases List.mem_cons.mp hb with z | z
    · exact ⟨_, z ▸ he, fun v q => by cases q⟩
    · rw [List.mem_singleton.mp z]
      exact ⟨o, ho, fun v q => by rw [hd] at q; cases q⟩
  keep := fun i h h' st k => ⟨⟨st.1.choose, k e List.mem_cons_self _ st.1.choose_spec⟩, st.2.1.at fun o q => k it (List.mem_cons_of_mem _ List.mem_cons_self) o q, st.2.2⟩
  item := by
    intro X hP hw hK hc i pins s σ H E I hf st hg
    subst hP hw hK
    obtain ⟨⟨old, he⟩, hit, hne, hai, hea⟩ := st
    obtain ⟨xs, x, hq, hx⟩ := hg
    obtain ⟨its, rv, p, hz⟩ := I.tuple hq
    obtain ⟨u, hu, ru⟩ := rv.get hx
    have hel : e < s.heap.objs.size := Heap.lt_size he
    have hil : it < s.heap.objs.size := Heap.lt_size hit.choose_spec.1
    have pt : s.heap.IsTuple a its.toArray := p
    have hin : i < its.length := (List.getElem?_eq_some_iff.mp hu).1
    refine wpAny_pyNext_enum_itemC (Draws.tuple (A := X.A.in1) (show X.A.in1.handled = none from I.ok.hd hc) it a hai its.toArray) he ⟨hit, pt⟩ (by simpa using hin) hne (by simp [hne, hea]) fun y h' tk hy ho hst hT hsz hk => ?_
    have ey : y = u := by
      have : its[i]? = some y := by simpa using hy
      rw [hu] at this
      exact (Option.some.inj this).symm
    subst ey
    refine ⟨_, rfl, wpAny_letOwnedTupleGo_enum (s := { s with heap := h', toks := tk + 1 }) ho fun h2 he2 sb => ?_⟩
    have hT2 : h2.get? s.heap.objs.size = some { cls := .type "tuple", data := .seq #[.int i tk, y] } := (sb.2 _ (Nat.ne_of_gt hel)).trans hT
    have new : ObjOk X.prog X.w (upd H s.heap.objs.size (.tup [.int (i : Nat), x])) h2 s.heap.objs.size (.tup [.int (i : Nat), x]) :=
      ⟨by show 2 ≤ sizeLine; decide, [.int i tk, y], .cons ⟨_, rfl⟩ (.cons ru .nil), ⟨_, hT2, rfl, _, rfl⟩⟩
    have I1 : Inv X pins σ (upd H s.heap.objs.size (.tup [.int (i : Nat), x])) { s with heap := h2, toks := tk + 1 } :=
      I.turnedNew (t' := tk + 1) (ch := [e, it]) (fun b ob hb q => by
        have hb1 : b ≠ e := fun z => hb (z ▸ List.mem_cons_self)
        have hb2 : b ≠ it := fun z => hb (z ▸ List.mem_cons_of_mem _ List.mem_cons_self)
        exact (sb.2 b hb1).trans (hk b ob hb1 hb2 q)) hf (Nat.le_refl _) new
    refine ⟨.ref s.heap.objs.size, _, I1, rfl, ⟨_, x, rfl, I.hok.fresh (Nat.le_refl _), rfl, fun ys hy => by rw [I.tuple_inj hy hq]; exact hx⟩, ⟨⟨y, ?_⟩, hst.1.at fun o q => (sb.2 it (Ne.symm hne)).trans q, hne, hai, hea⟩, fun b hb => ?_⟩
    · have e1 : ((i + 1 : Nat) : Int) = (i : Int) + 1 := by omega
      rw [e1]
      exact he2
    · have hb' : b < s.heap.objs.size := by
        rcases List.mem_cons.mp hb with z | z
        · exact z ▸ hel
        · exact List.mem_singleton.mp z ▸ hil
      rw [upd_ne (Nat.ne_of_lt hb')]
      exact (hf b hb).1
  done := by
    intro X hP hw hK hc i pins s σ H E I hf st hg
    subst hP hw hK
    obtain ⟨⟨old, he⟩, hit, hne, hai, hea⟩ := st
    obtain ⟨xs, hq, hx⟩ := hg
    obtain ⟨its, rv, p, hz⟩ := I.tuple hq
    obtain ⟨f0, f1, f2, f3, f4, f5⟩ := hf it (by simp)
    have hl := rv.length
    have pt : s.heap.IsTuple a its.toArray := p
    have D : Draws X.prog X.w X.A.in1 it [it, a] i (fun _ _ => False) (fun j h => j = i ∧ h.IsTupleIter it a i ∧ h.IsTuple a its.toArray) :=
      { live := fun _ _ q => ⟨_, q.2.1.choose_spec.1⟩
        frame := fun _ _ _ q k => ⟨q.1, q.2.1.at fun o z => k it List.mem_cons_self o z, q.2.2.at fun o z => k a (List.mem_cons_of_mem _ List.mem_cons_self) o z⟩
        item := fun j _ _ _ hj q _ => absurd q.1 (Nat.ne_of_lt hj)
        done := fun s2 Q2 E2 q hE => wpAny_nextOf_tuple_end (show X.A.in1.handled = none from I.ok.hd hc) q.2.1 q.2.2 (by simp; omega) hE }
    exact wpAny_pyNext_enum_endD D he ⟨rfl, hit, pt⟩ fun h' eb => ⟨rfl, I.turned (t' := s.toks) (fun b o hb q => eb b o hb q) f0 f1 f3 f4 f5⟩
  self := fun A i s Q E st h => wpAny_pyIter_enum st.1.choose_spec h
/-- the text x, each sign in a new pair -/
def Ies (x : Str) : It :=
  ⟨fun i _ => i < x.cps.size, fun i H v H' => ∃ T c, v = .ref T ∧ H T = none ∧ x.cps[i]? = some c ∧ H' = upd H T (.tup [.int (i : Nat), .str ⟨#[c]⟩]), fun i _ => x.cps.size ≤ i⟩
theorem next_text_end {prog : Program} {w : World} {A : Around} {E : Value → Shared → Prop} {s : Shared} {it : Addr} {x : Str} {t : Tok} {i : Nat} {Q : Value → Shared → Prop} (hh : A.handled = none)
    (hit : s.heap.IsStrIter it (strIterType x) x t i) (hx : x.cps[i]? = none)
    (hE : ∀ h' e, Heap.ExtBut it s.heap h' → (∃ o, h'.get? e = some o ∧ o.cls = .type "StopIteration") → E (.ref e) { s with heap := h' }) :
    wpAny (model prog w) A (Builtin.SmallTypes.nextOf (.ref it)) Q E s := by
  cases ha : x.cps.all (· < 128) with
  | false =>
    simp only [strIterType, ha, Bool.false_eq_true, if_false] at hit
    exact wpAny_nextOf_wide_end hh hit hx hE
  | true =>
    simp only [strIterType, ha, if_true] at hit
    exact wpAny_nextOf_ascii_end hh hit hx hE
theorem turn_enumS {P : Program} {w : World} {K : PySem.W.Frag} {elts : List Expr} {kk : Nat} {tpos : Pos} (x : Str) (t : Tok) (e it : Addr) :
    Turn P w K (.Tuple elts kk tpos) (Ies x) [e, it] e (fun i h => (∃ old, IsEnum h e it ((i : Nat) : Int) old) ∧ h.IsStrIter it (strIterType x) x t i ∧ e ≠ it) where
  mem := List.mem_cons_self
  obj := fun i h st b hb => by
    obtain ⟨⟨old, he⟩, ⟨o, ho, hc, hd⟩, _⟩ := st
    rcases List.mem_cons.mp hb with z | z
    · exact ⟨_, z ▸ he, fun v q => by cases q⟩
    · rw [List.mem_singleton.mp z]
      exact ⟨o, ho, fun v q => by rw [hd] at q; cases q⟩
  keep := fun i h h' st k => ⟨⟨st.1.choose, k e List.mem_cons_self _ st.1.choose_spec⟩, ⟨_, k it (List.mem_cons_of_mem _ List.mem_cons_self) _ st.2.1.choose_spec.1, st.2.1.choose_spec.2⟩, st.2.2⟩
  item := by
    intro X hP hw hK hc i pins s σ H E I hf st hg
    subst hP hw hK
    obtain ⟨⟨old, he⟩, hit, hne⟩ := st
    have hel : e < s.heap.objs.size := Heap.lt_size he
    have hil : it < s.heap.objs.size := Heap.lt_size hit.choose_spec.1
    refine wpAny_pyNext_enum_itemC (Draws.text (A := X.A.in1) (show X.A.in1.handled = none from I.ok.hd hc) it x t) he hit hg hne (by simp [hne]) fun y h' tk hy ho hst hT hsz hk => ?_
    obtain ⟨c, u, hc2, rfl⟩ := hy
    refine ⟨_, rfl, wpAny_letOwnedTupleGo_enum (s := { s with heap := h', toks := tk + 1 }) ho fun h2 he2 sb => ?_⟩
    have hT2 : h2.get? s.heap.objs.size = some { cls := .type "tuple", data := .seq #[.int i tk, .str ⟨#[c]⟩ u] } := (sb.2 _ (Nat.ne_of_gt hel)).trans hT
    have new : ObjOk X.prog X.w (upd H s.heap.objs.size (.tup [.int (i : Nat), .str ⟨#[c]⟩])) h2 s.heap.objs.size (.tup [.int (i : Nat), .str ⟨#[c]⟩]) :=
      ⟨by show 2 ≤ sizeLine; decide, [.int i tk, .str ⟨#[c]⟩ u], .cons ⟨_, rfl⟩ (.cons ⟨_, rfl⟩ .nil), ⟨_, hT2, rfl, _, rfl⟩⟩
    have I1 : Inv X pins σ (upd H s.heap.objs.size (.tup [.int (i : Nat), .str ⟨#[c]⟩])) { s with heap := h2, toks := tk + 1 } :=
      I.turnedNew (t' := tk + 1) (ch := [e, it]) (fun b ob hb q => by
        have hb1 : b ≠ e := fun z => hb (z ▸ List.mem_cons_self)
        have hb2 : b ≠ it := fun z => hb (z ▸ List.mem_cons_of_mem _ List.mem_cons_self)
        exact (sb.2 b hb1).trans (hk b ob hb1 hb2 q)) hf (Nat.le_refl _) new
    refine ⟨.ref s.heap.objs.size, _, I1, rfl, ⟨_, c, rfl, I.hok.fresh (Nat.le_refl _), hc2, rfl⟩, ⟨⟨.str ⟨#[c]⟩ u, ?_⟩, ⟨_, (sb.2 it (Ne.symm hne)).trans hst.choose_spec.1, hst.choose_spec.2⟩, hne⟩, fun b hb => ?_⟩
    · have e1 : ((i + 1 : Nat) : Int) = (i : Int) + 1 := by omega
      rw [e1]
      exact he2
    · have hb' : b < s.heap.objs.size := by
        rcases List.mem_cons.mp hb with z | z
        · exact z ▸ hel
        · exact List.mem_singleton.mp z ▸ hil
      rw [upd_ne (Nat.ne_of_lt hb')]
      exact (hf b hb).1
  done := by
    intro X hP hw hK hc i pins s σ H E I hf st hg
    subst hP hw hK
    obtain ⟨⟨old, he⟩, hit, hne⟩ := st
    have hg : x.cps.size ≤ i := hg
    obtain ⟨f0, f1, f2, f3, f4, f5⟩ := hf it (by simp)
    have D : Draws X.prog X.w X.A.in1 it [it] i (fun _ _ => False) (fun j h => j = i ∧ h.IsStrIter it (strIterType x) x t i) :=
      { live := fun _ _ q => ⟨_, q.2.choose_spec.1⟩
        frame := fun _ _ _ q k => ⟨q.1, _, k it List.mem_cons_self _ q.2.choose_spec.1, q.2.choose_spec.2⟩
        item := fun j _ _ _ hj q _ => absurd q.1 (Nat.ne_of_lt hj)
        done := fun s2 Q2 E2 q hE => next_text_end (show X.A.in1.handled = none from I.ok.hd hc) q.2 (by simp; omega) hE }
    exact wpAny_pyNext_enum_endD D he ⟨rfl, hit⟩ fun h' eb => ⟨rfl, I.turned (t' := s.toks) (fun b o hb q => eb b o hb q) f0 f1 f3 f4 f5⟩
  self := fun A i s Q E st h => wpAny_pyIter_enum st.1.choose_spec h
/-- enumerate(xs), xs a list, a tuple or a text -/
def iEnA (K : PySem.W.Frag) (ta : TA) : TI := fun σ H R => ta σ H fun vs H1 => (∃ a xs, vs = [.ref a] ∧ ((SqL K H1 a xs ∧ R (Ite K a) H1) ∨ (SqT K H1 a xs ∧ R (Iet K a) H1))) ∨ ∃ x, vs = [.str x] ∧ R (Ies x) H1
theorem pi_enA {X : Cx} {e : Expr} {ta : TA} {p pos tpos : Pos} {elts : List Expr} {kk : Nat} (hg : Gl X "enumerate") (hm : X.mg "enumerate" = none) (ha : PA X [e] ta) (hs : starEach [e] X.env = [(false, eval e X.env)]) :
    PI X (.Tuple elts kk tpos) (.Call (.Name "enumerate" p) [e] [] pos) (iEnA X.K ta) := by
  refine ⟨fun pins s σ H R I h => ?_⟩
  refine Call_ (ld_blt I hg hm boot_enumerate (PyProof.Rows.callWith_type1 (thn (ha.run pos pins s σ H _ I h) fun us s1 ⟨vs, H1, I1, r1, q1⟩ => ?_) hs rfl))
  have fp : ∀ b ∈ [s1.heap.objs.size + 1, s1.heap.objs.size], FpOk X pins H1 b := fun b hb => by
    have hle : s1.heap.objs.size ≤ b := by
      rcases List.mem_cons.mp hb with z | z
      · omega
      · have := List.mem_singleton.mp z
        omega
    exact I1.fpOk hle (I1.hok.fresh hle)
  rcases q1 with ⟨a, xs, rfl, q⟩ | ⟨x, rfl, q⟩
  case inr =>
    cases r1 with
    | cons ru rs =>
      cases rs
      obtain ⟨t, rfl⟩ := ru
      refine call_enumerate_str fun h' he hit hsz hk => wpAny_pyIter_enum he ?_
      exact ⟨s1.heap.objs.size + 1, [s1.heap.objs.size + 1, s1.heap.objs.size], _, _, H1, rfl, I1.kept (t' := s1.toks) hk, turn_enumS x t (s1.heap.objs.size + 1) s1.heap.objs.size, ⟨⟨.none, he⟩, hit, Nat.succ_ne_self _⟩, fp, q⟩
  rw [Vals.ref1 r1]
  rcases q with ⟨hq, q⟩ | ⟨hq, q⟩
  · obtain ⟨its, rv, p', hz⟩ := I1.list hq
    refine call_enumerate_list p'.isList fun h' he hit hsz hk => wpAny_pyIter_enum he ?_
    exact ⟨s1.heap.objs.size + 1, [s1.heap.objs.size + 1, s1.heap.objs.size], _, _, H1, rfl, I1.kept (t' := s1.toks) hk, turn_enum a (s1.heap.objs.size + 1) s1.heap.objs.size, ⟨⟨.none, he⟩, hit, Nat.succ_ne_self _⟩, fp, q⟩
  · obtain ⟨its, rv, p', hz⟩ := I1.tuple hq
    have pt : s1.heap.IsTuple a its.toArray := p'
    have hal : a < s1.heap.objs.size := Heap.lt_size pt.choose_spec.1
    refine call_enumT pt fun h' he hit hk => wpAny_pyIter_enum he ?_
    exact ⟨s1.heap.objs.size + 1, [s1.heap.objs.size + 1, s1.heap.objs.size], _, _, H1, rfl, I1.kept (t' := s1.toks) hk, turn_enumT a (s1.heap.objs.size + 1) s1.heap.objs.size, ⟨⟨.none, he⟩, hit, Nat.succ_ne_self _, Nat.ne_of_lt hal, Nat.ne_of_gt (Nat.lt_succ_of_lt hal)⟩, fp, q⟩
end WyEn

set_option Elab.async false
set_option linter.all false
set_option maxRecDepth 100000
set_option autoImplicit false
/-! WyRep: what stands for a datum in the heap. -/
namespace Wy
open PySem PySem.Spec PyProof.Rows L2

def S (cs : List Nat) : Str := ⟨cs.toArray⟩
theorem S_inj {a b : List Nat} (h : S a = S b) : a = b := by
  have h1 := congrArg (fun s : Str => s.cps.toList) h
  exact h1
theorem S_list (a : List Nat) : (S a).cps.toList = a := rfl
theorem S_len (a : List Nat) : (S a).length = a.length := by
  show (a.toArray).size = a.length
  simp
theorem S_of (x : Str) : S x.cps.toList = x := by
  cases x with
  | mk c => simp [S]

/-- the hidden addresses: those of lists of our own (O), those of the shared lists (C) -/
structure Gh where
  O : Addr → Prop
  C : List Addr
open Classical in
noncomputable def Gh.h (G : Gh) (H : Hp) : Hp := fun a => if G.O a ∨ a ∈ G.C then none else H a
theorem Gh.h_some {G : Gh} {H : Hp} {a : Addr} {o : HO} : G.h H a = some o ↔ H a = some o ∧ ¬ G.O a ∧ a ∉ G.C := by
  unfold Gh.h
  constructor
  · intro h
    split at h
    · cases h
    · rename_i hn
      exact ⟨h, fun z => hn (.inl z), fun z => hn (.inr z)⟩
  · rintro ⟨h, h1, h2⟩
    rw [if_neg (fun z => z.elim h1 h2)]
    exact h

def keyD : Key → D
  | .inl i => .int i
  | .inr x => .str x.cps.toList

/-- the package's errors, by numbers -/
def exN : Nat → Str
  | 0 => "NoName" | 1 => "NoNumber" | 2 => "NotHeld" | 3 => "NothingDone" | 4 => "Twice" | 5 => "Refused" | 6 => "NoWay" | 7 => "Round" | 8 => "NoPaper" | 9 => "BadText" | _ => "BadLine"
def fldN : Nat → Str
  | 0 => "name" | 1 => "number" | 2 => "owner" | _ => "thing"
def exF (k : Nat) : List Str := (exFi k).map fldN
/-- where a class stands -/
def exC (K : PySem.W.Frag) (k : Nat) : Addr := match PySem.W.nsIn K mainGlobals (exN k) with
  | some (some (.ref a)) => a
  | _ => 0
/-- which of the package's errors the module knows -/
def hasX (K : PySem.W.Frag) (k : Nat) : Prop := ∃ a, PySem.W.nsIn K mainGlobals (exN k) = some (some (.ref a))
/-- an except clause takes its own class alone -/
def ExM (K : PySem.W.Frag) (k : Nat) : Prop := ∀ j, j < 11 → hasX K j → PySem.W.exmOne K (.ref (exC K k)) (.ref (exC K j)) = some (Nat.beq j k)
/-- how instances of a class answer -/
structure ClsA (K : PySem.W.Frag) (k : Nat) : Prop where
  lt : k < 11
  cl : (PySem.W.clsIn K (exC K k)).isSome = true
  sub : PySem.W.subIn K (.ref (exC K k)) (.type "BaseException") = some true
  mro : PySem.W.mroIn K (exC K k) (.type "object") = some true
  hd : PySem.W.hasDictIn K (exC K k) = true
  ga : PySem.W.findIn K (.ref (exC K k)) "__getattribute__" = some (some (.builtin "BaseException.__getattribute__"))
  gg : PySem.W.findIn K (.ref (exC K k)) "__getattr__" = some none
  ca : PySem.W.findIn K (.ref (exC K k)) "__class__" = some (some (.builtin "object.__class__"))
  sp : PySem.W.specialIn K (.builtin "object.__class__") "__get__" = some (some (.builtin "getset_descriptor.__get__"))
  tk : PySem.W.takesIn K (.builtin "object.__class__") = some true
  nof : ∀ f ∈ exF k, PySem.W.findIn K (.ref (exC K k)) f = some none
  isL : PySem.W.kitOne K (.ref (exC K k)) (.type "LookupError") = some (!exV k)
  isV : PySem.W.kitOne K (.ref (exC K k)) (.type "ValueError") = some (exV k)
/-- an error that was caught, as an object -/
def ErO (K : PySem.W.Frag) (a : Addr) (k : Nat) (d : Option Addr) : HO := .ext fun h => ∃ (oe : Obj) (vs : Array Value), h.get? a = some oe ∧ Zc (.ref (exC K k)) d oe ∧ oe.data = .fields vs
/-- a tuple that has no dict -/
def TupAt (H : Hp) (a : Addr) (vs : List V) : Prop := ∃ o, H a = some (.frz o (.tup vs)) ∧ o.dict = none
theorem TupAt.sq {K : PySem.W.Frag} {H : Hp} {a : Addr} {vs : List V} (h : TupAt H a vs) : SqT K H a vs := .inl (.inr ⟨_, h.choose_spec.1⟩)
theorem TupAt.same {H H' : Hp} {a : Addr} {vs : List V} (s : Same H H') (h : TupAt H a vs) : TupAt H' a vs := ⟨_, s _ _ h.choose_spec.1, h.choose_spec.2⟩
mutual
inductive Rep (K : PySem.W.Frag) (C : List Addr) (H : Hp) : V → D → Prop
  | non : Rep K C H .non .non
  | bl (b : Bool) : Rep K C H (.bl b) (.bl b)
  | int (i : Int) : Rep K C H (.int i) (.int i)
  | str (cs : List Nat) : Rep K C H (.str (S cs)) (.str cs)
  | tup {a : Addr} {vs : List V} {ds : List D} : TupAt H a vs → Reps K C H vs ds → Rep K C H (.ref a) (.tup ds)
  | prx {a : Addr} {vs : List V} {ds : List D} {c : Nat} : SqT K H a vs → Reps K C H vs ds → Rep K C H (.ref a) (.exc c ds)
  | lst {a : Addr} {vs : List V} {ds : List D} : H a = some (.lst vs) → Reps K C H vs ds → Rep K C H (.ref a) (.lst ds)
  | scr {a : Addr} {vs : List V} {ds : List D} : SqL K H a vs → Reps K C H vs ds → Rep K C H (.ref a) (.scr ds)
  | dic {a : Addr} {kvs : List (Key × V)} {vs : List D} : H a = some (.dK kvs) → Reps K C H (kvs.map (·.2)) vs → Rep K C H (.ref a) (.dic (kvs.map fun p => keyD p.1) vs)
  | cell {a : Addr} {g : Nat} : C[g]? = some a → Rep K C H (.ref a) (.cell g)
  | err0 {a : Addr} {k : Nat} : ClsA K k → exF k = [] → H a = some (ErO K a k none) → Rep K C H (.ref a) (.err k [])
  | err1 {a : Addr} {k : Nat} {dd : Addr} {fs : List (Str × V)} {vs : List V} {ys : List D} : ClsA K k → H a = some (ErO K a k (some dd)) → H dd = some (.xd fs) → ((exF k).map fun f => fs.lookup f) = vs.map some → Reps K C H vs ys → Rep K C H (.ref a) (.err k ys)
inductive Reps (K : PySem.W.Frag) (C : List Addr) (H : Hp) : List V → List D → Prop
  | nil : Reps K C H [] []
  | cons {v : V} {vs : List V} {d : D} {ds : List D} : Rep K C H v d → Reps K C H vs ds → Reps K C H (v :: vs) (d :: ds)
end

section
variable {K : PySem.W.Frag} {C C' : List Addr} {H H' : Hp}
theorem pre_get {α : Type} {l l' : List α} (p : l <+: l') {i : Nat} {x : α} (h : l[i]? = some x) : l'[i]? = some x := by
  obtain ⟨t, rfl⟩ := p
  obtain ⟨hi, _⟩ := List.getElem?_eq_some_iff.mp h
  rw [List.getElem?_append_left hi]
  exact h
theorem sqT_same {a : Addr} {xs : List V} (s : Same H H') (h : SqT K H a xs) : SqT K H' a xs := by
  rcases h with h | h
  · exact .inl (h.elim (fun q => .inl (s _ _ q)) fun ⟨o, q⟩ => .inr ⟨o, s _ _ q⟩)
  · exact .inr h
mutual
theorem Rep.mono (s : Same H H') (p : C <+: C') : ∀ {v : V} {d : D}, Rep K C H v d → Rep K C' H' v d
  | _, _, .non => .non
  | _, _, .bl b => .bl b
  | _, _, .int i => .int i
  | _, _, .str cs => .str cs
  | _, _, .tup h r => .tup (h.same s) (Reps.mono s p r)
  | _, _, .prx h r => .prx (sqT_same s h) (Reps.mono s p r)
  | _, _, .lst h r => .lst (s _ _ h) (Reps.mono s p r)
  | _, _, .scr h r => .scr (s.seq h) (Reps.mono s p r)
  | _, _, .dic h r => .dic (s _ _ h) (Reps.mono s p r)
  | _, _, .cell h => .cell (pre_get p h)
  | _, _, .err0 A e h => .err0 A e (s _ _ h)
  | _, _, .err1 A h1 h2 h3 r => .err1 A (s _ _ h1) (s _ _ h2) h3 (Reps.mono s p r)
theorem Reps.mono (s : Same H H') (p : C <+: C') : ∀ {vs : List V} {ds : List D}, Reps K C H vs ds → Reps K C' H' vs ds
  | _, _, .nil => .nil
  | _, _, .cons h r => .cons (Rep.mono s p h) (Reps.mono s p r)
end
end

theorem Reps.len {K : PySem.W.Frag} {C : List Addr} {H : Hp} : ∀ {vs : List V} {ds : List D}, Reps K C H vs ds → vs.length = ds.length
  | _, _, .nil => rfl
  | _, _, .cons _ r => by rw [List.length_cons, List.length_cons, r.len]
theorem Reps.get {K : PySem.W.Frag} {C : List Addr} {H : Hp} : ∀ {vs : List V} {ds : List D} {i : Nat} {d : D}, Reps K C H vs ds → ds[i]? = some d → ∃ v, vs[i]? = some v ∧ Rep K C H v d
  | _, _, _, _, .nil, e => by simp at e
  | _, _, 0, _, .cons (v := v) h _, e => by
    simp at e
    subst e
    exact ⟨v, rfl, h⟩
  | _, _, i + 1, d, .cons _ r, e => by
    obtain ⟨v, h1, h2⟩ := Reps.get (i := i) (d := d) r (by simpa using e)
    exact ⟨v, by simpa using h1, h2⟩
theorem Reps.getV {K : PySem.W.Frag} {C : List Addr} {H : Hp} : ∀ {vs : List V} {ds : List D} {i : Nat} {v : V}, Reps K C H vs ds → vs[i]? = some v → ∃ d, ds[i]? = some d ∧ Rep K C H v d
  | _, _, _, _, .nil, e => by simp at e
  | _, _, 0, _, .cons (d := d) h _, e => by
    simp at e
    subst e
    exact ⟨d, rfl, h⟩
  | _, _, i + 1, v, .cons _ r, e => by
    obtain ⟨d, h1, h2⟩ := Reps.getV (i := i) (v := v) r (by simpa using e)
    exact ⟨d, by simpa using h1, h2⟩
theorem Reps.app {K : PySem.W.Frag} {C : List Addr} {H : Hp} {us : List V} {es : List D} (q : Reps K C H us es) : ∀ {vs : List V} {ds : List D}, Reps K C H vs ds → Reps K C H (vs ++ us) (ds ++ es)
  | _, _, .nil => q
  | _, _, .cons h r => .cons h (Reps.app q r)
theorem Reps.take {K : PySem.W.Frag} {C : List Addr} {H : Hp} : ∀ {vs : List V} {ds : List D} (n : Nat), Reps K C H vs ds → Reps K C H (vs.take n) (ds.take n)
  | _, _, 0, _ => .nil
  | _, _, _ + 1, .nil => .nil
  | _, _, n + 1, .cons h r => .cons h (Reps.take n r)
theorem Reps.drop {K : PySem.W.Frag} {C : List Addr} {H : Hp} : ∀ {vs : List V} {ds : List D} (n : Nat), Reps K C H vs ds → Reps K C H (vs.drop n) (ds.drop n)
  | _, _, 0, r => r
  | _, _, _ + 1, .nil => .nil
  | _, _, n + 1, .cons h r => Reps.drop n r
theorem Reps.set {K : PySem.W.Frag} {C : List Addr} {H : Hp} {v : V} {d : D} (h : Rep K C H v d) : ∀ {vs : List V} {ds : List D} (n : Nat), Reps K C H vs ds → Reps K C H (vs.set n v) (ds.set n d)
  | _, _, _, .nil => .nil
  | _, _, 0, .cons _ r => .cons h r
  | _, _, n + 1, .cons q r => .cons q (Reps.set h n r)
theorem Reps.erase {K : PySem.W.Frag} {C : List Addr} {H : Hp} : ∀ {vs : List V} {ds : List D} (n : Nat), Reps K C H vs ds → Reps K C H (vs.eraseIdx n) (ds.eraseIdx n)
  | _, _, _, .nil => .nil
  | _, _, 0, .cons _ r => r
  | _, _, n + 1, .cons q r => .cons q (Reps.erase n r)
theorem Reps.rev {K : PySem.W.Frag} {C : List Addr} {H : Hp} : ∀ {vs : List V} {ds : List D}, Reps K C H vs ds → Reps K C H vs.reverse ds.reverse
  | _, _, .nil => .nil
  | _, _, .cons h r => by
    rw [List.reverse_cons, List.reverse_cons]
    exact Reps.app (.cons h .nil) (Reps.rev r)

/-- a list (a dict) of our own: it stands at a hidden address -/
def Own1 (K : PySem.W.Frag) (G : Gh) (H : Hp) (a : Addr) (d : D) : Prop :=
  (∃ vs ds, d = .lst ds ∧ H a = some (.lst vs) ∧ Reps K G.C (G.h H) vs ds) ∨
  (∃ kvs vs, d = .dic (kvs.map fun p : Key × V => keyD p.1) vs ∧ H a = some (.dK kvs) ∧ Reps K G.C (G.h H) (kvs.map (·.2)) vs)
def OwnRep (K : PySem.W.Frag) (G : Gh) (H : Hp) (v : V) (d : D) : Prop := ∃ a, v = .ref a ∧ G.O a ∧ a ∉ G.C ∧ Own1 K G H a d
abbrev SRep (K : PySem.W.Frag) (G : Gh) (H : Hp) (v : V) (d : D) : Prop := Rep K G.C (G.h H) v d
def BRep (K : PySem.W.Frag) (G : Gh) (H : Hp) (v : V) (d : D) : Prop := SRep K G H v d ∨ OwnRep K G H v d

/-- what was there stays, hidden or not -/
structure Ext (G : Gh) (H : Hp) (G2 : Gh) (H2 : Hp) : Prop where
  pre : G.C <+: G2.C
  pub : ∀ a o, H a = some o → ¬ G.O a → a ∉ G.C → H2 a = some o ∧ ¬ G2.O a ∧ a ∉ G2.C
  own : ∀ a o, H a = some o → G.O a → a ∉ G.C → H2 a = some o ∧ G2.O a ∧ a ∉ G2.C
theorem Ext.same {G G2 : Gh} {H H2 : Hp} (e : Ext G H G2 H2) : Same (G.h H) (G2.h H2) := fun a o h => by
  obtain ⟨h1, h2, h3⟩ := Gh.h_some.mp h
  obtain ⟨k1, k2, k3⟩ := e.pub a o h1 h2 h3
  exact Gh.h_some.mpr ⟨k1, k2, k3⟩
theorem Ext.refl (G : Gh) (H : Hp) : Ext G H G H := ⟨List.prefix_refl _, fun _ _ h h1 h2 => ⟨h, h1, h2⟩, fun _ _ h h1 h2 => ⟨h, h1, h2⟩⟩
theorem Ext.trans {G G1 G2 : Gh} {H H1 H2 : Hp} (a : Ext G H G1 H1) (b : Ext G1 H1 G2 H2) : Ext G H G2 H2 where
  pre := a.pre.trans b.pre
  pub := fun x o h h1 h2 => by
    obtain ⟨k1, k2, k3⟩ := a.pub x o h h1 h2
    exact b.pub x o k1 k2 k3
  own := fun x o h h1 h2 => by
    obtain ⟨k1, k2, k3⟩ := a.own x o h h1 h2
    exact b.own x o k1 k2 k3
theorem SRep.ext {K : PySem.W.Frag} {G G2 : Gh} {H H2 : Hp} {v : V} {d : D} (e : Ext G H G2 H2) (r : SRep K G H v d) : SRep K G2 H2 v d := r.mono e.same e.pre
theorem SReps.ext {K : PySem.W.Frag} {G G2 : Gh} {H H2 : Hp} {v : List V} {d : List D} (e : Ext G H G2 H2) (r : Reps K G.C (G.h H) v d) : Reps K G2.C (G2.h H2) v d := r.mono e.same e.pre
theorem Own1.ext {K : PySem.W.Frag} {G G2 : Gh} {H H2 : Hp} {a : Addr} {d : D} (e : Ext G H G2 H2) (ha : ∀ o, H a = some o → H2 a = some o) (r : Own1 K G H a d) : Own1 K G2 H2 a d := by
  rcases r with ⟨vs, ds, h1, h2, h3⟩ | ⟨kvs, vs, h1, h2, h3⟩
  · exact .inl ⟨vs, ds, h1, ha _ h2, SReps.ext e h3⟩
  · exact .inr ⟨kvs, vs, h1, ha _ h2, SReps.ext e h3⟩
theorem Own1.there {K : PySem.W.Frag} {G : Gh} {H : Hp} {a : Addr} {d : D} (r : Own1 K G H a d) : ∃ o, H a = some o := by
  rcases r with ⟨vs, ds, h1, h2, h3⟩ | ⟨kvs, vs, h1, h2, h3⟩
  · exact ⟨_, h2⟩
  · exact ⟨_, h2⟩
theorem OwnRep.ext {K : PySem.W.Frag} {G G2 : Gh} {H H2 : Hp} {v : V} {d : D} (e : Ext G H G2 H2) (r : OwnRep K G H v d) : OwnRep K G2 H2 v d := by
  obtain ⟨a, h1, h2, h3, h4⟩ := r
  obtain ⟨o, ho⟩ := h4.there
  obtain ⟨k1, k2, k3⟩ := e.own a o ho h2 h3
  exact ⟨a, h1, k2, k3, h4.ext e fun o' ho' => (e.own a o' ho' h2 h3).1⟩
theorem BRep.ext {K : PySem.W.Frag} {G G2 : Gh} {H H2 : Hp} {v : V} {d : D} (e : Ext G H G2 H2) (r : BRep K G H v d) : BRep K G2 H2 v d := r.imp (SRep.ext e) (OwnRep.ext e)

/-- the shared lists as they stand -/
structure StRep (G : Gh) (H : Hp) (st : Wy.St) : Prop where
  len : G.C.length = st.length
  nd : G.C.Nodup
  at_ : ∀ (g : Nat) (a : Addr), G.C[g]? = some a → ∃ ns : List Int, st[g]? = some (ns.map D.int) ∧ H a = some (.lst (ns.map V.int))
/-- what an expression may change: the shared lists, new objects -/
structure Pres (G : Gh) (C' : List Addr) (H H' : Hp) : Prop where
  keep : ∀ a o, H a = some o → a ∉ G.C → H' a = some o
  pre : G.C <+: C'
  new : ∀ a ∈ C', a ∈ G.C ∨ H a = none
/-- .. with what is hidden there -/
abbrev Gh.at (G : Gh) (C' : List Addr) : Gh := ⟨G.O, C'⟩
theorem Pres.refl (G : Gh) (H : Hp) : Pres G G.C H H := ⟨fun _ _ h _ => h, List.prefix_refl _, fun _ h => .inl h⟩
theorem Pres.notin {G : Gh} {C' : List Addr} {H H' : Hp} (p : Pres G C' H H') {a : Addr} {o : HO} (h : H a = some o) (n : a ∉ G.C) : a ∉ C' := fun z => by
  rcases p.new a z with q | q
  · exact n q
  · rw [h] at q
    cases q
theorem Pres.ext {G : Gh} {C' : List Addr} {H H' : Hp} (p : Pres G C' H H') : Ext G H (G.at C') H' :=
  ⟨p.pre, fun a o h h1 h2 => ⟨p.keep a o h h2, h1, p.notin h h2⟩, fun a o h h1 h2 => ⟨p.keep a o h h2, h1, p.notin h h2⟩⟩
theorem Pres.trans {G : Gh} {C1 C2 : List Addr} {H H1 H2 : Hp} (a : Pres G C1 H H1) (b : Pres (G.at C1) C2 H1 H2) (st : ∀ x ∈ G.C, ∃ o, H x = some o) : Pres G C2 H H2 where
  keep := fun x o h n => b.keep x o (a.keep x o h n) (a.notin h n)
  pre := a.pre.trans b.pre
  new := fun x hx => by
    rcases b.new x hx with q | q
    · exact a.new x q
    · by_cases hc : x ∈ G.C
      · exact .inl hc
      · refine .inr ?_
        cases e : H x with
        | none => rfl
        | some o =>
          have z := a.keep x o e hc
          rw [z] at q
          cases q
theorem StRep.there {G : Gh} {H : Hp} {st : Wy.St} (s : StRep G H st) : ∀ x ∈ G.C, ∃ o, H x = some o := fun x hx => by
  obtain ⟨g, hg⟩ := List.mem_iff_getElem?.mp hx
  obtain ⟨ns, _, h⟩ := s.at_ g x hg
  exact ⟨_, h⟩

/-- the slots stand for the environment -/
def ER (K : PySem.W.Frag) (G : Gh) (σ : L2.St) (H : Hp) (ρ : Env) : Prop :=
  ∀ (i : Nat) (d : D) (o : Bool), ρ[i]? = some (some (d, o)) → ∃ v, σ[i]? = some (some v) ∧ (if o = true then OwnRep K G H v d else SRep K G H v d)
theorem ER.ext {K : PySem.W.Frag} {G G2 : Gh} {σ : L2.St} {H H2 : Hp} {ρ : Env} (e : Ext G H G2 H2) (r : ER K G σ H ρ) : ER K G2 σ H2 ρ := fun i d o h => by
  obtain ⟨v, h1, h2⟩ := r i d o h
  refine ⟨v, h1, ?_⟩
  cases o with
  | true => exact OwnRep.ext e h2
  | false => exact SRep.ext e h2

/-! ### weakest preconditions of the evaluator -/
def wp {α : Type} (m : M α) (st : Wy.St) (Q : α → Wy.St → Prop) : Prop := match m st with
  | .ok a st' => Q a st'
  | _ => False
theorem wp_bind {α β : Type} {m : M α} {f : α → M β} {st : Wy.St} {Q : β → Wy.St → Prop} (h : wp (M.bind m f) st Q) : wp m st fun a st' => wp (f a) st' Q := by
  unfold wp M.bind at *
  cases e : m st with
  | ok a st' =>
    rw [e] at h
    exact h
  | exc _ _ _ =>
    rw [e] at h
    exact h
  | stuck =>
    rw [e] at h
    exact h
theorem wp_mono {α : Type} {m : M α} {st : Wy.St} {Q Q' : α → Wy.St → Prop} (h : wp m st Q) (k : ∀ a st', Q a st' → Q' a st') : wp m st Q' := by
  unfold wp at *
  cases e : m st with
  | ok a st' =>
    rw [e] at h
    exact k _ _ h
  | exc _ _ _ =>
    rw [e] at h
    exact h
  | stuck =>
    rw [e] at h
    exact h
theorem wp_pure {α : Type} {a : α} {st : Wy.St} {Q : α → Wy.St → Prop} (h : wp (M.pure a) st Q) : Q a st := h
theorem wp_of {α : Type} {x : Option α} {st : Wy.St} {Q : α → Wy.St → Prop} (h : wp (M.of x) st Q) : ∃ a, x = some a ∧ Q a st := by
  cases x with
  | none => exact h.elim
  | some a => exact ⟨a, rfl, h⟩
theorem wp_noExc {α : Type} {m : M α} {st : Wy.St} {Q : α → Wy.St → Prop} (h : wp (noExc m) st Q) : wp m st Q := by
  unfold wp noExc at *
  cases e : m st with
  | ok a st' =>
    rw [e] at h
    exact h
  | exc _ _ _ =>
    rw [e] at h
    exact h
  | stuck =>
    rw [e] at h
    exact h

/-! ### errors -/
def wpX {α : Type} (m : M α) (st : Wy.St) (Q : α → Wy.St → Prop) (E : Nat → List D → Wy.St → Prop) : Prop := match m st with
  | .ok a st' => Q a st'
  | .exc k ys st' => E k ys st'
  | .stuck => False
theorem wpX_bind {α β : Type} {m : M α} {f : α → M β} {st : Wy.St} {Q : β → Wy.St → Prop} {E : Nat → List D → Wy.St → Prop} (h : wpX (M.bind m f) st Q E) : wpX m st (fun a st' => wpX (f a) st' Q E) E := by
  unfold wpX M.bind at *
  cases e : m st with
  | ok a st' =>
    rw [e] at h
    exact h
  | exc _ _ _ =>
    rw [e] at h
    exact h
  | stuck =>
    rw [e] at h
    exact h
theorem wpX_mono {α : Type} {m : M α} {st : Wy.St} {Q Q' : α → Wy.St → Prop} {E E' : Nat → List D → Wy.St → Prop} (h : wpX m st Q E) (k : ∀ a st', Q a st' → Q' a st') (k2 : ∀ a ys st', E a ys st' → E' a ys st') : wpX m st Q' E' := by
  unfold wpX at *
  cases e : m st with
  | ok a st' =>
    rw [e] at h
    exact k _ _ h
  | exc _ _ _ =>
    rw [e] at h
    exact k2 _ _ _ h
  | stuck =>
    rw [e] at h
    exact h
theorem wpX_no {α : Type} {m : M α} {st : Wy.St} {Q : α → Wy.St → Prop} {E : Nat → List D → Wy.St → Prop} (h : wpX (noExc m) st Q E) : wp m st Q := by
  unfold wp
  unfold wpX noExc at h
  cases e : m st with
  | ok a st' =>
    rw [e] at h
    exact h
  | exc _ _ _ =>
    rw [e] at h
    exact h
  | stuck =>
    rw [e] at h
    exact h
theorem wp_X {α : Type} {m : M α} {st : Wy.St} {Q : α → Wy.St → Prop} {E : Nat → List D → Wy.St → Prop} (h : wp m st Q) : wpX m st Q E := by
  unfold wp at h
  unfold wpX
  cases e : m st with
  | ok a st' =>
    rw [e] at h
    exact h
  | exc _ _ _ =>
    rw [e] at h
    exact h.elim
  | stuck =>
    rw [e] at h
    exact h
theorem wp_try {m : M D} {ρ : Env} {f : D → M Out} {st : Wy.St} {Q : Out → Wy.St → Prop} (h : wp (tryX m ρ f) st Q) : wpX m st (fun d st' => wp (f d) st' Q) fun k ys st' => Q (.er ρ k ys) st' := by
  unfold wp tryX at h
  unfold wpX
  cases e : m st with
  | ok a st' =>
    rw [e] at h
    exact h
  | exc _ _ _ =>
    rw [e] at h
    exact h
  | stuck =>
    rw [e] at h
    exact h
/-- an error of class k with ys in its fields, d its dict -/
structure ExcR (K : PySem.W.Frag) (G : Gh) (H : Hp) (cls : Value) (d : Option Addr) (k : Nat) (ys : List D) : Prop where
  mx : ExM K k
  cls : cls = .ref (exC K k)
  fl : (exF k = [] ∧ d = none ∧ ys = []) ∨ ∃ (dd : Addr) (fs : List (Str × V)) (vs : List V), d = some dd ∧ G.h H dd = some (.xd fs) ∧ (exF k).map (fun f => fs.lookup f) = vs.map some ∧ Reps K G.C (G.h H) vs ys
theorem ExcR.mono {K : PySem.W.Frag} {G G2 : Gh} {H H2 : Hp} {cls : Value} {d : Option Addr} {k : Nat} {ys : List D} (s : Same (G.h H) (G2.h H2)) (p : G.C <+: G2.C) (r : ExcR K G H cls d k ys) : ExcR K G2 H2 cls d k ys :=
  ⟨r.mx, r.cls, r.fl.imp id fun ⟨dd, fs, vs, h1, h2, h3, h4⟩ => ⟨dd, fs, vs, h1, s _ _ h2, h3, h4.mono s p⟩⟩

/-! ### readings -/
abbrev Rel := Gh → Hp → Hp → V → D → Prop
structure Good (K : PySem.W.Frag) (G : Gh) (σ : L2.St) (H : Hp) (ρ : Env) (st : Wy.St) : Prop where
  er : ER K G σ H ρ
  sr : StRep G H st
  hid : ∀ a, G.O a → a ∉ G.C ∧ ∃ o, H a = some o
theorem Good.pres {K : PySem.W.Frag} {G : Gh} {C' : List Addr} {σ : L2.St} {H H' : Hp} {ρ : Env} {st st' : Wy.St} (g : Good K G σ H ρ st) (p : Pres G C' H H') (s : StRep (G.at C') H' st') : Good K (G.at C') σ H' ρ st' :=
  ⟨g.er.ext p.ext, s, fun a h => by
    obtain ⟨n, o, ho⟩ := g.hid a h
    exact ⟨p.notin ho n, o, p.keep a o ho n⟩⟩
/-- the hidden stands in the heap -/
def Hid (G : Gh) (H : Hp) : Prop := ∀ a, G.O a ∨ a ∈ G.C → ∃ o, H a = some o
theorem Good.hidden {K : PySem.W.Frag} {G : Gh} {σ : L2.St} {H : Hp} {ρ : Env} {st : Wy.St} (g : Good K G σ H ρ st) : Hid G H := fun a h => h.elim (fun q => (g.hid a q).2) (g.sr.there a)

/-- .. behind an error -/
def PostX (K : PySem.W.Frag) (G : Gh) (H : Hp) (E : XK) (k : Nat) (ys : List D) (st' : Wy.St) : Prop := ∀ cls d H' C', Pres G C' H H' → StRep (G.at C') H' st' → ExcR K (G.at C') H' cls d k ys → E cls d H'
/-- behind an expression -/
def Post (rel : Rel) (G : Gh) (H : Hp) (Q : VK) (d : D) (st' : Wy.St) : Prop := ∀ v H' C', Pres G C' H H' → StRep (G.at C') H' st' → rel (G.at C') H H' v d → Q v H'
def tE (K : PySem.W.Frag) (rel : Rel) (m : Env → M D) : TE := fun σ H Q => ∃ G ρ st, Good K G σ H ρ st ∧ wp (m ρ) st (Post rel G H Q)
/-- .. that may let an error out -/
def tEX (K : PySem.W.Frag) (rel : Rel) (W : WX) (m : Env → M D) : TE := fun σ H Q => ∃ G ρ st, Good K G σ H ρ st ∧ wpX (m ρ) st (Post rel G H Q) (PostX K G H fun cls d H' => W cls d σ H')
def tT (K : PySem.W.Frag) (m : Env → M Bool) : TT := fun σ H Q => ∃ G ρ st, Good K G σ H ρ st ∧ wp (m ρ) st fun b st' => ∀ H' C', Pres G C' H H' → StRep (G.at C') H' st' → Q b H'
def tR (K : PySem.W.Frag) (m : Env → M (List D)) : TA := fun σ H Q => ∃ G ρ st, Good K G σ H ρ st ∧ wp (m ρ) st fun ds st' => ∀ vs H' C', Pres G C' H H' → StRep (G.at C') H' st' → Reps K C' ((G.at C').h H') vs ds → Q vs H'
/-- what was public stays -/
structure ExtP (G : Gh) (H : Hp) (G2 : Gh) (H2 : Hp) : Prop where
  pre : G.C <+: G2.C
  pub : ∀ a o, H a = some o → ¬ G.O a → a ∉ G.C → H2 a = some o ∧ ¬ G2.O a ∧ a ∉ G2.C
theorem Ext.p {G G2 : Gh} {H H2 : Hp} (e : Ext G H G2 H2) : ExtP G H G2 H2 := ⟨e.pre, e.pub⟩
theorem ExtP.same {G G2 : Gh} {H H2 : Hp} (e : ExtP G H G2 H2) : Same (G.h H) (G2.h H2) := fun a o h => by
  obtain ⟨h1, h2, h3⟩ := Gh.h_some.mp h
  obtain ⟨k1, k2, k3⟩ := e.pub a o h1 h2 h3
  exact Gh.h_some.mpr ⟨k1, k2, k3⟩
theorem ExtP.refl (G : Gh) (H : Hp) : ExtP G H G H := ⟨List.prefix_refl _, fun _ _ h h1 h2 => ⟨h, h1, h2⟩⟩
theorem ExtP.trans {G G1 G2 : Gh} {H H1 H2 : Hp} (a : ExtP G H G1 H1) (b : ExtP G1 H1 G2 H2) : ExtP G H G2 H2 where
  pre := a.pre.trans b.pre
  pub := fun x o h h1 h2 => by
    obtain ⟨k1, k2, k3⟩ := a.pub x o h h1 h2
    exact b.pub x o k1 k2 k3
theorem ExcR.extP {K : PySem.W.Frag} {G G2 : Gh} {H H2 : Hp} {cls : Value} {d : Option Addr} {k : Nat} {ys : List D} (e : ExtP G H G2 H2) (r : ExcR K G H cls d k ys) : ExcR K G2 H2 cls d k ys := r.mono e.same e.pre
theorem SRep.extP {K : PySem.W.Frag} {G G2 : Gh} {H H2 : Hp} {v : V} {d : D} (e : ExtP G H G2 H2) (r : SRep K G H v d) : SRep K G2 H2 v d := r.mono e.same e.pre
abbrev MK := Gh → Hp → Gh → Hp → Prop
/-- an iterator that goes through ds, whatever mk lets happen -/
def ItRep (K : PySem.W.Frag) (mk : MK) (G : Gh) (H : Hp) (J : It) (ds : List D) : Prop := ∀ G2 H2, mk G H G2 H2 → Hid G2 H2 → ∀ i : Nat,
  (ds.length ≤ i → J.stop i H2) ∧ ∀ d, ds[i]? = some d → J.go i H2 ∧ ∀ x H3, J.yld i H2 x H3 → Same H2 H3 ∧ SRep K G2 H3 x d
def tI (K : PySem.W.Frag) (mk : MK) (m : Env → M (List D)) : TI := fun σ H R => ∃ G ρ st, Good K G σ H ρ st ∧ wp (m ρ) st fun ds st' => ∀ J H' C', Pres G C' H H' → StRep (G.at C') H' st' → ItRep K mk (G.at C') H' J ds → R J H'
/-- a value that stays one, whatever mk lets happen -/
def Stab (K : PySem.W.Frag) (mk : MK) (rel : Rel) : Prop := ∀ G H0 H v d, rel G H0 H v d → ∀ G2 H2, mk G H G2 H2 → BRep K G2 H2 v d

abbrev SR (K : PySem.W.Frag) : Rel := fun G _ H v d => SRep K G H v d
abbrev BR (K : PySem.W.Frag) : Rel := fun G _ H v d => BRep K G H v d
theorem tE.weak {K : PySem.W.Frag} {m : Env → M D} {σ : L2.St} {H : Hp} {Q : VK} (h : tE K (BR K) m σ H Q) : tE K (SR K) m σ H Q := by
  obtain ⟨G, ρ, st, g, h⟩ := h
  exact ⟨G, ρ, st, g, wp_mono h fun d st' k v H' C' p s r => k v H' C' p s (.inl r)⟩

/-- a list, a dict that came up since H0, that nothing else knows -/
def FRep (K : PySem.W.Frag) (G : Gh) (H0 H : Hp) (v : V) (d : D) : Prop := ∃ a, v = .ref a ∧ H0 a = none ∧ ¬ G.O a ∧ a ∉ G.C ∧ Own1 K ⟨fun b => G.O b ∨ b = a, G.C⟩ H a d
/-- a value that may be kept; f: it is new -/
def FR (K : PySem.W.Frag) (f : Bool) : Rel := fun G H0 H v d => SRep K G H v d ∧ (f = true → mutD d = true → FRep K G H0 H v d)
theorem hid_sub {G : Gh} {a : Addr} {H : Hp} : Same ((⟨fun b => G.O b ∨ b = a, G.C⟩ : Gh).h H) (G.h H) := fun b o h => by
  obtain ⟨h1, h2, h3⟩ := Gh.h_some.mp h
  exact Gh.h_some.mpr ⟨h1, fun z => h2 (.inl z), h3⟩
theorem FRep.s {K : PySem.W.Frag} {G : Gh} {H0 H : Hp} {v : V} {d : D} (r : FRep K G H0 H v d) : SRep K G H v d := by
  obtain ⟨a, rfl, h0, h1, h2, h3⟩ := r
  rcases h3 with ⟨vs, ds, rfl, k2, k3⟩ | ⟨kvs, vs, rfl, k2, k3⟩
  · exact .lst (Gh.h_some.mpr ⟨k2, h1, h2⟩) (k3.mono hid_sub (List.prefix_refl _))
  · exact .dic (Gh.h_some.mpr ⟨k2, h1, h2⟩) (k3.mono hid_sub (List.prefix_refl _))
theorem FRep.fr {K : PySem.W.Frag} {G : Gh} {H0 H : Hp} {v : V} {d : D} {f : Bool} (r : FRep K G H0 H v d) : FR K f G H0 H v d := ⟨r.s, fun _ _ => r⟩
theorem SRep.fr {K : PySem.W.Frag} {G : Gh} {H0 H : Hp} {v : V} {d : D} (r : SRep K G H v d) : FR K false G H0 H v d := ⟨r, fun z => nomatch z⟩
/-- an older start -/
theorem FRep.start {K : PySem.W.Frag} {G : Gh} {H0 H1 H : Hp} {v : V} {d : D} (r : FRep K G H1 H v d) (k : ∀ a o, H0 a = some o → ∃ o', H1 a = some o') : FRep K G H0 H v d := by
  obtain ⟨a, e, h0, h1⟩ := r
  refine ⟨a, e, ?_, h1⟩
  cases q : H0 a with
  | none => rfl
  | some o =>
    obtain ⟨o', z⟩ := k a o q
    rw [h0] at z
    cases z
theorem FR.start {K : PySem.W.Frag} {G : Gh} {f : Bool} {H0 H1 H : Hp} {v : V} {d : D} (r : FR K f G H1 H v d) (k : ∀ a o, H0 a = some o → ∃ o', H1 a = some o') : FR K f G H0 H v d := ⟨r.1, fun h1 h2 => (r.2 h1 h2).start k⟩
/-- what was tracked is tracked -/
theorem Pres.still {G : Gh} {C' : List Addr} {H H' : Hp} {st' : Wy.St} (p : Pres G C' H H') (s : StRep (G.at C') H' st') : ∀ a o, H a = some o → ∃ o', H' a = some o' := fun a o h => by
  by_cases hc : a ∈ G.C
  · exact s.there a (p.pre.subset hc)
  · exact ⟨o, p.keep a o h hc⟩
theorem tE.toS {K : PySem.W.Frag} {f : Bool} {m : Env → M D} {σ : L2.St} {H : Hp} {Q : VK} (h : tE K (SR K) m σ H Q) : tE K (FR K f) m σ H Q := by
  obtain ⟨G, ρ, st, g, h⟩ := h
  exact ⟨G, ρ, st, g, wp_mono h fun d st' k v H' C' p s r => k v H' C' p s r.1⟩
theorem Pres.hid {G : Gh} {C' : List Addr} {H H' : Hp} {st' : Wy.St} (p : Pres G C' H H') (s : StRep (G.at C') H' st') (h : ∀ a, G.O a → a ∉ G.C ∧ ∃ o, H a = some o) : Hid (G.at C') H' := fun a q => by
  rcases q with q | q
  · obtain ⟨n, o, ho⟩ := h a q
    exact ⟨o, p.keep a o ho n⟩
  · exact s.there a q

section
variable {K : PySem.W.Frag} {G : Gh} {σ : L2.St} {H : Hp} {ρ : Env} {st : Wy.St} {β : Type} {Q0 : β → Wy.St → Prop}
/-- one expression, then the rest -/
theorem go {rel : Rel} {ma : Env → M D} {f : D → M β} {R : VK} (g : Good K G σ H ρ st) (h : wp (M.bind (ma ρ) f) st Q0)
    (k : ∀ x st1 v H1 C1, Pres G C1 H H1 → Good K (G.at C1) σ H1 ρ st1 → rel (G.at C1) H H1 v x → wp (f x) st1 Q0 → R v H1) : tE K rel ma σ H R :=
  ⟨G, ρ, st, g, wp_mono (wp_bind h) fun x st1 hx v H1 C1 p s r => k x st1 v H1 C1 p (g.pres p s) r hx⟩
theorem goT {ma : Env → M Bool} {f : Bool → M β} {R : Bool → Hp → Prop} (g : Good K G σ H ρ st) (h : wp (M.bind (ma ρ) f) st Q0)
    (k : ∀ x st1 H1 C1, Pres G C1 H H1 → Good K (G.at C1) σ H1 ρ st1 → wp (f x) st1 Q0 → R x H1) : tT K ma σ H R :=
  ⟨G, ρ, st, g, wp_mono (wp_bind h) fun x st1 hx H1 C1 p s => k x st1 H1 C1 p (g.pres p s) hx⟩
theorem goR {ma : Env → M (List D)} {f : List D → M β} {R : List V → Hp → Prop} (g : Good K G σ H ρ st) (h : wp (M.bind (ma ρ) f) st Q0)
    (k : ∀ x st1 v H1 C1, Pres G C1 H H1 → Good K (G.at C1) σ H1 ρ st1 → Reps K C1 ((G.at C1).h H1) v x → wp (f x) st1 Q0 → R v H1) : tR K ma σ H R :=
  ⟨G, ρ, st, g, wp_mono (wp_bind h) fun x st1 hx v H1 C1 p s r => k x st1 v H1 C1 p (g.pres p s) r hx⟩
theorem goI {mk : MK} {ma : Env → M (List D)} {f : List D → M β} {R : It → Hp → Prop} (g : Good K G σ H ρ st) (h : wp (M.bind (ma ρ) f) st Q0)
    (k : ∀ x st1 J H1 C1, Pres G C1 H H1 → Good K (G.at C1) σ H1 ρ st1 → ItRep K mk (G.at C1) H1 J x → wp (f x) st1 Q0 → R J H1) : tI K mk ma σ H R :=
  ⟨G, ρ, st, g, wp_mono (wp_bind h) fun x st1 hx J H1 C1 p s r => k x st1 J H1 C1 p (g.pres p s) r hx⟩
/-- nothing but new objects -/
theorem Pres.more {G : Gh} {H H' : Hp} (s : Same H H') : Pres G G.C H H' := ⟨fun a o h _ => s a o h, List.prefix_refl _, fun _ h => .inl h⟩
theorem StRep.more {G : Gh} {H H' : Hp} {st : Wy.St} (r : StRep G H st) (s : Same H H') : StRep G H' st :=
  ⟨r.len, r.nd, fun g a h => by
    obtain ⟨ns, h1, h2⟩ := r.at_ g a h
    exact ⟨ns, h1, s _ _ h2⟩⟩
theorem Good.more {H' : Hp} (g : Good K G σ H ρ st) (s : Same H H') : Good K G σ H' ρ st := g.pres (Pres.more s) (g.sr.more s)
theorem Hid.more {G : Gh} {H H' : Hp} (h : Hid G H) (s : Same H H') : Hid G H' := fun a q => by
  obtain ⟨o, ho⟩ := h a q
  exact ⟨o, s a o ho⟩
theorem Ext.more {G : Gh} {H H' : Hp} (s : Same H H') : Ext G H G H' := (Pres.more (G := G) s).ext
/-- the end: a value made at once -/
theorem fin {rel : Rel} {G0 : Gh} {H0 : Hp} {Q : VK} {d : D} {v : V} {H' : Hp} {C' : List Addr} (h : Post rel G0 H0 Q d st) (p : Pres G0 C' H0 H) (g : Good K (G0.at C') σ H ρ st) (s : Same H H') (r : rel (G0.at C') H0 H' v d) (w : ∀ x ∈ G0.C, ∃ o, H0 x = some o) : Q v H' :=
  h v H' C' (p.trans (Pres.more (G := G0.at C') s) w) (g.sr.more s) r
end
end Wy

set_option Elab.async false
set_option linter.all false
set_option maxRecDepth 100000
set_option autoImplicit false
/-! WyOp: the operations on data, as the model does them. -/
namespace Wy
open PySem PySem.Spec PyProof.Rows L2

mutual
def toPy : D → PyData
  | .non => .none
  | .bl b => .bool b
  | .int i => .int i
  | .str s => .str (S s)
  | .tup xs => .tuple (toPys xs)
  | .lst xs => .list (toPys xs)
  | _ => .none
def toPys : List D → List PyData
  | [] => []
  | x :: xs => toPy x :: toPys xs
end
theorem S_beq (a b : List Nat) : (S a == S b) = (a == b) := by
  rw [Bool.eq_iff_iff, beq_iff_eq, beq_iff_eq]
  exact ⟨S_inj, fun e => by rw [e]⟩
mutual
theorem toPy_eqv : ∀ a b : D, plain a = true → plain b = true → PyData.eqv (toPy a) (toPy b) = deq a b
  | .non, b, _, hb => by cases b <;> first | exact absurd hb Bool.false_ne_true | simp [toPy, PyData.eqv, deq]
  | .bl x, b, _, hb => by cases b <;> first | exact absurd hb Bool.false_ne_true | simp [toPy, PyData.eqv, deq, bInt]
  | .int x, b, _, hb => by cases b <;> first | exact absurd hb Bool.false_ne_true | simp [toPy, PyData.eqv, deq, bInt]
  | .str x, b, _, hb => by cases b <;> first | exact absurd hb Bool.false_ne_true | simp [toPy, PyData.eqv, deq, S_beq]
  | .tup xs, b, ha, hb => by
    cases b <;> first | exact absurd hb Bool.false_ne_true | (simp only [toPy, PyData.eqv, deq]; done) | skip
    rename_i ys
    simp only [toPy, PyData.eqv, deq]
    exact toPys_eqv xs ys (by simpa [plain] using ha) (by simpa [plain] using hb)
  | .lst xs, b, ha, hb => by
    cases b <;> first | exact absurd hb Bool.false_ne_true | (simp only [toPy, PyData.eqv, deq]; done) | skip
    rename_i ys
    simp only [toPy, PyData.eqv, deq]
    exact toPys_eqv xs ys (by simpa [plain] using ha) (by simpa [plain] using hb)
  | .dic _ _, _, ha, _ => absurd ha (by simp [plain])
  | .cell _, _, ha, _ => absurd ha (by simp [plain])
  | .err _ _, _, ha, _ => absurd ha (by simp [plain])
  | .exc _ _, _, ha, _ => absurd ha (by simp [plain])
  | .scr _, _, ha, _ => absurd ha (by simp [plain])
theorem toPys_eqv : ∀ a b : List D, plains a = true → plains b = true → PyData.eqvAll (toPys a) (toPys b) = deqs a b
  | [], [], _, _ => by simp [toPys, PyData.eqvAll, deqs]
  | [], _ :: _, _, _ => by simp [toPys, PyData.eqvAll, deqs]
  | _ :: _, [], _, _ => by simp [toPys, PyData.eqvAll, deqs]
  | x :: xs, y :: ys, ha, hb => by
    simp only [plains, Bool.and_eq_true] at ha hb
    simp only [toPys, PyData.eqvAll, deqs]
    rw [toPy_eqv x y ha.1 hb.1, toPys_eqv xs ys ha.2 hb.2]
end
mutual
theorem toPy_plain : ∀ a : D, plain a = true → (toPy a).plain = true
  | .non, _ => rfl
  | .bl _, _ => rfl
  | .int _, _ => rfl
  | .str _, _ => rfl
  | .tup xs, h => by
    simp only [toPy, PyData.plain]
    exact toPys_plain xs (by simpa [plain] using h)
  | .lst xs, h => by
    simp only [toPy, PyData.plain]
    exact toPys_plain xs (by simpa [plain] using h)
  | .dic _ _, ha => absurd ha (by simp [plain])
  | .cell _, ha => absurd ha (by simp [plain])
  | .err _ _, ha => absurd ha (by simp [plain])
  | .exc _ _, ha => absurd ha (by simp [plain])
  | .scr _, ha => absurd ha (by simp [plain])
theorem toPys_plain : ∀ a : List D, plains a = true → PyData.plainAll (toPys a) = true
  | [], _ => rfl
  | x :: xs, h => by
    simp only [plains, Bool.and_eq_true] at h
    simp only [toPys, PyData.plainAll, Bool.and_eq_true]
    exact ⟨toPy_plain x h.1, toPys_plain xs h.2⟩
end
mutual
theorem toPy_dep : ∀ a : D, (toPy a).depth = dep a
  | .non => rfl
  | .bl _ => rfl
  | .int _ => rfl
  | .str _ => rfl
  | .tup xs => by
    simp only [toPy, PyData.depth, dep]
    rw [toPys_dep xs]
  | .lst xs => by
    simp only [toPy, PyData.depth, dep]
    rw [toPys_dep xs]
  | .dic _ _ => rfl
  | .cell _ => rfl
  | .err _ _ => rfl
  | .exc _ _ => rfl
  | .scr _ => rfl
theorem toPys_dep : ∀ a : List D, PyData.depthAll (toPys a) = deps a
  | [] => rfl
  | x :: xs => by
    simp only [toPys, PyData.depthAll, deps]
    rw [toPy_dep x, toPys_dep xs]
end
theorem flat_dep {d : D} (h : flat d = true) : dep d ≤ 60 := by
  cases d <;> first | exact Nat.zero_le _ | (simp only [flat] at h; exact Nat.le_of_ble_eq_true h)
theorem toPys_map : ∀ xs : List D, toPys xs = xs.map toPy
  | [] => rfl
  | x :: xs => by rw [toPys, toPys_map xs]; rfl
theorem slt_eq : ∀ a b : List Nat, slt a b = decide (a < b)
  | [], [] => by simp [slt]
  | [], _ :: _ => by simp [slt]
  | _ :: _, [] => by simp [slt]
  | x :: xs, y :: ys => by
    unfold slt
    rw [slt_eq xs ys]
    by_cases h : x < y
    · rw [if_pos (by simpa using h)]
      exact (decide_eq_true (List.cons_lt_cons_iff.mpr (.inl h))).symm
    · rw [if_neg (by simpa using h)]
      by_cases e : x = y
      · subst e
        rw [if_pos (by simp)]
        exact decide_eq_decide.mpr ⟨fun q => List.cons_lt_cons_iff.mpr (.inr ⟨rfl, q⟩), fun q => (List.cons_lt_cons_iff.mp q).elim (fun z => absurd z h) fun z => z.2⟩
      · rw [if_neg (by simpa using e)]
        exact (decide_eq_false fun q => (List.cons_lt_cons_iff.mp q).elim h fun z => e z.1).symm
mutual
theorem alk_like : ∀ a b : D, alk a b = true → W.alike (toPy a) (toPy b) = true
  | .non, b, h => by cases b <;> first | exact absurd h Bool.false_ne_true | simp [toPy, W.alike]
  | .bl _, b, h => by cases b <;> first | exact absurd h Bool.false_ne_true | simp [toPy, W.alike]
  | .int _, b, h => by cases b <;> first | exact absurd h Bool.false_ne_true | simp [toPy, W.alike]
  | .str _, b, h => by cases b <;> first | exact absurd h Bool.false_ne_true | simp [toPy, W.alike]
  | .tup xs, b, h => by
    cases b with
    | tup ys =>
      simp only [toPy, W.alike]
      exact alks_like xs ys (by simpa [alk] using h)
    | _ => exact absurd h Bool.false_ne_true
  | .lst xs, b, h => by
    cases b with
    | lst ys =>
      simp only [toPy, W.alike]
      exact alks_like xs ys (by simpa [alk] using h)
    | _ => exact absurd h Bool.false_ne_true
  | .dic _ _, b, h => by cases b <;> exact absurd h Bool.false_ne_true
  | .cell _, b, h => by cases b <;> exact absurd h Bool.false_ne_true
  | .err _ _, b, h => by cases b <;> exact absurd h Bool.false_ne_true
  | .exc _ _, b, h => by cases b <;> exact absurd h Bool.false_ne_true
  | .scr _, b, h => by cases b <;> exact absurd h Bool.false_ne_true
theorem alks_like : ∀ a b : List D, alks a b = true → W.alikeAll (toPys a) (toPys b) = true
  | [], _, _ => by simp [toPys, W.alikeAll]
  | _ :: _, [], _ => by simp [toPys, W.alikeAll]
  | x :: xs, y :: ys, h => by
    simp only [alks, Bool.and_eq_true] at h
    simp only [toPys, W.alikeAll, Bool.and_eq_true]
    exact ⟨alk_like x y h.1, alks_like xs ys h.2⟩
end
mutual
theorem alk_eqv : ∀ a b : D, alk a b = true → PyData.eqv (toPy a) (toPy b) = deq a b
  | .non, b, h => by cases b <;> first | exact absurd h Bool.false_ne_true | simp [toPy, PyData.eqv, deq]
  | .bl _, b, h => by cases b <;> first | exact absurd h Bool.false_ne_true | simp [toPy, PyData.eqv, deq]
  | .int _, b, h => by cases b <;> first | exact absurd h Bool.false_ne_true | simp [toPy, PyData.eqv, deq]
  | .str _, b, h => by cases b <;> first | exact absurd h Bool.false_ne_true | simp [toPy, PyData.eqv, deq, S_beq]
  | .tup xs, b, h => by
    cases b with
    | tup ys =>
      simp only [toPy, PyData.eqv, deq]
      exact alks_eqv xs ys (by simpa [alk] using h)
    | _ => exact absurd h Bool.false_ne_true
  | .lst xs, b, h => by
    cases b with
    | lst ys =>
      simp only [toPy, PyData.eqv, deq]
      exact alks_eqv xs ys (by simpa [alk] using h)
    | _ => exact absurd h Bool.false_ne_true
  | .dic _ _, b, h => by cases b <;> exact absurd h Bool.false_ne_true
  | .cell _, b, h => by cases b <;> exact absurd h Bool.false_ne_true
  | .err _ _, b, h => by cases b <;> exact absurd h Bool.false_ne_true
  | .exc _ _, b, h => by cases b <;> exact absurd h Bool.false_ne_true
  | .scr _, b, h => by cases b <;> exact absurd h Bool.false_ne_true
theorem alks_eqv : ∀ a b : List D, alks a b = true → PyData.eqvAll (toPys a) (toPys b) = deqs a b
  | [], [], _ => by simp [toPys, PyData.eqvAll, deqs]
  | [], _ :: _, _ => by simp [toPys, PyData.eqvAll, deqs]
  | _ :: _, [], _ => by simp [toPys, PyData.eqvAll, deqs]
  | x :: xs, y :: ys, h => by
    simp only [alks, Bool.and_eq_true] at h
    simp only [toPys, PyData.eqvAll, deqs]
    rw [alk_eqv x y h.1, alks_eqv xs ys h.2]
end
mutual
theorem alk_lt : ∀ a b : D, alk a b = true → W.dataLt (toPy a) (toPy b) = dlt a b
  | .non, b, h => by
    cases b <;> first | exact absurd h Bool.false_ne_true | skip
    show PyProof.Rows.lexLt PyProof.Rows.itemOrd [] [] = false
    simp [PyProof.Rows.lexLt]
  | .bl x, b, h => by
    cases b <;> first | exact absurd h Bool.false_ne_true | skip
    rename_i y
    show W.dataLt (.bool x) (.bool y) = (!x && y)
    rw [W.dataLt_bool]
    cases x <;> cases y <;> rfl
  | .int x, b, h => by
    cases b <;> first | exact absurd h Bool.false_ne_true | skip
    exact W.dataLt_int _ _
  | .str x, b, h => by
    cases b <;> first | exact absurd h Bool.false_ne_true | skip
    rename_i y
    show W.dataLt (.str (S x)) (.str (S y)) = slt x y
    rw [W.dataLt_str, slt_eq]
    rfl
  | .tup xs, b, h => by
    cases b with
    | tup ys =>
      simp only [toPy, dlt]
      rw [W.dataLt_tuple]
      exact alks_lt xs ys (by simpa [alk] using h)
    | _ => exact absurd h Bool.false_ne_true
  | .lst xs, b, h => by
    cases b with
    | lst ys =>
      simp only [toPy, dlt]
      rw [W.dataLt_list]
      exact alks_lt xs ys (by simpa [alk] using h)
    | _ => exact absurd h Bool.false_ne_true
  | .dic _ _, b, h => by cases b <;> exact absurd h Bool.false_ne_true
  | .cell _, b, h => by cases b <;> exact absurd h Bool.false_ne_true
  | .err _ _, b, h => by cases b <;> exact absurd h Bool.false_ne_true
  | .exc _ _, b, h => by cases b <;> exact absurd h Bool.false_ne_true
  | .scr _, b, h => by cases b <;> exact absurd h Bool.false_ne_true
theorem alks_lt : ∀ a b : List D, alks a b = true → PyProof.Rows.lexLt PyProof.Rows.itemOrd (W.keyToksAll (toPys a)) (W.keyToksAll (toPys b)) = dlts a b
  | [], [], _ => by
    simp only [toPys, W.keyToksAll, dlts]
    exact PyProof.Rows.lex_irrefl _
  | [], y :: ys, _ => by
    simp only [toPys, W.keyToksAll, dlts]
    rw [PyProof.Rows.lex_diff (O := PyProof.Rows.itemOrd) (by simp)]
    simp [PyProof.Rows.itemLt]
  | x :: xs, [], _ => by
    simp only [toPys, W.keyToksAll, dlts]
    rw [PyProof.Rows.lex_diff (O := PyProof.Rows.itemOrd) (by simp)]
    simp [PyProof.Rows.itemLt]
  | x :: xs, y :: ys, h => by
    simp only [alks, Bool.and_eq_true] at h
    have h1 := alk_like x y h.1
    have e1 := alk_eqv x y h.1
    simp only [toPys, dlts]
    cases e : deq x y with
    | true =>
      rw [e] at e1
      rw [if_pos rfl, W.dataLt_all_yes h1 e1]
      exact alks_lt xs ys h.2
    | false =>
      rw [e] at e1
      rw [if_neg Bool.false_ne_true, W.dataLt_all_no h1 e1]
      exact alk_lt x y h.1
end

/-! ### what a datum's value is -/
section
variable {K : PySem.W.Frag} {G : Gh} {H : Hp} {v : V}
theorem hSame {G : Gh} {H : Hp} : Same (G.h H) H := fun a o h => (Gh.h_some.mp h).1
theorem BRep.lst {ds : List D} (r : BRep K G H v (.lst ds)) : ∃ a vs, v = .ref a ∧ H a = some (.lst vs) ∧ Reps K G.C (G.h H) vs ds := by
  rcases r with r | ⟨a, rfl, _, _, r⟩
  · cases r with
    | lst h1 h2 => exact ⟨_, _, rfl, hSame _ _ h1, h2⟩
  · rcases r with ⟨vs, ds', e, h1, h2⟩ | ⟨kvs, vs, e, _⟩
    · cases e
      exact ⟨a, vs, rfl, h1, h2⟩
    · cases e
theorem BRep.dic {ks vs : List D} (r : BRep K G H v (.dic ks vs)) : ∃ a kvs, v = .ref a ∧ H a = some (.dK kvs) ∧ ks = (kvs.map fun p : Key × V => keyD p.1) ∧ Reps K G.C (G.h H) (kvs.map (·.2)) vs := by
  rcases r with r | ⟨a, rfl, _, _, r⟩
  · cases r with
    | dic h1 h2 => exact ⟨_, _, rfl, hSame _ _ h1, rfl, h2⟩
  · rcases r with ⟨vs', ds', e, _⟩ | ⟨kvs, vs', e, h1, h2⟩
    · cases e
    · cases e
      exact ⟨a, kvs, rfl, h1, rfl, h2⟩
theorem BRep.s {d : D} (h : mutD d = false) (r : BRep K G H v d) : SRep K G H v d := by
  rcases r with r | ⟨a, rfl, _, _, r⟩
  · exact r
  · rcases r with ⟨vs', ds', e, _⟩ | ⟨kvs, vs', e, h1, h2⟩
    · subst e
      cases h
    · subst e
      cases h
theorem BRep.tup {ds : List D} (r : BRep K G H v (.tup ds)) : ∃ a vs, v = .ref a ∧ SqT K H a vs ∧ Reps K G.C (G.h H) vs ds := by
  cases r.s rfl with
  | tup h1 h2 => exact ⟨_, _, rfl, (h1.same hSame).sq, h2⟩
theorem BRep.tupA {ds : List D} (r : BRep K G H v (.tup ds)) : ∃ a vs, v = .ref a ∧ TupAt (G.h H) a vs ∧ Reps K G.C (G.h H) vs ds := by
  cases r.s rfl with
  | tup h1 h2 => exact ⟨_, _, rfl, h1, h2⟩
theorem BRep.prx {ds : List D} {c : Nat} (r : BRep K G H v (.exc c ds)) : ∃ a vs, v = .ref a ∧ SqT K H a vs ∧ Reps K G.C (G.h H) vs ds := by
  cases r.s rfl with
  | prx h1 h2 => exact ⟨_, _, rfl, sqT_same hSame h1, h2⟩
theorem BRep.int {i : Int} (r : BRep K G H v (.int i)) : v = .int i := by cases r.s rfl; rfl
theorem BRep.bl {i : Bool} (r : BRep K G H v (.bl i)) : v = .bl i := by cases r.s rfl; rfl
theorem BRep.str {i : List Nat} (r : BRep K G H v (.str i)) : v = .str (S i) := by cases r.s rfl; rfl
theorem BRep.non (r : BRep K G H v .non) : v = .non := by cases r.s rfl; rfl
mutual
theorem Rep.dp : ∀ {v : V} {d : D}, plain d = true → Rep K G.C (G.h H) v d → Dp K H v (toPy d)
  | _, _, _, .non => .non
  | _, _, _, .bl b => .bl b
  | _, _, _, .int i => .int i
  | _, _, _, .str cs => .str (S cs)
  | _, _, h, .prx _ _ => absurd h (by simp [plain])
  | _, _, h, .tup h1 h2 => .tup ((h1.same hSame).sq) (Reps.dp (by simpa [plain] using h) h2)
  | _, _, h, .lst h1 h2 => .lst (.of (hSame _ _ h1)) (Reps.dp (by simpa [plain] using h) h2)
  | _, _, h, .dic _ _ => absurd h (by simp [plain])
  | _, _, h, .cell _ => absurd h (by simp [plain])
  | _, _, h, .scr _ _ => absurd h (by simp [plain])
theorem Reps.dp : ∀ {v : List V} {d : List D}, plains d = true → Reps K G.C (G.h H) v d → DpAll K H v (toPys d)
  | _, _, _, .nil => .nil
  | _, _, h, .cons h1 h2 => by
    simp only [plains, Bool.and_eq_true] at h
    exact .cons (Rep.dp h.1 h1) (Reps.dp h.2 h2)
end
theorem BRep.dp {d : D} (h : plain d = true) (r : BRep K G H v d) : Dp K H v (toPy d) := by
  rcases r with r | ⟨a, rfl, _, _, r⟩
  · exact Rep.dp h r
  · rcases r with ⟨vs', ds', e, h1, h2⟩ | ⟨kvs, vs', e, h1, h2⟩
    · subst e
      exact .lst (.of h1) (Reps.dp (by simpa [plain] using h) h2)
    · subst e
      exact absurd h (by simp [plain])
end
end Wy

set_option Elab.async false
set_option linter.all false
set_option maxRecDepth 100000
set_option autoImplicit false
/-! WyOp2: comparisons, arithmetic, subscripts, by data. -/
namespace Wy
open PySem PySem.Spec PyProof.Rows L2

/-! ### keys -/
def toKey : D → Option Key
  | .int i => some (.inl i)
  | .str s => some (.inr (S s))
  | _ => none
theorem key_of {d : D} (h : isKey d = true) : ∃ k, toKey d = some k ∧ keyD k = d := by
  cases d <;> first | exact absurd h Bool.false_ne_true | skip
  · exact ⟨_, rfl, rfl⟩
  · exact ⟨_, rfl, rfl⟩
theorem key_eq (k k' : Key) : deq (keyD k) (keyD k') = decide (k = k') := by
  cases k with
  | inl i => cases k' with
    | inl j =>
      show (i == j) = decide (Sum.inl i = Sum.inl j)
      rw [Bool.eq_iff_iff, beq_iff_eq, decide_eq_true_iff]
      exact ⟨fun e => by rw [e], fun e => by cases e; rfl⟩
    | inr x => simp [keyD, deq]
  | inr x => cases k' with
    | inl j => simp [keyD, deq]
    | inr y =>
      show (x.cps.toList == y.cps.toList) = decide (Sum.inr x = Sum.inr y)
      rw [Bool.eq_iff_iff, beq_iff_eq, decide_eq_true_iff]
      exact ⟨fun e => by rw [W.str_of_cps e], fun e => by cases e; rfl⟩
theorem key_key (k : Key) : isKey (keyD k) = true := by cases k <;> rfl
section
variable {K : PySem.W.Frag} {G : Gh} {H : Hp} {v : V}
theorem key_rep {d : D} {k : Key} (h : keyD k = d) (r : BRep K G H v d) : v = kV k := by
  cases k with
  | inl i =>
    subst h
    exact r.int
  | inr x =>
    subst h
    have e := BRep.str r
    rw [e, S_of]
    rfl
theorem rep_key (k : Key) : SRep K G H (kV k) (keyD k) := by
  cases k with
  | inl i => exact .int i
  | inr x =>
    have h : Rep K G.C (G.h H) (.str (S x.cps.toList)) (.str x.cps.toList) := .str _
    rw [S_of] at h
    exact h
theorem look_rep {k : Key} : ∀ {kvs : List (Key × V)} {vs : List D}, Reps K G.C (G.h H) (kvs.map (·.2)) vs →
    (valV kvs k = none ∧ dlook (keyD k) (kvs.map fun p => keyD p.1) vs = none) ∨ ∃ v d, valV kvs k = some v ∧ dlook (keyD k) (kvs.map fun p => keyD p.1) vs = some d ∧ SRep K G H v d
  | [], _, .nil => .inl ⟨rfl, rfl⟩
  | p :: kvs, _, .cons (d := d) h r => by
    by_cases e : p.1 = k
    · refine .inr ⟨p.2, d, valV_pos e, ?_, h⟩
      rw [List.map_cons, dlook, key_eq, if_pos (decide_eq_true e)]
    · rw [valV_neg e, List.map_cons, dlook, key_eq, if_neg (by simp [e])]
      exact look_rep r
theorem has_rep {k : Key} : ∀ (kvs : List (Key × V)), ((kvs.map fun p => keyD p.1).any fun y => deq y (keyD k)) = (valV kvs k).isSome
  | [] => rfl
  | p :: kvs => by
    rw [List.map_cons, List.any_cons, key_eq, has_rep kvs]
    by_cases e : p.1 = k
    · rw [valV_pos e, decide_eq_true e]
      rfl
    · rw [valV_neg e, decide_eq_false e]
      rfl
end

/-! ### comparisons -/
def cmpOp : Cmp → CmpOp
  | .eq => .Eq | .ne => .NotEq | .lt => .Lt | .le => .LtE | .gt => .Gt | .ge => .GtE | .is_ => .Is | .isnot => .IsNot | .in_ => .In | .notin => .NotIn
def rC (K : PySem.W.Frag) (op : Cmp) : R2 := fun x y H Q => ∃ G dx dy b, BRep K G H x dx ∧ BRep K G H y dy ∧ doCmp op dx dy = some b ∧ Q (.bl b) H
section
variable {X : Cx} {pins : List (Addr × Obj)} {s : Shared} {σ : L2.St} {H : Hp} {x y : V} {u w : Value} {Q : VK} {G : Gh} {dx dy : D} {b : Bool}
theorem okD_1 {d : D} (h : okD d = true) : plain d = true ∧ dep d ≤ 60 := by
  have h2 := Bool.and_eq_true_iff.mp h
  exact ⟨h2.1, flat_dep h2.2⟩
theorem min_l {A n m B : Nat} (h : A + 200 < B) (h1 : n ≤ 60) : A + min n m < B := by
  have := Nat.min_le_left n m
  omega
theorem min_r {A n m B : Nat} (h : A + 200 < B) (h1 : m ≤ 60) : A + 1 + min n m < B := by
  have := Nat.min_le_right n m
  omega
theorem cmp_bl (I : Inv X pins σ H s) (q : Q (.bl b) H) {c : Bool} (e : b = c) : EP X pins σ Q (.bool c) s := by
  subst e
  exact ⟨.bl b, H, I, rfl, q⟩
mutual
theorem alk_comm : ∀ {a b : D}, alk a b = true → alk b a = true
  | .non, b, h => by cases b <;> first | exact absurd h Bool.false_ne_true | rfl
  | .bl _, b, h => by cases b <;> first | exact absurd h Bool.false_ne_true | rfl
  | .int _, b, h => by cases b <;> first | exact absurd h Bool.false_ne_true | rfl
  | .str _, b, h => by cases b <;> first | exact absurd h Bool.false_ne_true | rfl
  | .tup xs, b, h => by
    cases b with
    | tup ys =>
      simp only [alk] at h ⊢
      exact alks_comm h
    | _ => exact absurd h Bool.false_ne_true
  | .lst xs, b, h => by
    cases b with
    | lst ys =>
      simp only [alk] at h ⊢
      exact alks_comm h
    | _ => exact absurd h Bool.false_ne_true
  | .dic _ _, b, h => by cases b <;> exact absurd h Bool.false_ne_true
  | .cell _, b, h => by cases b <;> exact absurd h Bool.false_ne_true
  | .err _ _, b, h => by cases b <;> exact absurd h Bool.false_ne_true
  | .exc _ _, b, h => by cases b <;> exact absurd h Bool.false_ne_true
  | .scr _, b, h => by cases b <;> exact absurd h Bool.false_ne_true
theorem alks_comm : ∀ {a b : List D}, alks a b = true → alks b a = true
  | [], [], _ => rfl
  | [], _ :: _, _ => rfl
  | _ :: _, [], _ => rfl
  | x :: xs, y :: ys, h => by
    simp only [alks, Bool.and_eq_true] at h ⊢
    exact ⟨alk_comm h.1, alks_comm h.2⟩
end
theorem py_some {d : D} (h : srtOk1 d = true) (p : plain d = true := by assumption) : toPy d ≠ .none := by
  cases d <;> first | exact absurd h Bool.false_ne_true | exact absurd p Bool.false_ne_true | (simp [toPy]; done) | (simp [plain] at p)
theorem any_py {dx : D} (p1 : plain dx = true) : ∀ ds : List D, plains ds = true → ((toPys ds).any fun y => PyData.eqv y (toPy dx)) = ds.any fun y => deq y dx
  | [], _ => rfl
  | d :: ds, h => by
    simp only [plains, Bool.and_eq_true] at h
    rw [toPys, List.any_cons, List.any_cons, any_py p1 ds h.2, toPy_eqv d dx h.1 p1]
theorem in_bl (hu : X.A.units + 200 < cLine) (I : Inv X pins σ H s) (rx : RelV x u) (ry : RelV y w) (hx : BRep X.K G H x dx) (hy : BRep X.K G H y dy) (e : doIn dx dy = some b) (E : Value → Shared → Prop) :
    ((∀ s', Inv X pins σ H s' → EP X pins σ Q (.bool b) s') → wpAny (model X.prog X.w) X.A (compareOp .In u w) (EP X pins σ Q) E s) ∧
    ((∀ s', Inv X pins σ H s' → EP X pins σ Q (.bool (!b)) s') → wpAny (model X.prog X.w) X.A (compareOp .NotIn u w) (EP X pins σ Q) E s) := by
  cases dy with
  | tup ds =>
    simp only [doIn] at e
    split at e <;> cases e
    rename_i hp
    obtain ⟨h1, h2⟩ := Bool.and_eq_true_iff.mp hp
    obtain ⟨p1, p2⟩ := okD_1 h1
    obtain ⟨as, r1⟩ := Dp.reads I _ _ _ (hx.dp p1) rx
    obtain ⟨bs, r2⟩ := Dp.reads I _ _ _ (hy.dp (d := .tup ds) (by simpa [plain] using h2)) ry
    have room : X.A.units + 1 + min (PyData.depthAll (toPys ds)) (toPy dx).depth < cLine := by
      rw [toPy_dep]
      exact min_r hu p2
    exact ⟨fun k => SeqAt.in_tuple_data (by simpa [toPy] using r2) r1 (toPys_plain ds h2) (toPy_plain dx p1) room (by rw [any_py p1 ds h2]; exact k s I),
      fun k => SeqAt.notIn_tuple_data (by simpa [toPy] using r2) r1 (toPys_plain ds h2) (toPy_plain dx p1) room (by rw [any_py p1 ds h2]; exact k s I)⟩
  | lst ds =>
    simp only [doIn] at e
    split at e <;> cases e
    rename_i hp
    obtain ⟨h1, h2⟩ := Bool.and_eq_true_iff.mp hp
    obtain ⟨p1, p2⟩ := okD_1 h1
    obtain ⟨as, r1⟩ := Dp.reads I _ _ _ (hx.dp p1) rx
    obtain ⟨bs, r2⟩ := Dp.reads I _ _ _ (hy.dp (d := .lst ds) (by simpa [plain] using h2)) ry
    have room : X.A.units + 1 + min (PyData.depthAll (toPys ds)) (toPy dx).depth < cLine := by
      rw [toPy_dep]
      exact min_r hu p2
    exact ⟨fun k => SeqAt.in_list_data (by simpa [toPy] using r2) r1 (toPys_plain ds h2) (toPy_plain dx p1) room (by rw [any_py p1 ds h2]; exact k s I),
      fun k => SeqAt.notIn_list_data (by simpa [toPy] using r2) r1 (toPys_plain ds h2) (toPy_plain dx p1) room (by rw [any_py p1 ds h2]; exact k s I)⟩
  | dic ks vs =>
    simp only [doIn] at e
    split at e <;> cases e
    rename_i hk
    obtain ⟨k, hk1, rfl⟩ := key_of hk
    obtain ⟨a, kvs, rfl, hH, rfl, hr⟩ := hy.dic
    obtain rfl : w = Value.ref a := ry
    have ex := key_rep rfl hx
    subst ex
    rw [has_rep]
    exact ⟨fun q => d_in (by omega) I (DGet.k hH) rx fun s' I' => q s' I', fun q => d_notIn (by omega) I (DGet.k hH) rx fun s' I' => q s' I'⟩
  | str t =>
    cases dx with
    | str z =>
      cases z with
      | nil => simp [doIn] at e
      | cons c r =>
        cases r with
        | cons _ _ => simp [doIn] at e
        | nil =>
          simp only [doIn, Option.some.injEq] at e
          have ex := hx.str
          have ey := hy.str
          subst ex ey
          obtain ⟨t1, rfl⟩ := rx
          obtain ⟨t2, rfl⟩ := ry
          have z1 : (!(Builtin.Str.occurrences (S t) (S [c]) 0 (S t).length 1).isEmpty) = b := by
            rw [← e]
            have q := StrLaws.found_one (S t) c
            refine Eq.trans q ?_
            rw [Bool.eq_iff_iff, decide_eq_true_iff, List.contains_iff_mem]
            exact Iff.rfl
          exact ⟨fun k => in_str (by rw [z1]; exact k s I), fun k => notIn_str (by rw [z1]; exact k s I)⟩
    | _ => simp [doIn] at e
  | _ => simp [doIn] at e
theorem op_cmp (op : Cmp) (hu : X.A.units + 200 < cLine) : OpR X (compareOp (cmpOp op)) (rC X.K op) := by
  intro pins s σ H x y u w Q I rx ry h
  obtain ⟨G, dx, dy, b, hx, hy, e, q⟩ := h
  have fin : ∀ c, b = c → EP X pins σ Q (.bool c) s := fun c z => cmp_bl I q z
  cases op with
  | eq =>
    simp only [doCmp] at e
    split at e <;> cases e
    rename_i hp
    obtain ⟨h1, h2⟩ := Bool.and_eq_true_iff.mp hp
    obtain ⟨p1, p2⟩ := okD_1 h1
    obtain ⟨as, r1⟩ := Dp.reads I _ _ _ (hx.dp p1) rx
    obtain ⟨bs, r2⟩ := Dp.reads I _ _ _ (hy.dp h2) ry
    exact SeqAt.eq_plain r1 r2 (toPy_plain _ p1) (toPy_plain _ h2) (by rw [toPy_dep]; exact min_l hu p2) (fin _ (toPy_eqv dx dy p1 h2).symm)
  | ne =>
    simp only [doCmp] at e
    split at e <;> cases e
    rename_i hp
    obtain ⟨h1, h2⟩ := Bool.and_eq_true_iff.mp hp
    obtain ⟨p1, p2⟩ := okD_1 h1
    obtain ⟨as, r1⟩ := Dp.reads I _ _ _ (hx.dp p1) rx
    obtain ⟨bs, r2⟩ := Dp.reads I _ _ _ (hy.dp h2) ry
    exact SeqAt.ne_plain r1 r2 (toPy_plain _ p1) (toPy_plain _ h2) (by rw [toPy_dep]; exact min_l hu p2) (fin _ (by rw [toPy_eqv dx dy p1 h2]))
  | is_ =>
    cases dy with
    | non =>
      simp only [doCmp, Option.some.injEq] at e
      have ey := hy.non
      subst ey
      refine op_isN pins s σ H x .non u w Q I rx ry ⟨rfl, ?_⟩
      have z : decide (x = V.non) = b := by
        rw [← e]
        rcases hx with hx | ⟨a, rfl, _, _, hx⟩
        · cases hx <;> simp
        · rcases hx with ⟨_, _, rfl, _⟩ | ⟨_, _, rfl, _⟩ <;> simp
      rw [z]
      exact q
    | _ => simp [doCmp] at e
  | isnot =>
    cases dy with
    | non =>
      simp only [doCmp, Option.some.injEq] at e
      have ey := hy.non
      subst ey
      refine op_notN pins s σ H x .non u w Q I rx ry ⟨rfl, ?_⟩
      have z : (!decide (x = V.non)) = b := by
        rw [← e]
        rcases hx with hx | ⟨a, rfl, _, _, hx⟩
        · cases hx <;> simp
        · rcases hx with ⟨_, _, rfl, _⟩ | ⟨_, _, rfl, _⟩ <;> simp
      rw [z]
      exact q
    | _ => simp [doCmp] at e
  | in_ => exact (in_bl hu I rx ry hx hy e _).1 fun s' I' => cmp_bl I' q rfl
  | notin =>
    simp only [doCmp] at e
    cases e1 : doIn dx dy with
    | none =>
      rw [e1] at e
      cases e
    | some c =>
      rw [e1] at e
      have e2 : (!c) = b := Option.some.inj e
      exact (in_bl hu I rx ry hx hy e1 _).2 fun s' I' => cmp_bl I' q e2.symm
  | lt =>
    simp only [doCmp] at e
    split at e <;> cases e
    rename_i hp
    obtain ⟨hp1, hp2⟩ := Bool.and_eq_true_iff.mp hp
    obtain ⟨h1, h2⟩ := Bool.and_eq_true_iff.mp hp1
    obtain ⟨h3, h4⟩ := Bool.and_eq_true_iff.mp hp2
    obtain ⟨p1, p2⟩ := okD_1 h1
    obtain ⟨as, r1⟩ := Dp.reads I _ _ _ (hx.dp p1) rx
    obtain ⟨bs, r2⟩ := Dp.reads I _ _ _ (hy.dp h2) ry
    exact W.lt_data r1 r2 (alk_like _ _ h3) (py_some h4) (by rw [toPy_dep]; exact min_l hu p2) (fin _ (alk_lt dx dy h3).symm)
  | gt =>
    simp only [doCmp] at e
    split at e <;> cases e
    rename_i hp
    obtain ⟨hp1, hp2⟩ := Bool.and_eq_true_iff.mp hp
    obtain ⟨h1, h2⟩ := Bool.and_eq_true_iff.mp hp1
    obtain ⟨h3, h4⟩ := Bool.and_eq_true_iff.mp hp2
    obtain ⟨p1, p2⟩ := okD_1 h1
    obtain ⟨as, r1⟩ := Dp.reads I _ _ _ (hx.dp p1) rx
    obtain ⟨bs, r2⟩ := Dp.reads I _ _ _ (hy.dp h2) ry
    exact W.gt_data r1 r2 (alk_like _ _ h3) (py_some h4) (by rw [toPy_dep]; exact min_l hu p2) (fin _ (alk_lt dy dx (alk_comm h3)).symm)
  | le =>
    simp only [doCmp] at e
    split at e <;> cases e
    rename_i hp
    obtain ⟨hp1, hp2⟩ := Bool.and_eq_true_iff.mp hp
    obtain ⟨h1, h2⟩ := Bool.and_eq_true_iff.mp hp1
    obtain ⟨h3, h4⟩ := Bool.and_eq_true_iff.mp hp2
    obtain ⟨p1, p2⟩ := okD_1 h1
    obtain ⟨as, r1⟩ := Dp.reads I _ _ _ (hx.dp p1) rx
    obtain ⟨bs, r2⟩ := Dp.reads I _ _ _ (hy.dp h2) ry
    exact W.le_data r1 r2 (alk_like _ _ h3) (py_some h4) (by rw [toPy_dep]; exact min_l hu p2) (fin _ (by rw [alk_lt dy dx (alk_comm h3)]))
  | ge =>
    simp only [doCmp] at e
    split at e <;> cases e
    rename_i hp
    obtain ⟨hp1, hp2⟩ := Bool.and_eq_true_iff.mp hp
    obtain ⟨h1, h2⟩ := Bool.and_eq_true_iff.mp hp1
    obtain ⟨h3, h4⟩ := Bool.and_eq_true_iff.mp hp2
    obtain ⟨p1, p2⟩ := okD_1 h1
    obtain ⟨as, r1⟩ := Dp.reads I _ _ _ (hx.dp p1) rx
    obtain ⟨bs, r2⟩ := Dp.reads I _ _ _ (hy.dp h2) ry
    exact W.ge_data r1 r2 (alk_like _ _ h3) (py_some h4) (by rw [toPy_dep]; exact min_l hu p2) (fin _ (by rw [alk_lt dx dy h3]))
end
end Wy

set_option Elab.async false
set_option linter.all false
set_option maxRecDepth 100000
set_option autoImplicit false
/-! WyOp3: arithmetic, new objects, calls of built-ins, by data. -/
namespace Wy
open PySem PySem.Spec PyProof.Rows L2
section
variable {K : PySem.W.Frag} {G : Gh} {H : Hp} {p : Addr} {o : HO} {vs : List V} {ds : List D}
theorem same_new (hp : H p = none) : Same H (upd H p o) := fun b u h => by
  rw [upd_ne (ne_of_none h hp)]
  exact h
theorem new_out (hid : Hid G H) (hp : H p = none) : ¬ G.O p ∧ p ∉ G.C := by
  have k : ∀ z : G.O p ∨ p ∈ G.C, False := fun z => by
    obtain ⟨u, hu⟩ := hid p z
    rw [hp] at hu
    cases hu
  exact ⟨fun z => k (.inl z), fun z => k (.inr z)⟩
theorem new_same (hid : Hid G H) (hp : H p = none) : Same (G.h H) ((⟨fun b => G.O b ∨ b = p, G.C⟩ : Gh).h (upd H p o)) := fun b u h => by
  obtain ⟨h1, h2, h3⟩ := Gh.h_some.mp h
  have hb : b ≠ p := ne_of_none h1 hp
  exact Gh.h_some.mpr ⟨by rw [upd_ne hb]; exact h1, fun z => z.elim h2 hb, h3⟩
theorem new_lst (hid : Hid G H) (hp : H p = none) (r : Reps K G.C (G.h H) vs ds) : FRep K G H (upd H p (.lst vs)) (.ref p) (.lst ds) :=
  ⟨p, rfl, hp, (new_out hid hp).1, (new_out hid hp).2, .inl ⟨vs, ds, rfl, upd_same, r.mono (new_same hid hp) (List.prefix_refl _)⟩⟩
theorem new_dic {kvs : List (Key × V)} (hid : Hid G H) (hp : H p = none) (r : Reps K G.C (G.h H) (kvs.map (·.2)) ds) : FRep K G H (upd H p (.dK kvs)) (.ref p) (.dic (kvs.map fun q => keyD q.1) ds) :=
  ⟨p, rfl, hp, (new_out hid hp).1, (new_out hid hp).2, .inr ⟨kvs, ds, rfl, upd_same, r.mono (new_same hid hp) (List.prefix_refl _)⟩⟩
theorem new_tup {ob : Obj} (hid : Hid G H) (hp : H p = none) (hn : ob.dict = none) (r : Reps K G.C (G.h H) vs ds) : SRep K G (upd H p (.frz ob (.tup vs))) (.ref p) (.tup ds) :=
  .tup ⟨ob, Gh.h_some.mpr ⟨upd_same, (new_out hid hp).1, (new_out hid hp).2⟩, hn⟩ (r.mono ((new_same hid hp).trans hid_sub) (List.prefix_refl _))
theorem FR.flat {f : Bool} {H0 : Hp} {v : V} {d : D} (r : SRep K G H v d) (h : mutD d = false) : FR K f G H0 H v d := ⟨r, fun _ z => by
  rw [h] at z
  cases z⟩
end

def binOp : Bin → Operator
  | .add => .Add | .sub => .Sub | .mul => .Mult | .mod => .Mod | .fdiv => .FloorDiv | .pow => .Pow
def rB (K : PySem.W.Frag) (op : Bin) : R2 := fun x y H Q => ∃ G dx dy d, Hid G H ∧ BRep K G H x dx ∧ BRep K G H y dy ∧ doBin op dx dy = some d ∧ ∀ v H', Same H H' → FR K true G H H' v d → Q v H'
theorem Reps.rep {K : PySem.W.Frag} {C : List Addr} {H : Hp} {vs : List V} {ds : List D} (r : Reps K C H vs ds) : ∀ n : Nat, Reps K C H (List.replicate n vs).flatten (List.replicate n ds).flatten
  | 0 => .nil
  | n + 1 => by
    rw [List.replicate_succ, List.replicate_succ, List.flatten_cons, List.flatten_cons]
    exact Reps.app (Reps.rep r n) r
theorem size_ok {n : Nat} (h : Nat.ble n sizeMax = true) : n ≤ sizeLine := by
  have h1 := Nat.le_of_ble_eq_true h
  rw [sizeLine_eq]
  unfold sizeMax at h1
  omega
theorem S_app (a b : List Nat) : S a ++ S b = S (a ++ b) := by
  show (⟨a.toArray ++ b.toArray⟩ : Str) = ⟨(a ++ b).toArray⟩
  simp
theorem big_ok {i : Int} (h : big64 i = true) : -(2 ^ 64) < i ∧ i < 2 ^ 64 := by
  obtain ⟨h1, h2⟩ := Bool.and_eq_true_iff.mp h
  have h1 := of_decide_eq_true h1
  have h2 := of_decide_eq_true h2
  omega
theorem big_abs {i : Int} (h : big64 i = true) : i.natAbs < 2 ^ 64 := by
  obtain ⟨h1, h2⟩ := big_ok h
  omega
section
variable {X : Cx}
theorem cat_tupD {pins : List (Addr × Obj)} {σ : L2.St} {H : Hp} {s : Shared} {Q : VK} {a b : Addr} {xs ys : List V} {v u : Value} (I : Inv X pins σ H s) (rx : RelV (.ref a) v) (ry : RelV (.ref b) u) (ha : SqT X.K H a xs) (hb : SqT X.K H b ys) (hz : xs.length + ys.length ≤ sizeLine)
    (q0 : xs = [] → Q (.ref b) H) (q1 : ys = [] → Q (.ref a) H) (q2 : ∀ p ob, H p = none → ob.dict = none → Q (.ref p) (upd H p (.frz ob (.tup (xs ++ ys))))) : wpAny (model X.prog X.w) X.A (binaryOp .Add v u) (EP X pins σ Q) X.xe s := by
  cases rx
  cases ry
  obtain ⟨its, r1, p1, _⟩ := I.tuple ha
  obtain ⟨its2, r2, p2, _⟩ := I.tuple hb
  by_cases hx : xs = []
  · have hi : its = [] := r1.nil_iff.mpr hx
    subst hi
    exact cat_tup0 p1 p2 ⟨.ref b, H, I, rfl, q0 hx⟩
  · refine HT.cat_tup p1 p2 (fun z => hx (r1.nil_iff.mp z)) (fun z => ⟨.ref a, H, I, rfl, q1 (r2.nil_iff.mp z)⟩) (fun z => ?_) (by rw [← r1.length, ← r2.length]; exact hz)
    refine ⟨.ref s.heap.objs.size, _, I.laid (t' := s.toks) (o := .frz { cls := .type "tuple", data := .seq (its ++ its2).toArray } (.tup (xs ++ ys))) (fun b ob q => Heap.get?_push_of_some _ q) (Nat.le_refl _) ?_, rfl, q2 _ _ (I.hok.fresh (Nat.le_refl _)) rfl⟩
    exact ⟨by simpa using Heap.get?_push_size s.heap rfl, by rw [List.length_append]; exact hz, _, r1.append r2, by simpa using IsTup.new _ _⟩
theorem op_bin (op : Bin) : OpR X (binaryOp (binOp op)) (rB X.K op) := by
  intro pins s σ H x y u w Q I rx ry h
  obtain ⟨G, dx, dy, d, hid, hx, hy, e, q⟩ := h
  have qi : ∀ i : Int, d = .int i → Q (.int i) H := fun i z => by
    subst z
    exact q _ H (Same.refl H) (FR.flat (.int i) rfl)
  cases op with
  | add =>
    cases dx <;> cases dy <;> first | (simp [doBin] at e; done) | skip
    · rename_i i j
      have ex := hx.int
      have ey := hy.int
      subst ex ey
      exact op_add pins s σ H _ _ u w Q I rx ry ⟨i, j, rfl, rfl, qi _ (by simpa [doBin] using e.symm)⟩
    · rename_i a b
      have ex := hx.str
      have ey := hy.str
      subst ex ey
      simp only [doBin] at e
      split at e <;> cases e
      rename_i hz
      refine op_add_str pins s σ H _ _ u w Q I rx ry ⟨S a, S b, rfl, rfl, by rw [S_len, S_len]; exact size_ok hz, ?_⟩
      rw [S_app]
      exact q _ H (Same.refl H) (FR.flat (.str _) rfl)
    · rename_i a b
      simp only [doBin] at e
      split at e <;> cases e
      rename_i hz
      obtain ⟨l1, xs, rfl, h1, r1⟩ := hx.tupA
      obtain ⟨l2, ys, rfl, h2, r2⟩ := hy.tupA
      have n1 := r1.len
      have n2 := r2.len
      have rr := Reps.app r2 r1
      exact cat_tupD I rx ry ((h1.same hSame).sq) ((h2.same hSame).sq) (by rw [n1, n2]; exact size_ok hz) (fun z => q _ H (Same.refl H) (FR.flat (.tup h2 (by subst z; exact rr)) rfl))
        (fun z => q _ H (Same.refl H) (FR.flat (.tup h1 (by subst z; simpa using rr)) rfl)) fun p ob hp hn => q _ _ (same_new hp) (FR.flat (new_tup hid hp hn rr) rfl)
    · rename_i a b
      simp only [doBin] at e
      split at e <;> cases e
      rename_i hz
      obtain ⟨l1, xs, rfl, h1, r1⟩ := hx.lst
      obtain ⟨l2, ys, rfl, h2, r2⟩ := hy.lst
      refine op_cat pins s σ H _ _ u w Q I rx ry ⟨l1, l2, xs, ys, rfl, rfl, h1, h2, by rw [r1.len, r2.len]; exact size_ok hz, fun p hp => ?_⟩
      exact q _ _ (same_new hp) (new_lst hid hp (Reps.app r2 r1)).fr
  | sub =>
    cases dx <;> cases dy <;> first | (simp [doBin] at e; done) | skip
    rename_i i j
    have ex := hx.int
    have ey := hy.int
    subst ex ey
    exact op_sub pins s σ H _ _ u w Q I rx ry ⟨i, j, rfl, rfl, qi _ (by simpa [doBin] using e.symm)⟩
  | mul =>
    cases dx <;> cases dy <;> first | (simp [doBin] at e; done) | skip
    · rename_i i j
      have ex := hx.int
      have ey := hy.int
      subst ex ey
      simp only [doBin] at e
      split at e <;> cases e
      rename_i hb
      refine op_mul pins s σ H _ _ u w Q I rx ry ⟨i, j, rfl, rfl, ?_, qi _ rfl⟩
      rcases Bool.or_eq_true_iff.mp hb with z | z
      · exact .inl (big_ok z)
      · exact .inr (big_ok z)
    · rename_i a j
      have ey := hy.int
      subst ey
      simp only [doBin] at e
      split at e <;> cases e
      rename_i hb
      obtain ⟨l1, xs, rfl, h1, r1⟩ := hx.lst
      have n1 := r1.len
      refine op_rep pins s σ H _ _ u w Q I rx ry ⟨l1, j, xs, rfl, rfl, h1, by omega, by omega, ?_, fun p hp => ?_⟩
      · rw [sizeLine_eq, n1]
        have z1 : j.toNat ≤ 1000 := by omega
        have z2 : a.length ≤ 1000 := hb.2.2
        exact Nat.le_trans (Nat.mul_le_mul z2 z1) (by decide)
      · exact q _ _ (same_new hp) (new_lst hid hp (r1.rep _)).fr
  | mod =>
    cases dx <;> cases dy <;> first | (simp [doBin] at e; done) | skip
    rename_i i j
    have ex := hx.int
    have ey := hy.int
    subst ex ey
    simp only [doBin] at e
    split at e <;> cases e
    rename_i hb
    exact op_mod pins s σ H _ _ u w Q I rx ry ⟨i, j, rfl, rfl, hb, qi _ rfl⟩
  | fdiv =>
    cases dx <;> cases dy <;> first | (simp [doBin] at e; done) | skip
    rename_i i j
    have ex := hx.int
    have ey := hy.int
    subst ex ey
    simp only [doBin] at e
    split at e <;> cases e
    rename_i hb
    exact op_fdiv pins s σ H _ _ u w Q I rx ry ⟨i, j, rfl, rfl, hb, qi _ rfl⟩
  | pow =>
    cases dx <;> cases dy <;> first | (simp [doBin] at e; done) | skip
    rename_i i j
    have ex := hx.int
    have ey := hy.int
    subst ex ey
    simp only [doBin] at e
    split at e <;> cases e
    rename_i hb
    exact op_pow pins s σ H _ _ u w Q I rx ry ⟨i, j, rfl, rfl, ⟨hb.1, by omega, big_abs hb.2.2⟩, qi _ rfl⟩
end
end Wy

set_option Elab.async false
set_option linter.all false
set_option maxRecDepth 100000
set_option autoImplicit false
/-! WySort: sorted, of data, empty tuples too. -/
namespace Wy
open PySem PySem.Spec PyProof.Rows L2 PySem.W

/-- an insertion by le is what mergeSort does -/
def insBy {α : Type} (le : α → α → Bool) (x : α) : List α → List α
  | [] => [x]
  | y :: ys => if le x y then x :: y :: ys else y :: insBy le x ys
def isortBy {α : Type} (le : α → α → Bool) : List α → List α
  | [] => []
  | x :: xs => insBy le x (isortBy le xs)
theorem insBy_at {α : Type} {le : α → α → Bool} (x : α) : ∀ (l1 l2 : List α), (∀ b ∈ l1, le x b = false) → (∀ b ∈ l2, le x b = true) → insBy le x (l1 ++ l2) = l1 ++ x :: l2
  | [], [], _, _ => rfl
  | [], y :: ys, _, h => by
    show (if le x y then x :: y :: ys else y :: insBy le x ys) = x :: y :: ys
    rw [if_pos (h y List.mem_cons_self)]
  | z :: l1, l2, h1, h2 => by
    show (if le x z then x :: z :: (l1 ++ l2) else z :: insBy le x (l1 ++ l2)) = z :: (l1 ++ x :: l2)
    rw [if_neg (by rw [h1 z List.mem_cons_self]; exact Bool.false_ne_true), insBy_at x l1 l2 (fun b hb => h1 b (List.mem_cons_of_mem _ hb)) h2]
theorem isort_eq {α : Type} {le : α → α → Bool} (tr : ∀ a b c : α, le a b = true → le b c = true → le a c = true) (to : ∀ a b : α, (le a b || le b a) = true) : ∀ l : List α, l.mergeSort le = isortBy le l
  | [] => by simp [isortBy]
  | x :: l => by
    obtain ⟨l1, l2, e1, e2, h⟩ := List.mergeSort_cons tr to x l
    have so := List.pairwise_mergeSort tr to (x :: l)
    rw [e1] at so
    show _ = insBy le x (isortBy le l)
    rw [← isort_eq tr to l, e2, e1]
    refine (insBy_at x l1 l2 (fun b hb => ?_) fun b hb => ?_).symm
    · have := h b hb
      simpa using this
    · exact (List.pairwise_cons.mp (List.pairwise_append.mp so).2.1).1 b hb
theorem insBy_map {α β : Type} {le : α → α → Bool} {le' : β → β → Bool} (f : α → β) (x : α) : ∀ l : List α, (∀ y ∈ l, le x y = le' (f x) (f y)) → (insBy le x l).map f = insBy le' (f x) (l.map f)
  | [], _ => rfl
  | y :: ys, h => by
    show (if le x y then x :: y :: ys else y :: insBy le x ys).map f = (if le' (f x) (f y) then f x :: f y :: ys.map f else f y :: insBy le' (f x) (ys.map f))
    rw [← h y List.mem_cons_self]
    cases le x y with
    | true => rfl
    | false =>
      show f y :: (insBy le x ys).map f = _
      rw [insBy_map f x ys fun z hz => h z (List.mem_cons_of_mem _ hz)]
      rfl
theorem insBy_mem {α : Type} {le : α → α → Bool} {x z : α} : ∀ {l : List α}, z ∈ insBy le x l → z = x ∨ z ∈ l
  | [], h => by
    have h' : z ∈ [x] := h
    exact .inl (by simpa using h')
  | y :: ys, h => by
    have h' : z ∈ (if le x y then x :: y :: ys else y :: insBy le x ys) := h
    split at h'
    · rcases List.mem_cons.mp h' with e | e
      · exact .inl e
      · exact .inr e
    · rcases List.mem_cons.mp h' with e | e
      · exact .inr (e ▸ List.mem_cons_self)
      · exact (insBy_mem e).imp id fun q => List.mem_cons_of_mem _ q
theorem isort_mem {α : Type} {le : α → α → Bool} {z : α} : ∀ {l : List α}, z ∈ isortBy le l → z ∈ l
  | [], h => h
  | x :: l, h => (insBy_mem h).elim (fun e => e ▸ List.mem_cons_self) fun e => List.mem_cons_of_mem _ (isort_mem e)
theorem isort_map {α β : Type} {le : α → α → Bool} {le' : β → β → Bool} (f : α → β) : ∀ l : List α, (∀ x ∈ l, ∀ y ∈ l, le x y = le' (f x) (f y)) → (isortBy le l).map f = isortBy le' (l.map f)
  | [], _ => rfl
  | x :: l, h => by
    show (insBy le x (isortBy le l)).map f = insBy le' (f x) (isortBy le' (l.map f))
    rw [insBy_map (le' := le') f x _ fun y hy => h x List.mem_cons_self y (List.mem_cons_of_mem _ (isort_mem hy)), isort_map f l fun a ha b hb => h a (List.mem_cons_of_mem _ ha) b (List.mem_cons_of_mem _ hb)]
theorem dins_eq (x : D) : ∀ l : List D, dsort.dins' x l = insBy (fun a b => !dlt b a) x l
  | [] => rfl
  | y :: ys => by
    show (if dlt y x then y :: dsort.dins' x ys else x :: y :: ys) = (if (!dlt y x) = true then x :: y :: ys else y :: insBy _ x ys)
    rw [dins_eq x ys]
    cases dlt y x <;> rfl
theorem dsort_eq : ∀ l : List D, dsort l = isortBy (fun a b => !dlt b a) l
  | [] => rfl
  | x :: l => by
    show dsort.dins' x (dsort l) = insBy _ x (isortBy _ l)
    rw [dins_eq, dsort_eq l]

/-! ### tuples, some of them empty -/
section
variable {M : Model} {A : Around} {E : Value → Shared → Prop} {s : Shared}
theorem mapM_to {α β : Type} {f : α → Sem β} (g : α → β) : ∀ (l : List α) {Q : List β → Shared → Prop}, (∀ v ∈ l, ∀ (Q' : β → Shared → Prop), Q' (g v) s → wpAny M A (f v) Q' E s) → Q (l.map g) s → wpAny M A (l.mapM f) Q E s
  | [], _, _, h => by
    rw [List.mapM_nil]
    exact wpAny_pure h
  | x :: l, Q, hf, h => by
    rw [List.mapM_cons]
    exact wpAny_bind (hf x List.mem_cons_self _ (wpAny_bind (mapM_to g l (Q := fun bs s' => wpAny M A (pure (g x :: bs)) Q E s') (fun v hv => hf v (List.mem_cons_of_mem _ hv)) (wpAny_pure h))))
/-- the first item of a tuple of the heap -/
def fst1 (h : Heap) : Value → Option Value
  | .ref a => match h.get? a with
    | some o => match o.data with
      | .seq xs _ => xs[0]?
      | _ => none
    | none => none
  | _ => none
theorem fst1_at {a : Addr} {o : Obj} {xs : Array Value} {n : Nat} {h : Heap} (ho : h.get? a = some o) (hd : o.data = .seq xs n) : fst1 h (.ref a) = xs[0]? := by
  show (match h.get? a with
    | some o => match o.data with
      | .seq xs _ => xs[0]?
      | _ => none
    | none => none) = xs[0]?
  rw [ho]
  show (match o.data with
      | .seq xs _ => xs[0]?
      | _ => none) = xs[0]?
  rw [hd]
theorem first_run {v : Value} {xs : List PyData} {as : List Addr} {Q : Option Value → Shared → Prop} (r : Reads s.heap v (.tuple xs) as) (h : Q (fst1 s.heap v) s) : wpAny M A (firstOfTuple' v) Q E s := by
  rw [kas_first_eq]
  have lk := W.looks_reads (M := M) r
  cases r with
  | tuple h1 h2 h3 h4 =>
    refine wpAny_bind (lk.here ?_)
    rw [if_neg (by simp [W.dataType])]
    refine wpAny_bind (listItems_at h1 h3 (wpAny_pure ?_))
    rw [← fst1_at h1 h3]
    exact h
theorem kind_run {vs : List Value} {ds : List (List PyData)} {Q : SortKind → Shared → Prop} (e : EachIs (fun v d => ∃ as, Reads s.heap v (.tuple d) as) vs ds) (hne : [] ∈ ds)
    (h : Q (if ((vs.map (fst1 s.heap))[0]?.bind id).isSome then general' else oneType') s) : wpAny M A (keyKind' vs.toArray) Q E s := by
  have mem : ∀ v ∈ vs, ∃ d as, Reads s.heap v (.tuple d) as := fun v hv => by
    obtain ⟨d, _, as, r⟩ := e.left v hv
    exact ⟨d, as, r⟩
  have h0 : ∃ v ∈ vs, fst1 s.heap v = none := by
    clear mem h
    induction e with
    | nil => cases hne
    | @cons v d vs ds hd t ih =>
      rcases List.mem_cons.mp hne with z | z
      · subst z
        obtain ⟨as, r⟩ := hd
        refine ⟨v, List.mem_cons_self, ?_⟩
        cases r with
        | @tuple a o xs n _ _ h1 h2 h3 h4 =>
          rw [fst1_at h1 h3, ← Array.getElem?_toList]
          cases q : xs.toList with
          | nil => rfl
          | cons _ _ =>
            rw [q] at h4
            cases h4
      · obtain ⟨v', hv, e'⟩ := ih z
        exact ⟨v', List.mem_cons_of_mem _ hv, e'⟩
  rw [keyKind'_eq, List.mapM_toArray, map_eq_pure_bind]
  refine wpAny_bind (wpAny_bind (mapM_to (fst1 s.heap) vs (fun v hv Q' hq => ?_) (wpAny_pure ?_)))
  · obtain ⟨d, as, r⟩ := mem v hv
    exact first_run r hq
  · rw [if_neg (by
      obtain ⟨v, hv, e'⟩ := h0
      simp only [List.all_toArray, Bool.not_eq_true, List.all_eq_false]
      exact ⟨none, List.mem_map.mpr ⟨v, hv, e'⟩, by simp⟩)]
    simp only [List.getElem?_toArray]
    split at h
    · rename_i q
      rw [if_pos q]
      exact wpAny_pure h
    · rename_i q
      rw [if_neg q]
      rw [oneTypeOnly'_eq, List.mapM_toArray, map_eq_pure_bind]
      refine wpAny_bind (wpAny_bind (wpAny_bind (kas_mapM (r := Value.type "tuple") vs (fun v hv Q' hq => ?_) (wpAny_pure ?_))))
      · obtain ⟨d, as, r⟩ := mem v hv
        exact (W.looks_reads r).here hq
      · obtain ⟨v, hv, _⟩ := h0
        obtain ⟨v0, rest, rfl⟩ : ∃ a b, vs = a :: b := by
          cases vs with
          | nil => cases hv
          | cons a b => exact ⟨a, b, rfl⟩
        have hall : ((List.map (fun _ => Value.type "tuple") (v0 :: rest)).toArray.all fun x => x == Value.type "tuple") = true := by
          simp only [List.all_toArray, List.all_map, List.all_eq_true]
          intro _ _
          rfl
        have z0 : (List.map (fun _ => Value.type "tuple") (v0 :: rest)).toArray[0]? = some (Value.type "tuple") := by simp
        rw [z0]
        simp only [hall, if_true]
        exact wpAny_pure (wpAny_pure h)
end
section
variable {prog : Program} {w : World} {A : Around} {s : Shared}
/-- two tuples, compared as of one type -/
theorem lt_tups {E : Value → Shared → Prop} {xs ys : List PyData} {a b : Value} {as bs : List Addr} {Q : Bool → Shared → Prop} (f : Bool) (ra : Reads s.heap a (.tuple xs) as) (rb : Reads s.heap b (.tuple ys) bs) (h : W.alike (.tuple xs) (.tuple ys) = true)
    (hu : A.units + min (PyData.depth (.tuple xs)) (PyData.depth (.tuple ys)) < cLine) (hq : Q (W.dataLt (.tuple xs) (.tuple ys)) s) : wpAny (model prog w) A (oneLt' f a b) Q E s := by
  cases f with
  | false => exact W.oneLt_alike (fun z => nomatch z) ra rb h (fun z => nomatch z) hu hq
  | true =>
    have hal : W.alikeAll xs ys = true := by simpa [W.alike] using h
    cases ra with
    | @tuple l o vs n _ as₁ h1 h2 h3 h4 =>
      cases rb with
      | @tuple l' o' vs' n' _ bs₁ k1 k2 k3 k4 =>
        have n1 : vs.size = xs.length := by simpa using SeqAt.ReadsAll.length _ _ _ h4
        have n2 : vs'.size = ys.length := by simpa using SeqAt.ReadsAll.length _ _ _ k4
        rw [W.dataLt_tuple, ← W.firstLt_toks xs ys hal, ← n1, ← n2] at hq
        rw [oneLt'_eq]
        simp only [if_true]
        have room := SeqAt.room_in hu
        obtain ⟨⟨cls, dd, data, sl⟩, eo⟩ : ∃ ob, ob = o := ⟨o, rfl⟩
        subst eo
        obtain ⟨⟨cls2, dd2, data2, sl2⟩, eo2⟩ : ∃ ob, ob = o' := ⟨o', rfl⟩
        subst eo2
        simp only at h2 h3 k2 k3
        subst h2 h3 k2 k3
        refine wpAny_bind (wpAny_cRoomFor (SeqAt.room_here hu) ?_)
        refine wpAny_bind (wpAny_callSpecialIfBound?_slot (T := "tuple") ⟨_, h1, rfl⟩ F.slot_tuple_lt (call_meets F.slot_tuple_lt ⟨_, h1, rfl⟩ F.entry_tuple_lt (F.args_tuple_lt_2 _ _)
          (SeqAt.tuple_ltAt l l' vs vs' n n' dd dd2 sl sl2 (SeqAt.pairEq xs ys) (fun j => W.dataLt (xs.getD j .none) (ys.getD j .none))) ⟨h1, k1, fun j j1 j2 => ?_, fun j j1 j2 hj => ?_, ?_⟩))
        · have := W.eqAt_alikeAll xs ys A.in1 s vs.toList vs'.toList _ _ h4 k4 hal room j (by simpa using j1) (by simpa using j2)
          simpa using this
        · have := W.rcLt_alikeAll xs ys A.in1 s vs.toList vs'.toList _ _ h4 k4 hal room j (by simpa using j1) (by simpa using j2) hj
          simpa using this
        · exact wpAny_truthy_bool hq
end
end Wy
namespace Wy
open PySem PySem.Spec PyProof.Rows L2 PySem.W
section
variable {prog : Program} {w : World} {A : Around} {s : Shared}
theorem each_tups {h : Heap} : ∀ {vs : List Value} {ds : List PyData}, EachIs (fun v d => ∃ as, Reads h v d as) vs ds → (∀ d ∈ ds, ∃ xs, d = .tuple xs) → ∃ es : List (List PyData), EachIs (fun v d => ∃ as, Reads h v (.tuple d) as) vs es ∧ ds = es.map .tuple
  | _, _, .nil, _ => ⟨[], .nil, rfl⟩
  | _, _, .cons hd t, h => by
    obtain ⟨es, h1, h2⟩ := each_tups t fun d m => h d (List.mem_cons_of_mem _ m)
    obtain ⟨xs, rfl⟩ := h _ List.mem_cons_self
    exact ⟨xs :: es, .cons hd h1, by rw [h2]; rfl⟩
/-- alike tuples, some of them empty, can be sorted -/
theorem sorts_tups {vs : List Value} {ds : List PyData} (e : EachIs (fun v d => ∃ as, Reads s.heap v d as) vs ds) (hal : AllAlike ds) (ht : ∀ d ∈ ds, ∃ xs, d = .tuple xs) (hne : .tuple [] ∈ ds) (hu : ∀ d, d ∈ ds → A.units + d.depth < cLine) :
    SortsAt prog w A s (dataKind s.heap ds) vs := by
  obtain ⟨es, h1, h2⟩ := each_tups e ht
  have hn : [] ∈ es := by
    rw [h2] at hne
    obtain ⟨x, hx, ex⟩ := List.mem_map.mp hne
    cases ex
    exact hx
  refine ⟨fun v hv => ?_, ?_⟩
  · obtain ⟨d, hd, as, r⟩ := e.left v hv
    exact ⟨_, dataKind_some hal hd r⟩
  · refine ⟨_, ?_, fun _ E Q hq => kind_run h1 hn hq⟩
    intro E x y a b Q ha hb hq
    obtain ⟨d, as, hd, ra, rfl⟩ := dataKind_inv ha
    obtain ⟨d', as', hd', rb, rfl⟩ := dataKind_inv hb
    obtain ⟨xs, rfl⟩ := ht d hd
    obtain ⟨ys, rfl⟩ := ht d' hd'
    have room : A.units + min (PyData.depth (.tuple xs)) (PyData.depth (.tuple ys)) < cLine := Nat.lt_of_le_of_lt (Nat.add_le_add_left (Nat.min_le_left _ _) _) (hu _ hd)
    split
    · exact lt_tups false ra rb (hal _ hd _ hd') room hq
    · exact lt_tups true ra rb (hal _ hd _ hd') room hq
end
mutual
theorem under_alk : ∀ w a b : D, under a w = true → under b w = true → alk a b = true
  | .non, .non, .non, _, _ => rfl
  | .bl _, .bl _, .bl _, _, _ => rfl
  | .int _, .int _, .int _, _, _ => rfl
  | .str _, .str _, .str _, _, _ => rfl
  | .lst ws, .lst xs, .lst ys, h1, h2 => by
    rw [under] at h1 h2
    rw [alk]
    exact unders_alks ws xs ys h1 h2
  | .tup ws, .tup xs, .tup ys, h1, h2 => by
    rw [under] at h1 h2
    rw [alk]
    exact unders_alks ws xs ys h1 h2
  | .dic _ _, a, _, h, _ => by cases a <;> simp [under] at h
  | .cell _, a, _, h, _ => by cases a <;> simp [under] at h
  | .err _ _, a, _, h, _ => by cases a <;> simp [under] at h
  | .exc _ _, a, _, h, _ => by cases a <;> simp [under] at h
  | .scr _, a, _, h, _ => by cases a <;> simp [under] at h
theorem unders_alks : ∀ ws xs ys : List D, unders xs ws = true → unders ys ws = true → alks xs ys = true
  | _, [], _, _, _ => by simp [alks]
  | _, _ :: _, [], _, _ => by simp [alks]
  | [], _ :: _, _ :: _, h, _ => by simp [unders] at h
  | w :: ws, x :: xs, y :: ys, h1, h2 => by
    rw [unders, Bool.and_eq_true] at h1 h2
    rw [alks, Bool.and_eq_true]
    exact ⟨under_alk w x y h1.1 h2.1, unders_alks ws xs ys h1.2 h2.2⟩
end
theorem allAlk_1 {ds : List D} (h : allAlk ds = true) {a b : D} (ha : a ∈ ds) (hb : b ∈ ds) : alk a b = true := by
  unfold allAlk at h
  rcases Bool.or_eq_true_iff.mp h with h | h
  · cases ds with
    | nil => cases ha
    | cons x xs =>
      have h := List.all_eq_true.mp h
      exact under_alk _ a b (h a ha) (h b hb)
  · exact List.all_eq_true.mp (List.all_eq_true.mp h a ha) b hb
theorem plains_1 : ∀ {ds : List D}, plains ds = true → ∀ {a : D}, a ∈ ds → plain a = true
  | d :: ds, h, a, ha => by
    simp only [plains, Bool.and_eq_true] at h
    rcases List.mem_cons.mp ha with rfl | ha
    · exact h.1
    · exact plains_1 h.2 ha
structure SrtOk (ds : List D) : Prop where
  pl : plains ds = true
  al : ∀ a ∈ ds, ∀ b ∈ ds, alk a b = true
  kd : (∀ a ∈ ds, isTup1 a = true) ∨ ∀ a ∈ ds, notTup a = true
  fl : ∀ a ∈ ds, dep a ≤ 60
theorem srt_ok {ds : List D} (h : srtOk ds = true) : SrtOk ds := by
  obtain ⟨h12, h3⟩ := Bool.and_eq_true_iff.mp h
  obtain ⟨h1, h2⟩ := Bool.and_eq_true_iff.mp h12
  obtain ⟨h0, h1⟩ := Bool.and_eq_true_iff.mp h1
  exact ⟨h0, fun a ha b hb => allAlk_1 h1 ha hb, (Bool.or_eq_true_iff.mp h2).imp (fun z a ha => List.all_eq_true.mp z a ha) (fun z a ha => List.all_eq_true.mp z a ha), fun a ha => flat_dep (List.all_eq_true.mp h3 a ha)⟩
theorem SrtOk.like {ds : List D} (h : SrtOk ds) : AllAlike (ds.map toPy) := by
  intro d hd d' hd'
  obtain ⟨a, ha, rfl⟩ := List.mem_map.mp hd
  obtain ⟨b, hb, rfl⟩ := List.mem_map.mp hd'
  exact alk_like a b (h.al a ha b hb)
theorem SrtOk.sorts {prog : Program} {w : World} {A : Around} {s : Shared} {vs : List Value} {ds : List D} (h : SrtOk ds) (e : EachIs (fun v d => ∃ as, Reads s.heap v d as) vs (ds.map toPy)) (hu : A.units + 60 < cLine) :
    SortsAt prog w A s (dataKind s.heap (ds.map toPy)) vs := by
  have hu' : ∀ d, d ∈ ds.map toPy → A.units + d.depth < cLine := fun d hd => by
    obtain ⟨a, ha, rfl⟩ := List.mem_map.mp hd
    rw [toPy_dep]
    have := h.fl a ha
    omega
  rcases h.kd with k | k
  · by_cases hn : PyData.tuple [] ∈ ds.map toPy
    · refine sorts_tups e h.like (fun d hd => ?_) hn hu'
      obtain ⟨a, ha, rfl⟩ := List.mem_map.mp hd
      have := k a ha
      cases a <;> first | exact absurd this Bool.false_ne_true | exact ⟨_, rfl⟩
    · refine SortsAt.data e h.like (.inl fun d hd => ?_) hu'
      obtain ⟨a, ha, rfl⟩ := List.mem_map.mp hd
      have := k a ha
      cases a <;> first | exact absurd this Bool.false_ne_true | skip
      rename_i xs
      cases xs with
      | nil => exact absurd hd hn
      | cons x r => exact ⟨toPy x, toPys r, by rw [toPy, toPys]⟩
  · refine SortsAt.data e h.like (.inr fun d hd => ?_) hu'
    obtain ⟨a, ha, rfl⟩ := List.mem_map.mp hd
    have h1 := k a ha
    have h2 := plains_1 h.pl ha
    cases a <;> first | exact absurd h1 Bool.false_ne_true | exact absurd h2 Bool.false_ne_true | (simp [toPy]; done) | (simp [plain] at h2; done)

/-- the values by their slots' values and data -/
def RV (K : PySem.W.Frag) (G : Gh) (H : Hp) (u : Value) (p : V × D) : Prop := RelV p.1 u ∧ SRep K G H p.1 p.2
theorem rv_each {K : PySem.W.Frag} {G : Gh} {H : Hp} : ∀ {vs : List V} {us : List Value} {ds : List D}, Vals vs us → Reps K G.C (G.h H) vs ds → EachIs (RV K G H) us (vs.zip ds)
  | _, _, _, .nil, .nil => .nil
  | _, _, _, .cons a t, .cons b r => .cons ⟨a, b⟩ (rv_each t r)
theorem rv_back {K : PySem.W.Frag} {G : Gh} {H : Hp} : ∀ {us : List Value} {ps : List (V × D)}, EachIs (RV K G H) us ps → Vals (ps.map (·.1)) us ∧ Reps K G.C (G.h H) (ps.map (·.1)) (ps.map (·.2))
  | _, _, .nil => ⟨.nil, .nil⟩
  | _, _, .cons h t => by
    obtain ⟨a, b⟩ := rv_back t
    exact ⟨.cons h.1 a, .cons h.2 b⟩
theorem rv_reads {X : Cx} {pins : List (Addr × Obj)} {σ : L2.St} {H : Hp} {s : Shared} {G : Gh} (I : Inv X pins σ H s) : ∀ {vs : List V} {us : List Value} {ds : List D}, Vals vs us → Reps X.K G.C (G.h H) vs ds → plains ds = true →
    EachIs (fun v d => ∃ as, Reads s.heap v (toPy d) as) us ds
  | _, _, _, .nil, .nil, _ => .nil
  | _, _, _, .cons a t, .cons b r, h => by
    simp only [plains, Bool.and_eq_true] at h
    exact .cons (Dp.reads I _ _ _ (Rep.dp h.1 b) a) (rv_reads I t r h.2)
theorem rv_er {X : Cx} {pins : List (Addr × Obj)} {σ : L2.St} {H : Hp} {s : Shared} {G : Gh} (I : Inv X pins σ H s) : ∀ {vs : List V} {us : List Value} {ds : List D}, Vals vs us → Reps X.K G.C (G.h H) vs ds → plains ds = true →
    EachIs (fun v (p : V × D) => ∃ as, Reads s.heap v (toPy p.2) as) us (vs.zip ds)
  | _, _, _, .nil, .nil, _ => .nil
  | _, _, _, .cons a t, .cons b r, h => by
    simp only [plains, Bool.and_eq_true] at h
    exact .cons (Dp.reads I _ _ _ (Rep.dp h.1 b) a) (rv_er I t r h.2)
def rSrt (K : PySem.W.Frag) : List V → Hp → VK → Prop := fun xs H Q => ∃ G x ds, xs = [x] ∧ Hid G H ∧ BRep K G H x (.lst ds) ∧ srtOk ds = true ∧ ∀ v H', Same H H' → FR K true G H H' v (.lst (dsort ds)) → Q v H'
section
variable {X : Cx}
theorem sorted_ds {β : Type} (f : β → D) (ps : List β) (h : SrtOk (ps.map f)) : (ps.mergeSort (dataLe false fun p => toPy (f p))).map f = dsort (ps.map f) := by
  have t := sortLe_total (PyProof.Rows.listOrd PyProof.Rows.itemOrd) false fun p : β => keyToks (toPy (f p))
  rw [isort_eq (le := dataLe false fun p => toPy (f p)) t.trans (fun a b => by rw [Bool.or_eq_true]; exact t.total a b), dsort_eq]
  refine isort_map f ps fun x hx y hy => ?_
  show (!W.dataLt (toPy (f y)) (toPy (f x))) = !dlt (f y) (f x)
  rw [alk_lt _ _ (h.al _ (List.mem_map_of_mem hy) _ (List.mem_map_of_mem hx))]
theorem cr_sortedD (hu : X.A.units + 200 < cLine) : CallR X (.builtin "sorted") (rSrt X.K) := by
  intro pins s σ H xs us Q I r h
  obtain ⟨G, x, ds, rfl, hid, hx, hs, q⟩ := h
  obtain ⟨u, rfl, rx⟩ := vals1 r
  obtain ⟨a, vs, rfl, hH, rr⟩ := hx.lst
  obtain rfl : u = Value.ref a := rx
  have so := srt_ok hs
  obtain ⟨its, rv, hl, hz⟩ := I.list (.of hH)
  have e := rv_each rv rr
  have hmap : (vs.zip ds).map (·.2) = ds := List.map_snd_zip (by rw [rr.len]; exact Nat.le_refl _)
  have hmap2 : (vs.zip ds).map (fun p => toPy p.2) = ds.map toPy := by
    conv => rhs; rw [← hmap]
    rw [List.map_map]
    rfl
  have rd : EachIs (fun v d => ∃ as, Reads s.heap v d as) its (ds.map toPy) := each_map (R := fun v d => ∃ as, Reads s.heap v d as) toPy (rv_reads I rv rr so.pl)
  have rd2 : EachIs (fun v d => ∃ as, Reads (sortingHeap (copyHeap s.heap its) (s.heap.objs.size + 1) its) v d as) its (ds.map toPy) := rd.mono fun _ _ ⟨as, z⟩ => ⟨as, PyProof.Rows.Reads.keeps (fun _ _ => sorting_copy_old) z⟩
  have len : its.length ≤ sizeLine := by rw [← rv.length]; exact hz
  have er : EachIs (fun v (p : V × D) => ∃ as, Reads (sortingHeap (copyHeap s.heap its) (s.heap.objs.size + 1) its) v (toPy p.2) as) its (vs.zip ds) := (rv_er I rv rr so.pl).mono fun _ _ ⟨as, z⟩ => ⟨as, PyProof.Rows.Reads.keeps (fun _ _ => sorting_copy_old) z⟩
  have out := sortVals_data (h' := sortingHeap (copyHeap s.heap its) (s.heap.objs.size + 1) its) (R := RV X.K G H) (enc := fun p : V × D => toPy p.2) false e er (by rw [hmap2]; exact so.like)
  obtain ⟨o1, o2⟩ := rv_back out
  rw [hmap2] at o1
  have en : ((vs.zip ds).mergeSort (dataLe false fun p => toPy p.2)).map (·.2) = dsort ds := by
    have z := sorted_ds (fun p : V × D => p.2) (vs.zip ds) (by rw [hmap]; exact so)
    rw [hmap] at z
    exact z
  rw [en] at o2
  refine sorted_vals hl.isList (so.sorts (s := { s with heap := sortingHeap (copyHeap s.heap its) (s.heap.objs.size + 1) its }) rd2 (by show X.A.units + 1 + 1 + 60 < cLine; omega)) len ?_
  obtain ⟨ep, he⟩ := sortedAll_at s.heap its (sortVals (dataKind (sortingHeap (copyHeap s.heap its) (s.heap.objs.size + 1) its) (ds.map toPy)) false its its).toArray
  have fresh := I.hok.fresh (Nat.le_succ s.heap.objs.size)
  have hlen : (((vs.zip ds).mergeSort (dataLe false fun p => toPy p.2)).map (·.1)).length ≤ sizeLine := by
    rw [List.length_map, List.length_mergeSort, List.length_zip, rr.len, Nat.min_self, ← rr.len]
    exact hz
  exact ⟨.ref (s.heap.objs.size + 1), _, I.laid (t' := s.toks) (fun _ _ => sortedAll_old) (Nat.le_succ _) (show ObjOk X.prog X.w _ _ _ (.lst (((vs.zip ds).mergeSort (dataLe false fun p => toPy p.2)).map (·.1))) from ⟨hlen, _, ep, o1, he⟩), rfl, q _ _ (same_new fresh) (new_lst hid fresh o2).fr⟩
end
/-! sorted of a tuple -/
section
variable {prog : Program} {w : World} {A : Around} {E : Value → Shared → Prop} {s : Shared}
/-- a tuple's items, taken into a new list -/
theorem take_tup {T : Addr} {us : List Value} {P : List Value → Shared → Prop} (ht : s.heap.IsTuple T us.toArray) (hz : us.length ≤ sizeLine)
    (hp : P us { s with heap := (s.heap.push (seqObj "list" #[] 0)).update s.heap.objs.size (Obj.mapSeq (· ++ us.toArray)) }) : wpAny (model prog w) A (collect (.ref T)) P E s := by
  obtain ⟨ob, hob, hcl, k, hda⟩ := id ht
  unfold collect; refine wpAny_bind (wpAny_runValue (codeAny_builtin entry_proto_collect' ?_))
  refine (show wpAny (model prog w) _ (do again (.builtin "list.__iadd__" ⟨[← newList [], .ref T], []⟩)) _ E s from ?_)
  refine (wpAny_bind (wpAny_newList (wpAny_pure ⟨Code.quiet_builtin _ (by decide +kernel), codeAny_builtin entry_list_iadd' ?_⟩)))
  refine (show wpAny (model prog w) _ (Builtin.List.listExtendWith (.ref s.heap.objs.size) (.ref T) (.ref s.heap.objs.size)) _ E { s with heap := s.heap.push (seqObj "list" #[] 0) } from ?_)
  unfold Builtin.List.listExtendWith
  have hob2 : (s.heap.push (seqObj "list" #[] 0)).get? T = some ob := Heap.get?_push_of_some _ hob
  refine (wpAny_bind (wpAny_typeOf (T := "tuple") ⟨ob, hob2, hcl⟩ ?_))
  have hty : (Value.type "tuple" == Value.type "tuple") = true := by rfl
  rw [if_pos (by rw [hty]; simp)]
  refine (wpAny_bind (listItems_at hob2 hda ?_)); refine (wpAny_bind (listItems_at (n := 0) (xs := #[]) (Heap.get?_push_size _ rfl) rfl ?_))
  rw [if_neg (by simp)]
  have hsm : ((#[] : Array Value) ++ us.toArray).size ≤ sizeLine + 1 := by simp; omega
  refine (wpAny_bind (listUpdate_at (n := 0) (xs := #[]) (Heap.get?_push_size _ rfl) rfl ?_ (Nat.zero_le _) hsm))
  refine wpAny_pure (wpAny_bind (wpAny_load (get?_update_seq (Heap.get?_push_size _ rfl) _) ?_))
  have hls : ((#[] : Array Value) ++ us.toArray).toList = us := by simp
  refine (show wpAny (model prog w) _ (pure ((#[] : Array Value) ++ us.toArray).toList) _ E _ from ?_)
  rw [hls]
  exact wpAny_pure hp
open PyProof.Rows in
theorem sorted_tup {T : Addr} {us : List Value} {R : Value → Shared → Prop} {κ : PyProof.Rows.KeyKind} (ht : s.heap.IsTuple T us.toArray) (S : SortsAt prog w A.in1.in1 { s with heap := sortingHeap (copyHeap s.heap us) (s.heap.objs.size + 1) us } κ us) (hz : us.length ≤ sizeLine)
    (hr : R (.ref (s.heap.objs.size + 1)) { s with heap := sortedAll s.heap us (sortVals κ false us us).toArray }) : wpAny (model prog w) A (call (.builtin "sorted") [.ref T]) R E s := by
  refine (call_function_entry_kw kind_sorted plain_sorted entry_sorted (args_sorted1 _) ?_)
  unfold Builtin.«sorted»; refine (wpAny_bind (m := checkCount "sorted" 1 1 _) (wpAny_pure ?_))
  refine wpAny_bind (take_tup ht hz ?_); refine wpAny_bind (wpAny_newList ?_ hz)
  have hn : ((s.heap.push (seqObj "list" #[] 0)).update s.heap.objs.size (Obj.mapSeq (· ++ us.toArray))).objs.size = s.heap.objs.size + 1 := by
    rw [Heap.size_update]; exact Heap.size_push ..
  refine (show wpAny (model prog w) _ _ _ _ { s with heap := copyHeap s.heap us } from ?_)
  rw [hn]
  refine (wpAny_bind (wpAny_holding (wpAny_call_entry_kw slot_list_sort ⟨_, copyHeap_at s.heap us, rfl⟩ entry_list_sort ?bd (args_list_sort _))))
  case bd =>
    refine (show wpAny (model prog w) A.in1.in1 (Builtin.«list.sort» ⟨[.ref (s.heap.objs.size + 1)], []⟩) _ _ _ from ?_)
    refine (wpAny_mono (Q := fun f s' => f = .done (.ret .none) ∧ R (.ref (s.heap.objs.size + 1)) s') (list_sort_vals (s := { s with heap := copyHeap s.heap us }) (copyHeap_at s.heap us) S hz ⟨rfl, hr⟩) (fun f s2 hf => ?_) fun _ _ e => e)
    obtain ⟨rfl, hq⟩ := hf
    exact ⟨_, rfl, wpAny_pure ⟨_, rfl, hq⟩⟩
end
def rSrtT (K : PySem.W.Frag) : List V → Hp → VK → Prop := fun xs H Q => ∃ G x ds, xs = [x] ∧ Hid G H ∧ BRep K G H x (.tup ds) ∧ srtOk ds = true ∧ ∀ v H', Same H H' → FR K true G H H' v (.lst (dsort ds)) → Q v H'
section
variable {X : Cx}
theorem cr_sortedT (hu : X.A.units + 200 < cLine) : CallR X (.builtin "sorted") (rSrtT X.K) := by
  intro pins s σ H xs us Q I r h
  obtain ⟨G, x, ds, rfl, hid, hx, hs, q⟩ := h
  obtain ⟨u, rfl, rx⟩ := vals1 r
  obtain ⟨a, vs, rfl, hH, rr⟩ := hx.tup
  obtain rfl : u = Value.ref a := rx
  have so := srt_ok hs
  obtain ⟨its, rv, hl, hz⟩ := I.tuple hH
  have e := rv_each rv rr
  have hmap : (vs.zip ds).map (·.2) = ds := List.map_snd_zip (by rw [rr.len]; exact Nat.le_refl _)
  have hmap2 : (vs.zip ds).map (fun p => toPy p.2) = ds.map toPy := by
    conv => rhs; rw [← hmap]
    rw [List.map_map]
    rfl
  have rd : EachIs (fun v d => ∃ as, Reads s.heap v d as) its (ds.map toPy) := each_map (R := fun v d => ∃ as, Reads s.heap v d as) toPy (rv_reads I rv rr so.pl)
  have rd2 : EachIs (fun v d => ∃ as, Reads (sortingHeap (copyHeap s.heap its) (s.heap.objs.size + 1) its) v d as) its (ds.map toPy) := rd.mono fun _ _ ⟨as, z⟩ => ⟨as, PyProof.Rows.Reads.keeps (fun _ _ => sorting_copy_old) z⟩
  have len : its.length ≤ sizeLine := by rw [← rv.length]; exact hz
  have er : EachIs (fun v (p : V × D) => ∃ as, Reads (sortingHeap (copyHeap s.heap its) (s.heap.objs.size + 1) its) v (toPy p.2) as) its (vs.zip ds) := (rv_er I rv rr so.pl).mono fun _ _ ⟨as, z⟩ => ⟨as, PyProof.Rows.Reads.keeps (fun _ _ => sorting_copy_old) z⟩
  have out := sortVals_data (h' := sortingHeap (copyHeap s.heap its) (s.heap.objs.size + 1) its) (R := RV X.K G H) (enc := fun p : V × D => toPy p.2) false e er (by rw [hmap2]; exact so.like)
  obtain ⟨o1, o2⟩ := rv_back out
  rw [hmap2] at o1
  have en : ((vs.zip ds).mergeSort (dataLe false fun p => toPy p.2)).map (·.2) = dsort ds := by
    have z := sorted_ds (fun p : V × D => p.2) (vs.zip ds) (by rw [hmap]; exact so)
    rw [hmap] at z
    exact z
  rw [en] at o2
  refine sorted_tup hl (so.sorts (s := { s with heap := sortingHeap (copyHeap s.heap its) (s.heap.objs.size + 1) its }) rd2 (by show X.A.units + 1 + 1 + 60 < cLine; omega)) len ?_
  obtain ⟨ep, he⟩ := sortedAll_at s.heap its (sortVals (dataKind (sortingHeap (copyHeap s.heap its) (s.heap.objs.size + 1) its) (ds.map toPy)) false its its).toArray
  have fresh := I.hok.fresh (Nat.le_succ s.heap.objs.size)
  have hlen : (((vs.zip ds).mergeSort (dataLe false fun p => toPy p.2)).map (·.1)).length ≤ sizeLine := by
    rw [List.length_map, List.length_mergeSort, List.length_zip, rr.len, Nat.min_self, ← rr.len]
    exact hz
  exact ⟨.ref (s.heap.objs.size + 1), _, I.laid (t' := s.toks) (fun _ _ => sortedAll_old) (Nat.le_succ _) (show ObjOk X.prog X.w _ _ _ (.lst (((vs.zip ds).mergeSort (dataLe false fun p => toPy p.2)).map (·.1))) from ⟨hlen, _, ep, o1, he⟩), rfl, q _ _ (same_new fresh) (new_lst hid fresh o2).fr⟩
end
end Wy

set_option Elab.async false
set_option linter.all false
set_option maxRecDepth 100000
set_option autoImplicit false
/-! WyB: calls of built-ins, by data. -/
namespace Wy
open PySem PySem.Spec PyProof.Rows L2

def b1V : B1 → Value
  | .len => .builtin "len" | .tuple => .type "tuple" | .list => .type "list" | .int => .type "int" | .sorted => .builtin "sorted"
  | .all => .builtin "all" | .any => .builtin "any" | .sum => .builtin "sum" | .min => .builtin "min" | .max => .builtin "max"
  | .abs => .builtin "abs" | .dict => .type "dict"
def rB1 (K : PySem.W.Frag) (op : B1) : List V → Hp → VK → Prop := fun xs H Q => ∃ G x dx d, xs = [x] ∧ Hid G H ∧ BRep K G H x dx ∧ doB1 op dx = some d ∧ ∀ v H', Same H H' → FR K true G H H' v d → Q v H'

mutual
theorem toPy_inj : ∀ a b : D, plain a = true → plain b = true → toPy a = toPy b → a = b
  | .non, b, _, hb, e => by cases b <;> first | rfl | exact absurd hb Bool.false_ne_true | (simp [toPy] at e; done)
  | .bl x, b, _, hb, e => by cases b <;> first | exact absurd hb Bool.false_ne_true | (simp [toPy] at e; done) | (simp [toPy] at e; rw [e])
  | .int x, b, _, hb, e => by cases b <;> first | exact absurd hb Bool.false_ne_true | (simp [toPy] at e; done) | (simp [toPy] at e; rw [e])
  | .str x, b, _, hb, e => by
    cases b <;> first | exact absurd hb Bool.false_ne_true | (simp [toPy] at e; done) | skip
    simp only [toPy, PyData.str.injEq] at e
    rw [S_inj e]
  | .tup xs, b, ha, hb, e => by
    cases b <;> first | exact absurd hb Bool.false_ne_true | (simp [toPy] at e; done) | skip
    simp only [toPy, PyData.tuple.injEq] at e
    rw [toPys_inj xs _ (by simpa [plain] using ha) (by simpa [plain] using hb) e]
  | .lst xs, b, ha, hb, e => by
    cases b <;> first | exact absurd hb Bool.false_ne_true | (simp [toPy] at e; done) | skip
    simp only [toPy, PyData.list.injEq] at e
    rw [toPys_inj xs _ (by simpa [plain] using ha) (by simpa [plain] using hb) e]
  | .dic _ _, _, ha, _, _ => absurd ha (by simp [plain])
  | .cell _, _, ha, _, _ => absurd ha (by simp [plain])
  | .err _ _, _, ha, _, _ => absurd ha (by simp [plain])
  | .exc _ _, _, ha, _, _ => absurd ha (by simp [plain])
  | .scr _, _, ha, _, _ => absurd ha (by simp [plain])
theorem toPys_inj : ∀ a b : List D, plains a = true → plains b = true → toPys a = toPys b → a = b
  | [], [], _, _, _ => rfl
  | [], _ :: _, _, _, e => by simp [toPys] at e
  | _ :: _, [], _, _, e => by simp [toPys] at e
  | x :: xs, y :: ys, ha, hb, e => by
    simp only [plains, Bool.and_eq_true] at ha hb
    simp only [toPys, List.cons.injEq] at e
    rw [toPy_inj x y ha.1 hb.1 e.1, toPys_inj xs ys ha.2 hb.2 e.2]
end
theorem dmin_mem : ∀ (xs : List D) (x : D), dmin x xs ∈ x :: xs
  | [], x => List.mem_cons_self
  | y :: r, x => by
    unfold dmin
    split
    · exact List.mem_cons_of_mem _ (dmin_mem r y)
    · rcases List.mem_cons.mp (dmin_mem r x) with h | h
      · rw [h]
        exact List.mem_cons_self
      · exact List.mem_cons_of_mem _ (List.mem_cons_of_mem _ h)
theorem dmax_mem : ∀ (xs : List D) (x : D), dmax x xs ∈ x :: xs
  | [], x => List.mem_cons_self
  | y :: r, x => by
    unfold dmax
    split
    · exact List.mem_cons_of_mem _ (dmax_mem r y)
    · rcases List.mem_cons.mp (dmax_mem r x) with h | h
      · rw [h]
        exact List.mem_cons_self
      · exact List.mem_cons_of_mem _ (List.mem_cons_of_mem _ h)
theorem dmin_py : ∀ (xs : List D) (x : D), (∀ a ∈ x :: xs, ∀ b ∈ x :: xs, alk a b = true) → PySem.W.minD (toPy x) (xs.map toPy) = toPy (dmin x xs)
  | [], x, _ => rfl
  | y :: r, x, h => by
    unfold PySem.W.minD dmin
    rw [List.map_cons, List.foldl_cons, alk_lt y x (h y (by simp) x (by simp))]
    split
    · exact dmin_py r y fun a ha b hb => h a (List.mem_cons_of_mem _ ha) b (List.mem_cons_of_mem _ hb)
    · exact dmin_py r x fun a ha b hb => h a (by rcases List.mem_cons.mp ha with z | z <;> simp [z]) b (by rcases List.mem_cons.mp hb with z | z <;> simp [z])
theorem dmax_py : ∀ (xs : List D) (x : D), (∀ a ∈ x :: xs, ∀ b ∈ x :: xs, alk a b = true) → PySem.W.maxD (toPy x) (xs.map toPy) = toPy (dmax x xs)
  | [], x, _ => rfl
  | y :: r, x, h => by
    unfold PySem.W.maxD dmax
    rw [List.map_cons, List.foldl_cons, alk_lt x y (h x (by simp) y (by simp))]
    split
    · exact dmax_py r y fun a ha b hb => h a (List.mem_cons_of_mem _ ha) b (List.mem_cons_of_mem _ hb)
    · exact dmax_py r x fun a ha b hb => h a (by rcases List.mem_cons.mp ha with z | z <;> simp [z]) b (by rcases List.mem_cons.mp hb with z | z <;> simp [z])
theorem rv_all {X : Cx} {pins : List (Addr × Obj)} {σ : L2.St} {H : Hp} {s : Shared} {G : Gh} (I : Inv X pins σ H s) : ∀ {vs : List V} {us : List Value} {ds : List D}, Vals vs us → Reps X.K G.C (G.h H) vs ds → plains ds = true →
    ∃ as, ReadsAll s.heap us (ds.map toPy) as
  | _, _, _, .nil, .nil, _ => ⟨_, .nil⟩
  | _, _, _, .cons a t, .cons b r, h => by
    simp only [plains, Bool.and_eq_true] at h
    obtain ⟨as, h1⟩ := Dp.reads I _ _ _ (Rep.dp h.1 b) a
    obtain ⟨bs, h2⟩ := rv_all I t r h.2
    exact ⟨as ++ bs, .cons h1 h2⟩
theorem deps_le : ∀ {ds : List D}, (∀ a ∈ ds, dep a ≤ 60) → deps ds ≤ 60
  | [], _ => by simp [deps]
  | d :: ds, h => by
    simp only [deps]
    exact Nat.max_le.mpr ⟨h d List.mem_cons_self, deps_le fun a ha => h a (List.mem_cons_of_mem _ ha)⟩
theorem depAll_le {ds : List D} (h : ∀ a ∈ ds, dep a ≤ 60) : PyData.depthAll (ds.map toPy) ≤ 60 := by
  rw [← toPys_map, toPys_dep]
  exact deps_le h
theorem ints_reps {K : PySem.W.Frag} {C : List Addr} {H : Hp} : ∀ {vs : List V} {ds : List D} {ns : List Int}, Reps K C H vs ds → dInts ds = some ns → vs = ns.map V.int
  | _, _, ns, .nil, e => by simp [dInts] at e; simp [← e]
  | _, _, ns, .cons (d := d) h r, e => by
    cases d <;> first | (simp [dInts] at e; done) | skip
    simp only [dInts, Option.map_eq_some_iff] at e
    obtain ⟨ms, e1, e2⟩ := e
    cases h
    rw [ints_reps r e1, ← e2]
    rfl
theorem bools_reps {K : PySem.W.Frag} {C : List Addr} {H : Hp} : ∀ {vs : List V} {ds : List D} {ns : List Bool}, Reps K C H vs ds → dBools ds = some ns → vs = ns.map V.bl
  | _, _, ns, .nil, e => by simp [dBools] at e; simp [← e]
  | _, _, ns, .cons (d := d) h r, e => by
    cases d <;> first | (simp [dBools] at e; done) | skip
    simp only [dBools, Option.map_eq_some_iff] at e
    obtain ⟨ms, e1, e2⟩ := e
    cases h
    rw [bools_reps r e1, ← e2]
    rfl
/-- keys' values -/
theorem keys_reps {K : PySem.W.Frag} {C : List Addr} {H : Hp} : ∀ kvs : List (Key × V), Reps K C H (kvs.map fun kv => kV kv.1) (kvs.map fun kv => keyD kv.1)
  | [] => .nil
  | (.inl i, _) :: r => .cons (.int i) (keys_reps r)
  | (.inr x, _) :: r => .cons (by
    have h : Rep K C H (.str (S x.cps.toList)) (.str x.cps.toList) := .str _
    rw [S_of] at h
    exact h) (keys_reps r)
/-- signs of a text -/
theorem signs_reps {K : PySem.W.Frag} {C : List Addr} {H : Hp} (s : List Nat) : Reps K C H (s.map fun c => V.str ⟨#[c]⟩) (strsOf s) := by
  unfold strsOf
  induction s with
  | nil => exact .nil
  | cons c r ih => exact .cons (.str [c]) ih
theorem signs_vals {x : Str} {acc : Array Value} (h : ItemsOf (SignAt x) acc x.cps.size) : Vals (x.cps.toList.map fun c => V.str ⟨#[c]⟩) acc.toList := by
  obtain ⟨h1, h2⟩ := h
  refine vals_of_at (by simp [h1]) fun i v u hv hu => ?_
  obtain ⟨c, t, e1, e2⟩ := h2 i u (by simpa using hu)
  rw [List.getElem?_map, Array.getElem?_toList, e1] at hv
  have e3 := Option.some.inj hv
  subst e3 e2
  exact ⟨t, rfl⟩
theorem put_keys (k : Key) (v : V) (kvs : List (Key × V)) : ((putK kvs k v).map fun p => keyD p.1) = dputK (keyD k) (kvs.map fun p => keyD p.1) := by
  have e : (kvs.any fun kv => decide (kv.1 = k)) = ((kvs.map fun p => keyD p.1).any fun x => deq x (keyD k)) := by
    rw [List.any_map]
    congr 1
    funext p
    exact (key_eq p.1 k).symm
  unfold putK dputK
  rw [e]
  split
  · rw [List.map_map]
    refine List.map_congr_left fun p _ => ?_
    show keyD (if p.1 = k then (p.1, v) else p).1 = keyD p.1
    split <;> rfl
  · rw [List.map_append]
    rfl
theorem put_sub {K : PySem.W.Frag} {C : List Addr} {H : Hp} {k : Key} {v : V} {d : D} (hv : Rep K C H v d) : ∀ {kvs : List (Key × V)} {vs : List D}, Reps K C H (kvs.map (·.2)) vs →
    Reps K C H ((kvs.map fun kv => if kv.1 = k then (kv.1, v) else kv).map (·.2)) (dsub (keyD k) d (kvs.map fun p => keyD p.1) vs)
  | [], _, .nil => .nil
  | p :: kvs, _, .cons h r => by
    rw [List.map_cons, List.map_cons, List.map_cons, dsub, key_eq]
    by_cases e : p.1 = k
    · rw [if_pos e, if_pos (decide_eq_true e)]
      exact .cons hv (put_sub hv r)
    · rw [if_neg e, if_neg (by simp [e])]
      exact .cons h (put_sub hv r)
theorem put_vals {K : PySem.W.Frag} {C : List Addr} {H : Hp} {k : Key} {v : V} {d : D} (hv : Rep K C H v d) {kvs : List (Key × V)} {vs : List D} (r : Reps K C H (kvs.map (·.2)) vs) :
    Reps K C H ((putK kvs k v).map (·.2)) (dputV (keyD k) d (kvs.map fun p => keyD p.1) vs) := by
  have e : (kvs.any fun kv => decide (kv.1 = k)) = ((kvs.map fun p => keyD p.1).any fun x => deq x (keyD k)) := by
    rw [List.any_map]
    congr 1
    funext p
    exact (key_eq p.1 k).symm
  unfold putK dputV
  rw [e]
  split
  · exact put_sub hv r
  · rw [List.map_append]
    exact Reps.app (.cons hv .nil) r
/-- dict(xs): the pairs -/
theorem mk_pairs {K : PySem.W.Frag} {C : List Addr} {H : Hp} : ∀ {vs : List V} {ds ks0 vs0 ks ws : List D}, Reps K C H vs ds → mkDict ds ks0 vs0 = some (ks, ws) →
    ∃ ps kvs, vs = ps.map V.ref ∧ Paired (fun p (kv : Key × V) => SqT K H p [kV kv.1, kv.2]) ps kvs ∧ ∀ kvs0 : List (Key × V), ks0 = (kvs0.map fun p => keyD p.1) → Reps K C H (kvs0.map (·.2)) vs0 → ks = ((mergeK kvs0 kvs).map fun p => keyD p.1) ∧ Reps K C H ((mergeK kvs0 kvs).map (·.2)) ws
  | _, _, ks0, vs0, ks, ws, .nil, e => by
    simp only [mkDict, Option.some.injEq, Prod.mk.injEq] at e
    exact ⟨[], [], rfl, .nil, fun kvs0 h1 h2 => ⟨by rw [← e.1, h1]; rfl, by rw [← e.2]; exact h2⟩⟩
  | _, _, ks0, vs0, ks, ws, .cons (d := d) h r, e => by
    unfold mkDict at e
    split at e
    · rename_i k0 v0
      split at e
      · rename_i hk
        obtain ⟨k, _, hk2⟩ := key_of hk
        obtain ⟨ps, kvs, h1, h2, h3⟩ := mk_pairs r e
        cases h with
        | tup q0 q2 =>
          rename_i p ys
          have q1 := q0.sq (K := K)
          cases q2 with
          | cons a b =>
            cases b with
            | cons b1 b2 =>
              cases b2
              rename_i kv1 vv1
              subst hk2
              have ek : kv1 = kV k := by
                cases k with
                | inl i =>
                  cases a
                  rfl
                | inr x =>
                  generalize ez : keyD (.inr x) = z at a
                  cases a <;> first | (cases ez; done) | skip
                  cases ez
                  rw [S_of]
                  rfl
              subst ek
              refine ⟨p :: ps, (k, vv1) :: kvs, by rw [h1]; rfl, .cons q1 h2, fun kvs0 e1 e2 => ?_⟩
              have := h3 (putK kvs0 k vv1) (by rw [put_keys, e1]) (by rw [e1]; exact put_vals b1 e2)
              exact this
      · cases e
    · cases e

section
variable {X : Cx}
theorem pairs_raw {X : Cx} {pins : List (Addr × Obj)} {σ : L2.St} {H : Hp} {s : Shared} (I : Inv X pins σ H s) : ∀ {ps : List Addr} {kvs : List (Key × V)}, Paired (fun p (kv : Key × V) => SqT X.K H p [kV kv.1, kv.2]) ps kvs →
    ∃ (raw : List (Value × Value)) (prs : List (Key × Value)), KV kvs prs ∧ raw.length = ps.length ∧ prs.length = ps.length ∧ ∀ (j : Nat) (k v : Value), raw[j]? = some (k, v) → (∃ b, ps[j]? = some b ∧ IsTup s.heap b #[k, v]) ∧ ∃ key, prs[j]? = some (key, v) ∧ (mixKind X.prog X.w).is key k = true
  | _, _, .nil => ⟨[], [], .nil, rfl, rfl, fun j q e => by simp⟩
  | _, _, .cons (a := p) (b := kv) h t => by
    obtain ⟨raw, prs, r, hl, hl2, hp⟩ := pairs_raw I t
    obtain ⟨its, rv, ht, _⟩ := I.tuple h
    obtain ⟨u, y, ei, ru, ry⟩ := vals2 rv
    subst ei
    refine ⟨(u, y) :: raw, (kv.1, y) :: prs, .cons ⟨rfl, ry⟩ r, by rw [List.length_cons, List.length_cons, hl], by rw [List.length_cons, List.length_cons, hl2], fun j k v e => ?_⟩
    cases j with
    | zero =>
      have e' : (u, y) = (k, v) := Option.some.inj e
      cases e'
      exact ⟨⟨p, rfl, ht⟩, kv.1, rfl, kV_is (P := X.prog) (w := X.w) ru⟩
    | succ j => exact hp j k v (by simpa using e)
theorem short_ok {xs ys : List D} (h : short xs = some ys) : ys = xs ∧ xs.length ≤ sizeLine := by
  unfold short at h
  split at h
  · rename_i z
    exact ⟨(Option.some.inj h).symm, size_ok z⟩
  · cases h
theorem keep_mut {d : D} (h : isKeep d = true) : mutD d = false := by cases d <;> first | rfl | exact absurd h Bool.false_ne_true
theorem pick {pins : List (Addr × Obj)} {σ : L2.St} {H : Hp} {s : Shared} {G : Gh} {Q : VK} {vs : List V} {its : List Value} {ds : List D} {d : D} {i : Nat} {v : Value} {h' : Heap} {tk : Nat} {bs : List Addr} (I : Inv X pins σ H s) (rv : Vals vs its) (r1 : Reps X.K G.C (G.h H) vs ds) (pl : plains ds = true)
    (hi : its[i]? = some v) (hr : Reads h' v (toPy d) bs) (pd : plain d = true) (kd : isKeep d = true) (kp : ∀ b o, s.heap.get? b = some o → h'.get? b = some o) (q : ∀ v H', Same H H' → FR X.K true G H H' v d → Q v H') : EP X pins σ Q v { s with heap := h', toks := tk } := by
  have hlt : i < vs.length := by rw [rv.length]; exact (List.getElem?_eq_some_iff.mp hi).1
  have hx : vs[i]? = some vs[i] := List.getElem?_eq_getElem hlt
  obtain ⟨u, hu, ru⟩ := rv.get hx
  obtain rfl : v = u := by
    rw [hi] at hu
    exact Option.some.inj hu
  obtain ⟨d', hd', rd⟩ := r1.getV hx
  have pd' := plains_1 pl (List.mem_of_getElem? hd')
  obtain ⟨as, ra⟩ := Dp.reads I _ _ _ (Rep.dp pd' rd) ru
  have e := SeqAt.plain_unique _ _ _ _ _ (toPy_plain d' pd') (PyProof.Rows.Reads.keeps kp ra) hr
  have e2 := toPy_inj d' d pd' pd e
  subst e2
  exact ⟨vs[i], H, I.kept kp, ru, q _ H (Same.refl H) (FR.flat rd (keep_mut kd))⟩
theorem SqTL {K : PySem.W.Frag} {H : Hp} {a : Addr} {vs : List V} (h : H a = some (.lst vs)) : SqL K H a vs := .of h
theorem cr_b1 (hc : X.calm = true) (hu : X.A.units + 200 < cLine) (op : B1) : CallR X (b1V op) (rB1 X.K op) := by
  intro pins s σ H xs us Q I r h
  obtain ⟨G, x, dx, d, ex, hid, hx, e, q⟩ := h
  have q0 : ∀ {v : V}, SRep X.K G H v d → mutD d = false → Q v H := fun a b => q _ H (Same.refl H) (FR.flat a b)
  cases op with
  | len =>
    cases dx <;> first | (simp [doB1] at e; done) | skip
    · subst ex
      have ex := hx.str
      subst ex
      simp only [doB1] at e
      split at e <;> cases e
      rename_i hz
      exact call_len pins s σ H _ us Q I r ⟨_, _, rfl, ⟨by rw [S_len]; exact size_ok hz, rfl⟩, by rw [S_len]; exact q0 (.int _) rfl⟩
    · obtain ⟨a, vs, rfl, h1, r1⟩ := hx.tup
      simp only [doB1, Option.some.injEq] at e
      subst e
      exact call_len_seq pins s σ H _ us Q I r ⟨a, vs, ex, .inr h1, by rw [r1.len]; exact q0 (.int _) rfl⟩
    · obtain ⟨a, vs, rfl, h1, r1⟩ := hx.lst
      simp only [doB1, Option.some.injEq] at e
      subst e
      exact call_len_seq pins s σ H _ us Q I r ⟨a, vs, ex, .inl (.of h1), by rw [r1.len]; exact q0 (.int _) rfl⟩
    · obtain ⟨a, kvs, rfl, h1, h2, r1⟩ := hx.dic
      simp only [doB1, Option.some.injEq] at e
      subst e
      exact call_lenD pins s σ H _ us Q I r ⟨a, kvs, ex, h1, by rw [h2, List.length_map] at q0; exact q0 (.int _) rfl⟩
  | tuple =>
    cases dx <;> first | (simp [doB1] at e; done) | skip
    · subst ex
      have ex := hx.str
      subst ex
      rename_i cs
      simp only [doB1, Option.map_eq_some_iff] at e
      obtain ⟨ys, e1, e2⟩ := e
      obtain ⟨e3, e4⟩ := short_ok e1
      subst e2 e3
      obtain ⟨u, rfl, t, rfl⟩ := vals1 r
      have n1 : (S cs).cps.size = cs.length := S_len cs
      have n2 : (strsOf cs).length = cs.length := by simp [strsOf]
      refine call_tuple_str (I.ok.hd hc) (S cs) t (fun h' tk acc kp hacc => ?_) (by rw [n1, ← n2]; exact e4)
      have I1 : Inv X pins σ H { s with heap := h', toks := tk } := I.kept kp
      have rv := signs_vals hacc
      have hp := I1.hok.fresh (Nat.le_refl _)
      exact ⟨.ref h'.objs.size, _, I1.laid (t' := tk) (fun b o e => Heap.get?_push_of_some _ e) (Nat.le_refl _) (show ObjOk X.prog X.w _ _ _ (.frz _ (.tup ((S cs).cps.toList.map fun c => V.str ⟨#[c]⟩))) from ⟨Heap.get?_push_size _ rfl, by rw [List.length_map, S_list, ← n2]; exact e4, acc.toList, rv, IsTup.new _ _⟩), rfl,
        q _ _ (same_new hp) (FR.flat (new_tup hid hp rfl (signs_reps cs)) rfl)⟩
    · obtain ⟨a, vs, rfl, h1, r1⟩ := hx.tup
      simp only [doB1, Option.some.injEq] at e
      subst e
      exact call_tuple_of pins s σ H _ us Q I r ⟨a, vs, ex, .inr ⟨h1, q0 (hx.s rfl) rfl⟩⟩
    · obtain ⟨a, vs, rfl, h1, r1⟩ := hx.lst
      simp only [doB1, Option.some.injEq] at e
      subst e
      subst ex
      obtain ⟨u, rfl, rx⟩ := vals1 r
      cases rx
      obtain ⟨its, r', pl, hz⟩ := I.list (SqTL h1)
      have hlen := r'.length
      refine call_tuple_list pl.isList (fun h' kp => ?_) (by simp only [List.size_toArray] <;> omega)
      have I1 : Inv X pins σ H { s with heap := h' } := I.kept (t' := s.toks) kp
      have hp := I1.hok.fresh (Nat.le_refl _)
      exact ⟨.ref h'.objs.size, _, I1.laid (t' := s.toks) (o := .frz _ (.tup vs)) (fun b o e => Heap.get?_push_of_some _ e) (Nat.le_refl _) ⟨Heap.get?_push_size _ rfl, hz, its, r', IsTup.new _ _⟩, rfl, q _ _ (same_new hp) (FR.flat (new_tup hid hp rfl r1) rfl)⟩
  | list =>
    cases dx <;> first | (simp [doB1] at e; done) | skip
    · obtain ⟨a, vs, rfl, h1, r1⟩ := hx.tup
      simp only [doB1, Option.some.injEq] at e
      subst e
      exact call_list_of pins s σ H _ us Q I r ⟨a, vs, ex, .inr h1, fun l hl => q _ _ (same_new hl) (new_lst hid hl r1).fr⟩
    · obtain ⟨a, vs, rfl, h1, r1⟩ := hx.lst
      simp only [doB1, Option.some.injEq] at e
      subst e
      exact call_list_of pins s σ H _ us Q I r ⟨a, vs, ex, .inl (.of h1), fun l hl => q _ _ (same_new hl) (new_lst hid hl r1).fr⟩
    · obtain ⟨a, kvs, rfl, h1, h2, r1⟩ := hx.dic
      simp only [doB1, Option.some.injEq] at e
      subst e
      exact call_list_dK hc pins s σ H _ us Q I r ⟨a, kvs, ex, h1, fun l hl => q _ _ (same_new hl) (new_lst hid hl (by rw [h2]; exact keys_reps kvs)).fr⟩
  | int =>
    cases dx <;> first | (simp [doB1] at e; done) | skip
    · have e1 := hx.bl
      subst e1
      simp only [doB1, Option.some.injEq] at e
      subst e
      exact call_int1 pins s σ H _ us Q I r (.inr ⟨_, ex, q0 (.int _) rfl⟩)
    · have e1 := hx.int
      subst e1
      simp only [doB1, Option.some.injEq] at e
      subst e
      exact call_int1 pins s σ H _ us Q I r (.inl ⟨_, ex, q0 (.int _) rfl⟩)
  | sorted =>
    cases dx <;> first | (simp [doB1] at e; done) | skip
    · simp only [doB1] at e
      split at e <;> cases e
      rename_i hs
      exact cr_sortedT hu pins s σ H _ us Q I r ⟨G, x, _, ex, hid, hx, hs, q⟩
    · simp only [doB1] at e
      split at e <;> cases e
      rename_i hs
      exact cr_sortedD hu pins s σ H _ us Q I r ⟨G, x, _, ex, hid, hx, hs, q⟩
  | all =>
    cases dx <;> first | (simp [doB1] at e; done) | skip
    obtain ⟨a, vs, rfl, h1, r1⟩ := hx.lst
    simp only [doB1, Option.map_eq_some_iff] at e
    obtain ⟨bs, e1, e2⟩ := e
    subst e2
    exact cr_all hc pins s σ H _ us Q I r ⟨a, bs, ex, .of (by rw [h1, bools_reps r1 e1]), q0 (.bl _) rfl⟩
  | any =>
    cases dx <;> first | (simp [doB1] at e; done) | skip
    obtain ⟨a, vs, rfl, h1, r1⟩ := hx.lst
    simp only [doB1, Option.map_eq_some_iff] at e
    obtain ⟨bs, e1, e2⟩ := e
    subst e2
    exact cr_any hc pins s σ H _ us Q I r ⟨a, bs, ex, .of (by rw [h1, bools_reps r1 e1]), q0 (.bl _) rfl⟩
  | sum =>
    cases dx <;> first | (simp [doB1] at e; done) | skip
    obtain ⟨a, vs, rfl, h1, r1⟩ := hx.lst
    simp only [doB1, Option.map_eq_some_iff] at e
    obtain ⟨bs, e1, e2⟩ := e
    subst e2
    exact cr_sum hc pins s σ H _ us Q I r ⟨a, bs, ex, .of (by rw [h1, ints_reps r1 e1]), q0 (.int _) rfl⟩
  | abs =>
    cases dx <;> first | (simp [doB1] at e; done) | skip
    have e1 := hx.int
    subst e1
    simp only [doB1, Option.some.injEq] at e
    subst e
    exact call_abs pins s σ H _ us Q I r ⟨_, ex, q0 (.int _) rfl⟩
  | min =>
    cases dx <;> first | (simp [doB1] at e; done) | skip
    rename_i ds
    cases ds with
    | nil => simp [doB1] at e
    | cons d0 ds =>
      simp only [doB1] at e
      split at e <;> cases e
      rename_i hs
      rw [Bool.and_eq_true] at hs
      obtain ⟨a, vs, rfl, h1, r1⟩ := hx.lst
      subst ex
      obtain ⟨u, rfl, rx⟩ := vals1 r
      obtain rfl : u = Value.ref a := rx
      have so := srt_ok hs.1
      obtain ⟨its, rv, hl, hz⟩ := I.list (.of h1)
      obtain ⟨as, ra⟩ := rv_all I rv r1 so.pl
      rw [List.map_cons] at ra
      have hal : PySem.W.AlikeAll (toPy d0 :: ds.map toPy) := ⟨fun d hd d' hd' => so.like d hd d' hd', fun d hd => by
        obtain ⟨b, hb, rfl⟩ := List.mem_map.mp (show d ∈ (d0 :: ds).map toPy from hd)
        have h1 := plains_1 so.pl hb
        rcases so.kd with k | k <;> have := k b hb <;> cases b <;> first | exact absurd this Bool.false_ne_true | exact absurd h1 Bool.false_ne_true | (simp [toPy]; done) | (simp [plain] at h1; done)⟩
      have hdep := depAll_le so.fl
      rw [List.map_cons] at hdep
      refine PySem.W.min_list_data (x := toPy d0) (xs := ds.map toPy) (I.ok.hd hc) hl.isList (by simpa using ra) hal (by omega) fun i v h' tk bs hi hr kp => ?_
      rw [dmin_py ds d0 so.al] at hr
      exact pick I rv r1 so.pl (by simpa using hi) hr (plains_1 so.pl (dmin_mem ds d0)) hs.2 kp q
  | max =>
    cases dx <;> first | (simp [doB1] at e; done) | skip
    rename_i ds
    cases ds with
    | nil => simp [doB1] at e
    | cons d0 ds =>
      simp only [doB1] at e
      split at e <;> cases e
      rename_i hs
      rw [Bool.and_eq_true] at hs
      obtain ⟨a, vs, rfl, h1, r1⟩ := hx.lst
      subst ex
      obtain ⟨u, rfl, rx⟩ := vals1 r
      obtain rfl : u = Value.ref a := rx
      have so := srt_ok hs.1
      obtain ⟨its, rv, hl, hz⟩ := I.list (.of h1)
      obtain ⟨as, ra⟩ := rv_all I rv r1 so.pl
      rw [List.map_cons] at ra
      have hal : PySem.W.AlikeAll (toPy d0 :: ds.map toPy) := ⟨fun d hd d' hd' => so.like d hd d' hd', fun d hd => by
        obtain ⟨b, hb, rfl⟩ := List.mem_map.mp (show d ∈ (d0 :: ds).map toPy from hd)
        have h1 := plains_1 so.pl hb
        rcases so.kd with k | k <;> have := k b hb <;> cases b <;> first | exact absurd this Bool.false_ne_true | exact absurd h1 Bool.false_ne_true | (simp [toPy]; done) | (simp [plain] at h1; done)⟩
      have hdep := depAll_le so.fl
      rw [List.map_cons] at hdep
      refine PySem.W.max_list_data (x := toPy d0) (xs := ds.map toPy) (I.ok.hd hc) hl.isList (by simpa using ra) hal (by omega) fun i v h' tk bs hi hr kp => ?_
      rw [dmax_py ds d0 so.al] at hr
      exact pick I rv r1 so.pl (by simpa using hi) hr (plains_1 so.pl (dmax_mem ds d0)) hs.2 kp q
  | dict =>
    cases dx <;> first | (simp [doB1] at e; done) | skip
    · rename_i ds
      obtain ⟨a, vs, rfl, h1, r1⟩ := hx.tupA
      simp only [doB1, Option.map_eq_some_iff] at e
      obtain ⟨⟨ks, ws⟩, e1, e2⟩ := e
      subst e2
      obtain ⟨ps, kvs, e3, e4, e5⟩ := mk_pairs r1 e1
      obtain ⟨e6, e7⟩ := e5 [] rfl .nil
      subst ex
      obtain ⟨u, rfl, rx⟩ := vals1 r
      obtain rfl : u = Value.ref a := rx
      subst e3
      have h2 := h1.same hSame
      obtain ⟨its, rv, pl, hz⟩ := I.tuple h2.sq
      have ei := refs_at rv
      subst ei
      obtain ⟨ob, ho, hn⟩ := h2
      have hob : s.heap.get? a = some ob := (show ObjOk X.prog X.w H s.heap a (.frz ob (.tup (ps.map V.ref))) from I.hok a _ ho).1
      obtain ⟨ob', ho', hc', n, hd'⟩ := id pl
      have eo : ob' = ob := by
        rw [hob] at ho'
        exact (Option.some.inj ho').symm
      subst eo
      rw [List.length_map] at hz
      obtain ⟨raw, prs, rel, hl, hl2, hpr⟩ := pairs_raw I (L2.Paired.mapP e4 fun _ _ z => sqT_same hSame z)
      refine PySem.call_dict_pairs (knd := mixKind X.prog X.w) (kvs := prs) (PairArg.tuple a _ (fun j => ps.getD j 0) raw) (I.ok.hd hc) ⟨⟨ob', n, hob, hc', hn, hd'⟩, by simp [hl], fun j k v e => ?_⟩ ⟨by rw [hl, hl2], fun i k v e => ?_⟩ (by rw [hl]; exact hz) fun h' tk hd2 k => ?_
      · obtain ⟨⟨b, e8, e9⟩, _⟩ := hpr j k v e
        refine ⟨by simp [e8, List.getD], .inl ?_⟩
        simp only [List.getD, e8, Option.getD_some]
        obtain ⟨o9, a1, a2, a3, a4⟩ := e9
        exact ⟨o9, a1, a2, a3, a4⟩
      · obtain ⟨_, key, e8, e9⟩ := hpr i k v e
        exact ⟨key, e8, e9⟩
      · have hm : (s.heap.objs.size == sysModules) = false := beq_eq_false_iff_ne.mpr (Nat.ne_of_gt I.big)
        have hlen : (mergeK [] kvs).length ≤ sizeLine := by
          refine Nat.le_trans (length_mergeK kvs []) ?_
          rw [List.length_nil, Nat.zero_add, rel.length, hl2]
          exact hz
        have hp := I.hok.fresh (Nat.le_refl s.heap.objs.size)
        refine ⟨.ref s.heap.objs.size, upd H s.heap.objs.size (.dK (mergeK [] kvs)), I.laid (t' := tk) (fun b o => k b o (by simp)) (Nat.le_refl _) (show ObjOk X.prog X.w _ _ _ (.dK (mergeK [] kvs)) from ⟨hlen, hm, merged [] prs, KV.merge rel .nil, hd2⟩), rfl, q _ _ (same_new hp) ?_⟩
        have := new_dic hid hp e7
        rw [← e6] at this
        exact this.fr
    · obtain ⟨a, vs, rfl, h1, r1⟩ := hx.lst
      simp only [doB1, Option.map_eq_some_iff] at e
      obtain ⟨⟨ks, ws⟩, e1, e2⟩ := e
      subst e2
      obtain ⟨ps, kvs, e3, e4, e5⟩ := mk_pairs r1 e1
      obtain ⟨e6, e7⟩ := e5 [] rfl .nil
      subst e3
      refine call_dictP hc pins s σ H _ us Q I r ⟨a, ps, kvs, ex, .of h1, L2.Paired.mapP e4 fun _ _ z => sqT_same hSame z, fun p hp => q _ _ (same_new hp) ?_⟩
      have := new_dic hid hp e7
      rw [← e6] at this
      exact this.fr
end
end Wy

set_option Elab.async false
set_option linter.all false
set_option maxRecDepth 100000
set_option autoImplicit false
/-! WySd: data that may be members of a set. -/
namespace Wy
open PySem PySem.Spec PyProof.Rows L2 PySem.W
mutual
def toNK : D → NestedKey
  | .int i => .num i
  | .str s => .text (S s)
  | .tup xs => .tup (toNKs xs)
  | _ => .none
def toNKs : List D → List NestedKey
  | [] => []
  | x :: xs => toNK x :: toNKs xs
end
mutual
theorem toNK_inj : ∀ a b : D, kOk a = true → kOk b = true → toNK a = toNK b → a = b
  | .int i, b, _, hb, e => by
    cases b <;> simp only [toNK, NestedKey.num.injEq, reduceCtorEq] at e
    rw [e]
  | .str s, b, _, hb, e => by
    cases b <;> simp only [toNK, NestedKey.text.injEq, reduceCtorEq] at e
    rw [S_inj e]
  | .tup xs, b, ha, hb, e => by
    cases b <;> simp only [toNK, NestedKey.tup.injEq, reduceCtorEq] at e
    rw [toNKs_inj xs _ (by simpa [kOk] using ha) (by simpa [kOk] using hb) e]
  | .non, _, ha, _, _ => absurd ha (by simp [kOk])
  | .bl _, _, ha, _, _ => absurd ha (by simp [kOk])
  | .lst _, _, ha, _, _ => absurd ha (by simp [kOk])
  | .dic _ _, _, ha, _, _ => absurd ha (by simp [kOk])
  | .cell _, _, ha, _, _ => absurd ha (by simp [kOk])
  | .err _ _, _, ha, _, _ => absurd ha (by simp [kOk])
  | .exc _ _, _, ha, _, _ => absurd ha (by simp [kOk])
  | .scr _, _, ha, _, _ => absurd ha (by simp [kOk])
theorem toNKs_inj : ∀ a b : List D, kOks a = true → kOks b = true → toNKs a = toNKs b → a = b
  | [], [], _, _, _ => rfl
  | [], _ :: _, _, _, e => by simp [toNKs] at e
  | _ :: _, [], _, _, e => by simp [toNKs] at e
  | x :: xs, y :: ys, ha, hb, e => by
    simp only [kOks, Bool.and_eq_true] at ha hb
    simp only [toNKs, List.cons.injEq] at e
    rw [toNK_inj x y ha.1 hb.1 e.1, toNKs_inj xs ys ha.2 hb.2 e.2]
end
mutual
theorem toNK_dep : ∀ a : D, kOk a = true → (toNK a).depth = dep a
  | .int _, _ => by simp [toNK, NestedKey.depth, dep]
  | .str _, _ => by simp [toNK, NestedKey.depth, dep]
  | .tup xs, h => by
    simp only [toNK, NestedKey.depth, dep]
    rw [toNKs_dep xs (by simpa [kOk] using h)]
  | .non, h => absurd h (by simp [kOk])
  | .bl _, h => absurd h (by simp [kOk])
  | .lst _, h => absurd h (by simp [kOk])
  | .dic _ _, h => absurd h (by simp [kOk])
  | .cell _, h => absurd h (by simp [kOk])
  | .err _ _, h => absurd h (by simp [kOk])
  | .exc _ _, h => absurd h (by simp [kOk])
  | .scr _, h => absurd h (by simp [kOk])
theorem toNKs_dep : ∀ a : List D, kOks a = true → NestedKey.depthAll (toNKs a) = deps a
  | [], _ => rfl
  | x :: xs, h => by
    simp only [kOks, Bool.and_eq_true] at h
    simp only [toNKs, NestedKey.depthAll, deps]
    rw [toNK_dep x h.1, toNKs_dep xs h.2]
end
mutual
theorem reads_nested {h : Heap} : ∀ (d : D) {v : Value} {as : List Addr}, kOk d = true → Reads h v (toPy d) as → NestedIs h (toNK d) v
  | .int i, v, as, _, r => by
    simp only [toPy] at r
    cases r
    exact .int _ _
  | .str s, v, as, _, r => by
    simp only [toPy] at r
    cases r
    exact .text _ _
  | .tup xs, v, as, hk, r => by
    simp only [toPy] at r
    cases r with
    | tuple h1 h2 h3 h4 => exact .tup h1 h2 h3 (reads_nesteds xs (by simpa [kOk] using hk) h4)
  | .non, _, _, ha, _ => absurd ha (by simp [kOk])
  | .bl _, _, _, ha, _ => absurd ha (by simp [kOk])
  | .lst _, _, _, ha, _ => absurd ha (by simp [kOk])
  | .dic _ _, _, _, ha, _ => absurd ha (by simp [kOk])
  | .cell _, _, _, ha, _ => absurd ha (by simp [kOk])
  | .err _ _, _, _, ha, _ => absurd ha (by simp [kOk])
  | .exc _ _, _, _, ha, _ => absurd ha (by simp [kOk])
  | .scr _, _, _, ha, _ => absurd ha (by simp [kOk])
theorem reads_nesteds {h : Heap} : ∀ (ds : List D) {vs : List Value} {as : List Addr}, kOks ds = true → ReadsAll h vs (toPys ds) as → NestedAll h (toNKs ds) vs
  | [], _, _, _, r => by
    simp only [toPys] at r
    cases r
    exact .nil
  | x :: xs, _, _, hk, r => by
    simp only [toPys] at r
    simp only [kOks, Bool.and_eq_true] at hk
    cases r with
    | cons h1 h2 => exact .cons (reads_nested x hk.1 h1) (reads_nesteds xs hk.2 h2)
end
mutual
theorem deq_k : ∀ a b : D, kOk a = true → kOk b = true → (deq a b = true ↔ a = b)
  | .int i, b, _, hb => by cases b <;> simp [deq, kOk] at hb ⊢
  | .str s, b, _, hb => by cases b <;> simp [deq, kOk] at hb ⊢
  | .tup xs, b, ha, hb => by
    cases b <;> first | (simp [deq, kOk] at hb ⊢; done) | skip
    rename_i ys
    simp only [deq, D.tup.injEq]
    exact deqs_k xs ys (by simpa [kOk] using ha) (by simpa [kOk] using hb)
  | .non, _, ha, _ => absurd ha (by simp [kOk])
  | .bl _, _, ha, _ => absurd ha (by simp [kOk])
  | .lst _, _, ha, _ => absurd ha (by simp [kOk])
  | .dic _ _, _, ha, _ => absurd ha (by simp [kOk])
  | .cell _, _, ha, _ => absurd ha (by simp [kOk])
  | .err _ _, _, ha, _ => absurd ha (by simp [kOk])
  | .exc _ _, _, ha, _ => absurd ha (by simp [kOk])
  | .scr _, _, ha, _ => absurd ha (by simp [kOk])
theorem deqs_k : ∀ a b : List D, kOks a = true → kOks b = true → (deqs a b = true ↔ a = b)
  | [], [], _, _ => by simp [deqs]
  | [], _ :: _, _, _ => by simp [deqs]
  | _ :: _, [], _, _ => by simp [deqs]
  | x :: xs, y :: ys, ha, hb => by
    simp only [kOks, Bool.and_eq_true] at ha hb
    simp only [deqs, Bool.and_eq_true, List.cons.injEq]
    rw [deq_k x y ha.1 hb.1, deqs_k xs ys ha.2 hb.2]
end
theorem slt_anti : ∀ a b : List Nat, slt a b = false → slt b a = false → a = b
  | [], [], _, _ => rfl
  | [], _ :: _, h, _ => by simp [slt] at h
  | _ :: _, [], _, h => by simp [slt] at h
  | x :: xs, y :: ys, h1, h2 => by
    unfold slt at h1 h2
    split at h1
    · cases h1
    · split at h2
      · cases h2
      · rename_i q1 q2
        have e : x = y := by
          have a1 : ¬ x < y := fun z => q1 (Nat.ble_eq_true_of_le z)
          have a2 : ¬ y < x := fun z => q2 (Nat.ble_eq_true_of_le z)
          omega
        subst e
        simp only [Nat.beq_refl, if_true] at h1 h2
        rw [slt_anti xs ys h1 h2]
mutual
theorem dlt_anti : ∀ a b : D, kOk a = true → kOk b = true → alk a b = true → dlt a b = false → dlt b a = false → a = b
  | .int i, b, _, hb, h, h1, h2 => by
    cases b <;> first | (simp [alk] at h; done) | skip
    simp only [dlt, decide_eq_false_iff_not] at h1 h2
    rw [Int.le_antisymm (Int.not_lt.mp h2) (Int.not_lt.mp h1)]
  | .str s, b, _, hb, h, h1, h2 => by
    cases b <;> first | (simp [alk] at h; done) | skip
    simp only [dlt] at h1 h2
    rw [slt_anti _ _ h1 h2]
  | .tup xs, b, ha, hb, h, h1, h2 => by
    cases b <;> first | (simp [alk] at h; done) | skip
    simp only [dlt] at h1 h2
    rw [dlts_anti xs _ (by simpa [kOk] using ha) (by simpa [kOk] using hb) (by simpa [alk] using h) h1 h2]
  | .non, _, ha, _, _, _, _ => absurd ha (by simp [kOk])
  | .bl _, _, ha, _, _, _, _ => absurd ha (by simp [kOk])
  | .lst _, _, ha, _, _, _, _ => absurd ha (by simp [kOk])
  | .dic _ _, _, ha, _, _, _, _ => absurd ha (by simp [kOk])
  | .cell _, _, ha, _, _, _, _ => absurd ha (by simp [kOk])
  | .err _ _, _, ha, _, _, _, _ => absurd ha (by simp [kOk])
  | .exc _ _, _, ha, _, _, _, _ => absurd ha (by simp [kOk])
  | .scr _, _, ha, _, _, _, _ => absurd ha (by simp [kOk])
theorem dlts_anti : ∀ a b : List D, kOks a = true → kOks b = true → alks a b = true → dlts a b = false → dlts b a = false → a = b
  | [], [], _, _, _, _, _ => rfl
  | [], _ :: _, _, _, _, h, _ => by simp [dlts] at h
  | _ :: _, [], _, _, _, _, h => by simp [dlts] at h
  | x :: xs, y :: ys, ha, hb, h, h1, h2 => by
    simp only [kOks, Bool.and_eq_true] at ha hb
    simp only [alks, Bool.and_eq_true] at h
    unfold dlts at h1 h2
    by_cases e : x = y
    · subst e
      rw [if_pos ((deq_k x x ha.1 ha.1).mpr rfl)] at h1 h2
      rw [dlts_anti xs ys ha.2 hb.2 h.2 h1 h2]
    · rw [if_neg fun z => e ((deq_k x y ha.1 hb.1).mp z)] at h1
      rw [if_neg fun z => e ((deq_k y x hb.1 ha.1).mp z).symm] at h2
      exact absurd (dlt_anti x y ha.1 hb.1 h.1 h1 h2) e
end
theorem ddup_sub : ∀ {l : List D} {x : D}, x ∈ ddup l → x ∈ l
  | y :: l, x, h => by
    unfold ddup at h
    split at h
    · exact List.mem_cons_of_mem _ (ddup_sub h)
    · rcases List.mem_cons.mp h with z | z
      · exact z ▸ List.mem_cons_self
      · exact List.mem_cons_of_mem _ (ddup_sub z)
theorem ddup_mem : ∀ {l : List D}, (∀ x ∈ l, kOk x = true) → ∀ {x : D}, x ∈ l → x ∈ ddup l
  | y :: l, hk, x, h => by
    unfold ddup
    have hk' : ∀ x ∈ l, kOk x = true := fun x hx => hk x (List.mem_cons_of_mem _ hx)
    split
    · rename_i q
      rcases List.mem_cons.mp h with z | z
      · obtain ⟨u, hu, e⟩ := List.any_eq_true.mp q
        rw [(deq_k u y (hk' u hu) (hk y List.mem_cons_self)).mp e] at hu
        exact ddup_mem hk' (z ▸ hu)
      · exact ddup_mem hk' z
    · rcases List.mem_cons.mp h with z | z
      · exact z ▸ List.mem_cons_self
      · exact List.mem_cons_of_mem _ (ddup_mem hk' z)
theorem ddup_nodup : ∀ {l : List D}, (∀ x ∈ l, kOk x = true) → (ddup l).Nodup
  | [], _ => List.nodup_nil
  | y :: l, hk => by
    unfold ddup
    have hk' : ∀ x ∈ l, kOk x = true := fun x hx => hk x (List.mem_cons_of_mem _ hx)
    split
    · exact ddup_nodup hk'
    · rename_i q
      refine List.nodup_cons.mpr ⟨fun z => q (List.any_eq_true.mpr ⟨y, ddup_sub z, (deq_k y y (hk y List.mem_cons_self) (hk y List.mem_cons_self)).mpr rfl⟩), ddup_nodup hk'⟩
theorem perm_of_mem {α : Type} {l m : List α} (h1 : l.Nodup) (h2 : m.Nodup) (h : ∀ x, x ∈ l ↔ x ∈ m) : l.Perm m := by
  haveI : DecidableEq α := fun a b => Classical.propDecidable (a = b)
  rw [List.perm_iff_count]
  intro a
  rw [h1.count, h2.count]
  by_cases z : a ∈ l
  · rw [if_pos z, if_pos ((h a).mp z)]
  · rw [if_neg z, if_neg fun q => z ((h a).mpr q)]
theorem plains_2 : ∀ {ds : List D}, (∀ a ∈ ds, plain a = true) → plains ds = true
  | [], _ => rfl
  | d :: ds, h => by
    simp only [plains, Bool.and_eq_true]
    exact ⟨h d List.mem_cons_self, plains_2 fun a ha => h a (List.mem_cons_of_mem _ ha)⟩
/-- two lists of the same things, sorted, are the same -/
theorem dsort_perm {l m : List D} (hl : SrtOk l) (hk : ∀ x ∈ l, kOk x = true) (p : l.Perm m) : dsort l = dsort m := by
  have hm : SrtOk m := ⟨plains_2 fun a ha => plains_1 hl.pl (p.mem_iff.mpr ha), fun a ha b hb => hl.al a (p.mem_iff.mpr ha) b (p.mem_iff.mpr hb), hl.kd.imp (fun z a ha => z a (p.mem_iff.mpr ha)) (fun z a ha => z a (p.mem_iff.mpr ha)), fun a ha => hl.fl a (p.mem_iff.mpr ha)⟩
  have t := sortLe_total (PyProof.Rows.listOrd PyProof.Rows.itemOrd) false fun d : D => keyToks (toPy d)
  have e1 := sorted_ds (fun d : D => d) l (by rw [List.map_id']; exact hl)
  have e2 := sorted_ds (fun d : D => d) m (by rw [List.map_id']; exact hm)
  rw [List.map_id', List.map_id'] at e1 e2
  rw [← e1, ← e2]
  have s1 := List.pairwise_mergeSort (le := dataLe false toPy) t.trans (fun a b => by rw [Bool.or_eq_true]; exact t.total a b) l
  have s2 := List.pairwise_mergeSort (le := dataLe false toPy) t.trans (fun a b => by rw [Bool.or_eq_true]; exact t.total a b) m
  refine List.Perm.eq_of_pairwise (fun a b ha hb h1 h2 => ?_) s1 s2 (((List.mergeSort_perm l _).trans p).trans (List.mergeSort_perm m _).symm)
  have ha' : a ∈ l := (List.mergeSort_perm l _).mem_iff.mp ha
  have hb' : b ∈ l := p.mem_iff.mpr ((List.mergeSort_perm m _).mem_iff.mp hb)
  have h1 : (!W.dataLt (toPy b) (toPy a)) = true := h1
  have h2 : (!W.dataLt (toPy a) (toPy b)) = true := h2
  rw [alk_lt _ _ (hl.al b hb' a ha'), Bool.not_eq_true'] at h1
  rw [alk_lt _ _ (hl.al a ha' b hb'), Bool.not_eq_true'] at h2
  exact dlt_anti a b (hk a ha') (hk b hb') (hl.al a ha' b hb') h2 h1
end Wy

set_option Elab.async false
set_option linter.all false
set_option maxRecDepth 100000
set_option autoImplicit false
/-! WySt: sets of texts, of numbers, of tuples of such: set(xs). -/
namespace WySt
open PySem PySem.Spec PyProof.Rows L2
abbrev NK := NestedKey
/-- things and what they are -/
abbrev KL := List (Value × NK)
theorem perm_lift {α β : Type} {f : α → β} {l m : List β} (p : l.Perm m) : ∀ L : List α, m = L.map f → ∃ L2 : List α, l = L2.map f ∧ L2.Perm L := by
  induction p with
  | nil =>
    intro L e
    rw [List.map_eq_nil_iff.mp e.symm]
    exact ⟨[], rfl, .refl _⟩
  | cons x _ ih =>
    intro L e
    cases L with
    | nil => cases e
    | cons y L =>
      injection e with e1 e2
      obtain ⟨L2, q1, q2⟩ := ih L e2
      exact ⟨y :: L2, by rw [q1, e1]; rfl, q2.cons y⟩
  | swap x y l =>
    intro L e
    rcases L with _ | ⟨u, _ | ⟨v, L⟩⟩
    · cases e
    · cases e
    · injection e with e1 e2
      injection e2 with e2 e3
      exact ⟨v :: u :: L, by rw [e1, e2, e3]; rfl, .swap _ _ _⟩
  | trans _ _ ih1 ih2 =>
    intro L e
    obtain ⟨L2, q1, q2⟩ := ih2 L e
    obtain ⟨L3, q3, q4⟩ := ih1 L2 q1
    exact ⟨L3, q3, q4.trans q2⟩
section
variable {P : Program} {w : World} {A : Around} {E : Value → Shared → Prop} {s : Shared} {a : Addr}
/-- a key as the library's kinds of keys have it -/
def keyOfN : NK → Option Key
  | .num i => some (.inl i)
  | .text x => some (.inr x)
  | _ => none
def row (w : World) (p : Value × NK) : Int × Value := (p.2.hash w, p.1)
/-- texts, or numbers: what the model looks for by going through all -/
def Plainly (h : Heap) (p : Value × NK) : Prop := ∃ k, keyOfN p.2 = some k ∧ (mixKind P w).is k p.1 = true ∧ p.1.scannable = true
theorem hash_of {k : Key} {n : NK} (e : keyOfN n = some k) : n.hash w = (mixKind P w).hash k := by
  cases n <;> first | (cases e; done) | skip
  · cases e; rfl
  · cases e; rfl
theorem key_inj {n m : NK} {k : Key} (e : keyOfN n = some k) (e2 : keyOfN m = some k) : n = m := by
  cases n <;> cases e <;> cases m <;> cases e2 <;> rfl
/-- the set at a, texts or numbers -/
def SetS (P : Program) (w : World) (h : Heap) (a : Addr) (L : KL) : Prop :=
  ∃ o es ep t, h.get? a = some o ∧ o.ExactSet ∧ o.data = .set es ep t ∧ es.toList = L.map (row w) ∧ (∀ p ∈ L, Plainly (P := P) (w := w) h p) ∧ (L.map (·.2)).Nodup ∧
    es.size < scanBound ∧ t.fits es.size = true ∧ Ris t.place.toList ∧ (w.params.followText "set-order" = true ∨ t.led = true)
theorem elems_of {h : Heap} {L : KL} (g : ∀ p ∈ L, Plainly (P := P) (w := w) h p) : ElemsOf (mixKind P w) (L.map (row w)) := fun e he => by
  obtain ⟨p, hp, rfl⟩ := List.mem_map.mp he
  obtain ⟨k, e1, e2, e3⟩ := g p hp
  exact ⟨⟨k, e2, hash_of e1⟩, e3⟩
theorem store_tail {g : Bool → Sem Unit} (hg : ∀ (b : Bool) (s1 : Shared) (Q1 : Unit → Shared → Prop), Q1 () s1 → wpAny (model P w) A (g b) Q1 E s1)
    {o : Obj} {es es1 : Array (Int × Value)} {ep : Nat} {t t2 : SetTable} {L1 : KL} (ho : s.heap.get? a = some o) (hex : o.ExactSet) (hd : o.data = .set es ep t)
    (e1 : es1.toList = L1.map (row w)) (g1 : ∀ p ∈ L1, Plainly (P := P) (w := w) s.heap p) (nd : (L1.map (·.2)).Nodup) (hb : es1.size < scanBound) (hf : t2.fits es1.size = true) (hr : Ris t2.place.toList)
    (hl : w.params.followText "set-order" = true ∨ t2.led = true) {was : Bool} {R : Option Bool → Shared → Prop} (hR : ∀ h' L', Heap.SameBut a s.heap h' → SetS P w h' a L' → L'.Perm L1 → R (some true) { s with heap := h' }) :
    wpAny (model P w) A (do
        storeSet a es1 t2
        if (!was && t2.tooFull) = true then do
            g (relayAll t2 es1 (SetTable.grown es1.size)).2.2
            storeSet a (relayAll t2 es1 (SetTable.grown es1.size)).1 (relayAll t2 es1 (SetTable.grown es1.size)).2.1
            pure (some true)
          else pure (some true)) R E s := by
  refine wpAny_bind (wpAny_storeSet_of ho hd ?_ (fits_of_scanBound hb))
  have k1 := store_at (es' := es1) (t' := t2) ho hd
  have sb := Heap.SameBut.update s.heap a (Obj.putSet es1 t2)
  split
  · have pm := relayAll_perm t2 es1 (SetTable.grown es1.size)
    have f3 := relayAll_fits t2 es1 (SetTable.grown es1.size)
    have r3 := relayAll_ris t2 es1 (SetTable.grown es1.size)
    have l3 := relayAll_led t2 es1 (SetTable.grown es1.size)
    generalize relayAll t2 es1 (SetTable.grown es1.size) = Z at pm f3 r3 l3 ⊢
    obtain ⟨es2, t3, gave⟩ := Z
    dsimp only at pm f3 r3 l3 ⊢
    rw [e1] at pm
    obtain ⟨L2, q1, q2⟩ := perm_lift pm L1 rfl
    have hz : es2.size = es1.size := by
      have z1 := congrArg List.length q1
      have z2 := congrArg List.length e1
      rw [Array.length_toList, List.length_map] at z1 z2
      rw [z1, z2, q2.length_eq]
    have b2 : es2.size < scanBound := hz ▸ hb
    refine wpAny_bind (hg _ _ _ (wpAny_bind (wpAny_storeSet_of k1 rfl ?_ (fits_of_scanBound b2))))
    have k2 := store_at (es' := es2) (t' := t3) k1 rfl
    refine wpAny_pure (hR _ L2 (sb.trans (Heap.SameBut.update _ a _)) ⟨_, es2, _, t3, k2, hex, rfl, q1, fun p hp => g1 p (q2.mem_iff.mp hp), (q2.map (·.2)).nodup_iff.mpr nd, b2, f3, r3, hl.imp id fun z => l3.trans z⟩ q2)
  · exact wpAny_pure (hR _ L1 sb ⟨_, es1, _, t2, k1, hex, rfl, e1, g1, nd, hb, hf, hr, hl⟩ (.refl _))
theorem scan_add {L : KL} {p : Value × NK} {Q : Bool → Shared → Prop} (R : SetS P w s.heap a L) (hp : Plainly (P := P) (w := w) s.heap p) (room : L.length + 1 < scanBound)
    (hQ : ∀ b h' L', Heap.SameBut a s.heap h' → SetS P w h' a L' → (p.2 ∈ L.map (·.2) → L' = L) → (p.2 ∉ L.map (·.2) → L'.Perm (p :: L)) → Q b { s with heap := h' }) :
    wpAny (model P w) A (setAddHashed a p.1 (p.2.hash w)) Q E s := by
  obtain ⟨o, es, ep, t, ho, hex, hd, hrow, g, nd, hb, hf, hr, hl⟩ := id R
  obtain ⟨k, ek, hkey, hsc⟩ := id hp
  have hel : ElemsOf (mixKind P w) es.toList := by rw [hrow]; exact elems_of g
  have hsz : es.size = L.length := by
    have z := congrArg List.length hrow
    rwa [Array.length_toList, List.length_map] at z
  rw [hash_of (P := P) ek]
  unfold setAddHashed setAddHashedIn
  refine wpAny_holding (wpAny_bind (wpAny_setState_of ho hd hf ?_))
  dsimp only
  rw [byScan_of hsc hb hel]
  simp only [↓reduceIte]
  unfold setAddByScan
  refine wpAny_bind (wpAny_bind (wpAny_rule (wpAny_bind (wpAny_setScan_of hkey ho hd hf hel ?_))))
  have memIff : p.2 ∈ L.map (·.2) ↔ ∃ e ∈ es.toList, (mixKind P w).is k e.2 = true := by
    rw [hrow]
    constructor
    · intro hm
      obtain ⟨q, hq, e⟩ := List.mem_map.mp hm
      obtain ⟨k', e1, e2, _⟩ := g q hq
      rw [e, ek] at e1
      cases e1
      exact ⟨row w q, List.mem_map_of_mem hq, e2⟩
    · rintro ⟨e, he, z⟩
      obtain ⟨q, hq, rfl⟩ := List.mem_map.mp he
      obtain ⟨k', e1, e2, _⟩ := g q hq
      have : k' = k := (mixKind P w).inj _ _ _ e2 z
      subst this
      exact List.mem_map.mpr ⟨q, hq, key_inj e1 ek⟩
  cases hfi : List.findIdx? (fun e => (mixKind P w).is k e.2) es.toList with
  | some j =>
    dsimp only
    obtain ⟨hj, pj, _⟩ := List.findIdx?_eq_some_iff_getElem.mp hfi
    have hm : p.2 ∈ L.map (·.2) := memIff.mpr ⟨es.toList[j], List.getElem_mem hj, pj⟩
    exact wpAny_pure (wpAny_pure (hQ false s.heap L (Heap.SameBut.refl a s.heap) R (fun _ => rfl) fun z => absurd hm z))
  | none =>
    dsimp only
    have hm : p.2 ∉ L.map (·.2) := fun z => by
      obtain ⟨e, he, q⟩ := memIff.mp z
      have c := List.findIdx?_eq_none_iff.mp hfi e he
      rw [q] at c
      cases c
    have hgw : ∀ (b : Bool) {s1 : Shared} {Q1 : Unit → Shared → Prop}, Q1 () s1 → wpAny (model P w) A (match b with | true => rule "set.scan.the-table-gave-way" | false => pure ()) Q1 E s1 := fun b s1 Q1 q => by
      cases b
      · exact wpAny_pure q
      · exact wpAny_rule q
    have pm := layNew_perm t es ((mixKind P w).hash k) p.1
    have f1 := layNew_fits t es ((mixKind P w).hash k) p.1
    have r1 := layNew_ris t es ((mixKind P w).hash k) p.1 hr
    have l1 := layNew_led t es ((mixKind P w).hash k) p.1
    generalize layNew t es ((mixKind P w).hash k) p.1 = Z at pm f1 r1 l1 ⊢
    obtain ⟨es1, t1, was, gave⟩ := Z
    dsimp only at pm f1 r1 l1 ⊢
    rw [Array.toList_push] at pm
    have pc : es1.toList.Perm ((p :: L).map (row w)) := by
      refine (pm.trans (List.perm_append_singleton _ _)).trans ?_
      rw [hrow, ← hash_of (P := P) ek]
      exact .refl _
    obtain ⟨L1, q1, q2⟩ := perm_lift pc _ rfl
    have g1 : ∀ q ∈ L1, Plainly (P := P) (w := w) s.heap q := fun q hq => by
      rcases List.mem_cons.mp (q2.mem_iff.mp hq) with z | z
      · exact z ▸ hp
      · exact g q z
    have nd1 : (L1.map (·.2)).Nodup := (q2.map (·.2)).nodup_iff.mpr (List.nodup_cons.mpr ⟨hm, nd⟩)
    have b1 : es1.size < scanBound := by
      have z := congrArg List.length q1
      rw [Array.length_toList, List.length_map, q2.length_eq, List.length_cons] at z
      omega
    have led1 : w.params.followText "set-order" = true ∨ t1.led = true := hl.imp id fun z => l1.trans z
    have fin : ∀ h' L', Heap.SameBut a s.heap h' → SetS P w h' a L' → L'.Perm L1 → Q true { s with heap := h' } := fun h' L' sb R' p' => hQ true h' L' sb R' (fun z => absurd z hm) fun _ => p'.trans q2
    refine wpAny_bind (hgw _ ?_)
    split
    · refine wpAny_bind ?_
      rw [hashByValue_scannable 8 hsc]
      refine wpAny_pure (store_tail (fun b s1 Q1 q => hgw b q) ho hex hd q1 g1 nd1 b1 ?_ ?_ ?_ fun h' L' sb R' p' => wpAny_pure (fin h' L' sb R' p'))
      · split
        · exact f1
        · exact SetTable.fits_plain_off f1
      · split <;> exact r1
      · split <;> exact led1
    · refine wpAny_bind (wpAny_pure ?_)
      simp only [↓reduceIte]
      exact store_tail (fun b s1 Q1 q => hgw b q) ho hex hd q1 g1 nd1 b1 f1 r1 led1 fun h' L' sb R' p' => wpAny_pure (fin h' L' sb R' p')
end
end WySt

set_option Elab.async false
set_option linter.all false
set_option maxRecDepth 100000
set_option autoImplicit false
/-! WySu: sets of tuples: the search, adding. -/
namespace WySt
open PySem PySem.Spec PyProof.Rows L2
section
variable {P : Program} {w : World} {A : Around} {E : Value → Shared → Prop} {s : Shared} {a : Addr}
/-! ### what the model asks of a tuple -/
mutual
theorem cls_key : ∀ (k : NK) (v : Value) (n : Nat) (s : Shared) (A : Around) (Q : Bool → Shared → Prop), NestedIs s.heap k v → k.depth ≤ n → Q false s → wpAny (model P w) A (ofAClassStatement n v) Q E s
  | .none, _, n, s, A, Q, x, _, h => by
    cases x
    cases n <;> exact wpAny_pure h
  | .num i, _, n, s, A, Q, x, _, h => by cases x <;> cases n <;> exact wpAny_pure h
  | .text y, _, n, s, A, Q, x, _, h => by
    cases x
    cases n <;> exact wpAny_pure h
  | .tup ks, _, n, s, A, Q, x, hn, h => by
    cases x with
    | @tup b o vs m _ hg hc hd hk =>
      cases n with
      | zero => simp [NestedKey.depth] at hn
      | succ n =>
        have hT : s.TypeIs (.ref b) "tuple" := ⟨o, hg, hc⟩
        unfold ofAClassStatement
        refine wpAny_bind (wpAny_typeOf hT ?_)
        dsimp only
        have e : (("tuple" : String) == "tuple") = true := by decide
        simp only [e, if_true, Bool.not_true, Bool.false_eq_true, if_false]
        try refine wpAny_bind (wpAny_pure ?_)
        try simp only [Bool.not_true, Bool.false_eq_true, if_false]
        show wpAny _ _ (seqItems? (.ref b) >>= _) _ _ s
        refine wpAny_bind (wpAny_seqItems hg hd ?_)
        dsimp only
        refine wpAny_bind ?_
        show wpAny _ _ (forIn vs _ _) _ _ s
        rw [← Array.forIn_toList]
        have all := cls_keys ks vs.toList n s A hk (by simp only [NestedKey.depth] at hn; omega)
        refine wpAny_forIn_list _ (fun rest r s' => r.1 = none ∧ s' = s ∧ ∀ v ∈ rest, v ∈ vs.toList) _ ?_ ?_ _ _ ⟨rfl, rfl, fun v hv => hv⟩
        · rintro v rest r s' ⟨hr, rfl, hm⟩
          refine wpAny_bind (all v (hm v List.mem_cons_self) _ ?_)
          simp only [Bool.false_eq_true, if_false]
          exact wpAny_pure ⟨rfl, rfl, fun u hu => hm u (List.mem_cons_of_mem _ hu)⟩
        · rintro ⟨r1, r2⟩ s' ⟨hr, rfl, _⟩
          cases (show r1 = none from hr)
          exact wpAny_pure h
theorem cls_keys : ∀ (ks : List NK) (vs : List Value) (n : Nat) (s : Shared) (A : Around), NestedAll s.heap ks vs → NestedKey.depthAll ks ≤ n → ∀ v ∈ vs, ∀ Q : Bool → Shared → Prop, Q false s → wpAny (model P w) A (ofAClassStatement n v) Q E s
  | [], _, n, s, A, x, _, v, hv, _, _ => by cases x; cases hv
  | k :: ks, _, n, s, A, x, hn, v, hv, Q, h => by
    cases x with
    | cons x1 x2 =>
      simp only [NestedKey.depthAll] at hn
      rcases List.mem_cons.mp hv with e | hv
      · rw [e]; exact cls_key k _ n s A Q x1 (by omega) h
      · exact cls_keys ks _ n s A x2 (by omega) v hv Q h
end
mutual
/-- whether a hash is by value: it shows nothing -/
theorem hbv_key : ∀ (k : NK) (v : Value) (n : Nat) (s : Shared) (A : Around) (Q : Bool → Shared → Prop), NestedIs s.heap k v → k.depth ≤ n → (∀ b, Q b s) → wpAny (model P w) A (hashByValue n v) Q E s
  | .none, _, n, s, A, Q, x, _, h => by
    cases x
    cases n <;> exact wpAny_pure (h _)
  | .num i, _, n, s, A, Q, x, _, h => by cases x <;> cases n <;> exact wpAny_pure (h _)
  | .text y, _, n, s, A, Q, x, _, h => by
    cases x
    cases n <;> exact wpAny_pure (h _)
  | .tup ks, _, n, s, A, Q, x, hn, h => by
    cases x with
    | @tup b o vs m _ hg hc hd hk =>
      cases n with
      | zero => simp [NestedKey.depth] at hn
      | succ n =>
        have hT : s.TypeIs (.ref b) "tuple" := ⟨o, hg, hc⟩
        unfold hashByValue
        refine wpAny_bind (wpAny_specialOf hT F.slot_tuple_hash.lookup ?_)
        show wpAny _ _ (seqItems? (.ref b) >>= _) _ _ s
        refine wpAny_bind (wpAny_seqItems hg hd (wpAny_bind ?_))
        show wpAny _ _ (forIn vs _ _) _ _ s
        rw [← Array.forIn_toList]
        have all := hbv_keys ks vs.toList n s A hk (by simp only [NestedKey.depth] at hn; omega)
        refine wpAny_forIn_list _ (fun rest r s' => s' = s ∧ ∀ v ∈ rest, v ∈ vs.toList) _ ?_ ?_ _ _ ⟨rfl, fun v hv => hv⟩
        · rintro v rest r s' ⟨rfl, hm⟩
          refine wpAny_bind (all v (hm v List.mem_cons_self) _ fun b => ?_)
          cases b
          · simp only [Bool.not_false, if_true]
            refine wpAny_pure ?_
            exact wpAny_pure (h false)
          · simp only [Bool.not_true, Bool.false_eq_true, if_false]
            exact wpAny_pure ⟨rfl, fun u hu => hm u (List.mem_cons_of_mem _ hu)⟩
        · rintro ⟨r1, r2⟩ s' ⟨rfl, _⟩
          cases r1
          · exact wpAny_pure (h _)
          · exact wpAny_pure (h _)
theorem hbv_keys : ∀ (ks : List NK) (vs : List Value) (n : Nat) (s : Shared) (A : Around), NestedAll s.heap ks vs → NestedKey.depthAll ks ≤ n → ∀ v ∈ vs, ∀ Q : Bool → Shared → Prop, (∀ b, Q b s) → wpAny (model P w) A (hashByValue n v) Q E s
  | [], _, n, s, A, x, _, v, hv, _, _ => by cases x; cases hv
  | k :: ks, _, n, s, A, x, hn, v, hv, Q, h => by
    cases x with
    | cons x1 x2 =>
      simp only [NestedKey.depthAll] at hn
      rcases List.mem_cons.mp hv with e | hv
      · rw [e]; exact hbv_key k _ n s A Q x1 (by omega) h
      · exact hbv_keys ks _ n s A x2 (by omega) v hv Q h
end
/-- a tuple, not too deep -/
def Deep (h : Heap) (p : Value × NK) : Prop := (∃ b, p.1 = .ref b) ∧ NestedIs h p.2 p.1 ∧ p.2.depth ≤ 8
theorem seen_deep {p : Value × NK} {ys : List Value} {Q : Bool → Shared → Prop} (hp : Deep s.heap p) (hy : ∀ y ∈ ys, ∃ k, Deep s.heap (y, k)) (h : Q false s) : wpAny (model P w) A (searchCouldBeSeen p.1 ys) Q E s := by
  obtain ⟨⟨b, eb⟩, hk, hd⟩ := hp
  rw [eb] at hk ⊢
  unfold searchCouldBeSeen
  refine wpAny_bind (wpAny_forIn_list _ (fun rest r s' => r.1 = none ∧ s' = s ∧ ∀ y ∈ rest, ∃ k, Deep s.heap (y, k)) _ ?_ ?_ _ _ ⟨rfl, rfl, hy⟩)
  · rintro v rest r s' ⟨hr, rfl, hall⟩
    obtain ⟨k', ⟨c, ec⟩, hc, hdc⟩ := hall v List.mem_cons_self
    dsimp only at ec hc
    subst ec
    have goOn : ∀ y ∈ rest, ∃ k, Deep s'.heap (y, k) := fun u hu => hall u (List.mem_cons_of_mem _ hu)
    dsimp only
    by_cases hv : (b == c || (carriedByValue (.ref b) && carriedByValue (.ref c))) = true
    · exact wp_if_pos hv (wpAny_pure ⟨rfl, rfl, goOn⟩)
    · refine wp_if_neg hv (wpAny_bind (quiet_key _ _ 8 _ hk hd A E _ ?_))
      simp only [Bool.not_true, Bool.false_eq_true, if_false]
      refine wpAny_bind (quiet_key _ _ 8 _ hc hdc A E _ ?_)
      simp only [Bool.not_true, Bool.false_eq_true, if_false]
      refine wpAny_bind (cls_key _ _ 8 _ A _ hk hd ?_)
      simp only [Bool.false_eq_true, if_false]
      refine wpAny_bind (cls_key _ _ 8 _ A _ hc hdc ?_)
      simp only [Bool.false_eq_true, if_false]
      exact wpAny_pure ⟨rfl, rfl, goOn⟩
  · rintro ⟨r1, r2⟩ s' ⟨hr, rfl, _⟩
    cases (show r1 = none from hr)
    exact wpAny_pure h
theorem eq_deep {p q : Value × NK} {Q : Bool → Shared → Prop} (hp : Deep s.heap p) (hq : Deep s.heap q) (hu : A.units + 8 < cLine) (h : Q (decide (p.2 = q.2)) s) : wpAny (model P w) A (eqBool p.1 q.1) Q E s := by
  obtain ⟨⟨b, e1⟩, h1, d1⟩ := hp
  obtain ⟨⟨c, e2⟩, h2, d2⟩ := hq
  rw [e1] at h1 ⊢
  rw [e2] at h2 ⊢
  exact (nestedKind P w).eqBool hu ⟨h1, d1⟩ ⟨h2, d2⟩ h
end
end WySt

set_option Elab.async false
set_option linter.all false
set_option maxRecDepth 100000
set_option autoImplicit false
/-! WySw: sets of tuples: the table. -/
namespace WySt
open PySem PySem.Spec PyProof.Rows L2
/-- the c-th step of a search -/
def stp (t : SetTable) (h : Int) (c : Nat) : SetTable.Probe := nth t.mask (runAt t.mask (SetTable.bits h % (t.mask + 1)) (SetTable.bits h)) c
theorem stp_j (t : SetTable) (h : Int) (c : Nat) : (stp t h c).j = way t.mask h c := rfl
theorem stp_add (t : SetTable) (h : Int) (c q : Nat) : nth t.mask (stp t h c) q = stp t h (c + q) := (nth_add t.mask c _ q).symm
theorem nth_dummy (m : Nat) : ∀ (n : Nat) (p : SetTable.Probe), p.dummy = none → (nth m p n).dummy = none
  | 0, _, h => h
  | n + 1, p, h => nth_dummy m n (adv m p) (by unfold adv; split <;> exact h)
section
variable {P : Program} {w : World} {A : Around} {E : Value → Shared → Prop} {s : Shared} {a : Addr} {L : KL} {es : Array (Int × Value)} {ep : Nat} {t : SetTable}
structure Tab (w : World) (h : Heap) (a : Addr) (L : KL) (es : Array (Int × Value)) (ep : Nat) (t : SetTable) : Prop where
  ob : ∃ o, h.get? a = some o ∧ o.ExactSet ∧ o.data = .set es ep t
  rows : es.toList = L.map (row w)
  tab : TabOk t (L.map fun p => p.2.hash w)
  nd : (L.map (·.2)).Nodup
  el : ∀ p ∈ L, Deep h p
  led : w.params.followText "set-order" = true ∨ t.led = true
  room : L.length * 5 < t.mask * 3
  few : L.length < 64
theorem Tab.size {h : Heap} (R : Tab w h a L es ep t) : es.size = L.length := by
  have z := congrArg List.length R.rows
  rwa [Array.length_toList, List.length_map] at z
theorem Tab.psize {h : Heap} (R : Tab w h a L es ep t) : t.place.toList.length = L.length := by
  rw [Array.length_toList, R.tab.sz, List.length_map]
theorem Tab.fits {h : Heap} (R : Tab w h a L es ep t) : t.fits es.size = true := by
  have z1 := R.tab.sz
  have z2 := R.size
  have z3 := R.room
  rw [List.length_map] at z1
  unfold SetTable.fits SetTable.fill
  rw [R.tab.dm, Bool.and_eq_true, beq_iff_eq, decide_eq_true_eq]
  exact ⟨by omega, by show t.place.size + 0 ≤ t.mask; omega⟩
theorem Tab.entry {h : Heap} (R : Tab w h a L es ep t) {i : Nat} {p : Value × NK} (e : L[i]? = some p) : es[i]? = some (row w p) := by
  rw [← Array.getElem?_toList, R.rows, List.getElem?_map, e]
  rfl
theorem Tab.gw {h : Heap} (R : Tab w h a L es ep t) : ¬ t.gaveWay = true := by
  unfold SetTable.gaveWay
  rw [mask_odd R.tab.mok]
  decide
theorem find_from (R : Tab w s.heap a L es ep t) {p : Value × NK} (hp : Deep s.heap p) (hu : A.units + 8 < cLine) {K : Nat} (hKf : K < 10 * SetTable.turns t.mask) (hK : way t.mask (p.2.hash w) K ∉ t.place.toList)
    (hKb : ∀ c, c < K → way t.mask (p.2.hash w) c ∈ t.place.toList) {Q : SetFound → Shared → Prop} (hin : p.2 ∈ L.map (·.2) → Q (.there none) s) (hout : p.2 ∉ L.map (·.2) → Q (.free (way t.mask (p.2.hash w) K) false) s) :
    ∀ (f c : Nat) (stand : Option SetTable.Probe), stand.getD (t.probeStart (p.2.hash w)) = stp t (p.2.hash w) c → c ≤ K → K - c < f →
      (∀ (i : Nat) q, L[i]? = some q → q.2 = p.2 → ∃ c', c ≤ c' ∧ c' < K ∧ t.place.toList[i]? = some (way t.mask (p.2.hash w) c')) → wpAny (model P w) A (setSearchFrom a p.1 (p.2.hash w) true f stand) Q E s
  | 0, c, stand, _, _, hf, _ => absurd hf (Nat.not_lt_zero _)
  | f + 1, c, stand, hst, hc, hf, hre => by
    obtain ⟨o, ho, hex, hd⟩ := R.ob
    rw [setSearchFrom_succ]
    refine wpAny_bind (wpAny_setState_of ho hd R.fits ?_)
    dsimp only
    refine wp_if_neg R.gw ?_
    try refine wpAny_bind (wpAny_pure ?_)
    have hnd : (stp t (p.2.hash w) c).dummy = none := nth_dummy _ c _ rfl
    have jAt : ∀ q, (nth t.mask (stp t (p.2.hash w) c) q).j = way t.mask (p.2.hash w) (c + q) := fun q => congrArg SetTable.Probe.j (stp_add t _ c q)
    have spec := go_spec t R.tab.ris R.tab.dm (fun i => (es[i]?.map (·.1)).getD 0) (p.2.hash w) (10 * SetTable.turns t.mask) (K - c) _ hnd (by omega) (fun q hq => by rw [jAt]; exact hKb (c + q) (by omega))
      (by rw [jAt, Nat.add_sub_cancel' hc]; exact hK)
    have hashAt : ∀ (i : Nat) q, L[i]? = some q → (fun i => (es[i]?.map (·.1)).getD 0) i = q.2.hash w := fun i q hq => by
      show (es[i]?.map (·.1)).getD 0 = _
      rw [R.entry hq]
      rfl
    rcases spec with ⟨q, i, hq, hi, hh, hno, hpr⟩ | ⟨hno, hpr⟩
    · have hpr' : t.probe (fun i => (es[i]?.map (·.1)).getD 0) (p.2.hash w) (stand.getD (t.probeStart (p.2.hash w))) = some (.candidate (way t.mask (p.2.hash w) (c + q)) i (stp t (p.2.hash w) (c + (q + 1)))) := by
        rw [hst, ← jAt, ← stp_add]
        exact hpr
      rw [hpr']
      dsimp only
      rw [jAt] at hi
      have hil : i < L.length := by
        rw [← R.psize]
        exact (List.getElem?_eq_some_iff.mp hi).1
      have hg : L[i]? = some L[i] := List.getElem?_eq_getElem hil
      generalize hge : L[i] = y at hg
      have hmem : y ∈ L := List.mem_of_getElem? hg
      have hy := R.el y hmem
      have after : wpAny (model P w) A (searchRest a p.1 (p.2.hash w) true f es t (way t.mask (p.2.hash w) (c + q)) i (stp t (p.2.hash w) (c + (q + 1)))) Q E s := by
        unfold searchRest
        rw [R.entry hg]
        dsimp only [row]
        refine wpAny_bind (wpAny_holding (eq_deep hy hp hu ?_))
        refine wpAny_bind (wpAny_setState_of ho hd R.fits ?_)
        dsimp only
        by_cases hkk : y.2 = p.2
        · refine wp_if_pos (by simp [hkk]) (wpAny_pure (hin (List.mem_map.mpr ⟨y, hmem, hkk⟩)))
        · refine wp_if_neg (by simp [hkk]) ?_
          try refine wpAny_bind (wpAny_pure ?_)
          rw [sameMem]
          dsimp only
          have hsl : t.slot (way t.mask (p.2.hash w) (c + q)) = .live i := slot_live R.tab.ris hi
          simp only [if_true, hsl, R.entry hg, row]
          obtain ⟨b, eb⟩ := hy.1
          rw [eb]
          refine wpAny_bind (wpAny_isSame_ref_self (wpAny_bind (wpAny_pure ?_)))
          simp only [if_true]
          refine wp_if_neg (by simp [hkk]) (find_from R hp hu hKf hK hKb hin hout f (c + (q + 1)) _ rfl (by omega) (by omega) fun i0 p0 h0 hk0 => ?_)
          obtain ⟨c', b1, b2, b3⟩ := hre i0 p0 h0 hk0
          refine ⟨c', ?_, b2, b3⟩
          have hne : c' ≠ c + q := fun ec => by
            rw [ec] at b3
            have z := slot_live R.tab.ris b3
            rw [hsl] at z
            injection z with z
            rw [← z, hg] at h0
            exact hkk ((congrArg Prod.snd (Option.some.inj h0)).trans hk0)
          have hge2 : ¬ c' < c + q := fun z => hno (c' - c) i0 (by omega) (by rw [jAt, Nat.add_sub_cancel' b1]; exact b3) ((hashAt i0 p0 h0).trans (by rw [hk0]))
          omega
      by_cases hl : t.led = true
      · refine wp_if_neg (by simp [hl]) ?_
        try refine wpAny_bind (wpAny_pure ?_)
        exact after
      · refine wp_if_pos (by simp [hl]) (wpAny_bind (seen_deep hp (fun y hy => ?_) ?_))
        · obtain ⟨e, he, ee⟩ := List.mem_map.mp hy
          have he1 : e ∈ es ∧ e.1 = p.2.hash w := by simpa using he
          have he2 : e ∈ es.toList := by simpa using he1.1
          rw [R.rows] at he2
          obtain ⟨z, hz, e2⟩ := List.mem_map.mp he2
          refine ⟨z.2, ?_⟩
          rw [← ee, ← e2]
          exact R.el z hz
        · refine wp_if_neg (by decide) ?_
          try refine wpAny_bind (wpAny_pure ?_)
          exact after
    · have hpr' : t.probe (fun i => (es[i]?.map (·.1)).getD 0) (p.2.hash w) (stand.getD (t.probeStart (p.2.hash w))) = some (.empty (way t.mask (p.2.hash w) K) none) := by
        have e2 : way t.mask (p.2.hash w) K = (nth t.mask (stp t (p.2.hash w) c) (K - c)).j := by rw [jAt, Nat.add_sub_cancel' hc]
        rw [hst, e2]
        exact hpr
      rw [hpr']
      dsimp only
      refine wpAny_pure (hout fun hm => ?_)
      obtain ⟨p0, h0, hk0⟩ := List.mem_map.mp hm
      obtain ⟨i0, hi0, e0⟩ := List.getElem_of_mem h0
      have h00 : L[i0]? = some p0 := by rw [List.getElem?_eq_getElem hi0, e0]
      obtain ⟨c', b1, b2, b3⟩ := hre i0 p0 h00 hk0
      exact hno (c' - c) i0 (by omega) (by rw [jAt, Nat.add_sub_cancel' b1]; exact b3) ((hashAt i0 p0 h00).trans (by rw [hk0]))
theorem find_at (R : Tab w s.heap a L es ep t) {p : Value × NK} (hp : Deep s.heap p) (hu : A.units + 8 < cLine) {Q : SetFound → Shared → Prop} (hin : p.2 ∈ L.map (·.2) → Q (.there none) s)
    (hout : ∀ K, p.2 ∉ L.map (·.2) → way t.mask (p.2.hash w) K ∉ t.place.toList → (∀ c, c < K → way t.mask (p.2.hash w) c ∈ t.place.toList) → Q (.free (way t.mask (p.2.hash w) K) false) s) :
    wpAny (model P w) A (setSearch a p.1 (p.2.hash w) true) Q E s := by
  have hroom := R.room
  obtain ⟨K, hKf, hK, hKb⟩ := R.tab.first (by rw [List.length_map]; omega) (p.2.hash w)
  have hbig : K < 100000 := by
    have z : 10 * SetTable.turns t.mask ≤ 1420 := by
      unfold SetTable.turns
      rcases R.tab.mok with e | e | e <;> omega
    omega
  unfold setSearch
  refine find_from R hp hu hKf hK hKb hin (fun hn => hout K hn hK hKb) 100000 0 none rfl (Nat.zero_le _) (by omega) fun i q hq hk => ?_
  have hi : (L.map fun p => p.2.hash w)[i]? = some (p.2.hash w) := by
    rw [List.getElem?_map, hq, ← hk]
    rfl
  have hil : i < t.place.toList.length := by
    rw [R.psize]
    exact (List.getElem?_eq_some_iff.mp hq).1
  have hj := List.getElem?_eq_getElem hil
  obtain ⟨c, hc, e⟩ := R.tab.before hK hi hj
  exact ⟨c, Nat.zero_le _, hc, by rw [hj, e]⟩
theorem deep_but {h h' : Heap} {p : Value × NK} {o : Obj} (hp : Deep h p) (ho : h.get? a = some o) (hd : o.data = .set es ep t) (hs : Heap.SameBut a h h') : Deep h' p :=
  ⟨hp.1, NestedIs.at (fun b u vs n hb hc => (hs.2 b fun e => by
    subst e
    rw [ho] at hb
    cases hb
    rw [hd] at hc
    cases hc).trans hb) _ _ hp.2.1, hp.2.2⟩
theorem deep_keep {h h' : Heap} {p : Value × NK} (hp : Deep h p) (k : ∀ b o, h.get? b = some o → h'.get? b = some o) : Deep h' p :=
  ⟨hp.1, NestedIs.at (fun b u _ _ hb _ => k b u hb) _ _ hp.2.1, hp.2.2⟩
/-- rows, taken in another order -/
theorem order_of (es : Array (Int × Value)) (order : Array Nat) (hr : es.toList = L.map (row w)) (hp : order.toList.Perm (List.range L.length)) :
    ∃ M : KL, (order.filterMap (es[·]?)).toList = M.map (row w) ∧ M.Perm L ∧ (M.map fun p => p.2.hash w) = order.toList.map fun i => (es.map (·.1)).getD i 0 := by
  have ent : ∀ i (h : i < L.length), es[i]? = some (row w L[i]) := fun i h => by
    rw [← Array.getElem?_toList, hr, List.getElem?_map, List.getElem?_eq_getElem h]
    rfl
  have key : ∀ l : List Nat, (∀ i ∈ l, i < L.length) → l.filterMap (fun i => es[i]?) = (l.filterMap fun i => L[i]?).map (row w) ∧ ((l.filterMap fun i => L[i]?).map fun p => p.2.hash w) = l.map fun i => (es.map (·.1)).getD i 0 := by
    intro l
    induction l with
    | nil => exact fun _ => ⟨rfl, rfl⟩
    | cons i l ih =>
      intro hl
      have hi := hl i List.mem_cons_self
      obtain ⟨e1, e2⟩ := ih fun j hj => hl j (List.mem_cons_of_mem _ hj)
      rw [List.filterMap_cons_some (ent i hi), List.filterMap_cons_some (List.getElem?_eq_getElem hi), e1]
      refine ⟨rfl, ?_⟩
      have e5 : (es.map (·.1))[i]? = some (L[i].2.hash w) := by
        rw [Array.getElem?_map, ent i hi]
        rfl
      rw [List.map_cons, List.map_cons, e2]
      simp [Array.getD_eq_getD_getElem?, e5]
  obtain ⟨e1, e2⟩ := key order.toList fun i hi => List.mem_range.mp (hp.mem_iff.mp hi)
  refine ⟨order.toList.filterMap fun i => L[i]?, by simpa using e1, ?_, e2⟩
  have z := hp.filterMap fun i => L[i]?
  rwa [List.filterMap_getElem?_range_length] at z
theorem relay_tab {o : Obj} (ho : s.heap.get? a = some o) (hex : o.ExactSet) (hd : o.data = .set es ep t) (hr : es.toList = L.map (row w)) (hsz : t.place.size = es.size) (hdm : t.dummies = #[]) (hfl : es.size ≤ t.mask)
    (nd : (L.map (·.2)).Nodup) (el : ∀ p ∈ L, Deep s.heap p) (ld : w.params.followText "set-order" = true ∨ t.led = true) (few : L.length < 64) {wanted m : Nat} (hw : SetTable.sizeAbove wanted - 1 = m) (hm : MaskOk m)
    (hw2 : SetTable.sizeAbove wanted ≤ 128) (hn : L.length * 5 < m * 3) {Q : Unit → Shared → Prop}
    (hQ : ∀ h' L' es' ep' t', Heap.SameBut a s.heap h' → Tab w h' a L' es' ep' t' → L'.Perm L → Q () { s with heap := h' }) : wpAny (model P w) A (setRelay a wanted) Q E s := by
  have hsl : es.size = L.length := by
    have z := congrArg List.length hr
    rwa [Array.length_toList, List.length_map] at z
  have hfits : t.fits es.size = true := by
    unfold SetTable.fits SetTable.fill
    rw [hdm, Bool.and_eq_true, beq_iff_eq, decide_eq_true_eq]
    exact ⟨hsz, by show t.place.size + 0 ≤ t.mask; omega⟩
  obtain ⟨t2, order, e, hp, T, em, el2, ep2, ed⟩ := relaid_ok t (hs := es.map (·.1)) (wanted := wanted) hw hm (by rw [Array.size_map, hsl]; omega)
  rw [Array.size_map, hsl] at hp
  obtain ⟨M, r1, r2, r3⟩ := order_of (w := w) es order hr hp
  rw [← r3] at T
  have hs2 : (order.filterMap (es[·]?)).size = es.size := by
    have z := congrArg List.length r1
    rw [Array.length_toList, List.length_map, r2.length_eq] at z
    rw [z, hsl]
  rw [setRelay_eq]
  refine wpAny_bind (wpAny_setState_of ho hd hfits ?_)
  dsimp only
  refine wp_if_neg (by rw [sizeLine_eq]; omega) ?_
  try refine wpAny_bind (wpAny_pure ?_)
  rw [e]
  dsimp only
  refine wpAny_bind (wp_if_neg (by rw [hs2]; simp) ?_)
  try refine wpAny_bind (wpAny_pure ?_)
  refine wpAny_pure ?_
  dsimp only
  refine wpAny_storeSet_of ho hd ?_ (by rw [hs2, hsl, sizeLine_eq]; omega)
  have sb := Heap.SameBut.update s.heap a (Obj.putSet (order.filterMap (es[·]?)) t2)
  refine hQ _ M _ (ep + 1) t2 sb ⟨⟨_, store_at ho hd, ⟨hex.1, hex.2.1, hex.2.2⟩, rfl⟩, r1, T, (r2.map (·.2)).nodup_iff.mpr nd, fun p hpm => deep_but (el p (r2.mem_iff.mp hpm)) ho hd sb, by rw [el2]; exact ld, ?_, by rw [r2.length_eq]; exact few⟩ r2
  rw [r2.length_eq, em]
  exact hn
end
end WySt

set_option Elab.async false
set_option linter.all false
set_option maxRecDepth 100000
set_option autoImplicit false
/-! WySx: sets of tuples: adding. -/
namespace WySt
open PySem PySem.Spec PyProof.Rows L2
section
variable {P : Program} {w : World} {A : Around} {E : Value → Shared → Prop} {s : Shared} {a : Addr} {L : KL} {es : Array (Int × Value)} {ep : Nat} {t : SetTable}
theorem tab_add (R : Tab w s.heap a L es ep t) {p : Value × NK} (hp : Deep s.heap p) (hu : A.units + 8 < cLine) (hfew : L.length + 1 < 64) {Q : Bool → Shared → Prop}
    (hQ : ∀ b h' L' es' ep' t', Heap.SameBut a s.heap h' → Tab w h' a L' es' ep' t' → (p.2 ∈ L.map (·.2) → L' = L) → (p.2 ∉ L.map (·.2) → L'.Perm (p :: L)) → Q b { s with heap := h' }) :
    wpAny (model P w) A (setAddHashed a p.1 (p.2.hash w)) Q E s := by
  obtain ⟨o, ho, hex, hd⟩ := R.ob
  have hsl := R.size
  have hroom := R.room
  obtain ⟨b0, eb⟩ := hp.1
  unfold setAddHashed
  refine wpAny_holding ?_
  rw [show (100000 : Nat) = 99999 + 1 from rfl, setAddHashedIn_succ]
  refine wpAny_bind (wpAny_setState_of ho hd R.fits ?_)
  dsimp only
  refine wp_if_neg (by rw [eb]; simp [byScan, Value.scannable]) ?_
  try refine wpAny_bind (wpAny_pure ?_)
  refine wpAny_bind (find_at R hp hu (fun hm => ?_) fun K hm hK hb => ?_)
  · exact wpAny_pure (hQ false s.heap L es ep t (Heap.SameBut.refl a s.heap) R (fun _ => rfl) fun z => absurd hm z)
  · dsimp only
    refine wpAny_bind (wpAny_setState_of ho hd R.fits ?_)
    dsimp only
    obtain ⟨q1, q2, q3, q4, q5, q6, q7, q8, q9⟩ := R.tab.put hK hb
    generalize hpt : t.put (way t.mask (p.2.hash w) K) = pt at q1 q3 q4 q5 q6 q7 q8 q9 ⊢
    obtain ⟨t1, n⟩ := pt
    dsimp only at q1 q3 q4 q5 q6 q7 q8 q9 ⊢
    subst q1
    generalize SetTable.below t.place (way t.mask (p.2.hash w) K) = n at q2 q3 ⊢
    have pm := put_perm L n p
    have hlen : (L.take n ++ p :: L.drop n).length = L.length + 1 := pm.length_eq
    have hrows : (SetTable.insertAt es n (p.2.hash w, p.1)).toList = (L.take n ++ p :: L.drop n).map (row w) := by
      rw [SetTable.toList_insertAt, R.rows, List.map_append, List.map_cons, List.map_take, List.map_drop]
      rfl
    rw [show (L.map fun p => p.2.hash w).take n ++ p.2.hash w :: (L.map fun p => p.2.hash w).drop n = (L.take n ++ p :: L.drop n).map (fun p => p.2.hash w) by rw [List.map_append, List.map_cons, List.map_take, List.map_drop]] at q3
    have nd1 : ((L.take n ++ p :: L.drop n).map (·.2)).Nodup := (pm.map (·.2)).nodup_iff.mpr (List.nodup_cons.mpr ⟨hm, R.nd⟩)
    have hes : (SetTable.insertAt es n (p.2.hash w, p.1)).size = L.length + 1 := by
      have z := congrArg List.length hrows
      rw [Array.length_toList, List.length_map, hlen] at z
      exact z
    generalize SetTable.insertAt es n (p.2.hash w, p.1) = es1 at hrows hes ⊢
    generalize L.take n ++ p :: L.drop n = L1 at pm hlen q3 nd1 hrows
    -- whatever is said of the hash, the table is the same but for that word
    have main : ∀ t2 : SetTable, t2.place = t1.place → t2.dummies = t1.dummies → t2.mask = t1.mask → t2.led = t1.led →
        wpAny (model P w) A (storeSet a es1 t2 >>= fun _ => if (!false && t2.tooFull) = true then setRelay a (SetTable.grown (es.size + 1)) >>= fun _ => pure true else pure true) Q E s := by
      intro t2 g1 g2 g3 g4
      have T2 : TabOk t2 (L1.map fun p => p.2.hash w) := ⟨g1 ▸ q3.ris, g2 ▸ q3.dm, g1 ▸ q3.sz, g3 ▸ q3.mok, fun x hx => by rw [g3]; exact q3.bd x (g1 ▸ hx), fun i h j h1 h2 => by
        rw [g1] at h2 ⊢
        rw [g3]
        exact q3.reach i h j h1 h2⟩
      have hfill : t2.fill = L.length + 1 := by
        rw [List.length_map] at q9
        rw [← q9]
        unfold SetTable.fill
        rw [g1, g2]
      refine wpAny_bind (wpAny_storeSet_of ho hd ?_ (by rw [hes, sizeLine_eq]; omega))
      have sb := Heap.SameBut.update s.heap a (Obj.putSet es1 t2)
      have ho1 := store_at (es' := es1) (t' := t2) ho hd
      generalize s.heap.update a (Obj.putSet es1 t2) = h1 at sb ho1 ⊢
      have el1 : ∀ q ∈ L1, Deep h1 q := fun q hq => by
        rcases List.mem_cons.mp (pm.mem_iff.mp hq) with e | hq
        · exact e ▸ deep_but hp ho hd sb
        · exact deep_but (R.el q hq) ho hd sb
      have ld1 : w.params.followText "set-order" = true ∨ t2.led = true := by rw [g4, q5]; exact R.led
      by_cases hf : t2.tooFull = true
      · have hfull : (L.length + 1) * 5 ≥ t2.mask * 3 := by
          unfold SetTable.tooFull at hf
          rwa [decide_eq_true_eq, hfill] at hf
        rw [hsl]
        have hsz1 : t2.place.size = es1.size := by
          have z := q3.sz
          rw [List.length_map, hlen] at z
          rw [g1, z, hes]
        have two : (t.mask = 7 ∧ L.length = 4) ∨ (t.mask = 31 ∧ L.length = 18) := by
          rw [g3, q4] at hfull
          rcases R.tab.mok with e | e | e
          · exact .inl ⟨e, by omega⟩
          · exact .inr ⟨e, by omega⟩
          · omega
        have go : ∀ m, SetTable.sizeAbove (SetTable.grown (L.length + 1)) - 1 = m → MaskOk m → SetTable.sizeAbove (SetTable.grown (L.length + 1)) ≤ 128 → (L.length + 1) * 5 < m * 3 →
            wpAny (model P w) A (setRelay a (SetTable.grown (L.length + 1))) (fun _ s' => wpAny (model P w) A (pure true) Q E s') E { s with heap := h1 } := fun m m1 m2 m3 m4 => by
          refine relay_tab (s := { s with heap := h1 }) ho1 ⟨hex.1, hex.2.1, hex.2.2⟩ rfl hrows hsz1 T2.dm (by rw [hes, g3, q4]; rcases two with ⟨e, e2⟩ | ⟨e, e2⟩ <;> omega) nd1 el1 ld1 (by rw [hlen]; exact hfew) m1 m2 m3 (by rw [hlen]; exact m4) ?_
          intro h2 L2' es2 ep2 t3 sb2 R2 pm2
          exact wpAny_pure (hQ true h2 L2' es2 ep2 t3 (sb.trans sb2) R2 (fun z => absurd z hm) fun _ => pm2.trans pm)
        have both : wpAny (model P w) A (setRelay a (SetTable.grown (L.length + 1))) (fun _ s' => wpAny (model P w) A (pure true) Q E s') E { s with heap := h1 } := by
          rcases two with ⟨_, e2⟩ | ⟨_, e2⟩
          · exact go 31 (by rw [e2, size_20]) (.inr (.inl rfl)) (by rw [e2, size_20]; decide) (by omega)
          · exact go 127 (by rw [e2, size_76]) (.inr (.inr rfl)) (by rw [e2, size_76]; decide) (by omega)
        rw [if_pos (by simp [hf])]
        exact wpAny_bind both
      · have hlt : L1.length * 5 < t2.mask * 3 := by
          unfold SetTable.tooFull at hf
          rw [decide_eq_true_eq, hfill] at hf
          rw [hlen]
          omega
        have fin := hQ true h1 L1 es1 (ep + 1) t2 sb ⟨⟨_, ho1, ⟨hex.1, hex.2.1, hex.2.2⟩, rfl⟩, hrows, T2, nd1, el1, ld1, hlt, by rw [hlen]; exact hfew⟩ (fun z => absurd z hm) fun _ => pm
        rw [if_neg (by simp [hf])]
        exact wpAny_pure fin
    by_cases hpl : t1.plain = true
    · rw [if_pos hpl]
      refine wpAny_bind (hbv_key _ _ 8 _ A _ hp.2.1 hp.2.2 fun b => ?_)
      exact main (if b = true then t1 else { t1 with plain := false }) (by cases b <;> rfl) (by cases b <;> rfl) (by cases b <;> rfl) (by cases b <;> rfl)
    · rw [if_neg hpl]
      refine wpAny_bind (wpAny_pure ?_)
      exact main (if true = true then t1 else { t1 with plain := false }) rfl rfl rfl rfl
end
end WySt

set_option Elab.async false
set_option linter.all false
set_option maxRecDepth 100000
set_option autoImplicit false
/-! WySyy: set(xs). -/
namespace WySt
open PySem PySem.Spec PyProof.Rows L2
/-- a new set -/
abbrev fs (w : World) : Obj := { cls := .type "set", dict := none, data := .set #[] 0 (.fresh 0 0 (!w.params.followText "set-order")) }
section
variable {P : Program} {w : World} {A : Around} {E : Value → Shared → Prop} {s : Shared} {a : Addr} {L : KL}
/-- c: texts or numbers (looked for one by one); else tuples -/
def El (P : Program) (w : World) (c : Bool) (h : Heap) (p : Value × NK) : Prop := NestedIs h p.2 p.1 ∧ p.2.depth ≤ 8 ∧ (match c with | true => Plainly (P := P) (w := w) h p | false => ∃ b, p.1 = .ref b)
def SR (P : Program) (w : World) (c : Bool) (h : Heap) (a : Addr) (L : KL) : Prop := match c with
  | true => SetS P w h a L
  | false => ∃ es ep t, Tab w h a L es ep t
def cap (c : Bool) : Nat := if c = true then 4000 else 63
theorem El.keep {c : Bool} {h h' : Heap} {p : Value × NK} (x : El P w c h p) (k : ∀ b o, h.get? b = some o → h'.get? b = some o) : El P w c h' p :=
  ⟨NestedIs.at (fun b u _ _ hb _ => k b u hb) _ _ x.1, x.2.1, by cases c <;> exact x.2.2⟩
theorem SR.keep {c : Bool} {h h' : Heap} (R : SR P w c h a L) (k : ∀ o, h.get? a = some o → h'.get? a = some o) (e : ∀ p ∈ L, El P w c h' p) : SR P w c h' a L := by
  cases c with
  | true =>
    obtain ⟨o, es, ep, t, ho, hx, hd, hr, g, r⟩ := R
    exact ⟨o, es, ep, t, k o ho, hx, hd, hr, fun p hp => (e p hp).2.2, r⟩
  | false =>
    obtain ⟨es, ep, t, R⟩ := R
    obtain ⟨o, ho, r⟩ := R.ob
    exact ⟨es, ep, t, ⟨o, k o ho, r⟩, R.rows, R.tab, R.nd, fun p hp => ⟨(e p hp).2.2, (e p hp).1, (e p hp).2.1⟩, R.led, R.room, R.few⟩
theorem SR.nodup {c : Bool} {h : Heap} (R : SR P w c h a L) : (L.map (·.2)).Nodup := by
  cases c with
  | true => obtain ⟨_, _, _, _, _, _, _, _, _, nd, _⟩ := R; exact nd
  | false => obtain ⟨_, _, _, R⟩ := R; exact R.nd
theorem led_fresh : w.params.followText "set-order" = true ∨ (SetTable.fresh 0 0 (!w.params.followText "set-order")).led = true := by
  show _ ∨ (!w.params.followText "set-order") = true
  cases w.params.followText "set-order"
  · exact .inr rfl
  · exact .inl rfl
theorem SR.fresh {c : Bool} {h : Heap} (ho : h.get? a = some (fs w)) : SR P w c h a [] := by
  cases c with
  | true => exact ⟨_, #[], 0, _, ho, ⟨rfl, rfl, rfl⟩, rfl, rfl, (fun p hp => nomatch hp), List.nodup_nil, by show 0 < scanBound; decide, rfl, List.Pairwise.nil, led_fresh⟩
  | false => exact ⟨#[], 0, _, ⟨_, ho, ⟨rfl, rfl, rfl⟩, rfl⟩, rfl, ⟨List.Pairwise.nil, rfl, rfl, .inl rfl, fun x hx => (by cases hx), fun i h j hi => (by simp at hi)⟩, List.nodup_nil, (fun p hp => nomatch hp), led_fresh, by show 0 * 5 < 7 * 3; decide, by show 0 < 64; decide⟩
theorem SR.add {c : Bool} {p : Value × NK} {Q : Bool → Shared → Prop} (R : SR P w c s.heap a L) (hp : El P w c s.heap p) (hu : A.units + 8 < cLine) (room : L.length + 1 ≤ cap c)
    (hQ : ∀ b h' L', Heap.SameBut a s.heap h' → SR P w c h' a L' → (p.2 ∈ L.map (·.2) → L' = L) → (p.2 ∉ L.map (·.2) → L'.Perm (p :: L)) → Q b { s with heap := h' }) :
    wpAny (model P w) A (setAddHashed a p.1 (p.2.hash w)) Q E s := by
  cases c with
  | true => exact scan_add (P := P) R hp.2.2 (by have : cap true = 4000 := rfl; have : scanBound = 4096 := rfl; omega) hQ
  | false =>
    obtain ⟨es, ep, t, R⟩ := R
    exact tab_add R ⟨hp.2.2, hp.1, hp.2.1⟩ hu (by have : cap false = 63 := rfl; omega) fun b h' L' es' ep' t' sb R' q1 q2 => hQ b h' L' sb ⟨es', ep', t', R'⟩ q1 q2
/-- how a set is walked -/
theorem SR.view {c : Bool} {h : Heap} (R : SR P w c h a L) : ∃ es ep t, SetAt h a es ep t ∧ t.fits es.size = true ∧ es.size < scanBound ∧ Ris t.place.toList ∧ (w.params.followText "set-order" = true ∨ t.led = true) ∧ es.toList.map (·.2) = L.map (·.1) := by
  have rowsOk : ∀ es : Array (Int × Value), es.toList = L.map (row w) → es.toList.map (·.2) = L.map (·.1) := fun es e => by
    rw [e, List.map_map]
    rfl
  cases c with
  | true =>
    obtain ⟨o, es, ep, t, ho, hx, hd, hr, g, nd, hb, hf, ris, hl⟩ := R
    exact ⟨es, ep, t, ⟨o, ho, hx.1, hd⟩, hf, hb, ris, hl, rowsOk es hr⟩
  | false =>
    obtain ⟨es, ep, t, R⟩ := R
    obtain ⟨o, ho, hx, hd⟩ := R.ob
    exact ⟨es, ep, t, ⟨o, ho, hx.1, hd⟩, R.fits, by rw [R.size]; exact Nat.lt_trans R.few (by decide), R.tab.ris, R.led, rowsOk es R.rows⟩
/-- what it has got of the first i -/
structure Has (ks : KL) (i : Nat) (L : KL) : Prop where
  sub : ∀ p ∈ L, p ∈ ks.take i
  all : ∀ p ∈ ks.take i, p.2 ∈ L.map (·.2)
  len : L.length ≤ i
theorem Has.zero (ks : KL) : Has ks 0 [] := ⟨(fun p h => nomatch h), (fun p h => by simp at h), Nat.le_refl _⟩
theorem Has.same {ks : KL} {i : Nat} {x : Value × NK} (g : Has ks i L) (h : ks[i]? = some x) (hm : x.2 ∈ L.map (·.2)) : Has ks (i + 1) L := by
  have e := take_next h
  refine ⟨fun p hp => e ▸ List.mem_append_left _ (g.sub p hp), fun p hp => ?_, Nat.le_succ_of_le g.len⟩
  rcases List.mem_append.mp (e ▸ hp) with z | z
  · exact g.all p z
  · exact List.mem_singleton.mp z ▸ hm
theorem Has.more {ks L' : KL} {i : Nat} {x : Value × NK} (g : Has ks i L) (h : ks[i]? = some x) (pm : L'.Perm (x :: L)) : Has ks (i + 1) L' := by
  have e := take_next h
  refine ⟨fun p hp => ?_, fun p hp => ?_, ?_⟩
  · rw [e]
    rcases List.mem_cons.mp (pm.mem_iff.mp hp) with z | z
    · exact List.mem_append_right _ (z ▸ List.mem_singleton.mpr rfl)
    · exact List.mem_append_left _ (g.sub p z)
  · rw [(pm.map (·.2)).mem_iff, List.map_cons]
    rcases List.mem_append.mp (e ▸ hp) with z | z
    · exact List.mem_cons_of_mem _ (g.all p z)
    · exact List.mem_singleton.mp z ▸ List.mem_cons_self
  · have := pm.length_eq
    have := g.len
    simp at *
    omega
theorem upd_loop {I : Addr} {fp wr : List Addr} {G : Array GenState → Array GenState → Prop} {n : Nat} {Pv : Nat → Value → Prop} {St : Nat → Shared → Prop} {R : Result → Shared → Prop} {c : Bool}
    (W : WalksS P w A.in1 I fp wr G n Pv St) (S : Addr) (hSf : S ∉ fp) (ks : KL) (hn : n = ks.length) (hfew : ks.length ≤ cap c) (hval : ∀ i v, Pv i v → ∃ p, ks[i]? = some p ∧ v = p.1)
    (h0 : Heap) (hk : ∀ p ∈ ks, El P w c h0 p) (hS0 : h0.get? S = none) (hw0 : ∀ b ∈ wr, h0.get? b = none) (hu : A.in1.units + 9 < cLine) :
    ∀ (k i : Nat) (s : Shared), n - i = k → i ≤ n → St i s → (∀ b o, h0.get? b = some o → s.heap.get? b = some o) → (∃ L, SR P w c s.heap S L ∧ Has ks i L) →
      (∀ s' L, Moved (S :: wr) G s s' → SR P w c s'.heap S L → Has ks n L → (∀ b o, h0.get? b = some o → s'.heap.get? b = some o) → R (.ok (.ret .none)) s') →
      codeAny (model P w) A (.builtin "set.update.loop" ⟨[.ref S, .ref I], []⟩) R s := by
  have hSw : S ∉ wr := fun h => hSf (W.sub _ h)
  have hsub : ∀ b ∈ wr, b ∈ S :: wr := fun b hb => List.mem_cons_of_mem _ hb
  have keepM : ∀ {s s' : Shared}, Moved wr G s s' → (∀ b o, h0.get? b = some o → s.heap.get? b = some o) → ∀ b o, h0.get? b = some o → s'.heap.get? b = some o := fun hm hkp b o e =>
    hm.heap b o (fun hb => by rw [hw0 b hb] at e; cases e) (hkp b o e)
  intro k
  induction k with
  | zero =>
    intro i s hk' hi hst hkp ⟨L, hS, g⟩ hR
    obtain rfl : i = n := by omega
    refine codeAny_builtin F.entry_set_update_loop ?_
    rw [Around.under_plainId F.plain_set_update_loop _]
    show wpAny _ A.in1 (pyNext (.ref I) >>= _) _ _ s
    refine wpAny_bind (W.done s _ _ hst fun s' hm => ?_)
    show wpAny _ A.in1 (ret Value.none) _ _ s'
    have hkp' := keepM hm hkp
    exact wpAny_pure (hR s' L (hm.mono hsub) (hS.keep (fun o e => hm.heap S o hSw e) fun p hp => (hk p (List.mem_of_mem_take (g.sub p hp))).keep hkp') g hkp')
  | succ k ih =>
    intro i s hk' hi hst hkp ⟨L, hS, g⟩ hR
    have hlt : i < n := by omega
    refine codeAny_builtin F.entry_set_update_loop ?_
    rw [Around.under_plainId F.plain_set_update_loop _]
    show wpAny _ A.in1 (pyNext (.ref I) >>= _) _ _ s
    refine wpAny_bind (W.item i s _ _ hlt hst fun v s' hP hst' hm => ?_)
    obtain ⟨p, hp, rfl⟩ := hval i v hP
    have hkp' := keepM hm hkp
    have hS' : SR P w c s'.heap S L := hS.keep (fun o e => hm.heap S o hSw e) fun q hq => (hk q (List.mem_of_mem_take (g.sub q hq))).keep hkp'
    have hx : El P w c s'.heap p := (hk p (List.mem_of_getElem? hp)).keep hkp'
    show wpAny _ A.in1 (holding [p.1] (setAdd S p.1) >>= _) _ _ s'
    refine wpAny_bind (wpAny_holding ?_)
    unfold setAdd
    refine wpAny_holding (wpAny_bind (pyHash_key _ _ _ _ _ hx.1 (by have := hx.2.1; omega) ?_))
    refine SR.add (s := { s' with toks := s'.toks + p.2.draws }) hS' hx (by omega) (by have := g.len; omega) fun b h' L' hsb hS2 c1 c2 => ?_
    have g' : Has ks (i + 1) L' := by
      rcases Classical.em (p.2 ∈ L.map (·.2)) with z | z
      · rw [c1 z]; exact g.same hp z
      · exact g.more hp (c2 z)
    have hkp2 : ∀ b o, h0.get? b = some o → h'.get? b = some o := fun b o e => (hsb.2 b (fun z => by rw [z, hS0] at e; cases e)).trans (hkp' b o e)
    refine wpAny_pure ⟨plainId_quiet F.plain_set_update_loop _, ih (i + 1) _ (by omega) hlt (W.frame _ s' _ _ hst' (Nat.le_add_right _ _) fun b hb o e => ?_) hkp2 ⟨L', hS2, g'⟩ fun s2 M hm2 hS3 g3 hkp3 => ?_⟩
    · rw [hsb.2 b fun z : b = S => hSf (z ▸ hb)]
      exact e
    · refine hR s2 M (Moved.trans W.gtrans ((hm.mono hsub).then_heap (Nat.le_add_right _ _) fun b o hb e => ?_) hm2) hS3 g3 hkp3
      rw [hsb.2 b fun z : b = S => hb (z ▸ List.mem_cons_self)]
      exact e

set_option maxHeartbeats 3200000 in
/-- set(xs), xs a list -/
theorem call_set_list {c : Bool} {l : Addr} {items : Array Value} (ks : KL) {Q : Value → Shared → Prop} (hh : A.handled = none) (hl : s.heap.IsList l items) (hit : items.toList = ks.map (·.1)) (hk : ∀ p ∈ ks, El P w c s.heap p) (hfew : ks.length ≤ cap c) (hu : A.units + 20 < cLine)
    (h : ∀ (h' : Heap) (tk : Nat) L, SR P w c h' s.heap.objs.size L → Has ks ks.length L → (∀ b o, s.heap.get? b = some o → h'.get? b = some o) → Q (.ref s.heap.objs.size) { s with heap := h', toks := tk }) :
    wpAny (model P w) A (call (.type "set") [.ref l]) Q E s := by
  have hisz : items.size = ks.length := by
    have q := congrArg List.length hit
    rwa [Array.length_toList, List.length_map] at q
  obtain ⟨c0, tl, hmro⟩ := F.called_set.mro
  have hmade := F.called_set.made
  have hsub := F.called_set.sub
  refine wpAny_call (codeAny_of_tree ?_)
  show wpAny _ _ (callAny (.type "set") _) _ _ _
  refine wpAny_pure ⟨Code.quiet_builtin _ (by decide +kernel), codeAny_builtin F.entry_type_call ?_⟩
  rw [Around.under_plain (weight_type_call_type "set" [.ref l] []) rfl]
  have h1 := F.called_set.notType
  have h2 := F.called_set.canCreate
  have hct := F.typeCall_set_1 (.ref l)
  repeat (any_goals (first | assumption | wp_step))
  refine codeAny_mono (code_set_led1 (.ref l) (E := E) (Q₁ := fun obj s1 => obj = .ref s.heap.objs.size ∧ s1 = { s with heap := s.heap.push (fs w) }) ⟨rfl, rfl⟩) fun r s1 hr => ?_
  cases r with
  | error e => exact hr
  | ok fl =>
    cases fl with
    | ret obj =>
      obtain ⟨rfl, rfl⟩ := hr
      have hS : (s.heap.push (fs w)).get? s.heap.objs.size = some (fs w) := Heap.get?_push_size _ rfl
      have hT : Shared.TypeIs { s with heap := s.heap.push (fs w) } (.ref s.heap.objs.size) "set" := ⟨_, hS, rfl⟩
      have hli := F.called_set.init.lookup
      have hbi := F.called_set.init.bind (.ref s.heap.objs.size)
      repeat (any_goals (first | assumption | wp_step))
      refine codeAny_mono (codeAny_call_builtin (R := wants (fun r s2 => r = .none ∧ ∃ h' tk L, s2 = { s with heap := h', toks := tk } ∧ SR P w c h' s.heap.objs.size L ∧ Has ks ks.length L ∧ (∀ b o, s.heap.get? b = some o → h'.get? b = some o)) E) F.called_set.init.plain F.entry_set_init (check_set_init_1 hT ?_)) fun r2 s2 hr2 => ?_
      · obtain ⟨ol, hol, hcl, nl, hdl⟩ := hl
        obtain ⟨ocls, odict, odata, oslots⟩ := ol
        simp only at hcl hdl
        subst hcl
        subst hdl
        have hol' : (s.heap.push (fs w)).get? l = some { cls := .type "list", dict := odict, data := .seq items nl, slots := oslots } := Heap.get?_push_of_some _ hol
        have q1 := F.sub_list_set
        have q2 := F.sub_list_frozenset
        have q3 : (Value.type "list" == Value.type "dict") = false := by decide
        have hl1 : (s.heap.push (fs w)).IsList l items := ⟨_, hol', rfl, nl, rfl⟩
        unfold Builtin.«set.__init__» noKeywords Builtin.Frozenset.updateFrom
        generalize hPI : pyIter = PI
        wp_walk
        subst hPI
        refine wpAny_pyIter_list hl1 (wpAny_bind (wpAny_runValue ?_))
        have hlS : l < s.heap.objs.size := Heap.lt_size hol
        have hh3 : A.in1.in1.in1.handled = none := by simp [hh]
        have hz1 : (s.heap.push (fs w)).objs.size = s.heap.objs.size + 1 := Heap.size_push ..
        have hneI : l ≠ (s.heap.push (fs w)).objs.size := by
          rw [hz1]
          exact Nat.ne_of_lt (Nat.lt_succ_of_lt hlS)
        have hSf : s.heap.objs.size ∉ [(s.heap.push (fs w)).objs.size, l] := by
          rw [hz1]
          intro hm
          rcases List.mem_cons.mp hm with z | z
          · exact Nat.ne_of_lt (Nat.lt_succ_self _) z
          · exact Nat.ne_of_gt hlS (List.mem_singleton.mp z)
        have hval : ∀ (i : Nat) (v : Value), items[i]? = some v → ∃ p, ks[i]? = some p ∧ v = p.1 := fun i v hv => by
          have q : items.toList[i]? = some v := by rw [Array.getElem?_toList]; exact hv
          rw [hit, List.getElem?_map] at q
          cases hq : ks[i]? with
          | none => rw [hq] at q; cases q
          | some p =>
            rw [hq] at q
            exact ⟨p, rfl, (Option.some.inj q).symm⟩
        have out : ∀ b, s.heap.objs.size ≤ b → s.heap.get? b = none := fun b hb => by
          cases q : s.heap.get? b with
          | none => rfl
          | some o => exact absurd (Nat.lt_of_lt_of_le (Heap.lt_size q) hb) (Nat.lt_irrefl _)
        refine upd_loop (P := P) (w := w) (c := c) ((Walks.list hh3 _ l hneI items).toS) s.heap.objs.size hSf ks hisz hfew hval s.heap hk (out _ (Nat.le_refl _)) (fun b hb => out b (by
            rw [List.mem_singleton.mp hb, hz1]
            exact Nat.le_succ _)) (by show A.units + 1 + 1 + 1 + 9 < cLine; omega) (items.size - 0) 0 _ (by omega) (Nat.zero_le _)
          ⟨⟨_, Heap.get?_push_size _ rfl, rfl, rfl⟩, (hl1.push _)⟩ (fun b o e => Heap.get?_push_of_some _ (Heap.get?_push_of_some _ e)) ⟨[], SR.fresh (Heap.get?_push_of_some _ hS), Has.zero ks⟩ ?_
        intro s' L hm hS' g' hkp
        obtain ⟨h', g2, d', tk', os'⟩ := s'
        cases (show g2 = s.gens from hm.gens)
        cases (show d' = s.drawn from hm.drawn)
        cases (show os' = s.os from hm.os)
        show wpAny _ _ _ _ _ _
        refine wpAny_pure ?_
        show wpAny _ _ (ret Value.none) _ _ _
        rw [hisz] at g'
        exact wpAny_pure ⟨rfl, h', tk', L, rfl, hS', g', hkp⟩
      · cases r2 with
        | error e => exact hr2
        | ok fl2 =>
          cases fl2 with
          | ret r =>
            obtain ⟨rfl, h', tk, L, rfl, hS', g', hk'⟩ := hr2
            repeat (any_goals (first | assumption | wp_step))
            exact h _ _ _ hS' g' hk'
          | _ => exact hr2.elim
    | _ => exact hr.elim

set_option maxHeartbeats 3200000 in
/-- set(xs), xs a tuple -/
theorem call_set_tuple {c : Bool} {l : Addr} {items : Array Value} (ks : KL) {Q : Value → Shared → Prop} (hh : A.handled = none) (hl : s.heap.IsTuple l items) (hit : items.toList = ks.map (·.1)) (hk : ∀ p ∈ ks, El P w c s.heap p) (hfew : ks.length ≤ cap c) (hu : A.units + 20 < cLine)
    (h : ∀ (h' : Heap) (tk : Nat) L, SR P w c h' s.heap.objs.size L → Has ks ks.length L → (∀ b o, s.heap.get? b = some o → h'.get? b = some o) → Q (.ref s.heap.objs.size) { s with heap := h', toks := tk }) :
    wpAny (model P w) A (call (.type "set") [.ref l]) Q E s := by
  have hisz : items.size = ks.length := by
    have q := congrArg List.length hit
    rwa [Array.length_toList, List.length_map] at q
  obtain ⟨c0, tl, hmro⟩ := F.called_set.mro
  have hmade := F.called_set.made
  have hsub := F.called_set.sub
  refine wpAny_call (codeAny_of_tree ?_)
  show wpAny _ _ (callAny (.type "set") _) _ _ _
  refine wpAny_pure ⟨Code.quiet_builtin _ (by decide +kernel), codeAny_builtin F.entry_type_call ?_⟩
  rw [Around.under_plain (weight_type_call_type "set" [.ref l] []) rfl]
  have h1 := F.called_set.notType
  have h2 := F.called_set.canCreate
  have hct := F.typeCall_set_1 (.ref l)
  repeat (any_goals (first | assumption | wp_step))
  refine codeAny_mono (code_set_led1 (.ref l) (E := E) (Q₁ := fun obj s1 => obj = .ref s.heap.objs.size ∧ s1 = { s with heap := s.heap.push (fs w) }) ⟨rfl, rfl⟩) fun r s1 hr => ?_
  cases r with
  | error e => exact hr
  | ok fl =>
    cases fl with
    | ret obj =>
      obtain ⟨rfl, rfl⟩ := hr
      have hS : (s.heap.push (fs w)).get? s.heap.objs.size = some (fs w) := Heap.get?_push_size _ rfl
      have hT : Shared.TypeIs { s with heap := s.heap.push (fs w) } (.ref s.heap.objs.size) "set" := ⟨_, hS, rfl⟩
      have hli := F.called_set.init.lookup
      have hbi := F.called_set.init.bind (.ref s.heap.objs.size)
      repeat (any_goals (first | assumption | wp_step))
      refine codeAny_mono (codeAny_call_builtin (R := wants (fun r s2 => r = .none ∧ ∃ h' tk L, s2 = { s with heap := h', toks := tk } ∧ SR P w c h' s.heap.objs.size L ∧ Has ks ks.length L ∧ (∀ b o, s.heap.get? b = some o → h'.get? b = some o)) E) F.called_set.init.plain F.entry_set_init (check_set_init_1 hT ?_)) fun r2 s2 hr2 => ?_
      · obtain ⟨ol, hol, hcl, nl, hdl⟩ := hl
        obtain ⟨ocls, odict, odata, oslots⟩ := ol
        simp only at hcl hdl
        subst hcl
        subst hdl
        have hol' : (s.heap.push (fs w)).get? l = some { cls := .type "tuple", dict := odict, data := .seq items nl, slots := oslots } := Heap.get?_push_of_some _ hol
        have q1 := F.sub_tuple_set
        have q2 := F.sub_tuple_frozenset
        have q3 : (Value.type "tuple" == Value.type "dict") = false := by decide
        have hl1 : (s.heap.push (fs w)).IsTuple l items := ⟨_, hol', rfl, nl, rfl⟩
        unfold Builtin.«set.__init__» noKeywords Builtin.Frozenset.updateFrom
        generalize hPI : pyIter = PI
        wp_walk
        subst hPI
        refine wpAny_pyIter_tuple hl1 (wpAny_bind (wpAny_runValue ?_))
        have hlS : l < s.heap.objs.size := Heap.lt_size hol
        have hh3 : A.in1.in1.in1.handled = none := by simp [hh]
        have hz1 : (s.heap.push (fs w)).objs.size = s.heap.objs.size + 1 := Heap.size_push ..
        have hneI : l ≠ (s.heap.push (fs w)).objs.size := by
          rw [hz1]
          exact Nat.ne_of_lt (Nat.lt_succ_of_lt hlS)
        have hSf : s.heap.objs.size ∉ [(s.heap.push (fs w)).objs.size, l] := by
          rw [hz1]
          intro hm
          rcases List.mem_cons.mp hm with z | z
          · exact Nat.ne_of_lt (Nat.lt_succ_self _) z
          · exact Nat.ne_of_gt hlS (List.mem_singleton.mp z)
        have hval : ∀ (i : Nat) (v : Value), items[i]? = some v → ∃ p, ks[i]? = some p ∧ v = p.1 := fun i v hv => by
          have q : items.toList[i]? = some v := by rw [Array.getElem?_toList]; exact hv
          rw [hit, List.getElem?_map] at q
          cases hq : ks[i]? with
          | none => rw [hq] at q; cases q
          | some p =>
            rw [hq] at q
            exact ⟨p, rfl, (Option.some.inj q).symm⟩
        have out : ∀ b, s.heap.objs.size ≤ b → s.heap.get? b = none := fun b hb => by
          cases q : s.heap.get? b with
          | none => rfl
          | some o => exact absurd (Nat.lt_of_lt_of_le (Heap.lt_size q) hb) (Nat.lt_irrefl _)
        refine upd_loop (P := P) (w := w) (c := c) ((Walks.tuple hh3 _ l hneI items).toS) s.heap.objs.size hSf ks hisz hfew hval s.heap hk (out _ (Nat.le_refl _)) (fun b hb => out b (by
            rw [List.mem_singleton.mp hb, hz1]
            exact Nat.le_succ _)) (by show A.units + 1 + 1 + 1 + 9 < cLine; omega) (items.size - 0) 0 _ (by omega) (Nat.zero_le _)
          ⟨⟨_, Heap.get?_push_size _ rfl, rfl, rfl⟩, (hl1.push _)⟩ (fun b o e => Heap.get?_push_of_some _ (Heap.get?_push_of_some _ e)) ⟨[], SR.fresh (Heap.get?_push_of_some _ hS), Has.zero ks⟩ ?_
        intro s' L hm hS' g' hkp
        obtain ⟨h', g2, d', tk', os'⟩ := s'
        cases (show g2 = s.gens from hm.gens)
        cases (show d' = s.drawn from hm.drawn)
        cases (show os' = s.os from hm.os)
        show wpAny _ _ _ _ _ _
        refine wpAny_pure ?_
        show wpAny _ _ (ret Value.none) _ _ _
        rw [hisz] at g'
        exact wpAny_pure ⟨rfl, h', tk', L, rfl, hS', g', hkp⟩
      · cases r2 with
        | error e => exact hr2
        | ok fl2 =>
          cases fl2 with
          | ret r =>
            obtain ⟨rfl, h', tk, L, rfl, hS', g', hk'⟩ := hr2
            repeat (any_goals (first | assumption | wp_step))
            exact h _ _ _ hS' g' hk'
          | _ => exact hr2.elim
    | _ => exact hr.elim
end
end WySt

set_option Elab.async false
set_option linter.all false
set_option maxRecDepth 100000
set_option autoImplicit false
/-! WyX: readings of expressions by the evaluator; one rule a form. -/
namespace Wy
open PySem PySem.Spec PyProof.Rows L2

/-! ### weaker readings -/
section
variable {X : Cx} {e : Expr} {es : List Expr}
theorem PEimp {t t' : TE} (h : PE X e t) (k : ∀ σ H Q, t' σ H Q → t σ H Q) : PE X e t' := ⟨fun pins s σ H Q I w => h.run pins s σ H Q I (k σ H Q w)⟩
theorem PTimp {t t' : TT} (h : PT X e t) (k : ∀ σ H Q, t' σ H Q → t σ H Q) : PT X e t' := ⟨fun pins s σ H Q I w => h.run pins s σ H Q I (k σ H Q w)⟩
theorem PAimp {t t' : TA} (h : PA X es t) (k : ∀ σ H Q, t' σ H Q → t σ H Q) : PA X es t' := ⟨fun pos pins s σ H Q I w => h.run pos pins s σ H Q I (k σ H Q w)⟩
theorem PIimp {tg : Expr} {t t' : TI} (h : PI X tg e t) (k : ∀ σ H Q, t' σ H Q → t σ H Q) : PI X tg e t' := ⟨fun pins s σ H Q I w => h.run pins s σ H Q I (k σ H Q w)⟩
end

/-- the last step: an operation's value, new at most -/
theorem fin2 {K : PySem.W.Frag} {f : Bool} {G0 : Gh} {H0 H H' : Hp} {σ : L2.St} {ρ : Env} {st : Wy.St} {C' : List Addr} {Q : VK} {d : D} {v : V} (h : Post (FR K f) G0 H0 Q d st) (p : Pres G0 C' H0 H) (g : Good K (G0.at C') σ H ρ st) (w : ∀ x ∈ G0.C, ∃ o, H0 x = some o)
    (s : Same H H') (r : FR K true (G0.at C') H H' v d) : Q v H' :=
  fin h p g s ⟨r.1, fun _ hm => (r.2 rfl hm).start (p.still g.sr)⟩ w

section
variable {X : Cx} {c : Wy.Ctx}
theorem tE.b {K : PySem.W.Frag} {f : Bool} {m : Env → M D} {σ : L2.St} {H : Hp} {Q : VK} (h : tE K (BR K) m σ H Q) : tE K (FR K f) m σ H Q := by
  obtain ⟨G, ρ, st, g, h⟩ := h
  exact ⟨G, ρ, st, g, wp_mono h fun d st' k v H' C' p s r => k v H' C' p s (.inl r.1)⟩
/-- a value that is looked at -/
theorem PEb {e : Expr} {f : Bool} {m : Env → M D} (h : PE X e (tE X.K (FR X.K f) m)) : PE X e (tE X.K (BR X.K) m) := PEimp h fun _ _ _ => tE.b
theorem truV {K : PySem.W.Frag} {G : Gh} {H : Hp} {v : V} {d : D} {k : Bool} (r : BRep K G H v d) (e : truth d = some k) : TruV K v H k := by
  have lens : ∀ {vs : List V} {ds : List D}, vs.length = ds.length → (!ds.isEmpty) = !vs.isEmpty := fun {vs ds} h => by
    cases vs <;> cases ds <;> first | rfl | (exact absurd h (by simp))
  cases d <;> first | (simp [truth] at e; done) | skip
  · have := r.non
    subst this
    simp only [truth, Option.some.injEq] at e
    exact e.symm
  · have := r.bl
    subst this
    simp only [truth, Option.some.injEq] at e
    exact e.symm
  · have := r.int
    subst this
    simp only [truth, Option.some.injEq] at e
    exact e.symm
  · obtain ⟨a, vs, rfl, h1, h2⟩ := r.tup
    simp only [truth, Option.some.injEq] at e
    exact .inr (.inl ⟨vs, h1, by rw [← e]; exact lens h2.len⟩)
  · obtain ⟨a, vs, rfl, h1, h2⟩ := r.lst
    simp only [truth, Option.some.injEq] at e
    exact .inl ⟨vs, .of h1, by rw [← e]; exact lens h2.len⟩
/-- an expression whose truth is its value's -/
def plainT : Expr → Bool
  | .UnaryOp .Not _ _ => false
  | .BoolOp _ _ _ => false
  | .IfExp _ _ _ _ => false
  | .Compare _ _ _ _ => false
  | _ => true
theorem plain_true {e : Expr} {env : PySem.Env} (h : plainT e = true) : ∀ whole, isTrue e env whole = (do let v ← whole; standAt e.pos; holding [v] (truthy v)) := by
  intro whole
  cases e <;> first | rfl | (exact absurd h Bool.false_ne_true) | skip
  rename_i op _ _
  cases op <;> first | rfl | exact absurd h Bool.false_ne_true
theorem PTb {e : Expr} {m : Env → M D} (hp : plainT e = true) (h : PE X e (tE X.K (BR X.K) m)) : PT X e (tT X.K (tOf m)) :=
  PTimp (pt_truth h (plain_true hp)) fun σ H Q w => by
    obtain ⟨G, ρ, st, g, hw⟩ := w
    refine go g hw fun x st1 v H1 C1 p g1 r h1 => ?_
    obtain ⟨k, e, h2⟩ := wp_of h1
    exact ⟨k, truV r e, h2 H1 C1 p g1.sr⟩

/-! ### iterators -/
theorem it_lst {K : PySem.W.Frag} {mk : MK} {G : Gh} {H : Hp} {a : Addr} {ds : List D} (r : ∀ G2 H2, mk G H G2 H2 → BRep K G2 H2 (.ref a) (.lst ds)) : ItRep K mk G H (Itl K a) ds := by
  intro G2 H2 e hid i
  obtain ⟨a', vs, ea, h1, r1⟩ := (r _ _ e).lst
  cases ea
  refine ⟨fun hi => ⟨vs, .of h1, by rw [r1.len]; exact hi⟩, fun d hd => ?_⟩
  obtain ⟨v, hv, rv⟩ := r1.get hd
  refine ⟨⟨vs, v, .of h1, hv⟩, fun x H3 hx => ?_⟩
  obtain ⟨rfl, hx⟩ := hx
  have := hx vs (.of h1)
  rw [hv] at this
  cases this
  exact ⟨Same.refl _, rv⟩
theorem it_tup {K : PySem.W.Frag} {mk : MK} {G : Gh} {H : Hp} {a : Addr} {ds : List D} (r : ∀ G2 H2, mk G H G2 H2 → BRep K G2 H2 (.ref a) (.tup ds)) : ItRep K mk G H (Itt K a) ds := by
  intro G2 H2 e hid i
  obtain ⟨a', vs, ea, h1, r1⟩ := (r _ _ e).tup
  cases ea
  refine ⟨fun hi => ⟨vs, h1, by rw [r1.len]; exact hi⟩, fun d hd => ?_⟩
  obtain ⟨v, hv, rv⟩ := r1.get hd
  refine ⟨⟨vs, v, h1, hv⟩, fun x H3 hx => ?_⟩
  obtain ⟨rfl, hx⟩ := hx
  have := hx vs h1
  rw [hv] at this
  cases this
  exact ⟨Same.refl _, rv⟩
theorem it_str {K : PySem.W.Frag} {mk : MK} {G : Gh} {H : Hp} {s : List Nat} : ItRep K mk G H (Its (S s)) (strsOf s) := by
  intro G2 H2 e hid i
  have hn : (S s).cps.size = s.length := S_len s
  have hg : ∀ i : Nat, (S s).cps[i]? = s[i]? := fun i => by
    show s.toArray[i]? = s[i]?
    simp
  refine ⟨fun hi => ?_, fun d hd => ?_⟩
  · show (S s).cps.size ≤ i
    rw [hn]
    simpa [strsOf] using hi
  · unfold strsOf at hd
    rw [List.getElem?_map] at hd
    cases hc : s[i]? with
    | none =>
      rw [hc] at hd
      cases hd
    | some c =>
      rw [hc] at hd
      have hd := Option.some.inj hd
      subst hd
      refine ⟨by show i < (S s).cps.size; rw [hn]; exact (List.getElem?_eq_some_iff.mp hc).1, fun x H3 hx => ?_⟩
      obtain ⟨rfl, c', h1, rfl⟩ := hx
      rw [hg, hc] at h1
      cases h1
      exact ⟨Same.refl _, .str [c]⟩
theorem it_rng {K : PySem.W.Frag} {mk : MK} {G : Gh} {H : Hp} {lo : Int} {n : Nat} : ItRep K mk G H (Itr lo n) (rangeD lo n) := by
  intro G2 H2 e hid i
  have hl : ∀ (n : Nat) (lo : Int), (rangeD lo n).length = n := fun n => by
    induction n with
    | zero => intro lo; rfl
    | succ n ih => intro lo; show (rangeD (lo + 1) n).length + 1 = n + 1; rw [ih]
  have hg : ∀ (n i : Nat) (lo : Int) (d : D), (rangeD lo n)[i]? = some d → d = .int (lo + i) := fun n => by
    induction n with
    | zero =>
      intro i lo d h
      simp [rangeD] at h
    | succ n ih =>
      intro i lo d h
      cases i with
      | zero =>
        simp [rangeD] at h
        simp [h]
      | succ i =>
        have := ih i (lo + 1) d (by simpa [rangeD] using h)
        rw [this]
        congr 1
        omega
  refine ⟨fun hi => ?_, fun d hd => ?_⟩
  · show n ≤ i
    rw [hl] at hi
    exact hi
  · have h1 := hg n i lo d hd
    have h2 := (List.getElem?_eq_some_iff.mp hd).1
    rw [hl] at h2
    refine ⟨h2, fun x H3 hx => ?_⟩
    obtain ⟨rfl, rfl⟩ := hx
    subst h1
    exact ⟨Same.refl _, .int _⟩
/-- an iterator over a value -/
theorem PIs {mk : MK} {rel : Rel} {tg e : Expr} {m : Env → M D} (hb : ∀ G H0 H v d, rel G H0 H v d → BRep X.K G H v d) (hst : Stab X.K mk rel) (h : PE X e (tE X.K rel m)) : PI X tg e (tI X.K mk (iOf m)) := by
  refine ⟨fun pins s σ H R I w => ?_⟩
  obtain ⟨G, ρ, st, g, hw⟩ := w
  have q : tE X.K rel m σ H (fun v H1 => (∃ a, v = .ref a ∧ (∃ xs, SqL X.K H1 a xs) ∧ R (Itl X.K a) H1) ∨ (∃ a, v = .ref a ∧ (∃ xs, SqT X.K H1 a xs) ∧ R (Itt X.K a) H1) ∨ ∃ z, v = .str z ∧ R (Its z) H1) := by
    refine go g hw fun x st1 v H1 C1 p g1 r0 h1 => ?_
    have r := hb _ _ _ _ _ r0
    have rs := hst _ _ _ _ _ r0
    obtain ⟨ds, e, h2⟩ := wp_of h1
    cases x <;> first | (simp [itemsOf] at e; done) | skip
    · have := r.str
      subst this
      simp only [itemsOf, Option.some.injEq] at e
      subst e
      exact .inr (.inr ⟨_, rfl, h2 _ _ _ p g1.sr it_str⟩)
    · obtain ⟨a, vs, rfl, k1, k2⟩ := r.tup
      simp only [itemsOf, Option.some.injEq] at e
      subst e
      exact .inr (.inl ⟨a, rfl, ⟨vs, k1⟩, h2 _ _ _ p g1.sr (it_tup rs)⟩)
    · obtain ⟨a, vs, rfl, k1, k2⟩ := r.lst
      simp only [itemsOf, Option.some.injEq] at e
      subst e
      exact .inl ⟨a, rfl, ⟨vs, .of k1⟩, h2 _ _ _ p g1.sr (it_lst rs)⟩
  refine thn (h.run pins s σ H _ I q) fun v s1 ⟨x, H1, I1, r1, q1⟩ => ?_
  rcases q1 with ⟨a, e, ⟨xs, hq⟩, q⟩ | ⟨a, e, ⟨xs, hq⟩, q⟩ | ⟨z, e, q⟩
  · subst e
    cases r1
    obtain ⟨its, rv, p, hz⟩ := I1.list hq
    refine wpAny_pyIter_list p.isList ?_
    refine ⟨s1.heap.objs.size, [s1.heap.objs.size], _, _, H1, rfl, I1.kept (t' := s1.toks) fun b o e => Heap.get?_push_of_some _ e, turn_list a _, ⟨_, Heap.get?_push_size _ rfl, rfl, rfl⟩, fun b hb => ?_, q⟩
    have e : b = s1.heap.objs.size := by simpa using hb
    subst e
    exact I1.fpOk (Nat.le_refl _) (I1.hok.fresh (Nat.le_refl _))
  · subst e
    cases r1
    obtain ⟨its, rv, p, hz⟩ := I1.tuple hq
    refine wpAny_pyIter_tuple (show s1.heap.IsTuple a its.toArray from p) ?_
    refine ⟨s1.heap.objs.size, [s1.heap.objs.size], _, _, H1, rfl, I1.kept (t' := s1.toks) fun b o e => Heap.get?_push_of_some _ e, turn_tuple a _, ⟨_, Heap.get?_push_size _ rfl, rfl, rfl⟩, fun b hb => ?_, q⟩
    have e : b = s1.heap.objs.size := by simpa using hb
    subst e
    exact I1.fpOk (Nat.le_refl _) (I1.hok.fresh (Nat.le_refl _))
  · subst e
    obtain ⟨t, rfl⟩ := r1
    cases ha : z.cps.all (· < 128) with
    | true => exact wpAny_pyIter_ascii ha (pi_one (tk := s1.toks) I1 _ (turn_str _ z t _ (.inl rfl)) ⟨_, Heap.get?_push_size _ rfl, rfl, rfl⟩ q)
    | false => exact wpAny_pyIter_wide ha (pi_one (tk := s1.toks) I1 _ (turn_str _ z t _ (.inr rfl)) ⟨_, Heap.get?_push_size _ rfl, rfl, rfl⟩ q)
theorem PIb {tg e : Expr} {m : Env → M D} (h : PE X e (tE X.K (BR X.K) m)) : PI X tg e (tI X.K Ext (iOf m)) := PIs (fun _ _ _ _ _ r => r) (fun _ _ _ _ _ r _ _ e => r.ext e) h
theorem PIp {f : Bool} {tg e : Expr} {m : Env → M D} (h : PE X e (tE X.K (FR X.K f) m)) : PI X tg e (tI X.K ExtP (iOf m)) := PIs (fun _ _ _ _ _ r => .inl r.1) (fun _ _ _ _ _ r _ _ e => .inl (r.1.extP e)) h
/-- no iterator at all -/
theorem PIno {mk : MK} {tg e : Expr} : PI X tg e (tI X.K mk no) := ⟨fun pins s σ H R I w => by
  obtain ⟨G, ρ, st, g, hw⟩ := w
  exact hw.elim⟩
theorem PEno {rel : Rel} {e : Expr} : PE X e (tE X.K rel no) := ⟨fun pins s σ H R I w => by
  obtain ⟨G, ρ, st, g, hw⟩ := w
  exact hw.elim⟩
theorem PTno {e : Expr} : PT X e (tT X.K no) := ⟨fun pins s σ H R I w => by
  obtain ⟨G, ρ, st, g, hw⟩ := w
  exact hw.elim⟩

/-! ### what a form's soundness says -/
structure Snd (X : Cx) (f : Bool) (e : Expr) (M : Md) : Prop where
  s : PE X e (tE X.K (FR X.K f) M.s)
  b : PE X e (tE X.K (BR X.K) M.b)
  t : PT X e (tT X.K M.t)
  i : ∀ tg, PI X tg e (tI X.K Ext M.i)
theorem Snd.of {e : Expr} {f : Bool} {m : Env → M D} (hp : plainT e = true) (h : PE X e (tE X.K (FR X.K f) m)) : Snd X f e (.of m) :=
  ⟨h, PEb h, PTb hp (PEb h), fun _ => PIb (PEb h)⟩
end

/-! ### names -/
def sEq (a b : Str) : Bool := a.cps.toList == b.cps.toList
theorem sEq_eq {a b : Str} (h : sEq a b = true) : a = b := W.str_of_cps (by simpa [sEq] using h)
theorem sEq_beq (a b : Str) : (a == b) = sEq a b := by
  rw [Bool.eq_iff_iff, beq_iff_eq]
  exact ⟨fun e => by rw [e]; simp [sEq], sEq_eq⟩
def lk {α : Type} : List (Str × α) → Str → Option α
  | [], _ => none
  | p :: r, x => if sEq x p.1 then some p.2 else lk r x
theorem lk_eq {α : Type} : ∀ (l : List (Str × α)) (x : Str), l.lookup x = lk l x
  | [], _ => rfl
  | (y, a) :: r, x => by
    rw [List.lookup_cons, lk, sEq_beq]
    cases sEq x y with
    | true => rfl
    | false => exact lk_eq r x
def oddNames : List Str := ["__debug__", "__classdict__", "__name__"]
structure Sc where
  N : List Str
  sc : Scope
  fn : Str → Bool
  gl : List (Str × Nat)
  kl : List (Str × Nat × Nat × List Str × List Nat) := []
  /-- defs that give new lists; whether this one is to -/
  fr : Nat → Bool := fun _ => false
  me : Bool := false
  /-- texts that the module's top holds -/
  gc : List (Str × Nat × List Nat) := []
  /-- the package's errors that the module knows -/
  ec : List Nat := []
def visB (S : Sc) (x : Str) : Bool := match lk S.sc.names x with
  | some .local | some .cell | some .free => true
  | _ => false
def locB (S : Sc) (x : Str) : Bool := match lk S.sc.names x with
  | some .local => true
  | some .cell => S.fn x
  | _ => false
def glB (S : Sc) (x : Str) : Bool := match lk S.sc.names x with
  | some .globalImplicit => true
  | _ => false
def atB (S : Sc) (i : Nat) (x : Str) : Bool := match S.N[i]? with
  | some y => sEq y x
  | none => false
def evenB (x : Str) : Bool := oddNames.all fun y => !sEq x y
def bnames : List Str := ["len", "tuple", "list", "int", "sorted", "all", "any", "sum", "min", "max", "abs", "dict", "isinstance", "range", "enumerate", "zip", "str", "bool", "set", "LookupError", "ValueError", "super"]

/-- the promise of the i-th def -/
def spF (K : PySem.W.Frag) (n : Bool) (call : List D → M D) : Sp := fun vs H Q E => ∃ G st ds, StRep G H st ∧ (∀ a, G.O a → a ∉ G.C ∧ ∃ o, H a = some o) ∧ Reps K G.C (G.h H) vs ds ∧ wpX (call ds) st (Post (FR K n) G H Q) (PostX K G H E)
theorem passN {X : Cx} : Passes (L2.CX X.prog X.w) X E0 := fun _ _ _ _ _ _ _ h => by
  obtain ⟨_, _, _, _, _, _, _, _, _, _, _, _, q⟩ := h
  exact q.elim
structure CallOk (X : Cx) (n : Bool) (c : Wy.Ctx) (x : Str) (i : Nat) : Prop where
  ex : ∃ (f : Addr) (fd : FuncData) (ps : List Str) (k : Nat), FnOk X.prog X.w X.K X.mg X.base (L2.CX X.prog X.w) k f fd ps (spF X.K n (c.call i)) ∧ Room k X.A ∧ X.mg x = some (.ref f) ∧ PySem.W.keepIn X.K (.ref f) = true ∧ Binds X.K fd ps []
structure KwOk (X : Cx) (nw : Bool) (c : Wy.Ctx) (x : Str) (i n : Nat) (ks : List Str) (perm : List Nat) : Prop where
  ex : ∃ (f : Addr) (fd : FuncData) (ps : List Str) (k : Nat), FnOk X.prog X.w X.K X.mg X.base (L2.CX X.prog X.w) k f fd ps (spF X.K nw (c.call i)) ∧ Room k X.A ∧ X.mg x = some (.ref f) ∧ PySem.W.keepIn X.K (.ref f) = true ∧ KBinds X.K fd ps ks (gP n ks.length perm) (gP n ks.length perm)
structure Mt (X : Cx) (S : Sc) (c : Wy.Ctx) : Prop where
  hN : X.N = S.N
  nd : S.N.Nodup
  sc : X.env.scope = S.sc
  fn : X.fn = S.fn
  calm : X.calm = true
  un : X.A.units + 200 < cLine
  blt : ∀ x ∈ bnames, X.mg x = none
  fns : ∀ x i, lk S.gl x = some i → CallOk X (S.fr i) c x i
  kws : ∀ q ∈ S.kl, KwOk X (S.fr q.2.1) c q.1 q.2.1 q.2.2.1 q.2.2.2.1 q.2.2.2.2
  cst : ∀ q ∈ S.gc, (∃ t, X.mg q.1 = some (.str (Wy.S q.2.2) t)) ∧ c.glob q.2.1 = some (.str q.2.2)
section
variable {X : Cx} {S : Sc} {c : Wy.Ctx} {x : Str} {i : Nat}
theorem Mt.vis (m : Mt X S c) (h : visB S x = true) : Vis X.env.scope x := by
  unfold visB at h
  unfold Vis
  rw [m.sc, lk_eq]
  split at h <;> first | (rename_i e; rw [e]; simp; done) | (cases h; done)
theorem Mt.loc (m : Mt X S c) (h : locB S x = true) : L2.Loc X.env.scope x ∧ (X.fn x = true ∨ X.env.scope.names.lookup x = some .local) := by
  unfold locB at h
  unfold L2.Loc
  rw [m.sc, lk_eq, m.fn]
  split at h
  · rename_i e
    rw [e]
    simp
  · rename_i e
    rw [e]
    simp [h]
  · cases h
theorem Mt.gl (m : Mt X S c) (h : glB S x = true) : Gl X x := by
  unfold glB at h
  unfold Gl PySem.Env.kindOf
  rw [m.sc, lk_eq]
  split at h
  · assumption
  · cases h
theorem Mt.at_ (m : Mt X S c) (h : atB S i x = true) : X.N[i]? = some x := by
  unfold atB at h
  rw [m.hN]
  split at h
  · rename_i e
    rw [e, sEq_eq h]
  · cases h
theorem even_1 (h : evenB x = true) : (x == ("__debug__" : Str)) = false ∧ (x == ("__classdict__" : Str)) = false ∧ x ≠ ("__name__" : Str) := by
  unfold evenB oddNames at h
  simp only [List.all_cons, List.all_nil, Bool.and_true, Bool.and_eq_true, Bool.not_eq_true'] at h
  rw [sEq_beq, sEq_beq]
  refine ⟨h.1, h.2.1, fun e => ?_⟩
  have := h.2.2
  rw [e] at this
  simp [sEq] at this
end
end Wy

set_option Elab.async false
set_option linter.all false
set_option maxRecDepth 100000
set_option autoImplicit false
/-! WyMn: min, max of two texts. -/
namespace WyMn
open PySem PySem.Spec PyProof.Rows L2
section
variable {prog : Program} {w : World} {A : Around} {E : Value → Shared → Prop} {s : Shared}
def strAt (a b : Str) : Nat → Str := fun i => if i = 0 then a else b
theorem at_str {a b : Str} {t u : Tok} {i : Nat} {v : Value} (h : (#[Value.str a t, Value.str b u] : Array Value)[i]? = some v) : ∃ k, v = .str (strAt a b i) k := by
  match i with
  | 0 => simp at h; exact ⟨t, h.symm⟩
  | 1 => simp at h; exact ⟨u, h.symm⟩
  | i + 2 => simp at h
theorem cmp_lt (a b : Str) (t u : Tok) : CmpOf prog w A .Lt (fun i v => (#[Value.str a t, Value.str b u] : Array Value)[i]? = some v) (fun i j => decide ((strAt a b i).cps.toList < (strAt a b j).cps.toList)) := fun i j vi vj s Q E hi hj h => by
  obtain ⟨k, rfl⟩ := at_str hi
  obtain ⟨l, rfl⟩ := at_str hj
  exact PySem.P.lt_str h
theorem cmp_gt (a b : Str) (t u : Tok) : CmpOf prog w A .Gt (fun i v => (#[Value.str a t, Value.str b u] : Array Value)[i]? = some v) (fun i j => decide ((strAt a b j).cps.toList < (strAt a b i).cps.toList)) := fun i j vi vj s Q E hi hj h => by
  obtain ⟨k, rfl⟩ := at_str hi
  obtain ⟨l, rfl⟩ := at_str hj
  exact PySem.P.gt_str h
theorem min_two {a b : Str} {t u : Tok} {Q : Value → Shared → Prop} (hh : A.handled = none)
    (h : ∀ h' tk, (∀ c o, s.heap.get? c = some o → h'.get? c = some o) → Q (if b.cps.toList < a.cps.toList then .str b u else .str a t) { s with heap := h', toks := tk }) :
    wpAny (model prog w) A (call (.builtin "min") [.str a t, .str b u]) Q E s := by
  have hT : (s.heap.push { cls := .type "tuple", data := .seq #[.str a t, .str b u] }).IsTuple s.heap.objs.size #[.str a t, .str b u] := ⟨_, Heap.get?_push_size _ rfl, rfl, 0, rfl⟩
  refine call_min_two (wpAny_pyIter_tuple hT ?_)
  have hsz : (s.heap.push { cls := .type "tuple", data := .seq #[.str a t, .str b u] }).objs.size = s.heap.objs.size + 1 := Heap.size_push ..
  refine ⟨_, [_, s.heap.objs.size], [_], _, _, _, _, rfl, Walks.tuple (A := A.in1) hh _ s.heap.objs.size (by rw [hsz]; exact Nat.ne_of_lt (Nat.lt_succ_self _)) #[.str a t, .str b u],
    ⟨⟨_, Heap.get?_push_size _ rfl, rfl, rfl⟩, hT.push _⟩, fun c hc => ?_, by simp, cmp_lt a b t u, fun v h' tk hP hk => ?_⟩
  · show c < ((s.heap.push _).push _).objs.size
    rw [Heap.size_push, hsz]
    rcases List.mem_cons.mp hc with rfl | hc
    · rw [hsz]; exact Nat.lt_succ_self _
    · rcases List.mem_cons.mp hc with rfl | hc
      · exact Nat.lt_succ_of_lt (Nat.lt_succ_self _)
      · cases hc
  · have hold : ∀ c o, s.heap.get? c = some o → h'.get? c = some o := fun c o e => by
      refine hk c o (fun hm => ?_) (Heap.get?_push_of_some _ (Heap.get?_push_of_some _ e))
      rcases List.mem_cons.mp hm with e1 | hm
      · have := Heap.lt_size e; rw [e1, hsz] at this; exact Nat.lt_irrefl _ (Nat.lt_of_succ_lt this)
      · cases hm
    have := h h' tk hold
    have hv : v = if b.cps.toList < a.cps.toList then .str b u else .str a t := by
      have e : argBest (fun i j => decide ((strAt a b i).cps.toList < (strAt a b j).cps.toList)) 1 = if b.cps.toList < a.cps.toList then 1 else 0 := by simp [argBest, strAt]
      have hP' : (#[Value.str a t, Value.str b u] : Array Value)[argBest (fun i j => decide ((strAt a b i).cps.toList < (strAt a b j).cps.toList)) 1]? = some v := hP
      rw [e] at hP'
      split at hP'
      · rename_i hc
        rw [if_pos hc]
        simpa using hP'.symm
      · rename_i hc
        rw [if_neg hc]
        simpa using hP'.symm
    rw [hv]; exact this
theorem max_two {a b : Str} {t u : Tok} {Q : Value → Shared → Prop} (hh : A.handled = none)
    (h : ∀ h' tk, (∀ c o, s.heap.get? c = some o → h'.get? c = some o) → Q (if a.cps.toList < b.cps.toList then .str b u else .str a t) { s with heap := h', toks := tk }) :
    wpAny (model prog w) A (call (.builtin "max") [.str a t, .str b u]) Q E s := by
  have hT : (s.heap.push { cls := .type "tuple", data := .seq #[.str a t, .str b u] }).IsTuple s.heap.objs.size #[.str a t, .str b u] := ⟨_, Heap.get?_push_size _ rfl, rfl, 0, rfl⟩
  refine call_max_two (wpAny_pyIter_tuple hT ?_)
  have hsz : (s.heap.push { cls := .type "tuple", data := .seq #[.str a t, .str b u] }).objs.size = s.heap.objs.size + 1 := Heap.size_push ..
  refine ⟨_, [_, s.heap.objs.size], [_], _, _, _, _, rfl, Walks.tuple (A := A.in1) hh _ s.heap.objs.size (by rw [hsz]; exact Nat.ne_of_lt (Nat.lt_succ_self _)) #[.str a t, .str b u],
    ⟨⟨_, Heap.get?_push_size _ rfl, rfl, rfl⟩, hT.push _⟩, fun c hc => ?_, by simp, cmp_gt a b t u, fun v h' tk hP hk => ?_⟩
  · show c < ((s.heap.push _).push _).objs.size
    rw [Heap.size_push, hsz]
    rcases List.mem_cons.mp hc with rfl | hc
    · rw [hsz]; exact Nat.lt_succ_self _
    · rcases List.mem_cons.mp hc with rfl | hc
      · exact Nat.lt_succ_of_lt (Nat.lt_succ_self _)
      · cases hc
  · have hold : ∀ c o, s.heap.get? c = some o → h'.get? c = some o := fun c o e => by
      refine hk c o (fun hm => ?_) (Heap.get?_push_of_some _ (Heap.get?_push_of_some _ e))
      rcases List.mem_cons.mp hm with e1 | hm
      · have := Heap.lt_size e; rw [e1, hsz] at this; exact Nat.lt_irrefl _ (Nat.lt_of_succ_lt this)
      · cases hm
    have := h h' tk hold
    have hv : v = if a.cps.toList < b.cps.toList then .str b u else .str a t := by
      have e : argBest (fun i j => decide ((strAt a b j).cps.toList < (strAt a b i).cps.toList)) 1 = if a.cps.toList < b.cps.toList then 1 else 0 := by simp [argBest, strAt]
      have hP' : (#[Value.str a t, Value.str b u] : Array Value)[argBest (fun i j => decide ((strAt a b j).cps.toList < (strAt a b i).cps.toList)) 1]? = some v := hP
      rw [e] at hP'
      split at hP'
      · rename_i hc
        rw [if_pos hc]
        simpa using hP'.symm
      · rename_i hc
        rw [if_neg hc]
        simpa using hP'.symm
    rw [hv]; exact this
end
section
variable {X : Cx}
theorem call_min2 (hc : X.calm = true) : CallR X (.builtin "min") (fun xs H Q => (∃ i j, xs = [.int i, .int j] ∧ Q (.int (if j < i then j else i)) H) ∨ ∃ a b : Str, xs = [.str a, .str b] ∧ Q (.str (if b.cps.toList < a.cps.toList then b else a)) H) := by
  intro pins s σ H xs us Q I r h
  rcases h with h | ⟨a, b, rfl, q⟩
  · exact L2.call_min2 hc pins s σ H xs us Q I r h
  · obtain ⟨u, w', rfl, ⟨t, rfl⟩, ⟨t', rfl⟩⟩ := vals2 r
    refine min_two (I.ok.hd hc) fun h' tk k => ⟨_, H, I.kept k, ?_, q⟩
    by_cases hj : b.cps.toList < a.cps.toList
    · rw [if_pos hj, if_pos hj]; exact ⟨_, rfl⟩
    · rw [if_neg hj, if_neg hj]; exact ⟨_, rfl⟩
theorem call_max2 (hc : X.calm = true) : CallR X (.builtin "max") (fun xs H Q => (∃ i j, xs = [.int i, .int j] ∧ Q (.int (if j > i then j else i)) H) ∨ ∃ a b : Str, xs = [.str a, .str b] ∧ Q (.str (if a.cps.toList < b.cps.toList then b else a)) H) := by
  intro pins s σ H xs us Q I r h
  rcases h with h | ⟨a, b, rfl, q⟩
  · exact L2.call_max2 hc pins s σ H xs us Q I r h
  · obtain ⟨u, w', rfl, ⟨t, rfl⟩, ⟨t', rfl⟩⟩ := vals2 r
    refine max_two (I.ok.hd hc) fun h' tk k => ⟨_, H, I.kept k, ?_, q⟩
    by_cases hj : a.cps.toList < b.cps.toList
    · rw [if_pos hj, if_pos hj]; exact ⟨_, rfl⟩
    · rw [if_neg hj, if_neg hj]; exact ⟨_, rfl⟩
end
end WyMn

set_option Elab.async false
set_option linter.all false
set_option maxRecDepth 100000
set_option autoImplicit false
/-! WyY: one rule a form. -/
namespace Wy
open PySem PySem.Spec PyProof.Rows L2
section
variable {X : Cx} {c : Wy.Ctx} {S : Sc}
/-! ### constants, names -/
theorem snd_c {e : Expr} {f : Bool} {d : D} {v : V} (hp : plainT e = true) (h : PE X e (tC v)) (r : ∀ (G : Gh) (H : Hp), SRep X.K G H v d) (hm : mutD d = false) : Snd X f e (.of fun _ => M.pure d) :=
  Snd.of hp (PEimp h fun σ H Q w => by
    obtain ⟨G, ρ, st, g, hw⟩ := w
    exact fin2 (wp_pure hw) (Pres.refl G H) g g.sr.there (Same.refl H) (FR.flat (r _ _) hm))
def cstD : Const → Option D
  | .none => some .non
  | .bool b => some (.bl b)
  | .int i => some (.int i)
  | .str s => some (.str s.cps.toList)
  | _ => none
def kEq : D → D → Bool
  | .non, .non => true
  | .bl a, .bl b => a == b
  | .int a, .int b => a == b
  | .str a, .str b => a == b
  | _, _ => false
theorem snd_k {f : Bool} {k : Const} {kk : Nat} {pos : Pos} {d d' : D} (h : cstD k = some d') (hd : kEq d' d = true) : Snd X f (.Constant k kk pos) (.of fun _ => M.pure d) := by
  cases k <;> simp only [cstD, Option.some.injEq, reduceCtorEq] at h <;> subst h
  · cases d <;> first | exact absurd hd Bool.false_ne_true | skip
    exact snd_c rfl pe_non (fun _ _ => .non) rfl
  · cases d <;> first | exact absurd hd Bool.false_ne_true | skip
    simp only [kEq, beq_iff_eq] at hd
    subst hd
    exact snd_c rfl pe_bl (fun _ _ => .bl _) rfl
  · cases d <;> first | exact absurd hd Bool.false_ne_true | skip
    simp only [kEq, beq_iff_eq] at hd
    subst hd
    exact snd_c rfl pe_int (fun _ _ => .int _) rfl
  · cases d <;> first | exact absurd hd Bool.false_ne_true | skip
    rename_i s _
    simp only [kEq, beq_iff_eq] at hd
    subst hd
    refine snd_c rfl pe_str (fun _ _ => ?_) rfl
    have h : ∀ C H, Rep X.K C H (.str (Wy.S s.cps.toList)) (.str s.cps.toList) := fun C H => .str _
    rw [S_of] at h
    exact h _ _
theorem getS_er {K : PySem.W.Frag} {G : Gh} {σ : L2.St} {H : Hp} {ρ : Env} {i : Nat} {d : D} (r : ER K G σ H ρ) (e : getS ρ i = some d) : ∃ v, σ[i]? = some (some v) ∧ SRep K G H v d := by
  unfold getS at e
  cases q : ρ[i]? with
  | none => rw [q] at e; cases e
  | some o =>
    rw [q] at e
    cases o with
    | none => cases e
    | some p =>
      obtain ⟨d', b⟩ := p
      cases b with
      | true => cases e
      | false =>
        cases e
        obtain ⟨v, h1, h2⟩ := r i d false q
        exact ⟨v, h1, h2⟩
theorem getB_er {K : PySem.W.Frag} {G : Gh} {σ : L2.St} {H : Hp} {ρ : Env} {i : Nat} {d : D} (r : ER K G σ H ρ) (e : getB ρ i = some d) : ∃ v, σ[i]? = some (some v) ∧ BRep K G H v d := by
  unfold getB at e
  cases q : ρ[i]? with
  | none => rw [q] at e; cases e
  | some o =>
    rw [q] at e
    cases o with
    | none => cases e
    | some p =>
      obtain ⟨d', b⟩ := p
      cases e
      obtain ⟨v, h1, h2⟩ := r i d' b q
      cases b with
      | true => exact ⟨v, h1, .inr h2⟩
      | false => exact ⟨v, h1, .inl h2⟩
theorem snd_v (m : Mt X S c) {x : Str} {pos : Pos} {i : Nat} (h1 : atB S i x = true) (h2 : visB S x = true) (h3 : evenB x = true) : Snd X false (.Name x pos) (md c (.v i)) := by
  have p : PE X (.Name x pos) (tVar i) := pe_var (m.at_ h1) (m.vis h2) (even_1 h3).1 (even_1 h3).2.1
  have b : PE X (.Name x pos) (tE X.K (BR X.K) fun ρ => M.of (getB ρ i)) := PEimp p fun σ H Q w => by
    obtain ⟨G, ρ, st, g, hw⟩ := w
    obtain ⟨d, e, h⟩ := wp_of hw
    obtain ⟨v, q1, q2⟩ := getB_er g.er e
    exact ⟨v, q1, h v H G.C (Pres.refl G H) g.sr q2⟩
  refine ⟨PEimp p fun σ H Q w => ?_, b, PTb rfl b, fun _ => PIb b⟩
  obtain ⟨G, ρ, st, g, hw⟩ := w
  obtain ⟨d, e, h⟩ := wp_of hw
  obtain ⟨v, q1, q2⟩ := getS_er g.er e
  exact ⟨v, q1, h v H G.C (Pres.refl G H) g.sr q2.fr⟩

/-! ### rows -/
def notStar : Expr → Bool
  | .Starred _ _ => false
  | _ => true
theorem star1 {e : Expr} {es : List Expr} {env : PySem.Env} (h : notStar e = true) : starEach (e :: es) env = (false, eval e env) :: starEach es env := by
  cases e <;> first | rfl | exact absurd h Bool.false_ne_true
theorem no_stars {pos : Pos} {env : PySem.Env} : ∀ {es : List Expr}, (es.all notStar) = true → (backTo pos (starEach es env)).any (·.1) = false
  | [], _ => rfl
  | e :: es, h => by
    simp only [List.all_cons, Bool.and_eq_true] at h
    rw [star1 h.1]
    show (false || (backTo pos (starEach es env)).any (·.1)) = false
    rw [Bool.false_or]
    exact no_stars h.2
theorem row_nil : PA X [] (tR X.K (row [])) := PAimp pa_nil fun σ H Q w => by
  obtain ⟨G, ρ, st, g, hw⟩ := w
  exact wp_pure hw [] H G.C (Pres.refl G H) g.sr .nil
theorem row_cons {e : Expr} {es : List Expr} {f : Bool} {M0 : Md} {Ms : List Md} (hs : notStar e = true) (h : PE X e (tE X.K (FR X.K f) M0.s)) (hm : M0.m = mOf M0.s ∨ M0.m = no) (hr : PA X es (tR X.K (row Ms))) : PA X (e :: es) (tR X.K (row (M0 :: Ms))) := by
  refine PAimp (pa_cons h hr (star1 hs)) fun σ H Q w => ?_
  obtain ⟨G, ρ, st, g, hw⟩ := w
  unfold row at hw
  rcases hm with hm | hm
  · rw [hm] at hw
    refine go g (wp_bind hw) fun x st1 v H1 C1 p1 g1 r1 h1 => ?_
    refine goR g1 (wp_pure h1) fun ds st2 vs H2 C2 p2 g2 r2 h2 => ?_
    exact wp_pure h2 (v :: vs) H2 C2 (p1.trans p2 g.sr.there) g2.sr (.cons (r1.1.ext p2.ext) r2)
  · rw [hm] at hw
    exact (wp_bind hw).elim
theorem row_star {e : Expr} {es : List Expr} {p : Pos} {m : Env → M D} {Ms : List Md} (h : PE X e (tE X.K (BR X.K) m)) (hr : PA X es (tR X.K (row Ms))) :
    PA X (.Starred e p :: es) (tR X.K (row (⟨no, no, no, no, fun ρ => M.bind (m ρ) fun d => M.of (seqOf d)⟩ :: Ms))) := by
  refine PAimp (StX.pa_star h hr) fun σ H Q w => ?_
  obtain ⟨G, ρ, st, g, hw⟩ := w
  unfold row at hw
  refine go g (wp_bind hw) fun x st1 v H1 C1 p1 g1 r1 h1 => ?_
  obtain ⟨ys, e1, h2⟩ := wp_of h1
  have seq : ∃ a vs, v = .ref a ∧ (SqT X.K H1 a vs ∨ SqL X.K H1 a vs) ∧ Reps X.K C1 ((G.at C1).h H1) vs ys := by
    cases x <;> first | (simp [seqOf] at e1; done) | skip
    · obtain ⟨a, vs, rfl, k1, k2⟩ := r1.tup
      cases e1
      exact ⟨a, vs, rfl, .inl k1, k2⟩
    · obtain ⟨a, vs, rfl, k1, k2⟩ := r1.lst
      cases e1
      exact ⟨a, vs, rfl, .inr (.of k1), k2⟩
  obtain ⟨a, vs, rfl, k1, k2⟩ := seq
  refine ⟨a, vs, rfl, k1, goR g1 h2 fun ds st2 us H2 C2 p2 g2 r2 h3 => ?_⟩
  exact wp_pure h3 (vs ++ us) H2 C2 (p1.trans p2 g.sr.there) g2.sr (Reps.app r2 (SReps.ext p2.ext k2))
theorem pe_tupD {es : List Expr} {x1 : Nat} {pos : Pos} {t : TA} (h : PA X es t) : PE X (.Tuple es x1 pos) (fun σ H Q => t σ H fun xs H1 => xs.length ≤ sizeLine ∧ ∀ p ob, H1 p = none → ob.dict = none → Q (.ref p) (upd H1 p (.frz ob (.tup xs)))) := by
  refine ⟨fun pins s σ H Q I hq => ?_⟩
  refine wpAny_Tuple_spliced (thn (h.run pos pins s σ H _ I hq) fun us s1 ⟨xs, H1, I1, r, z, q⟩ => ⟨by rw [← r.length]; exact z, ?_⟩)
  have hf : H1 s1.heap.objs.size = none := I1.hok.fresh (Nat.le_refl _)
  refine ⟨.ref s1.heap.objs.size, _, I1.laid (t' := s1.toks) (o := .frz { cls := .type "tuple", data := .seq us.toArray } (.tup xs)) (fun b u e => Heap.get?_push_of_some _ e) (Nat.le_refl _) ?_, rfl, q _ _ hf rfl⟩
  exact ⟨Heap.get?_push_size _ rfl, z, us, r, ⟨_, Heap.get?_push_size _ rfl, rfl, _, rfl⟩⟩
theorem snd_tup {es : List Expr} {x1 : Nat} {pos : Pos} {f : Bool} {Ms : List Md} (h : PA X es (tR X.K (row Ms))) : Snd X f (.Tuple es x1 pos) (.of fun ρ => M.bind (row Ms ρ) fun ds => M.of ((short ds).map .tup)) :=
  Snd.of rfl (PEimp (pe_tupD h) fun σ H Q w => by
    obtain ⟨G, ρ, st, g, hw⟩ := w
    refine goR g hw fun ds st1 vs H1 C1 p1 g1 r1 h1 => ?_
    obtain ⟨d, e, h2⟩ := wp_of h1
    obtain ⟨ys, e1, e2⟩ := Option.map_eq_some_iff.mp e
    obtain ⟨e3, e4⟩ := short_ok e1
    subst e2 e3
    exact ⟨by rw [r1.len]; exact e4, fun p ob hp hn => fin2 h2 p1 g1 g.sr.there (same_new hp) (FR.flat (new_tup g1.hidden hp hn r1) rfl)⟩)
theorem snd_lst {es : List Expr} {pos : Pos} {f : Bool} {Ms : List Md} (h : PA X es (tR X.K (row Ms))) : Snd X f (.List es pos) (.of fun ρ => M.bind (row Ms ρ) fun ds => M.of ((short ds).map .lst)) :=
  Snd.of rfl (PEimp (pe_lst h) fun σ H Q w => by
    obtain ⟨G, ρ, st, g, hw⟩ := w
    refine goR g hw fun ds st1 vs H1 C1 p1 g1 r1 h1 => ?_
    obtain ⟨d, e, h2⟩ := wp_of h1
    obtain ⟨ys, e1, e2⟩ := Option.map_eq_some_iff.mp e
    obtain ⟨e3, e4⟩ := short_ok e1
    subst e2 e3
    exact ⟨by rw [r1.len]; exact e4, fun p hp => fin2 h2 p1 g1 g.sr.there (same_new hp) (new_lst g1.hidden hp r1).fr⟩)

/-! ### calls of the module's defs -/
theorem spF_go {K : PySem.W.Frag} {G : Gh} {σ : L2.St} {H H1 : Hp} {ρ : Env} {st st1 : Wy.St} {C1 : List Addr} {Q : VK} {vs : List V} {ds : List D} {call : List D → M D} {E : XK} (g : Good K G σ H ρ st) (p : Pres G C1 H H1) (g1 : Good K (G.at C1) σ H1 ρ st1)
    (r : Reps K C1 ((G.at C1).h H1) vs ds) {n : Bool} (h : wp (call ds) st1 (Post (FR K n) G H Q)) : spF K n call vs H1 Q E :=
  ⟨G.at C1, st1, ds, g1.sr, g1.hid, r, wp_X <| wp_mono h fun d st2 k v H2 C2 p2 s2 r2 => k v H2 C2 (p.trans p2 g.sr.there) s2 (r2.start (p.still g1.sr))⟩
theorem snd_call (m : Mt X S c) {x : Str} {p pos : Pos} {es : List Expr} {Ms : List Md} {i : Nat} (hl : lk S.gl x = some i) (hg : glB S x = true) (he : evenB x = true) (hs : es.all notStar = true) (hM : es = [] → Ms = []) (h : PA X es (tR X.K (row Ms))) :
    Snd X (S.fr i) (.Call (.Name x p) es [] pos) (.of fun ρ => M.bind (row Ms ρ) fun ds => c.call i ds) := by
  obtain ⟨f, fd, ps, k, F, hr, hm, hk, hb⟩ := (m.fns x i hl).ex
  refine Snd.of rfl ?_
  cases es with
  | nil =>
    refine PEimp (pe_call0 (E := E0) F hr (m.gl hg) hm hk hb .nil passN (even_1 he).1) fun σ H Q w => ?_
    obtain ⟨G, ρ, st, g, hw⟩ := w
    rw [hM rfl] at hw
    exact spF_go (E := E0) (vs := []) (ds := []) g (Pres.refl G H) g .nil (wp_pure (wp_bind hw))
  | cons e es =>
    simp only [List.all_cons, Bool.and_eq_true] at hs
    refine PEimp (pe_call (E := E0) F hr (m.gl hg) hm hk hb .nil passN h (even_1 he).1 (star1 hs.1) (no_stars hs.2)) fun σ H Q w => ?_
    obtain ⟨G, ρ, st, g, hw⟩ := w
    refine goR g hw fun ds st1 vs H1 C1 p1 g1 r1 h1 => ?_
    rw [List.append_nil]
    exact spF_go g p1 g1 r1 h1

/-! ### calls of built-ins -/
def b1N : B1 → Str
  | .len => "len" | .tuple => "tuple" | .list => "list" | .int => "int" | .sorted => "sorted"
  | .all => "all" | .any => "any" | .sum => "sum" | .min => "min" | .max => "max"
  | .abs => "abs" | .dict => "dict"
theorem b1N_even (op : B1) : b1N op ∈ bnames := by cases op <;> simp [b1N, bnames]
theorem boot_b1 (op : B1) : bootBuiltins (b1N op) = some (b1V op) := by cases op <;> decide +kernel
theorem even_b1 (op : B1) : evenB (b1N op) = true := by cases op <;> decide +kernel
theorem pe_b1C (m : Mt X S c) (op : B1) {p pos : Pos} {e : Expr} {te : TE} (hg : glB S (b1N op) = true) (hs : notStar e = true) (h : PE X e te) : PE X (.Call (.Name (b1N op) p) [e] [] pos) (tCB (rB1 X.K op) (tCons te tNil)) := by
  have hm := m.blt _ (b1N_even op)
  have hv := boot_b1 op
  have he := even_1 (even_b1 op)
  have hr := cr_b1 (X := X) m.calm m.un op
  have G := m.gl hg
  cases op
  all_goals first
    | exact pe_callB hr G hm hv (pa_cons h pa_nil (star1 hs)) he.2.2 he.1 (star1 hs)
    | exact pe_callTy hr G hm hv (pa_cons h pa_nil (star1 hs)) he.2.2 he.1 (star1 hs)
theorem snd_b1 (m : Mt X S c) (op : B1) {p pos : Pos} {e : Expr} {f : Bool} {mb : Env → M D} (hg : glB S (b1N op) = true) (hs : notStar e = true) (h : PE X e (tE X.K (BR X.K) mb)) :
    Snd X f (.Call (.Name (b1N op) p) [e] [] pos) (.of fun ρ => M.bind (mb ρ) fun d => M.of (doB1 op d)) :=
  Snd.of rfl (PEimp (pe_b1C m op hg hs h) fun σ H Q w => by
    obtain ⟨G, ρ, st, g, hw⟩ := w
    refine go g hw fun x st1 v H1 C1 p1 g1 r1 h1 => ?_
    obtain ⟨d, e, h2⟩ := wp_of h1
    exact ⟨G.at C1, v, x, d, rfl, g1.hidden, r1, e, fun u H' s r => fin2 h2 p1 g1 g.sr.there s r⟩)
def b2N : B2 → Str
  | .min => "min" | .max => "max"
theorem snd_b2 (m : Mt X S c) (op : B2) {p pos : Pos} {a b : Expr} {f fa fb : Bool} {ma mb : Env → M D} (hg : glB S (b2N op) = true) (hs : notStar a = true) (hs2 : notStar b = true) (ha : PE X a (tE X.K (FR X.K fa) ma)) (hb : PE X b (tE X.K (FR X.K fb) mb)) :
    Snd X f (.Call (.Name (b2N op) p) [a, b] [] pos) (.of fun ρ => M.bind (ma ρ) fun x => M.bind (mb ρ) fun y => M.of (doB2 op x y)) := by
  have hpl : (backTo pos (starEach [b] X.env)).any (·.1) = false := no_stars (by simp [hs2])
  have pa := pa_cons ha (pa_cons hb pa_nil (star1 hs2)) (star1 hs)
  refine Snd.of rfl ?_
  cases op with
  | min =>
    refine PEimp (pe_callB (WyMn.call_min2 m.calm) (m.gl hg) (m.blt _ (by simp [bnames, b2N])) boot_min pa (by decide) (by decide) (star1 hs) hpl) fun σ H Q w => ?_
    obtain ⟨G, ρ, st, g, hw⟩ := w
    refine go g hw fun x st1 v H1 C1 p1 g1 r1 h1 => go g1 h1 fun y st2 u H2 C2 p2 g2 r2 h2 => ?_
    obtain ⟨d, e, h3⟩ := wp_of h2
    cases x <;> cases y <;> first | (simp [doB2] at e; done) | skip
    · have e1 := BRep.int (.inl r1.1)
      have e2 := BRep.int (.inl r2.1)
      subst e1 e2
      simp only [doB2, Option.some.injEq] at e
      subst e
      exact .inl ⟨_, _, rfl, fin2 h3 (p1.trans p2 g.sr.there) g2 g.sr.there (Same.refl _) (FR.flat (.int _) rfl)⟩
    · have e1 := BRep.str (.inl r1.1)
      have e2 := BRep.str (.inl r2.1)
      subst e1 e2
      simp only [doB2, Option.some.injEq] at e
      subst e
      refine .inr ⟨_, _, rfl, fin2 h3 (p1.trans p2 g.sr.there) g2 g.sr.there (Same.refl _) (FR.flat ?_ rfl)⟩
      rw [slt_eq, S_list, S_list]
      split
      · rename_i hh
        rw [if_pos (by simpa using hh)]
        exact .str _
      · rename_i hh
        rw [if_neg (by simpa using hh)]
        exact .str _
  | max =>
    refine PEimp (pe_callB (WyMn.call_max2 m.calm) (m.gl hg) (m.blt _ (by simp [bnames, b2N])) boot_max pa (by decide) (by decide) (star1 hs) hpl) fun σ H Q w => ?_
    obtain ⟨G, ρ, st, g, hw⟩ := w
    refine go g hw fun x st1 v H1 C1 p1 g1 r1 h1 => go g1 h1 fun y st2 u H2 C2 p2 g2 r2 h2 => ?_
    obtain ⟨d, e, h3⟩ := wp_of h2
    cases x <;> cases y <;> first | (simp [doB2] at e; done) | skip
    · have e1 := BRep.int (.inl r1.1)
      have e2 := BRep.int (.inl r2.1)
      subst e1 e2
      simp only [doB2, Option.some.injEq] at e
      subst e
      exact .inl ⟨_, _, rfl, fin2 h3 (p1.trans p2 g.sr.there) g2 g.sr.there (Same.refl _) (FR.flat (.int _) rfl)⟩
    · have e1 := BRep.str (.inl r1.1)
      have e2 := BRep.str (.inl r2.1)
      subst e1 e2
      simp only [doB2, Option.some.injEq] at e
      subst e
      refine .inr ⟨_, _, rfl, fin2 h3 (p1.trans p2 g.sr.there) g2 g.sr.there (Same.refl _) (FR.flat ?_ rfl)⟩
      rw [slt_eq, S_list, S_list]
      split
      · rename_i hh
        rw [if_pos (by simpa using hh)]
        exact .str _
      · rename_i hh
        rw [if_neg (by simpa using hh)]
        exact .str _

/-! ### operators -/
theorem snd_bin (op : Bin) {pos : Pos} {a b : Expr} {f : Bool} {ma mb : Env → M D} (ha : PE X a (tE X.K (BR X.K) ma)) (hb : PE X b (tE X.K (BR X.K) mb)) :
    Snd X f (.BinOp a (binOp op) b pos) (.of fun ρ => M.bind (ma ρ) fun x => M.bind (mb ρ) fun y => M.of (doBin op x y)) :=
  Snd.of rfl (PEimp (pe_op (op_bin op) ha hb) fun σ H Q w => by
    obtain ⟨G, ρ, st, g, hw⟩ := w
    refine go g hw fun x st1 v H1 C1 p1 g1 r1 h1 => go g1 h1 fun y st2 u H2 C2 p2 g2 r2 h2 => ?_
    obtain ⟨d, e, h3⟩ := wp_of h2
    exact ⟨G.at C2, x, y, d, g2.hidden, r1.ext p2.ext, r2, e, fun z H' s r => fin2 h3 (p1.trans p2 g.sr.there) g2 g.sr.there s r⟩)
theorem snd_neg {pos : Pos} {a : Expr} {f fa : Bool} {ma : Env → M D} (ha : PE X a (tE X.K (FR X.K fa) ma)) :
    Snd X f (.UnaryOp .USub a pos) (.of fun ρ => M.bind (ma ρ) fun x => M.of ((intOf x).map fun i => .int (-i))) :=
  Snd.of rfl (PEimp (pe_un un_neg ha) fun σ H Q w => by
    obtain ⟨G, ρ, st, g, hw⟩ := w
    refine go g hw fun x st1 v H1 C1 p1 g1 r1 h1 => ?_
    obtain ⟨d, e, h3⟩ := wp_of h1
    cases x <;> first | (simp [intOf] at e; done) | skip
    have e1 := BRep.int (.inl r1.1)
    subst e1
    simp only [intOf, Option.map_some, Option.some.injEq] at e
    subst e
    exact ⟨_, rfl, fin2 h3 p1 g1 g.sr.there (Same.refl _) (FR.flat (.int _) rfl)⟩)
theorem snd_cmp (m : Mt X S c) (op : Cmp) {pos : Pos} {a b : Expr} {f : Bool} {ma mb : Env → M D} (hm : behindInMarks (cmpOp op) b = false) (ha : PE X a (tE X.K (BR X.K) ma)) (hb : PE X b (tE X.K (BR X.K) mb)) :
    Snd X f (.Compare a [cmpOp op] [b] pos) (.of fun ρ => M.bind (ma ρ) fun x => M.bind (mb ρ) fun y => M.of ((doCmp op x y).map .bl)) := by
  have h : PE X (.Compare a [cmpOp op] [b] pos) (tE X.K (FR X.K f) fun ρ => M.bind (ma ρ) fun x => M.bind (mb ρ) fun y => M.of ((doCmp op x y).map .bl)) :=
    PEimp (pe_cmpR (op_cmp op m.un) ha hb hm) fun σ H Q w => by
      obtain ⟨G, ρ, st, g, hw⟩ := w
      refine go g hw fun x st1 v H1 C1 p1 g1 r1 h1 => go g1 h1 fun y st2 u H2 C2 p2 g2 r2 h2 => ?_
      obtain ⟨d, e, h3⟩ := wp_of h2
      obtain ⟨k, e1, e2⟩ := Option.map_eq_some_iff.mp e
      subst e2
      exact ⟨G.at C2, x, y, k, r1.ext p2.ext, r2, e1, fin2 h3 (p1.trans p2 g.sr.there) g2 g.sr.there (Same.refl _) (FR.flat (.bl _) rfl)⟩
  refine ⟨h, PEb h, PTimp (pt_cmpR (op_cmp op m.un) ha hb hm) fun σ H Q w => ?_, fun _ => PIb (PEb h)⟩
  obtain ⟨G, ρ, st, g, hw⟩ := w
  have hw := wp_bind hw
  refine go g hw fun x st1 v H1 C1 p1 g1 r1 h1 => go g1 h1 fun y st2 u H2 C2 p2 g2 r2 h2 => ?_
  obtain ⟨d, e, h3⟩ := wp_of h2
  obtain ⟨k, e1, e2⟩ := Option.map_eq_some_iff.mp e
  subst e2
  obtain ⟨k', e3, h4⟩ := wp_of h3
  cases e3
  exact ⟨G.at C2, x, y, k, r1.ext p2.ext, r2, e1, k, rfl, h4 H2 C2 (p1.trans p2 g.sr.there) g2.sr⟩
theorem snd_chain (m : Mt X S c) (op op' : Cmp) {pos : Pos} {a b e : Expr} {f : Bool} {ma mb me : Env → M D} (hm : lastMarks [cmpOp op, cmpOp op'] [b, e] = false) (ha : PE X a (tE X.K (BR X.K) ma)) (hb : PE X b (tE X.K (BR X.K) mb)) (he : PE X e (tE X.K (BR X.K) me)) :
    Snd X f (.Compare a [cmpOp op, cmpOp op'] [b, e] pos) (.of fun ρ => M.bind (ma ρ) fun x => M.bind (mb ρ) fun y => M.bind (M.of (doCmp op x y)) fun t => if t then M.bind (me ρ) fun z => M.of ((doCmp op' y z).map .bl) else M.pure (.bl false)) := by
  have h : PE X (.Compare a [cmpOp op, cmpOp op'] [b, e] pos) (tE X.K (FR X.K f) fun ρ => M.bind (ma ρ) fun x => M.bind (mb ρ) fun y => M.bind (M.of (doCmp op x y)) fun t => if t then M.bind (me ρ) fun z => M.of ((doCmp op' y z).map .bl) else M.pure (.bl false)) :=
    PEimp (pe_chain (op_cmp op m.un) (op_cmp op' m.un) ha hb he hm) fun σ H Q w => by
      obtain ⟨G, ρ, st, g, hw⟩ := w
      refine go g hw fun x st1 v H1 C1 p1 g1 r1 h1 => go g1 h1 fun y st2 u H2 C2 p2 g2 r2 h2 => ?_
      obtain ⟨k, e1, h3⟩ := wp_of (wp_bind h2)
      refine ⟨G.at C2, x, y, k, r1.ext p2.ext, r2, e1, k, rfl, ?_⟩
      cases k with
      | false => exact fin2 (wp_pure h3) (p1.trans p2 g.sr.there) g2 g.sr.there (Same.refl _) (FR.flat (.bl _) rfl)
      | true =>
        refine go g2 h3 fun z st3 q H3 C3 p3 g3 r3 h4 => ?_
        obtain ⟨d, e, h5⟩ := wp_of h4
        obtain ⟨k, e1, e2⟩ := Option.map_eq_some_iff.mp e
        subst e2
        exact ⟨G.at C3, y, z, k, r2.ext p3.ext, r3, e1, fin2 h5 ((p1.trans p2 g.sr.there).trans p3 g.sr.there) g3 g.sr.there (Same.refl _) (FR.flat (.bl _) rfl)⟩
  refine ⟨h, PEb h, PTimp (pt_chain (op_cmp op m.un) (op_cmp op' m.un) ha hb he hm) fun σ H Q w => ?_, fun _ => PIb (PEb h)⟩
  obtain ⟨G, ρ, st, g, hw⟩ := w
  have hw := wp_bind hw
  refine go g hw fun x st1 v H1 C1 p1 g1 r1 h1 => go g1 h1 fun y st2 u H2 C2 p2 g2 r2 h2 => ?_
  obtain ⟨k, e1, h3⟩ := wp_of (wp_bind h2)
  refine ⟨G.at C2, x, y, k, r1.ext p2.ext, r2, e1, k, rfl, ?_⟩
  cases k with
  | false =>
    obtain ⟨k', e3, h4⟩ := wp_of (wp_pure h3)
    cases e3
    exact ⟨false, rfl, h4 H2 C2 (p1.trans p2 g.sr.there) g2.sr⟩
  | true =>
    refine go g2 h3 fun z st3 q H3 C3 p3 g3 r3 h4 => ?_
    obtain ⟨d, e, h5⟩ := wp_of h4
    obtain ⟨k, e1, e2⟩ := Option.map_eq_some_iff.mp e
    subst e2
    obtain ⟨k', e3, h6⟩ := wp_of h5
    cases e3
    exact ⟨G.at C3, y, z, k, r2.ext p3.ext, r3, e1, k, rfl, h6 H3 C3 ((p1.trans p2 g.sr.there).trans p3 g.sr.there) g3.sr⟩

/-! ### and, or, not, if-else -/
theorem later {K : PySem.W.Frag} {f fb : Bool} (hf : f = true → fb = true) {G : Gh} {σ : L2.St} {H H1 : Hp} {ρ : Env} {st st1 : Wy.St} {C1 : List Addr} {Q : VK} {mm : Env → M D} (g : Good K G σ H ρ st) (p : Pres G C1 H H1) (g1 : Good K (G.at C1) σ H1 ρ st1)
    (h : wp (mm ρ) st1 (Post (FR K f) G H Q)) : tE K (FR K fb) mm σ H1 Q :=
  ⟨G.at C1, ρ, st1, g1, wp_mono h fun d st2 k v H2 C2 p2 s2 r2 => k v H2 C2 (p.trans p2 g.sr.there) s2 ⟨r2.1, fun a b => (r2.2 (hf a) b).start (p.still g1.sr)⟩⟩
theorem laterT {K : PySem.W.Frag} {G : Gh} {σ : L2.St} {H H1 : Hp} {ρ : Env} {st st1 : Wy.St} {C1 : List Addr} {Q : Bool → Hp → Prop} {mm : Env → M Bool} (g : Good K G σ H ρ st) (p : Pres G C1 H H1) (g1 : Good K (G.at C1) σ H1 ρ st1)
    (h : wp (mm ρ) st1 fun b st' => ∀ H' C', Pres G C' H H' → StRep (G.at C') H' st' → Q b H') : tT K mm σ H1 Q :=
  ⟨G.at C1, ρ, st1, g1, wp_mono h fun d st2 k H2 C2 p2 s2 => k H2 C2 (p.trans p2 g.sr.there) s2⟩
theorem ptPw {op : BoolOp} {vs : List Expr} {pos : Pos} {t : TT} (h : PT X (.BoolOp op vs pos) t) : PW X (.BoolOp op vs pos) t := ⟨fun wh pins s σ H Q I w => h.run pins s σ H Q I w⟩
theorem and_s {a : Expr} {b : Expr} {rest : List Expr} {pos : Pos} {fa fb : Bool} {A B : Env → M D} (ha : PE X a (tE X.K (FR X.K fa) A)) (hb : PE X (.BoolOp .And (b :: rest) pos) (tE X.K (FR X.K fb) B)) :
    PE X (.BoolOp .And (a :: b :: rest) pos) (tE X.K (FR X.K (fa && fb)) fun ρ => M.bind (A ρ) fun x => M.bind (M.of (truth x)) fun t => if t then B ρ else M.pure x) :=
  PEimp (pe_andT ha hb) fun σ H Q w => by
    obtain ⟨G, ρ, st, g, hw⟩ := w
    refine go g hw fun x st1 v H1 C1 p1 g1 r1 h1 => ?_
    obtain ⟨k, e1, h3⟩ := wp_of (wp_bind h1)
    refine ⟨k, truV (.inl r1.1) e1, ?_⟩
    cases k with
    | false => exact wp_pure h3 v H1 C1 p1 g1.sr ⟨r1.1, fun z => r1.2 (Bool.and_eq_true_iff.mp z).1⟩
    | true => exact later (fun z => (Bool.and_eq_true_iff.mp z).2) g p1 g1 h3
theorem or_s {a : Expr} {b : Expr} {rest : List Expr} {pos : Pos} {fa fb : Bool} {A B : Env → M D} (ha : PE X a (tE X.K (FR X.K fa) A)) (hb : PE X (.BoolOp .Or (b :: rest) pos) (tE X.K (FR X.K fb) B)) :
    PE X (.BoolOp .Or (a :: b :: rest) pos) (tE X.K (FR X.K (fa && fb)) fun ρ => M.bind (A ρ) fun x => M.bind (M.of (truth x)) fun t => if t then M.pure x else B ρ) :=
  PEimp (pe_orT ha hb) fun σ H Q w => by
    obtain ⟨G, ρ, st, g, hw⟩ := w
    refine go g hw fun x st1 v H1 C1 p1 g1 r1 h1 => ?_
    obtain ⟨k, e1, h3⟩ := wp_of (wp_bind h1)
    refine ⟨k, truV (.inl r1.1) e1, ?_⟩
    cases k with
    | true => exact wp_pure h3 v H1 C1 p1 g1.sr ⟨r1.1, fun z => r1.2 (Bool.and_eq_true_iff.mp z).1⟩
    | false => exact later (fun z => (Bool.and_eq_true_iff.mp z).2) g p1 g1 h3
theorem and_t {a : Expr} {b : Expr} {rest : List Expr} {pos : Pos} {A B : Env → M Bool} (ha : PT X a (tT X.K A)) (hb : PW X (.BoolOp .And (b :: rest) pos) (tT X.K B)) :
    PT X (.BoolOp .And (a :: b :: rest) pos) (tT X.K fun ρ => M.bind (A ρ) fun t => if t then B ρ else M.pure false) :=
  PTimp (pw_and ha hb).pt fun σ H Q w => by
    obtain ⟨G, ρ, st, g, hw⟩ := w
    refine goT g hw fun k st1 H1 C1 p1 g1 h3 => ?_
    cases k with
    | false => exact wp_pure h3 H1 C1 p1 g1.sr
    | true => exact laterT g p1 g1 h3
theorem or_t {a : Expr} {b : Expr} {rest : List Expr} {pos : Pos} {A B : Env → M Bool} (ha : PT X a (tT X.K A)) (hb : PW X (.BoolOp .Or (b :: rest) pos) (tT X.K B)) :
    PT X (.BoolOp .Or (a :: b :: rest) pos) (tT X.K fun ρ => M.bind (A ρ) fun t => if t then M.pure true else B ρ) :=
  PTimp (pw_or ha hb).pt fun σ H Q w => by
    obtain ⟨G, ρ, st, g, hw⟩ := w
    refine goT g hw fun k st1 H1 C1 p1 g1 h3 => ?_
    cases k with
    | true => exact wp_pure h3 H1 C1 p1 g1.sr
    | false => exact laterT g p1 g1 h3
theorem snd_and {a b : Expr} {rest : List Expr} {pos : Pos} {fa fb : Bool} {ia ib : IE} (ha : Snd X fa a (md c ia)) (hb : Snd X fb (.BoolOp .And (b :: rest) pos) (md c ib)) : Snd X (fa && fb) (.BoolOp .And (a :: b :: rest) pos) (md c (.and ia ib)) :=
  have h := and_s ha.s hb.s
  ⟨h, PEb h, and_t ha.t (ptPw hb.t), fun _ => PIb (PEb h)⟩
theorem snd_or {a b : Expr} {rest : List Expr} {pos : Pos} {fa fb : Bool} {ia ib : IE} (ha : Snd X fa a (md c ia)) (hb : Snd X fb (.BoolOp .Or (b :: rest) pos) (md c ib)) : Snd X (fa && fb) (.BoolOp .Or (a :: b :: rest) pos) (md c (.or ia ib)) :=
  have h := or_s ha.s hb.s
  ⟨h, PEb h, or_t ha.t (ptPw hb.t), fun _ => PIb (PEb h)⟩
/-- the last of a row of and, or -/
theorem snd_one {op : BoolOp} {a : Expr} {pos : Pos} {f : Bool} {M0 : Md} (ha : Snd X f a M0) : Snd X f (.BoolOp op [a] pos) M0 :=
  ⟨pe_one ha.s, pe_one ha.b, by cases op with | And => exact (pw_and1 ha.t).pt | Or => exact (pw_or1 ha.t).pt, fun tg => ⟨fun pins s σ H R I w => BoolOp_one ((ha.i tg).run pins s σ H R I w)⟩⟩
theorem snd_not {a : Expr} {pos : Pos} {fa f : Bool} {ia : IE} (ha : Snd X fa a (md c ia)) : Snd X f (.UnaryOp .Not a pos) (md c (.not ia)) := by
  have h : PE X (.UnaryOp .Not a pos) (tE X.K (FR X.K f) fun ρ => M.bind ((md c ia).b ρ) fun x => M.bind (M.of (truth x)) fun t => M.pure (.bl (!t))) := by
    refine ⟨fun pins s σ H Q I w => ?_⟩
    obtain ⟨G, ρ, st, g, hw⟩ := w
    have q : tE X.K (BR X.K) (md c ia).b σ H fun v H1 => ∃ k, TruV X.K v H1 k ∧ Q (.bl (!k)) H1 := go g hw fun x st1 v H1 C1 p1 g1 r1 h1 => by
      obtain ⟨k, e1, h3⟩ := wp_of (wp_bind h1)
      exact ⟨k, truV r1 e1, fin2 (wp_pure h3) p1 g1 g.sr.there (Same.refl _) (FR.flat (.bl _) rfl)⟩
    refine UnaryOp_ (thn (ha.b.run pins s σ H _ I q) fun v s1 ⟨x, H1, I1, r1, k, q1, q2⟩ => ?_)
    refine not_of (thn (tru_ok pins s1 σ H1 x v (fun b H2 => Q (.bl (!b)) H2) I1 r1 ⟨k, q1, q2⟩) fun b s2 ⟨H2, I2, q3⟩ => ?_)
    exact ⟨.bl (!b), H2, I2, rfl, q3⟩
  refine ⟨h, PEb h, PTimp (pt_not ha.t) fun σ H Q w => ?_, fun _ => PIno⟩
  obtain ⟨G, ρ, st, g, hw⟩ := w
  exact goT g hw fun k st1 H1 C1 p1 g1 h3 => wp_pure h3 H1 C1 p1 g1.sr
theorem snd_ite {e a b : Expr} {pos : Pos} {fe fa fb : Bool} {ie ia ib : IE} (he : Snd X fe e (md c ie)) (ha : Snd X fa a (md c ia)) (hb : Snd X fb b (md c ib)) : Snd X (fa && fb) (.IfExp e a b pos) (md c (.ite ie ia ib)) := by
  have h : PE X (.IfExp e a b pos) (tE X.K (FR X.K (fa && fb)) fun ρ => M.bind ((md c ie).t ρ) fun t => if t then (md c ia).s ρ else (md c ib).s ρ) :=
    PEimp (pe_ifExp he.t ha.s hb.s) fun σ H Q w => by
      obtain ⟨G, ρ, st, g, hw⟩ := w
      refine goT g hw fun k st1 H1 C1 p1 g1 h3 => ?_
      cases k with
      | true => exact later (fun z => (Bool.and_eq_true_iff.mp z).1) g p1 g1 h3
      | false => exact later (fun z => (Bool.and_eq_true_iff.mp z).2) g p1 g1 h3
  refine ⟨h, PEb h, ⟨fun pins s σ H Q I w => ?_⟩, fun _ => PIb (PEb h)⟩
  obtain ⟨G, ρ, st, g, hw⟩ := w
  have q : tT X.K (md c ie).t σ H fun k H1 => if k = true then tT X.K (md c ia).t σ H1 Q else tT X.K (md c ib).t σ H1 Q := goT g hw fun k st1 H1 C1 p1 g1 h3 => by
    cases k with
    | true => exact laterT g p1 g1 h3
    | false => exact laterT g p1 g1 h3
  show wpAny _ _ (do if ← isTrue e X.env (eval e X.env) then isTrue a X.env (eval a X.env) else isTrue b X.env (eval b X.env)) _ _ _
  refine wpAny_bind (thn (he.t.run pins s σ H _ I q) fun k s1 ⟨H1, I1, q1⟩ => ?_)
  cases k with
  | true => exact ha.t.run pins s1 σ H1 Q I1 q1
  | false => exact hb.t.run pins s1 σ H1 Q I1 q1
end
end Wy

set_option Elab.async false
set_option linter.all false
set_option maxRecDepth 100000
set_option autoImplicit false
/-! WyMd: min(x, default=None). -/
namespace Wy
open PySem PySem.Spec PyProof.Rows L2
def rMn0 (K : PySem.W.Frag) : List V → List V → Hp → VK → Prop := fun xs zs H Q => ∃ G x dx d, xs = [x] ∧ zs = [.non] ∧ Hid G H ∧ BRep K G H x dx ∧ doMn0 dx = some d ∧ ∀ v H', Same H H' → FR K true G H H' v d → Q v H'
section
variable {X : Cx} {c : Wy.Ctx} {S : Sc}
theorem cr_mn0 (hc : X.calm = true) (hu : X.A.units + 200 < cLine) : CallRK X (.builtin "min") [Str.ofString "default"] (rMn0 X.K) := by
  intro pins s σ H xs zs us ws Q I r rz h
  obtain ⟨G, x, dx, d, ex, ez, hid, hx, e, q⟩ := h
  subst ex ez
  obtain ⟨w1, rfl, e1⟩ := vals1 rz
  obtain rfl : w1 = Value.none := e1
  cases dx <;> first | (simp [doMn0] at e; done) | skip
  rename_i ds
  obtain ⟨a, vs, rfl, h1, r1⟩ := hx.lst
  obtain ⟨u, rfl, rx⟩ := vals1 r
  obtain rfl : u = Value.ref a := rx
  obtain ⟨its, rv, hl, hz⟩ := I.list (.of h1)
  cases ds with
  | nil =>
    simp only [doMn0, Option.some.injEq] at e
    subst e
    cases r1
    cases rv
    refine PySem.W.min_list_default (xs := []) (as := []) (I.ok.hd hc) hl.isList (by simpa using (ReadsAll.nil : ReadsAll s.heap [] [] [])) ⟨fun d hd => (nomatch hd), fun d hd => (nomatch hd)⟩ (by show X.A.units + 1 + 0 < cLine; omega) (fun _ h' tk kp => ⟨.non, H, I.kept kp, rfl, q _ H (Same.refl H) (FR.flat .non rfl)⟩) fun y ys i v h' tk bs e => nomatch e
  | cons d0 ds =>
    simp only [doMn0, doB1] at e
    split at e <;> cases e
    rename_i hs
    rw [Bool.and_eq_true] at hs
    have so := srt_ok hs.1
    obtain ⟨as, ra⟩ := rv_all I rv r1 so.pl
    rw [List.map_cons] at ra
    have hal : PySem.W.AlikeAll (toPy d0 :: ds.map toPy) := ⟨fun d hd d' hd' => so.like d hd d' hd', fun d hd => by
      obtain ⟨b, hb, rfl⟩ := List.mem_map.mp (show d ∈ (d0 :: ds).map toPy from hd)
      have h1 := plains_1 so.pl hb
      rcases so.kd with k | k <;> have := k b hb <;> cases b <;> first | exact absurd this Bool.false_ne_true | exact absurd h1 Bool.false_ne_true | (simp [toPy]; done) | (simp [plain] at h1; done)⟩
    have hdep := depAll_le so.fl
    rw [List.map_cons] at hdep
    refine PySem.W.min_list_default (xs := toPy d0 :: ds.map toPy) (I.ok.hd hc) hl.isList (by simpa using ra) hal (by omega) (fun z => nomatch z) fun y ys i v h' tk bs e hi hr kp => ?_
    cases e
    rw [dmin_py ds d0 so.al] at hr
    exact pick I rv r1 so.pl (by simpa using hi) hr (plains_1 so.pl (dmin_mem ds d0)) hs.2 kp q
theorem snd_mn0 (m : Mt X S c) {p pos kp p2 : Pos} {k2 : Nat} {e : Expr} {f : Bool} {mb : Env → M D} (hg : glB S "min" = true) (hs : notStar e = true) (h : PE X e (tE X.K (BR X.K) mb)) :
    Snd X f (.Call (.Name "min" p) [e] [⟨some "default", .Constant .none k2 p2, kp⟩] pos) (.of fun ρ => M.bind (mb ρ) fun d => M.of (doMn0 d)) :=
  Snd.of rfl (PEimp (pe_callBK (cr_mn0 m.calm m.un) (m.gl hg) (m.blt _ (by simp [bnames])) (by decide +kernel) (pa_cons h pa_nil (star1 hs)) (pk_cons pe_non pk_nil) (by decide) (by decide) (by rw [star1 hs]; rfl) (no_stars (by simp [hs]))) fun σ H Q w => by
    obtain ⟨G, ρ, st, g, hw⟩ := w
    refine go g hw fun x st1 v H1 C1 p1 g1 r1 h1 => ?_
    obtain ⟨d, e, h2⟩ := wp_of h1
    exact ⟨G.at C1, v, x, d, rfl, rfl, g1.hidden, r1, e, fun u H' s r => fin2 h2 p1 g1 g.sr.there s r⟩)
end
end Wy

set_option Elab.async false
set_option linter.all false
set_option maxRecDepth 100000
set_option autoImplicit false
/-! WySz: sorted(set(x)), len(set(x)). -/
namespace Wy
open PySem PySem.Spec PyProof.Rows L2 PySem.W WySt
abbrev ZL := List (Value × V × D)
def zk (z : Value × V × D) : Value × NestedKey := (z.1, toNK z.2.2)
theorem sub_lift {α β : Type} {f : α → β} (l : List α) : ∀ L : List β, (∀ p ∈ L, p ∈ l.map f) → ∃ Z : List α, L = Z.map f ∧ ∀ z ∈ Z, z ∈ l
  | [], _ => ⟨[], rfl, fun _ h => nomatch h⟩
  | p :: L, h => by
    obtain ⟨Z, e, m⟩ := sub_lift l L fun q hq => h q (List.mem_cons_of_mem _ hq)
    obtain ⟨z, hz, ez⟩ := List.mem_map.mp (h p List.mem_cons_self)
    exact ⟨z :: Z, by rw [e, ← ez]; rfl, fun y hy => (List.mem_cons.mp hy).elim (fun q => q ▸ hz) (m y)⟩
structure SetOk (ds : List D) (c : Bool) : Prop where
  k : ∀ x ∈ ds, kOk x = true
  d : ∀ x ∈ ds, dep x ≤ 8
  n : ds.length ≤ cap c
  t : c = true → ∀ x ∈ ds, notTup x = true
  u : c = false → ∀ x ∈ ds, isTup1 x = true
theorem kOk_plain : ∀ a : D, kOk a = true → plain a = true := by
  intro a
  refine D.rec (motive_1 := fun a => kOk a = true → plain a = true) (motive_2 := fun l => kOks l = true → plains l = true) ?_ ?_ ?_ ?_ ?_ ?_ ?_ ?_ ?_ ?_ ?_ ?_ ?_ a
  all_goals intros
  all_goals first
    | rfl
    | (simp_all [kOk, kOks, plain, plains]; done)
theorem set_ok {ds : List D} (h : setOk ds = true) : ∃ c, SetOk ds c := by
  obtain ⟨h1, h2⟩ := Bool.and_eq_true_iff.mp h
  have k := List.all_eq_true.mp h1
  rcases Bool.or_eq_true_iff.mp h2 with h | h
  · obtain ⟨h3, h4⟩ := Bool.and_eq_true_iff.mp h
    obtain ⟨h4, h5⟩ := Bool.and_eq_true_iff.mp h4
    exact ⟨false, k, fun x hx => Nat.le_of_ble_eq_true (List.all_eq_true.mp h5 x hx), Nat.le_of_ble_eq_true h4, (fun z => nomatch z), fun _ => List.all_eq_true.mp h3⟩
  · obtain ⟨h3, h4⟩ := Bool.and_eq_true_iff.mp h
    have h3 := List.all_eq_true.mp h3
    refine ⟨true, k, fun x hx => ?_, Nat.le_of_ble_eq_true h4, fun _ => h3, fun z => nomatch z⟩
    have a1 := k x hx
    have a2 := h3 x hx
    cases x <;> first | exact Nat.zero_le _ | exact absurd a2 Bool.false_ne_true | exact absurd a1 Bool.false_ne_true
section
variable {X : Cx} {pins : List (Addr × Obj)} {σ : L2.St} {H : Hp} {s : Shared} {G : Gh}
/-- the items, what they are, what they stand for -/
structure Zs (X : Cx) (G : Gh) (H : Hp) (s : Shared) (Z : ZL) : Prop where
  rv : ∀ z ∈ Z, RV X.K G H z.1 z.2
  rd : ∀ z ∈ Z, ∃ as, Reads s.heap z.1 (toPy z.2.2) as
theorem zs_of (I : Inv X pins σ H s) : ∀ {vs : List V} {us : List Value} {ds : List D}, Vals vs us → Reps X.K G.C (G.h H) vs ds → (∀ x ∈ ds, kOk x = true) →
    ∃ Z : ZL, Zs X G H s Z ∧ us = Z.map (·.1) ∧ ds = Z.map (·.2.2)
  | _, _, _, .nil, .nil, _ => ⟨[], ⟨(fun _ h => nomatch h), (fun _ h => nomatch h)⟩, rfl, rfl⟩
  | v :: _, u :: _, d :: _, .cons a t, .cons b r, h => by
    obtain ⟨Z, z, e1, e2⟩ := zs_of I t r fun x hx => h x (List.mem_cons_of_mem _ hx)
    refine ⟨(u, v, d) :: Z, ⟨fun y hy => ?_, fun y hy => ?_⟩, by rw [e1]; rfl, by rw [e2]; rfl⟩
    · rcases List.mem_cons.mp hy with q | q
      · exact q ▸ ⟨a, b⟩
      · exact z.rv y q
    · rcases List.mem_cons.mp hy with q | q
      · exact q ▸ Dp.reads I _ _ _ (Rep.dp (kOk_plain d (h d List.mem_cons_self)) b) a
      · exact z.rd y q
theorem zs_el {Z : ZL} {c : Bool} (z : Zs X G H s Z) (o : SetOk (Z.map (·.2.2)) c) : ∀ p ∈ Z.map zk, El X.prog X.w c s.heap p := by
  intro p hp
  obtain ⟨y, hy, rfl⟩ := List.mem_map.mp hp
  have m : y.2.2 ∈ Z.map (·.2.2) := List.mem_map_of_mem hy
  obtain ⟨as, r⟩ := z.rd y hy
  have hk := o.k _ m
  have hn := reads_nested y.2.2 hk r
  refine ⟨hn, by show (toNK y.2.2).depth ≤ 8; rw [toNK_dep _ hk]; exact o.d _ m, ?_⟩
  obtain ⟨u, v, d⟩ := y
  cases c with
  | true =>
    have ht := o.t rfl _ m
    dsimp only at hk ht hn r
    cases d <;> first | exact absurd hk Bool.false_ne_true | exact absurd ht Bool.false_ne_true | skip
    · simp only [toPy] at r
      cases r
      exact ⟨_, rfl, by simp [mixKind, zk, keyIs, Value.isInt, Value.isStrOf], rfl⟩
    · simp only [toPy] at r
      cases r
      exact ⟨_, rfl, by simp [mixKind, zk, keyIs, Value.isInt, Value.isStrOf], rfl⟩
  | false =>
    have ht := o.u rfl _ m
    dsimp only at hk ht hn r
    cases d <;> first | exact absurd ht Bool.false_ne_true | skip
    simp only [toPy] at r
    cases r
    exact ⟨_, rfl⟩
/-- what a set has got of them -/
theorem zs_set {ZZ : ZL} {L : KL} {h' : Heap} {a : Addr} {c : Bool} (o : SetOk (ZZ.map (·.2.2)) c) (R : WySt.SR X.prog X.w c h' a L) (g : Has (ZZ.map zk) (ZZ.map zk).length L) :
    ∃ Z : ZL, L.map (·.1) = Z.map (·.1) ∧ (∀ z ∈ Z, z ∈ ZZ) ∧ (Z.map (·.2.2)).Perm (ddup (ZZ.map (·.2.2))) := by
  obtain ⟨Z, e, m⟩ := sub_lift ZZ L fun p hp => by
    have := g.sub p hp
    rwa [List.take_length] at this
  refine ⟨Z, by rw [e, List.map_map]; rfl, m, perm_of_mem ?_ (ddup_nodup o.k) fun d => ⟨fun h => ?_, fun h => ?_⟩⟩
  · have nd := R.nodup
    rw [e, List.map_map] at nd
    refine List.pairwise_map.mpr ((List.pairwise_map.mp nd).imp fun {p q} hne e => hne ?_)
    show toNK p.2.2 = toNK q.2.2
    rw [e]
  · obtain ⟨z, hz, rfl⟩ := List.mem_map.mp h
    exact ddup_mem o.k (List.mem_map_of_mem (m z hz))
  · have h := ddup_sub h
    obtain ⟨z, hz, rfl⟩ := List.mem_map.mp h
    have q := g.all (zk z) (by rw [List.take_length]; exact List.mem_map_of_mem hz)
    rw [e, List.map_map] at q
    obtain ⟨y, hy, ey⟩ := List.mem_map.mp q
    have : y.2.2 = z.2.2 := toNK_inj _ _ (o.k _ (List.mem_map_of_mem (m y hy))) (o.k _ h) ey
    exact this ▸ List.mem_map_of_mem hy
theorem each_zs {Z : ZL} (R : Value → V × D → Prop) (h : ∀ z ∈ Z, R z.1 z.2) : EachIs R (Z.map (·.1)) (Z.map (·.2)) := by
  induction Z with
  | nil => exact .nil
  | cons z Z ih => exact .cons (h z List.mem_cons_self) (ih fun y hy => h y (List.mem_cons_of_mem _ hy))
end
theorem sr_exact {P : Program} {w : World} {c : Bool} {h : Heap} {a : Addr} {L : KL} (R : WySt.SR P w c h a L) : ∃ o, h.get? a = some o ∧ o.ExactSet := by
  cases c with
  | true =>
    obtain ⟨o, es, ep, t, ho, hx, _⟩ := R
    exact ⟨o, ho, hx⟩
  | false =>
    obtain ⟨es, ep, t, R⟩ := R
    obtain ⟨o, ho, hx, _⟩ := R.ob
    exact ⟨o, ho, hx⟩
def dstN (n : Bool) : Str := if n then "len" else "sorted"
def tDst (K : PySem.W.Frag) (n : Bool) (ta : TE) : TE := fun σ H Q => ta σ H fun x H1 => ∃ G dx d, Hid G H1 ∧ BRep K G H1 x dx ∧ doSet n dx = some d ∧ ∀ v H', Same H1 H' → FR K true G H1 H' v d → Q v H'
section
variable {X : Cx}
theorem dst_vals {K : PySem.W.Frag} {G : Gh} {H : Hp} {n : Bool} {dx d : D} {x : V} {Q : VK} (e : doSet n dx = some d) : ∃ ds c, (dx = .tup ds ∨ dx = .lst ds) ∧ SetOk ds c ∧ ((n = true ∧ d = .int (ddup ds).length) ∨ (n = false ∧ d = .lst (dsort (ddup ds)) ∧ srtOk ds = true)) := by
  have go : ∀ ds, (if setOk ds then (if n then some (.int (ddup ds).length) else if srtOk ds then some (.lst (dsort (ddup ds))) else none) else none) = some d → ∃ c, SetOk ds c ∧ ((n = true ∧ d = .int (ddup ds).length) ∨ (n = false ∧ d = .lst (dsort (ddup ds)) ∧ srtOk ds = true)) := by
    intro ds e
    split at e
    · rename_i h
      obtain ⟨c, o⟩ := set_ok h
      refine ⟨c, o, ?_⟩
      cases n with
      | true => exact .inl ⟨rfl, (Option.some.inj e).symm⟩
      | false =>
        right
        simp only [Bool.false_eq_true, if_false] at e
        split at e
        · rename_i h2
          exact ⟨rfl, (Option.some.inj e).symm, h2⟩
        · cases e
    · cases e
  cases dx <;> first | (simp [doSet] at e; done) | skip
  · obtain ⟨c, o, r⟩ := go _ e
    exact ⟨_, c, .inl rfl, o, r⟩
  · obtain ⟨c, o, r⟩ := go _ e
    exact ⟨_, c, .inr rfl, o, r⟩
/-- behind set(x) -/
theorem set_then {pins : List (Addr × Obj)} {σ : L2.St} {H : Hp} {s : Shared} {G : Gh} {x : V} {u : Value} {dx : D} {ds : List D} {c : Bool} {E : Value → Shared → Prop} {Q : Value → Shared → Prop} (hc : X.calm = true) (hu : X.A.units + 200 < cLine) (I : Inv X pins σ H s) (r : RelV x u) (hx : BRep X.K G H x dx) (hd : dx = .tup ds ∨ dx = .lst ds) (o : SetOk ds c)
    (h : ∀ (h' : Heap) (tk : Nat) (L : KL) (Z : ZL), WySt.SR X.prog X.w c h' s.heap.objs.size L → L.map (·.1) = Z.map (·.1) → Zs X G H s Z → (Z.map (·.2.2)).Perm (ddup ds) → (∀ b o, s.heap.get? b = some o → h'.get? b = some o) → Q (.ref s.heap.objs.size) { s with heap := h', toks := tk }) :
    wpAny (model X.prog X.w) X.A (call (.type "set") [u]) Q E s := by
  rcases hd with rfl | rfl
  · obtain ⟨a, vs, rfl, h1, rr⟩ := hx.tup
    obtain rfl : u = Value.ref a := r
    obtain ⟨its, rv, hl, hz⟩ := I.tuple h1
    obtain ⟨ZZ, z, e1, e2⟩ := zs_of I rv rr o.k
    subst e2
    have z2 := zs_el z o
    refine call_set_tuple (P := X.prog) (w := X.w) (c := c) (ZZ.map zk) (I.ok.hd hc) (let ⟨o, ho, hc, n, hd⟩ := hl; ⟨o, ho, hc, n, hd⟩) (by rw [List.map_map]; exact (show its.toArray.toList = _ from e1)) z2 (by have := o.n; rw [List.length_map] at this; rw [List.length_map]; exact this) (by omega) fun h' tk L R g k => ?_
    obtain ⟨Z, q1, q2, q3⟩ := zs_set o R g
    exact h h' tk L Z R q1 ⟨fun y hy => z.rv y (q2 y hy), fun y hy => z.rd y (q2 y hy)⟩ q3 k
  · obtain ⟨a, vs, rfl, h1, rr⟩ := hx.lst
    obtain rfl : u = Value.ref a := r
    obtain ⟨its, rv, hl, hz⟩ := I.list (.of h1)
    obtain ⟨ZZ, z, e1, e2⟩ := zs_of I rv rr o.k
    subst e2
    have z2 := zs_el z o
    refine call_set_list (P := X.prog) (w := X.w) (c := c) (ZZ.map zk) (I.ok.hd hc) hl.isList (by rw [List.map_map]; exact (show its.toArray.toList = _ from e1)) z2 (by have := o.n; rw [List.length_map] at this; rw [List.length_map]; exact this) (by omega) fun h' tk L R g k => ?_
    obtain ⟨Z, q1, q2, q3⟩ := zs_set o R g
    exact h h' tk L Z R q1 ⟨fun y hy => z.rv y (q2 y hy), fun y hy => z.rd y (q2 y hy)⟩ q3 k
set_option maxHeartbeats 2000000 in
/-- sorted(a set) -/
theorem sorted_zs {P : Program} {w : World} {A : Around} {K : PySem.W.Frag} {G : Gh} {H : Hp} {E : Value → Shared → Prop} {s : Shared} {h0 : Heap} {b : Addr} {ob : Obj} {es : Array (Int × Value)} {ep : Nat} {t : SetTable} {Z : ZL} {ds : List D} {Q : Value → Shared → Prop} (hh : A.handled = none) (hu : A.units + 200 < cLine)
    (ho : s.heap.get? b = some ob) (hcls : ob.cls = .type "set") (hdat : ob.data = .set es ep t) (hf : t.fits es.size = true) (hsb : es.size < scanBound) (ris : Ris t.place.toList) (led : w.params.followText "set-order" = true ∨ t.led = true)
    (ev : es.toList.map (·.2) = Z.map (·.1)) (hn : es.size = (ddup ds).length) (rv : ∀ z ∈ Z, RV K G H z.1 z.2) (rd : ∀ z ∈ Z, ∃ as, Reads h0 z.1 (toPy z.2.2) as) (kp : ∀ b o, h0.get? b = some o → s.heap.get? b = some o) (pm : (Z.map (·.2.2)).Perm (ddup ds)) (hk : ∀ x ∈ ds, kOk x = true) (so : SrtOk ds)
    (q : ∀ (s' : Shared) (p : Addr) (xs : List V) (us : List Value) (n : Nat), (∀ b o, h0.get? b = some o → s'.heap.get? b = some o) → s'.gens = s.gens → s'.os = s.os → s.heap.objs.size ≤ p → s'.heap.get? p = some (seqObj "list" us.toArray n) → Vals xs us → xs.length ≤ sizeLine → Reps K G.C (G.h H) xs (dsort (ddup ds)) → Q (.ref p) s') :
    wpAny (model P w) A (call (.builtin "sorted") [.ref b]) Q E s := by
  refine Calls.call_function_entry kind_sorted plain_sorted entry_sorted (args_sorted1 _) ?_
  unfold Builtin.«sorted»
  refine wpAny_bind (m := checkCount "sorted" 1 1 _) (wpAny_pure ?_)
  refine wpAny_bind (collect_set (A := A.in1) hh ⟨ob, ho, hcls, hdat⟩ hf hsb ris led fun s2 vs k1 hz g1 o1 pv => ?_)
  rw [ev] at pv
  obtain ⟨Z2, rfl, pz⟩ := perm_lift pv Z rfl
  have zs2 : ∀ z ∈ Z2, z ∈ Z := fun z hz => pz.mem_iff.mp hz
  have pd : (Z2.map (·.2.2)).Perm (ddup ds) := (pz.map (·.2.2)).trans pm
  have hlen : (Z2.map (·.1)).length ≤ sizeLine := by
    have := pd.length_eq
    rw [List.length_map] at this
    have h2 : scanBound = 4096 := rfl
    rw [List.length_map, this, ← hn, sizeLine_eq]
    omega
  have soD : SrtOk (Z2.map (·.2.2)) := ⟨plains_2 fun a ha => plains_1 so.pl (ddup_sub (pd.mem_iff.mp ha)), fun a ha b hb => so.al a (ddup_sub (pd.mem_iff.mp ha)) b (ddup_sub (pd.mem_iff.mp hb)),
    so.kd.imp (fun z a ha => z a (ddup_sub (pd.mem_iff.mp ha))) (fun z a ha => z a (ddup_sub (pd.mem_iff.mp ha))), fun a ha => so.fl a (ddup_sub (pd.mem_iff.mp ha))⟩
  refine wpAny_bind (wpAny_newList ?_ hlen)
  have hoL : (s2.heap.push (seqObj "list" (Z2.map (·.1)).toArray 0)).get? s2.heap.objs.size = some (seqObj "list" (Z2.map (·.1)).toArray 0) := Heap.get?_push_size _ rfl
  generalize hH : s2.heap.push (seqObj "list" (Z2.map (·.1)).toArray 0) = hp at hoL
  have kh : ∀ b u, h0.get? b = some u → b < s2.heap.objs.size ∧ hp.get? b = some u := fun b u e => by
    have q := k1 b u (kp b u e)
    exact ⟨Heap.lt_size q, by rw [← hH]; exact Heap.get?_push_of_some _ q⟩
  have keep : ∀ b u, h0.get? b = some u → (sortingHeap hp s2.heap.objs.size (Z2.map (·.1))).get? b = some u := fun b u e => sortingHeap_old (Nat.ne_of_lt (kh b u e).1) (kh b u e).2
  have er : EachIs (fun v (p : V × D) => ∃ as, Reads (sortingHeap hp s2.heap.objs.size (Z2.map (·.1))) v (toPy p.2) as) (Z2.map (·.1)) (Z2.map (·.2)) := each_zs _ fun z hz => by
    obtain ⟨as, r⟩ := rd z (zs2 z hz)
    exact ⟨as, PyProof.Rows.Reads.keeps keep r⟩
  have hmap : (Z2.map (·.2)).map (·.2) = Z2.map (·.2.2) := by rw [List.map_map]; rfl
  have hmap2 : (Z2.map (·.2)).map (fun p => toPy p.2) = (Z2.map (·.2.2)).map toPy := by rw [List.map_map, List.map_map]; rfl
  have er2 : EachIs (fun v d => ∃ as, Reads (sortingHeap hp s2.heap.objs.size (Z2.map (·.1))) v d as) (Z2.map (·.1)) ((Z2.map (·.2.2)).map toPy) := by
    rw [← hmap2]
    exact each_map (R := fun v d => ∃ as, Reads (sortingHeap hp s2.heap.objs.size (Z2.map (·.1))) v d as) (fun p : V × D => toPy p.2) er
  have ev2 : EachIs (RV K G H) (Z2.map (·.1)) (Z2.map (·.2)) := each_zs _ fun z hz => rv z (zs2 z hz)
  have out := sortVals_data (h' := sortingHeap hp s2.heap.objs.size (Z2.map (·.1))) (R := RV K G H) (enc := fun p : V × D => toPy p.2) false ev2 er (by rw [hmap2]; exact soD.like)
  obtain ⟨p1, p2⟩ := rv_back out
  rw [hmap2] at p1
  have en : ((Z2.map (·.2)).mergeSort (dataLe false fun p => toPy p.2)).map (·.2) = dsort (ddup ds) := by
    have z := sorted_ds (fun p : V × D => p.2) (Z2.map (·.2)) (by rw [hmap]; exact soD)
    rw [hmap] at z
    rw [z]
    exact dsort_perm soD (fun x hx => hk x (ddup_sub (pd.mem_iff.mp hx))) pd
  rw [en] at p2
  refine wpAny_bind (wpAny_holding (wpAny_call_entry slot_list_sort ⟨_, hoL, rfl⟩ entry_list_sort (list_sort_vals (κ := dataKind (sortingHeap hp s2.heap.objs.size (Z2.map (·.1))) ((Z2.map (·.2.2)).map toPy)) hoL (soD.sorts (s := { s2 with heap := sortingHeap hp s2.heap.objs.size (Z2.map (·.1)) }) er2 (by show A.units + 1 + 1 + 60 < cLine; omega)) hlen ⟨_, rfl, ?_⟩) (args_list_sort _)))
  have hlen2 : (((Z2.map (·.2)).mergeSort (dataLe false fun p => toPy p.2)).map (·.1)).length ≤ sizeLine := by
    rw [List.length_map, List.length_mergeSort, List.length_map]
    rw [List.length_map] at hlen
    exact hlen
  obtain ⟨ep2, he⟩ := sortedHeap_at (vs := Z2.map (·.1)) (out := (sortVals (dataKind (sortingHeap hp s2.heap.objs.size (Z2.map (·.1))) ((Z2.map (·.2.2)).map toPy)) false (Z2.map (·.1)) (Z2.map (·.1))).toArray) hoL
  refine wpAny_pure ⟨_, rfl, q _ s2.heap.objs.size _ _ ep2 (fun b u e => ?_) g1 o1 hz he p1 hlen2 p2⟩
  show (sortedHeap hp s2.heap.objs.size (Z2.map (·.1)) _).get? b = some u
  rw [sortedHeap_old (Nat.ne_of_lt (kh b u e).1) (Heap.lt_size (kh b u e).2)]
  exact (kh b u e).2
theorem pe_dst {a : Expr} {ta : TE} {p p2 q pos : Pos} (hc : X.calm = true) (hu : X.A.units + 200 < cLine) (n : Bool) (hg : Gl X (dstN n)) (hm : X.mg (dstN n) = none) (hg2 : Gl X "set") (hm2 : X.mg "set" = none) (ha : PE X a ta)
    (na : starEach [a] X.env = (false, eval a X.env) :: starEach [] X.env) : PE X (.Call (.Name (dstN n) p) [.Call (.Name "set" p2) [a] [] q] [] pos) (tDst X.K n ta) := by
  refine ⟨fun pins s σ H Q I h => ?_⟩
  have bt : bootBuiltins (dstN n) = some (.builtin (if n then "len" else "sorted")) := by cases n <;> decide +kernel
  refine Call_ (ld_blt I hg hm bt ?_ (by cases n <;> decide) (by cases n <;> decide))
  refine PyProof.Rows.callWith_builtin1 (PyProof.Rows.args_cons ?_ rfl) rfl rfl
  refine Call_ (ld_blt I hg2 hm2 PyProof.Rows.boot_set ?_)
  refine PyProof.Rows.callWith_type1 (PyProof.Rows.args_cons (thn (ha.run pins s σ H _ I h) fun v s1 ⟨x, H1, I1, r1, q1⟩ => PyProof.Rows.args_nil ?_) na) na rfl
  obtain ⟨G, dx, d, hid, hx, e, q1⟩ := q1
  obtain ⟨ds, c, hd, o, e2⟩ := dst_vals (K := X.K) (G := G) (H := H1) (x := x) (Q := Q) e
  refine set_then hc hu I1 r1 hx hd o fun h' tk L Z R z1 zs pm kp => PyProof.Rows.args_nil ?_
  have hh := I1.ok.hd hc
  obtain ⟨es, ep, t, ⟨ob, ho, hcls, hdat⟩, hf, hsb, ris, led, ev⟩ := R.view
  have hn : es.size = (ddup ds).length := by
    have := congrArg List.length (ev.trans z1)
    rw [List.length_map, List.length_map, Array.length_toList] at this
    rw [this, ← pm.length_eq, List.length_map]
  have hfit : es.size < scanBound := hsb
  rcases e2 with ⟨rfl, rfl⟩ | ⟨rfl, rfl, hs⟩
  · obtain ⟨o2, ho2, hex⟩ := sr_exact R
    obtain rfl : ob = o2 := Option.some.inj (ho.symm.trans ho2)
    have I2 : Inv X pins σ H1 { s1 with heap := h', toks := tk } := I1.kept kp
    refine call_len_set ho hex hdat hf (by have : scanBound = 4096 := rfl; omega) ⟨.int (ddup ds).length, H1, I2.tok _, ⟨_, by rw [hn]⟩, q1 _ _ (Same.refl _) (FR.flat (.int _) rfl)⟩
  · have so := srt_ok hs
    have hsz : s1.heap.objs.size ≤ h'.objs.size := Nat.le_of_lt (Heap.lt_size ho)
    show wpAny (model X.prog X.w) X.A (call (.builtin "sorted") [.ref s1.heap.objs.size]) _ _ _
    refine sorted_zs (K := X.K) (G := G) (H := H1) (s := { s1 with heap := h', toks := tk }) (h0 := s1.heap) hh hu ho hcls hdat hf hsb ris led (ev.trans z1) hn zs.rv zs.rd kp pm o.k so fun s2 p xs us n kk g o hp he hv hl rr => ?_
    have hn := I1.hok.fresh (Nat.le_trans hsz hp)
    exact ⟨.ref p, upd H1 p (.lst xs), I1.call' (ch := []) o (Un.laid kk (Nat.le_trans hsz hp) hn) (I1.hok.laid kk (Nat.le_trans hsz hp) (show ObjOk X.prog X.w _ _ _ (.lst xs) from ⟨hl, us, n, hv, he⟩)) (by rw [g]; exact I1.bare) (fun _ z => nomatch z), rfl, q1 _ _ (same_new hn) (new_lst hid hn rr).fr⟩
theorem snd_dst {S : Sc} {c : Wy.Ctx} (m : Mt X S c) (n : Bool) {p p2 q pos : Pos} {e : Expr} {f : Bool} {mb : Env → M D} (hg : glB S (dstN n) = true) (hg2 : glB S "set" = true) (hs : notStar e = true) (h : PE X e (tE X.K (BR X.K) mb)) :
    Snd X f (.Call (.Name (dstN n) p) [.Call (.Name "set" p2) [e] [] q] [] pos) (.of fun ρ => M.bind (mb ρ) fun d => M.of (doSet n d)) :=
  Snd.of rfl (PEimp (pe_dst m.calm m.un n (m.gl hg) (m.blt _ (by cases n <;> simp [dstN, bnames])) (m.gl hg2) (m.blt _ (by simp [bnames])) h (star1 hs)) fun σ H Q w => by
    obtain ⟨G, ρ, st, g, hw⟩ := w
    refine go g hw fun x st1 v H1 C1 p1 g1 r1 h1 => ?_
    obtain ⟨d, e, h2⟩ := wp_of h1
    exact ⟨G.at C1, x, d, g1.hidden, r1, e, fun u H' s r => fin2 h2 p1 g1 g.sr.there s r⟩)
end
end Wy

set_option Elab.async false
set_option linter.all false
set_option maxRecDepth 100000
set_option autoImplicit false
/-! WyZ: subscripts, slices, isinstance, iterators, comprehensions. -/
namespace Wy
open PySem PySem.Spec PyProof.Rows L2
section
variable {X : Cx} {c : Wy.Ctx} {S : Sc}

/-! ### isinstance -/
def clsN : Cls → String
  | .list => "list" | .tuple => "tuple" | .dict => "dict" | .str => "str" | .int => "int" | .bool => "bool"
def clsS : Cls → Str
  | .list => "list" | .tuple => "tuple" | .dict => "dict" | .str => "str" | .int => "int" | .bool => "bool"
def tyD : D → String
  | .non => "NoneType" | .bl _ => "bool" | .int _ => "int" | .str _ => "str" | .tup _ => "tuple" | .lst _ => "list" | .dic _ _ => "dict" | _ => ""
theorem kit_n : ∀ c : Cls, kitB "NoneType" (clsN c) = some false := by intro c; cases c <;> decide +kernel
theorem kit_b : ∀ c : Cls, kitB "bool" (clsN c) = isCls (.bl true) c := by intro c; cases c <;> decide +kernel
theorem kit_i : ∀ c : Cls, kitB "int" (clsN c) = isCls (.int 0) c := by intro c; cases c <;> decide +kernel
theorem kit_s : ∀ c : Cls, kitB "str" (clsN c) = isCls (.str []) c := by intro c; cases c <;> decide +kernel
theorem kit_t : ∀ c : Cls, kitB "tuple" (clsN c) = isCls (.tup []) c := by intro c; cases c <;> decide +kernel
theorem kit_l : ∀ c : Cls, kitB "list" (clsN c) = isCls (.lst []) c := by intro c; cases c <;> decide +kernel
theorem kit_d : ∀ c : Cls, kitB "dict" (clsN c) = isCls (.dic [] []) c := by intro c; cases c <;> decide +kernel
theorem kit_D {d : D} {c : Cls} {b : Bool} (h : isCls d c = some b) : kitB (tyD d) (clsN c) = some b := by
  cases d <;> first | (cases c <;> simp [isCls] at h; done) | skip
  · rw [← h]
    exact (kit_n c).trans (by cases c <;> rfl)
  · rw [← h]
    exact (kit_b c).trans (by cases c <;> rfl)
  · rw [← h]
    exact (kit_i c).trans (by cases c <;> rfl)
  · rw [← h]
    exact (kit_s c).trans (by cases c <;> rfl)
  · rw [← h]
    exact (kit_t c).trans (by cases c <;> rfl)
  · rw [← h]
    exact (kit_l c).trans (by cases c <;> rfl)
  · rw [← h]
    exact (kit_d c).trans (by cases c <;> rfl)
theorem tyX_rep {K : PySem.W.Frag} {G : Gh} {H : Hp} {v : V} {d : D} {c : Cls} {b : Bool} (h : isCls d c = some b) (r : BRep K G H v d) : TyX K H v (.type (tyD d)) := by
  cases d <;> first | (cases c <;> simp [isCls] at h; done) | skip
  · rw [r.non]; exact .base .non
  · rw [r.bl]; exact .base (.bl _)
  · rw [r.int]; exact .base (.int _)
  · rw [r.str]; exact .base (.str _)
  · obtain ⟨a, vs, rfl, ⟨o, h1, _⟩, _⟩ := r.tupA
    exact .fTuple (hSame _ _ h1)
  · obtain ⟨a, vs, rfl, h1, _⟩ := r.lst
    exact .base (.lst h1)
  · obtain ⟨a, vs, rfl, h1, _⟩ := r.dic
    exact .base (.dK h1)
theorem boot_cls (c : Cls) : bootBuiltins (clsS c) = some (.type (clsN c)) := by cases c <;> decide +kernel
theorem cls_b (c : Cls) : clsS c ∈ bnames := by cases c <;> simp [clsS, bnames]
theorem cls_even (c : Cls) : evenB (clsS c) = true := by cases c <;> decide +kernel
theorem pe_cls (m : Mt X S c) (k : Cls) {p : Pos} (hg : glB S (clsS k) = true) : PE X (.Name (clsS k) p) (tC (.ty (clsN k))) :=
  pe_bltn (m.gl hg) (m.blt _ (cls_b k)) (boot_cls k) rfl (even_1 (cls_even k)).2.2 (even_1 (cls_even k)).1
/-- the classes' names -/
def clsRow (S : Sc) : List Cls → List Expr → Bool
  | [], [] => true
  | k :: ks, .Name x _ :: es => sEq x (clsS k) && glB S (clsS k) && clsRow S ks es
  | _, _ => false
theorem pa_cls (m : Mt X S c) : ∀ {ks : List Cls} {es : List Expr}, clsRow S ks es = true → PA X es fun _ H Q => Q (ks.map fun k => V.ty (clsN k)) H
  | [], [], _ => pa_nil
  | [], _ :: _, h => absurd h Bool.false_ne_true
  | _ :: _, [], h => absurd h Bool.false_ne_true
  | k :: ks, e :: es, h => by
    cases e <;> first | exact absurd h Bool.false_ne_true | skip
    unfold clsRow at h
    rw [Bool.and_eq_true, Bool.and_eq_true] at h
    rw [sEq_eq h.1.1]
    exact PAimp (pa_cons (pe_cls m k h.1.2) (pa_cls m h.2)) fun σ H Q w => w
theorem kitAny_D {K : PySem.W.Frag} {d : D} : ∀ {cs : List Cls} {b : Bool}, isAny d cs = some b → PySem.W.kitAny K (.type (tyD d)) (cs.map fun k => Value.type (clsN k)) = some b
  | [], b, h => by
    cases h
    rfl
  | k :: ks, b, h => by
    unfold isAny at h
    split at h
    · rename_i e
      cases h
      exact kitAny_cons (kit_ty (kit_D e)) (fun z => nomatch z) fun _ => rfl
    · rename_i e
      exact kitAny_cons (kit_ty (kit_D e)) (fun _ => kitAny_D h) fun z => nomatch z
    · cases h
theorem cls_paired : ∀ cs : List Cls, Paired ClsV (cs.map fun k => V.ty (clsN k)) (cs.map fun k => Value.type (clsN k))
  | [] => .nil
  | k :: ks => .cons (.ty _) (cls_paired ks)
theorem isAny_1 {d : D} : ∀ {cs : List Cls} {b : Bool}, cs ≠ [] → isAny d cs = some b → ∃ k b', isCls d k = some b'
  | [], _, h, _ => absurd rfl h
  | k :: ks, b, _, h => by
    unfold isAny at h
    split at h
    · rename_i e
      exact ⟨k, _, e⟩
    · rename_i e
      exact ⟨k, _, e⟩
    · cases h
theorem snd_isiT (m : Mt X S c) {p pos tp : Pos} {e : Expr} {es : List Expr} {kk : Nat} {f : Bool} {cs : List Cls} {mb : Env → M D} (hg : glB S "isinstance" = true) (hs : notStar e = true) (hne : cs ≠ []) (hcl : cs.length ≤ 100) (hr : clsRow S cs es = true) (h : PE X e (tE X.K (BR X.K) mb)) :
    Snd X f (.Call (.Name "isinstance" p) [e, .Tuple es kk tp] [] pos) (.of fun ρ => M.bind (mb ρ) fun d => M.of ((isAny d cs).map .bl)) :=
  Snd.of rfl (PEimp (pe_callB call_isiT (m.gl hg) (m.blt _ (by simp [bnames])) boot_isinstance (pa_cons h (pa_cons (pe_tup (pa_cls m hr)) pa_nil rfl) (star1 hs)) (by decide) (by decide) (star1 hs) rfl) fun σ H Q w => by
    obtain ⟨G, ρ, st, g, hw⟩ := w
    refine go g hw fun x st1 v H1 C1 p1 g1 r1 h1 => ?_
    obtain ⟨d, e, h2⟩ := wp_of h1
    obtain ⟨b, e1, e2⟩ := Option.map_eq_some_iff.mp e
    subst e2
    obtain ⟨k, b', e3⟩ := isAny_1 hne e1
    refine ⟨by rw [List.length_map, sizeLine_eq]; omega, fun q hq => ⟨v, q, _, _, _, b, rfl, upd_same, cls_paired cs, tyX_rep e3 (r1.ext (Ext.more (same_new hq))), kitAny_D e1, fin2 h2 p1 g1 g.sr.there (same_new hq) (FR.flat (.bl _) rfl)⟩⟩)
theorem snd_isi (m : Mt X S c) {p pos tp : Pos} {e : Expr} {f : Bool} {k : Cls} {mb : Env → M D} (hg : glB S "isinstance" = true) (hs : notStar e = true) (hr : glB S (clsS k) = true) (h : PE X e (tE X.K (BR X.K) mb)) :
    Snd X f (.Call (.Name "isinstance" p) [e, .Name (clsS k) tp] [] pos) (.of fun ρ => M.bind (mb ρ) fun d => M.of ((isAny d [k]).map .bl)) :=
  Snd.of rfl (PEimp (pe_callB call_isi (m.gl hg) (m.blt _ (by simp [bnames])) boot_isinstance (pa_cons h (pa_cons (pe_cls m k hr) pa_nil rfl) (star1 hs)) (by decide) (by decide) (star1 hs) rfl) fun σ H Q w => by
    obtain ⟨G, ρ, st, g, hw⟩ := w
    refine go g hw fun x st1 v H1 C1 p1 g1 r1 h1 => ?_
    obtain ⟨d, e, h2⟩ := wp_of h1
    obtain ⟨b, e1, e2⟩ := Option.map_eq_some_iff.mp e
    subst e2
    unfold isAny at e1
    have e3 : isCls x k = some b := by
      split at e1
      · rename_i z
        rw [z]
        exact e1
      · rename_i z
        rw [z]
        exact e1
      · cases e1
    exact ⟨v, _, _, _, b, rfl, .ty _, tyX_rep e3 r1, kit_ty (kit_D e3), fin2 h2 p1 g1 g.sr.there (Same.refl _) (FR.flat (.bl _) rfl)⟩)

/-! ### subscripts -/
theorem atI_ix {α : Type} (xs : List α) (i : Int) : atI xs i = (ixNat xs.length i).bind fun j => xs[j]? := rfl
theorem ix_dic (hu : X.A.units + 1 < cLine) : IxR X (fun x y H Q => ∃ a v, x = .ref a ∧ DGet H a y (some v) ∧ Q v H) := by
  intro value slice pins s σ H x y v u Q I rx ry h hs
  obtain ⟨a, z, rfl, g, q⟩ := h
  obtain rfl : v = Value.ref a := rx
  have hT := dict_typeIs I g
  unfold subscriptTail
  refine wpAny_bind ?_
  rw [getitemInPython_of_ne hT.not_modules]
  refine wpAny_bind (wpAny_specialOf hT PySem.F.slot_dict_getitem.lookup ?_)
  have fin : wpAny (model X.prog X.w) X.A (subscripted slice false (.ref a) u) (fun r s₃ => wpAny (model X.prog X.w) X.A (letTemporaryGo value (.ref a) r >>= fun _ => pure r) (EP X pins σ Q) X.xe s₃) X.xe s := by
    rw [hs]
    exact wpAny_operating (wpAny_mono (d_getItem (Q := EP X pins σ Q) (E := X.xe) hu I g ry fun w' s3 I3 rw' => ⟨z, H, I3, rw', q⟩) (fun r s₃ h₃ => wpAny_bind (wpAny_letTemporaryGo (wpAny_pure h₃))) fun _ _ x => x)
  first
    | exact wpAny_pure (wpAny_bind fin)
    | exact wpAny_bind (wpAny_pure (wpAny_bind fin))
    | exact wpAny_bind fin
def rIx (K : PySem.W.Frag) : R2 := fun x y H Q => ∃ G st dx dy d, StRep G H st ∧ BRep K G H x dx ∧ BRep K G H y dy ∧ ((∃ g xs, dx = .cell g ∧ st[g]? = some xs ∧ doIdx (.lst xs) dy = some d) ∨ doIdx dx dy = some d) ∧ ∀ v, SRep K G H v d → Q v H
theorem ixD (hu : X.A.units + 1 < cLine) : IxR X (rIx X.K) := by
  intro value slice pins s σ H x y v u Q I rx ry h hs
  obtain ⟨G, st, dx, dy, d, sr, hx, hy, e, q⟩ := h
  rcases e with ⟨g, xs, rfl, e1, e2⟩ | e
  · have ha : ∃ a, x = .ref a ∧ G.C[g]? = some a := by
      cases hx.s rfl with
      | cell k => exact ⟨_, rfl, k⟩
    obtain ⟨a, rfl, ha⟩ := ha
    obtain ⟨ns, h1, h2⟩ := sr.at_ g a ha
    rw [e1] at h1
    cases h1
    cases dy <;> first | (simp [doIdx] at e2; done) | skip
    rename_i i
    have ey := hy.int
    subst ey
    simp only [doIdx] at e2
    obtain ⟨j, e3, e4⟩ := Option.bind_eq_some_iff.mp e2
    rw [List.getElem?_map] at e4
    obtain ⟨n, e5, e6⟩ := Option.map_eq_some_iff.mp e4
    subst e6
    refine ix_list value slice pins s σ H _ _ v u Q I rx ry ⟨a, ns.map V.int, i, .int n, rfl, rfl, .of h2, ?_, q _ (.int n)⟩ hs
    rw [atI_ix, List.length_map]
    rw [List.length_map] at e3
    rw [e3]
    simp [e5]
  · cases dx <;> first | (simp [doIdx] at e; done) | skip
    · cases dy <;> first | (simp [doIdx] at e; done) | skip
      rename_i cs i
      have ex := hx.str
      have ey := hy.int
      subst ex ey
      simp only [doIdx] at e
      split at e
      · rename_i hz
        obtain ⟨j, e3, e4⟩ := Option.bind_eq_some_iff.mp e
        obtain ⟨c, e5, e6⟩ := Option.map_eq_some_iff.mp e4
        subst e6
        have hz2 : cs.length ≤ 16000000 := Nat.le_of_ble_eq_true hz
        exact ix_str value slice pins s σ H _ _ v u Q I rx ry ⟨S cs, _, c, rfl, rfl, by show (S cs).length ≤ sizeLine; rw [S_len, sizeLine_eq]; omega, by rw [atI_ix]; show (ixNat cs.length _).bind _ = _; rw [e3]; exact e5, q _ (.str [c])⟩ hs
      · cases e
    · cases dy <;> first | (simp [doIdx] at e; done) | skip
      obtain ⟨a, vs, rfl, h1, r1⟩ := hx.tup
      have ey := hy.int
      subst ey
      simp only [doIdx] at e
      obtain ⟨j, e3, e4⟩ := Option.bind_eq_some_iff.mp e
      obtain ⟨z, e5, rz⟩ := r1.get e4
      exact ix_tup value slice pins s σ H _ _ v u Q I rx ry ⟨a, vs, _, z, rfl, rfl, h1, by rw [atI_ix, r1.len, e3]; exact e5, q _ rz⟩ hs
    · cases dy <;> first | (simp [doIdx] at e; done) | skip
      obtain ⟨a, vs, rfl, h1, r1⟩ := hx.lst
      have ey := hy.int
      subst ey
      simp only [doIdx] at e
      obtain ⟨j, e3, e4⟩ := Option.bind_eq_some_iff.mp e
      obtain ⟨z, e5, rz⟩ := r1.get e4
      exact ix_list value slice pins s σ H _ _ v u Q I rx ry ⟨a, vs, _, z, rfl, rfl, .of h1, by rw [atI_ix, r1.len, e3]; exact e5, q _ rz⟩ hs
    · rename_i ks vs
      obtain ⟨a, kvs, rfl, h1, h2, r1⟩ := hx.dic
      simp only [doIdx] at e
      split at e
      · rename_i hk
        obtain ⟨k, _, hk2⟩ := key_of hk
        have ey := key_rep hk2 hy
        subst ey hk2
        rw [h2] at e
        rcases look_rep (k := k) r1 with ⟨z1, z2⟩ | ⟨w, d', z1, z2, z3⟩
        · rw [z2] at e
          cases e
        · rw [z2] at e
          cases e
          exact ix_dic hu value slice pins s σ H _ _ v u Q I rx ry ⟨a, w, rfl, by rw [← z1]; exact .k h1, q _ z3⟩ hs
      · cases e
theorem getIx_st {x y : D} {st : Wy.St} {Q : D → Wy.St → Prop} (h : wp (getIx x y) st Q) : ∃ d, Q d st ∧ ((∃ g xs, x = .cell g ∧ st[g]? = some xs ∧ doIdx (.lst xs) y = some d) ∨ doIdx x y = some d) := by
  unfold getIx at h
  split at h
  · rename_i g
    have h := wp_bind h
    cases e1 : st[g]? with
    | none =>
      unfold cellGet wp at h
      simp only [e1] at h
    | some xs =>
      unfold cellGet wp at h
      simp only [e1] at h
      obtain ⟨d, e2, e3⟩ := wp_of h
      exact ⟨d, e3, .inl ⟨g, _, rfl, e1, e2⟩⟩
  · obtain ⟨d, e2, e3⟩ := wp_of h
    exact ⟨d, e3, .inr e2⟩
def notSlice : Expr → Bool
  | .Slice _ _ _ _ => false
  | _ => true
theorem plainIx {b : Expr} (h : notSlice b = true) : PlainIx b := by
  intro o i
  cases b <;> first | rfl | exact absurd h Bool.false_ne_true
theorem snd_idx (m : Mt X S c) {a b : Expr} {pos : Pos} {fb : Bool} {ma mb : Env → M D} (hs : notSlice b = true) (ha : PE X a (tE X.K (BR X.K) ma)) (hb : PE X b (tE X.K (FR X.K fb) mb)) :
    Snd X false (.Subscript a b pos) (.of fun ρ => M.bind (ma ρ) fun x => M.bind (mb ρ) fun y => getIx x y) :=
  Snd.of rfl (PEimp (pe_ix (ixD (by have := m.un; omega)) ha hb (plainIx hs)) fun σ H Q w => by
    obtain ⟨G, ρ, st, g, hw⟩ := w
    refine go g hw fun x st1 v H1 C1 p1 g1 r1 h1 => go g1 h1 fun y st2 u H2 C2 p2 g2 r2 h2 => ?_
    obtain ⟨d, h3, e⟩ := getIx_st h2
    exact ⟨G.at C2, st2, x, y, d, g2.sr, r1.ext p2.ext, .inl r2.1, e, fun z rz => fin h3 (p1.trans p2 g.sr.there) g2 (Same.refl _) rz.fr g.sr.there⟩)
end
end Wy

set_option Elab.async false
set_option linter.all false
set_option maxRecDepth 100000
set_option autoImplicit false
/-! WyW: slices, iterators, targets. -/
namespace Wy
open PySem PySem.Spec PyProof.Rows L2
theorem Reps.cut {K : PySem.W.Frag} {C : List Addr} {H : Hp} {vs : List V} {ds : List D} (r : Reps K C H vs ds) (lo hi : Option Int) : Reps K C H (cutV vs lo hi) (cutD ds lo hi) := by
  have e : ∀ (n d : Nat) (o : Option Int), HT.sIx n d o = cutIx n d o := fun n d o => by cases o <;> rfl
  unfold cutV cutD
  rw [r.len, e, e]
  exact (r.drop _).take _
section
variable {X : Cx} {c : Wy.Ctx} {S : Sc}
def rSlD (K : PySem.W.Frag) : V → Option Int → Option Int → Hp → VK → Prop := fun x lo hi H Q => ∃ G dx d, Hid G H ∧ BRep K G H x dx ∧ doSlc dx lo hi = some d ∧ ∀ v H', Same H H' → FR K true G H H' v d → Q v H'
theorem slD : SlR X (rSlD X.K) := by
  intro pins s σ H x v vl vu lo hi sl Q I rx hs pl pu h
  obtain ⟨G, dx, d, hid, hx, e, q⟩ := h
  cases dx <;> first | (simp [doSlc] at e; done) | skip
  · obtain ⟨a, xs, rfl, h1, r1⟩ := hx.tupA
    simp only [doSlc, Option.some.injEq] at e
    subst e
    have hq := (h1.same hSame).sq (K := X.K)
    by_cases hw : HT.sIx xs.length 0 lo = 0 ∧ HT.sIx xs.length xs.length hi = xs.length
    · refine sl_tupA pins s σ H _ v vl vu lo hi sl Q I rx hs pl pu ⟨a, xs, rfl, hq, fun _ => q _ H (Same.refl _) (FR.flat (.tup h1 ?_) rfl), fun z => (z hw).elim⟩
      have := Reps.cut r1 lo hi
      have e2 : cutV xs lo hi = xs := by
        unfold cutV
        rw [hw.1, hw.2]
        simp
      rw [e2] at this
      exact this
    · cases rx
      obtain ⟨its, r, ht, hz⟩ := I.tuple hq
      have hlen : its.toArray.size = xs.length := by rw [List.size_toArray]; exact r.length.symm
      refine ⟨"tuple", _, PyProof.Rows.slot_tuple_getitem.lookup, ht.typeIs, ?_⟩
      refine HT.getItem_tuple_cut ht hs pl pu (by rw [hlen]; exact hw) ?_ (by rw [hlen]; exact hz)
      rw [hlen]
      have hf := I.hok.fresh (Nat.le_refl s.heap.objs.size)
      refine ⟨.ref s.heap.objs.size, _, I.laid (t' := s.toks) (o := .frz _ (.tup (cutV xs lo hi))) (fun b ob q => Heap.get?_push_of_some _ q) (Nat.le_refl _) ⟨Heap.get?_push_size _ rfl, Nat.le_trans (cutV_length xs lo hi) hz, _, (r.drop (HT.sIx xs.length 0 lo)).take (HT.sIx xs.length xs.length hi - HT.sIx xs.length 0 lo), IsTup.new _ _⟩, rfl,
        q _ _ (same_new hf) (FR.flat (new_tup hid hf rfl (Reps.cut r1 lo hi)) rfl)⟩
  · obtain ⟨a, xs, rfl, h1, r1⟩ := hx.lst
    simp only [doSlc, Option.some.injEq] at e
    subst e
    exact sl_list pins s σ H _ v vl vu lo hi sl Q I rx hs pl pu ⟨a, xs, rfl, .of h1, fun p hp => q _ _ (same_new hp) (new_lst hid hp (Reps.cut r1 lo hi)).fr⟩
  · simp only [doSlc, Option.some.injEq] at e
    subst e
    cases hx.s rfl with
    | scr h1 r1 => exact sl_list pins s σ H _ v vl vu lo hi sl Q I rx hs pl pu ⟨_, _, rfl, hSame.seq h1, fun p hp => q _ _ (same_new hp) (new_lst hid hp (Reps.cut r1 lo hi)).fr⟩
/-- a bound -/
def tO (K : PySem.W.Frag) (mm : Env → M (Option Int)) : TO := fun σ H Q => ∃ G ρ st, Good K G σ H ρ st ∧ wp (mm ρ) st fun o st' => ∀ H' C', Pres G C' H H' → StRep (G.at C') H' st' → Q o H'
theorem POimp {e : Option Expr} {t t' : TO} (h : PO X e t) (k : ∀ σ H Q, t' σ H Q → t σ H Q) : PO X e t' := ⟨fun pins s σ H Q I w => h.run pins s σ H Q I (k σ H Q w)⟩
theorem part_none : PO X none (tO X.K (part none)) := POimp po_none fun σ H Q w => by
  obtain ⟨G, ρ, st, g, hw⟩ := w
  exact wp_pure hw H G.C (Pres.refl G H) g.sr
theorem part_some {e : Expr} {f : Bool} {M0 : Md} (h : PE X e (tE X.K (FR X.K f) M0.s)) : PO X (some e) (tO X.K (part (some M0))) := POimp (po_some h) fun σ H Q w => by
  obtain ⟨G, ρ, st, g, hw⟩ := w
  refine go g hw fun x st1 v H1 C1 p1 g1 r1 h1 => ?_
  obtain ⟨o, e, h2⟩ := wp_of h1
  cases x <;> first | (simp [intOf] at e; done) | skip
  have e1 := BRep.int (.inl r1.1)
  subst e1
  simp only [intOf, Option.map_some, Option.some.injEq] at e
  subst e
  exact ⟨_, rfl, h2 H1 C1 p1 g1.sr⟩
theorem goO {K : PySem.W.Frag} {G : Gh} {σ : L2.St} {H : Hp} {ρ : Env} {st : Wy.St} {β : Type} {Q0 : β → Wy.St → Prop} {ma : Env → M (Option Int)} {f : Option Int → M β} {R : Option Int → Hp → Prop} (g : Good K G σ H ρ st) (h : wp (M.bind (ma ρ) f) st Q0)
    (k : ∀ x st1 H1 C1, Pres G C1 H H1 → Good K (G.at C1) σ H1 ρ st1 → wp (f x) st1 Q0 → R x H1) : tO K ma σ H R :=
  ⟨G, ρ, st, g, wp_mono (wp_bind h) fun x st1 hx H1 C1 p s => k x st1 H1 C1 p (g.pres p s) hx⟩
theorem snd_slc {a : Expr} {lo hi : Option Expr} {pos p2 : Pos} {f : Bool} {ma : Env → M D} {ml mh : Option Md} (ha : PE X a (tE X.K (BR X.K) ma)) (hl : PO X lo (tO X.K (part ml))) (hh : PO X hi (tO X.K (part mh))) :
    Snd X f (.Subscript a (.Slice lo hi none p2) pos) (.of fun ρ => M.bind (ma ρ) fun x => M.bind (part ml ρ) fun l => M.bind (part mh ρ) fun h => M.of (doSlc x l h)) :=
  Snd.of rfl (PEimp (pe_slice slD ha hl hh) fun σ H Q w => by
    obtain ⟨G, ρ, st, g, hw⟩ := w
    refine go g hw fun x st1 v H1 C1 p1 g1 r1 h1 => goO g1 h1 fun l st2 H2 C2 p2 g2 h2 => goO g2 h2 fun h st3 H3 C3 p3 g3 h3 => ?_
    obtain ⟨d, e, h4⟩ := wp_of h3
    exact ⟨G.at C3, x, d, g3.hidden, (r1.ext p2.ext).ext p3.ext, e, fun z H' s r => fin2 h4 ((p1.trans p2 g.sr.there).trans p3 g.sr.there) g3 g.sr.there s r⟩)

/-! ### iterators -/
theorem rng_small {n : Int} (h : n ≤ 1000000000 ∧ -1000000000 ≤ n) : -(2 ^ 62) ≤ n ∧ n < 2 ^ 62 := by omega
theorem pi_rng1 {mk : MK} (m : Mt X S c) {tg a : Expr} {p pos : Pos} {fa : Bool} {ma : Env → M D} (hg : glB S "range" = true) (hs : notStar a = true) (ha : PE X a (tE X.K (FR X.K fa) ma)) :
    PI X tg (.Call (.Name "range" p) [a] [] pos) (tI X.K mk fun ρ => M.bind (ma ρ) fun x => M.of (rng1 x)) :=
  PIimp (pi_range1 (m.gl hg) (m.blt _ (by simp [bnames])) (pa_cons ha pa_nil (star1 hs)) (star1 hs)) fun σ H R w => by
    obtain ⟨G, ρ, st, g, hw⟩ := w
    refine go g hw fun x st1 v H1 C1 p1 g1 r1 h1 => ?_
    obtain ⟨ds, e, h2⟩ := wp_of h1
    cases x <;> first | (simp [rng1, intOf] at e; done) | skip
    have e1 := BRep.int (.inl r1.1)
    subst e1
    unfold rng1 intOf at e
    simp only [Option.bind_some] at e
    split at e <;> cases e
    rename_i n hb
    obtain ⟨b1, b2⟩ := rng_small hb
    exact ⟨n, rfl, b1, b2, h2 _ _ _ p1 g1.sr it_rng⟩
theorem pi_rng2 {mk : MK} (m : Mt X S c) {tg a b : Expr} {p pos : Pos} {fa fb : Bool} {ma mb : Env → M D} (hg : glB S "range" = true) (hs : notStar a = true) (hs2 : notStar b = true) (ha : PE X a (tE X.K (FR X.K fa) ma)) (hb : PE X b (tE X.K (FR X.K fb) mb)) :
    PI X tg (.Call (.Name "range" p) [a, b] [] pos) (tI X.K mk fun ρ => M.bind (ma ρ) fun x => M.bind (mb ρ) fun y => M.of (rng2 x y)) :=
  PIimp (pi_range2 (m.gl hg) (m.blt _ (by simp [bnames])) (pa_cons ha (pa_cons hb pa_nil (star1 hs2)) (star1 hs)) (by rw [star1 hs, star1 hs2]; rfl) (star1 hs2)) fun σ H R w => by
    obtain ⟨G, ρ, st, g, hw⟩ := w
    refine go g hw fun x st1 v H1 C1 p1 g1 r1 h1 => go g1 h1 fun y st2 u H2 C2 p2 g2 r2 h2 => ?_
    obtain ⟨ds, e, h3⟩ := wp_of h2
    cases x <;> first | (simp [rng2, intOf] at e; done) | skip
    cases y <;> first | (simp [rng2, intOf] at e; done) | skip
    have e1 := BRep.int (.inl r1.1)
    have e2 := BRep.int (.inl r2.1)
    subst e1 e2
    unfold rng2 intOf at e
    simp only [Option.bind_some] at e
    split at e <;> cases e
    rename_i i j hb
    obtain ⟨b1, b2⟩ := rng_small ⟨hb.1, hb.2.1⟩
    obtain ⟨b3, b4⟩ := rng_small hb.2.2
    exact ⟨_, _, rfl, ⟨b3, b4, b1, b2⟩, h3 _ _ _ (p1.trans p2 g.sr.there) g2.sr it_rng⟩
theorem withIx_get : ∀ (ds : List D) (n i : Nat) (d : D), (withIx n ds)[i]? = some d → ∃ x, ds[i]? = some x ∧ d = .exc 0 [.int ((n + i : Nat) : Int), x]
  | [], n, i, d, h => by simp [withIx] at h
  | x :: xs, n, 0, d, h => by
    simp [withIx] at h
    exact ⟨x, rfl, by rw [← h]; rfl⟩
  | x :: xs, n, i + 1, d, h => by
    obtain ⟨y, h1, h2⟩ := withIx_get xs (n + 1) i d (by simpa [withIx] using h)
    exact ⟨y, by simpa using h1, by rw [h2, show n + 1 + i = n + (i + 1) by omega]⟩
theorem withIx_len : ∀ (ds : List D) (n : Nat), (withIx n ds).length = ds.length
  | [], _ => rfl
  | x :: xs, n => by simp [withIx, withIx_len xs]
theorem pair_rep {K : PySem.W.Frag} {G : Gh} {H : Hp} {T : Addr} {x y : V} {dx dy : D} (hid : Hid G H) (hT : H T = none) (hx : SRep K G H x dx) (hy : SRep K G H y dy) : SRep K G (upd H T (.tup [x, y])) (.ref T) (.exc 0 [dx, dy]) :=
  .prx (.of (Gh.h_some.mpr ⟨upd_same, (new_out hid hT).1, (new_out hid hT).2⟩)) (.cons (hx.ext (Ext.more (same_new hT))) (.cons (hy.ext (Ext.more (same_new hT))) .nil))
theorem it_enum {K : PySem.W.Frag} {mk : MK} {G : Gh} {H : Hp} {a : Addr} {ds : List D} (r : ∀ G2 H2, mk G H G2 H2 → BRep K G2 H2 (.ref a) (.lst ds)) : ItRep K mk G H (Ite K a) (withIx 0 ds) := by
  intro G2 H2 e hid i
  obtain ⟨a', vs, ea, h1, r1⟩ := (r _ _ e).lst
  cases ea
  refine ⟨fun hi => ⟨vs, .of h1, by rw [r1.len]; rw [withIx_len] at hi; exact hi⟩, fun d hd => ?_⟩
  obtain ⟨d0, hd0, rfl⟩ := withIx_get ds 0 i d hd
  obtain ⟨v, hv, rv⟩ := r1.get hd0
  refine ⟨⟨vs, v, .of h1, hv⟩, fun x H3 hx => ?_⟩
  obtain ⟨T, y, rfl, hT, rfl, hy⟩ := hx
  have := hy vs (.of h1)
  rw [hv] at this
  cases this
  rw [Nat.zero_add]
  exact ⟨same_new hT, pair_rep hid hT (.int _) rv⟩
theorem pairUp_get : ∀ (xs ys : List D) (i : Nat) (d : D), (pairUp xs ys)[i]? = some d → ∃ x y, xs[i]? = some x ∧ ys[i]? = some y ∧ d = .exc 0 [x, y]
  | [], _, i, d, h => by simp [pairUp] at h
  | _ :: _, [], i, d, h => by simp [pairUp] at h
  | x :: xs, y :: ys, 0, d, h => by
    simp [pairUp] at h
    exact ⟨x, y, rfl, rfl, h.symm⟩
  | x :: xs, y :: ys, i + 1, d, h => by
    obtain ⟨u, v, h1, h2, h3⟩ := pairUp_get xs ys i d (by simpa [pairUp] using h)
    exact ⟨u, v, by simpa using h1, by simpa using h2, h3⟩
theorem pairUp_len : ∀ xs ys : List D, (pairUp xs ys).length = min xs.length ys.length
  | [], _ => by simp [pairUp]
  | _ :: _, [] => by simp [pairUp]
  | x :: xs, y :: ys => by
    simp [pairUp, pairUp_len xs ys]
theorem it_zipL {K : PySem.W.Frag} {mk : MK} {G : Gh} {H : Hp} {a b : Addr} {ds es : List D} (r : ∀ G2 H2, mk G H G2 H2 → BRep K G2 H2 (.ref a) (.lst ds)) (r' : ∀ G2 H2, mk G H G2 H2 → BRep K G2 H2 (.ref b) (.lst es)) : ItRep K mk G H (Itz K a b) (pairUp ds es) := by
  intro G2 H2 e hid i
  obtain ⟨a', vs, ea, h1, r1⟩ := (r _ _ e).lst
  cases ea
  obtain ⟨b', us, eb, h2, r2⟩ := (r' _ _ e).lst
  cases eb
  refine ⟨fun hi => ⟨vs, us, .of h1, .of h2, ?_⟩, fun d hd => ?_⟩
  · rw [pairUp_len] at hi
    rw [r1.len, r2.len]
    omega
  · obtain ⟨d0, d1, hd0, hd1, rfl⟩ := pairUp_get _ _ i d hd
    obtain ⟨v, hv, rv⟩ := r1.get hd0
    obtain ⟨u, hu, ru⟩ := r2.get hd1
    refine ⟨⟨vs, us, v, u, .of h1, .of h2, hv, hu⟩, fun x H3 hx => ?_⟩
    obtain ⟨T, y, z, rfl, hT, rfl, hy, hz⟩ := hx
    have e1 := hy vs (.of h1)
    rw [hv] at e1
    cases e1
    have e2 := hz us (.of h2)
    rw [hu] at e2
    cases e2
    exact ⟨same_new hT, pair_rep hid hT rv ru⟩
theorem it_zipT {K : PySem.W.Frag} {mk : MK} {G : Gh} {H : Hp} {a b : Addr} {ds es : List D} (r : ∀ G2 H2, mk G H G2 H2 → BRep K G2 H2 (.ref a) (.tup ds)) (r' : ∀ G2 H2, mk G H G2 H2 → BRep K G2 H2 (.ref b) (.tup es)) : ItRep K mk G H (RZ.ItzT K a b) (pairUp ds es) := by
  intro G2 H2 e hid i
  obtain ⟨a', vs, ea, h1, r1⟩ := (r _ _ e).tup
  cases ea
  obtain ⟨b', us, eb, h2, r2⟩ := (r' _ _ e).tup
  cases eb
  refine ⟨fun hi => ⟨vs, us, h1, h2, ?_⟩, fun d hd => ?_⟩
  · rw [pairUp_len] at hi
    rw [r1.len, r2.len]
    omega
  · obtain ⟨d0, d1, hd0, hd1, rfl⟩ := pairUp_get _ _ i d hd
    obtain ⟨v, hv, rv⟩ := r1.get hd0
    obtain ⟨u, hu, ru⟩ := r2.get hd1
    refine ⟨⟨vs, us, v, u, h1, h2, hv, hu⟩, fun x H3 hx => ?_⟩
    obtain ⟨T, y, z, rfl, hT, rfl, hy, hz⟩ := hx
    have e1 := hy vs h1
    rw [hv] at e1
    cases e1
    have e2 := hz us h2
    rw [hu] at e2
    cases e2
    exact ⟨same_new hT, pair_rep hid hT rv ru⟩
theorem it_enumT {K : PySem.W.Frag} {mk : MK} {G : Gh} {H : Hp} {a : Addr} {ds : List D} (r : ∀ G2 H2, mk G H G2 H2 → BRep K G2 H2 (.ref a) (.tup ds)) : ItRep K mk G H (WyEn.Iet K a) (withIx 0 ds) := by
  intro G2 H2 e hid i
  obtain ⟨a', vs, ea, h1, r1⟩ := (r _ _ e).tup
  cases ea
  refine ⟨fun hi => ⟨vs, h1, by rw [r1.len]; rw [withIx_len] at hi; exact hi⟩, fun d hd => ?_⟩
  obtain ⟨d0, hd0, rfl⟩ := withIx_get ds 0 i d hd
  obtain ⟨v, hv, rv⟩ := r1.get hd0
  refine ⟨⟨vs, v, h1, hv⟩, fun x H3 hx => ?_⟩
  obtain ⟨T, y, rfl, hT, rfl, hy⟩ := hx
  have := hy vs h1
  rw [hv] at this
  cases this
  rw [Nat.zero_add]
  exact ⟨same_new hT, pair_rep hid hT (.int _) rv⟩
theorem it_enumS {K : PySem.W.Frag} {mk : MK} {G : Gh} {H : Hp} {s : List Nat} : ItRep K mk G H (WyEn.Ies (Wy.S s)) (withIx 0 (strsOf s)) := by
  intro G2 H2 e hid i
  have hn : (Wy.S s).cps.size = s.length := S_len s
  have hg : ∀ i : Nat, (Wy.S s).cps[i]? = s[i]? := fun i => by
    show s.toArray[i]? = s[i]?
    simp
  refine ⟨fun hi => ?_, fun d hd => ?_⟩
  · show (Wy.S s).cps.size ≤ i
    rw [hn]
    rw [withIx_len] at hi
    simpa [strsOf] using hi
  · obtain ⟨d0, hd0, rfl⟩ := withIx_get (strsOf s) 0 i d hd
    unfold strsOf at hd0
    rw [List.getElem?_map] at hd0
    cases hc : s[i]? with
    | none =>
      rw [hc] at hd0
      cases hd0
    | some c =>
      rw [hc] at hd0
      have hd0 := Option.some.inj hd0
      subst hd0
      refine ⟨by show i < (Wy.S s).cps.size; rw [hn]; exact (List.getElem?_eq_some_iff.mp hc).1, fun x H3 hx => ?_⟩
      obtain ⟨T, c', rfl, hT, h1, rfl⟩ := hx
      rw [hg, hc] at h1
      cases h1
      rw [Nat.zero_add]
      exact ⟨same_new hT, pair_rep hid hT (.int _) (.str [c])⟩
theorem pi_enumD {mk : MK} {rel : Rel} (hb : ∀ G H0 H v d, rel G H0 H v d → BRep X.K G H v d) (hst : Stab X.K mk rel) (m : Mt X S c) {a : Expr} {p pos tpos : Pos} {elts : List Expr} {kk : Nat} {ma : Env → M D} (hg : glB S "enumerate" = true) (hs : notStar a = true) (ha : PE X a (tE X.K rel ma)) :
    PI X (.Tuple elts kk tpos) (.Call (.Name "enumerate" p) [a] [] pos) (tI X.K mk fun ρ => M.bind (ma ρ) fun x => M.of (enumOf x)) :=
  PIimp (WyEn.pi_enA (m.gl hg) (m.blt _ (by simp [bnames])) (pa_cons ha pa_nil (star1 hs)) (star1 hs)) fun σ H R w => by
    obtain ⟨G, ρ, st, g, hw⟩ := w
    refine go g hw fun x st1 v H1 C1 p1 g1 r0 h1 => ?_
    have r1 := hb _ _ _ _ _ r0
    have rs := hst _ _ _ _ _ r0
    obtain ⟨ds, e, h2⟩ := wp_of h1
    cases x <;> first | (simp [enumOf] at e; done) | skip
    · have ev := r1.str
      simp only [enumOf, Option.some.injEq] at e
      subst e
      exact .inr ⟨_, by rw [ev], h2 _ _ _ p1 g1.sr it_enumS⟩
    · obtain ⟨b, vs, rfl, k1, k2⟩ := r1.tup
      simp only [enumOf, Option.some.injEq] at e
      subst e
      exact .inl ⟨b, vs, rfl, .inr ⟨k1, h2 _ _ _ p1 g1.sr (it_enumT rs)⟩⟩
    · obtain ⟨b, vs, rfl, k1, k2⟩ := r1.lst
      simp only [enumOf, Option.some.injEq] at e
      subst e
      exact .inl ⟨b, vs, rfl, .inl ⟨.of k1, h2 _ _ _ p1 g1.sr (it_enum rs)⟩⟩
theorem pi_zipD {mk : MK} {rel : Rel} (hb : ∀ G H0 H v d, rel G H0 H v d → BRep X.K G H v d) (hst : Stab X.K mk rel) (hpr : ∀ G H0 H v d, rel G H0 H v d → ∀ C' H', Pres G C' H H' → ∀ G2 H2, mk (G.at C') H' G2 H2 → BRep X.K G2 H2 v d) (m : Mt X S c) {a b : Expr} {p pos tpos : Pos} {elts : List Expr} {kk : Nat} {ma mb : Env → M D} (hg : glB S "zip" = true) (hs : notStar a = true) (hs2 : notStar b = true) (ha : PE X a (tE X.K rel ma)) (hb' : PE X b (tE X.K rel mb)) :
    PI X (.Tuple elts kk tpos) (.Call (.Name "zip" p) [a, b] [] pos) (tI X.K mk fun ρ => M.bind (ma ρ) fun x => M.bind (mb ρ) fun y => M.of (zipOf x y)) :=
  PIimp (RZ.pi_zipA (m.gl hg) (m.blt _ (by simp [bnames])) (pa_cons ha (pa_cons hb' pa_nil (star1 hs2)) (star1 hs)) (star1 hs) (no_stars (by simp [hs2]))) fun σ H R w => by
    obtain ⟨G, ρ, st, g, hw⟩ := w
    refine go g hw fun x st1 v H1 C1 p1 g1 r01 h1 => go g1 h1 fun y st2 u H2 C2 p2 g2 r02 h2 => ?_
    obtain ⟨ds, e, h3⟩ := wp_of h2
    have r1 := (hb _ _ _ _ _ r01).ext p2.ext
    have r2 := hb _ _ _ _ _ r02
    have rs1 := hpr _ _ _ _ _ r01 _ _ p2
    have rs2 := hst _ _ _ _ _ r02
    cases x <;> cases y <;> first | (simp [zipOf] at e; done) | skip
    · obtain ⟨b, vs, rfl, k1, k2⟩ := r1.tup
      obtain ⟨b', vs', rfl, k1', k2'⟩ := r2.tup
      simp only [zipOf, Option.some.injEq] at e
      subst e
      exact ⟨b, b', vs, vs', rfl, .inr ⟨k1, k1', h3 _ _ _ (p1.trans p2 g.sr.there) g2.sr (it_zipT rs1 rs2)⟩⟩
    · obtain ⟨b, vs, rfl, k1, k2⟩ := r1.lst
      obtain ⟨b', vs', rfl, k1', k2'⟩ := r2.lst
      simp only [zipOf, Option.some.injEq] at e
      subst e
      exact ⟨b, b', vs, vs', rfl, .inl ⟨.of k1, .of k1', h3 _ _ _ (p1.trans p2 g.sr.there) g2.sr (it_zipL rs1 rs2)⟩⟩
end
end Wy

set_option Elab.async false
set_option linter.all false
set_option maxRecDepth 100000
set_option autoImplicit false
/-! WyV: targets, list comprehensions. -/
namespace PySem
open Sem (wp)
open PyProof.Rows
section
variable {prog : Program} {w : World} {A : Around} {E : Value → Shared → Prop} {s : Shared}
theorem wyDraw_list {it t : Addr} {items : Array Value} (hne : t ≠ it) : ∀ (n i : Nat) (s : Shared) (Q : List Value → Shared → Prop), s.heap.IsListIter it t i → s.heap.IsList t items → i + n ≤ items.size →
    (∀ h', h'.IsListIter it t (i + n) → Heap.SameBut it s.heap h' → Q ((items.toList.drop i).take n) { s with heap := h' }) → wpAny (model prog w) A (draw (.ref it) n) Q E s
  | 0, i, s, Q, hit, _, _, hQ => by
    show wpAny _ _ (pure []) Q E s
    exact wpAny_pure (by simpa using hQ s.heap hit (Heap.SameBut.refl ..))
  | n + 1, i, s, Q, hit, ht, hle, hQ => by
    have hlt : i < items.size := by omega
    show wpAny _ _ (pyNext (.ref it) >>= _) Q E s
    refine wpAny_bind (wpAny_pyNext_list_item hit ht (x := items[i]) (by simp [hlt]) fun h₁ hit₁ hs₁ => ?_)
    refine wpAny_bind (wpAny_holding (wyDraw_list hne n (i + 1) _ _ hit₁ (ht.at fun o e => hs₁.extBut t o hne e) (by omega) fun h₂ hit₂ hs₂ => wpAny_pure ?_))
    have hd : items.toList.drop i = items[i] :: items.toList.drop (i + 1) := by simp [List.drop_eq_getElem_cons, hlt]
    have := hQ h₂ (by rw [show i + (n + 1) = i + 1 + n by omega]; exact hit₂) (hs₁.trans hs₂)
    rw [hd, List.take_succ_cons] at this
    exact this
theorem wyUnpack_list {t : Addr} {items : Array Value} {Q : List Value → Shared → Prop} (hh : A.handled = none) (ht : s.heap.IsList t items)
    (hQ : ∀ h', Heap.ExtBut s.heap.objs.size s.heap h' → Q items.toList { s with heap := h' }) : wpAny (model prog w) A (unpackItems (.ref t) items.size none) Q E s := by
  have hlt : t ≠ s.heap.objs.size := by obtain ⟨o, ho, _⟩ := ht; exact Nat.ne_of_lt (Heap.lt_size ho)
  unfold unpackItems
  refine wpAny_bind ?_
  · unfold notIterableAtAll
    refine wpAny_bind (wpAny_specialOf ht.typeIs slot_list_iter.lookup ?_)
    refine wpAny_pure ?_
    simp only [Bool.false_eq_true, if_false]
    refine wpAny_bind (wpAny_holding (wpAny_pyIter_list ht ?_))
    refine wpAny_bind (wpAny_holding (wyDraw_list hlt items.size 0 _ _ ⟨_, Heap.get?_push_size _ rfl, rfl, rfl⟩ (ht.at fun o e => Heap.get?_push_of_some _ e) (by omega) fun h₁ hit₁ hs₁ => ?_))
    have hall : List.take items.size (List.drop 0 items.toList) = items.toList := by
      rw [List.drop_zero]; exact List.take_of_length_le (by simp)
    rw [hall]
    rw [if_neg (by simp)]
    have ht₁ : h₁.IsList t items := ht.at fun o e => hs₁.extBut t o hlt (Heap.get?_push_of_some _ e)
    refine wpAny_bind (wpAny_holding (wpAny_pyNext_list_end hh hit₁ ht₁ (by simp) fun h₂ he₂ => ?_))
    simp only [Option.isSome_none, Bool.false_eq_true, if_false]
    refine wpAny_pure (hQ h₂ fun b o hb e => he₂ b o hb (hs₁.extBut b o hb (Heap.get?_push_of_some _ e)))
theorem wyAssign_list {env : Env} {elts : List Expr} {x1} {pos : Pos} {t : Addr} {items : Array Value} {Q : Unit → Shared → Prop} (hh : A.handled = none) (ht : s.heap.IsList t items)
    (hn : (assignEach elts env).length = items.size) (hstar : (assignEach elts env).findIdx? (·.1) = none)
    (h : ∀ h', Heap.ExtBut s.heap.objs.size s.heap h' → wpAny (model prog w) A (assignInOrder ((assignEach elts env).map (·.2)) items.toList) Q E { s with heap := h' }) :
    wpAny (model prog w) A (assign (.Tuple elts x1 pos) env (.ref t)) Q E s := by
  rw [PyProof.Rows.assign_Tuple]
  refine wpAny_bind (wpAny_standAt ?_)
  unfold unpack
  rw [hn, hstar]
  exact wpAny_bind (wpAny_holding (wyUnpack_list hh ht h))
end
end PySem
namespace Wy
open PySem PySem.Spec PyProof.Rows L2
def Diff (σ σ' : L2.St) (is : List Nat) : Prop := σ'.length = σ.length ∧ ∀ i, i ∉ is → σ'[i]? = σ[i]?
theorem Diff_wipe {σ σ' : L2.St} {is vs : List Nat} (d : Diff σ σ' is) (h : ∀ i ∈ is, i ∈ vs) : wipe σ' vs = wipe σ vs := by
  have key : ∀ (σ : L2.St) (vs : List Nat) (i : Nat), i ∈ vs → (wipe σ vs)[i]? = if i < σ.length then some none else none := by
    intro σ vs
    induction vs with
    | nil => intro i h; cases h
    | cons v vs ih =>
      intro i h
      unfold L2.wipe
      by_cases e : v = i
      · subst e
        by_cases hl : v < σ.length
        · rw [List.getElem?_set_self (by rw [wipe_length]; exact hl), if_pos hl]
        · rw [List.getElem?_eq_none (by rw [List.length_set, wipe_length]; omega), if_neg hl]
      · rw [List.getElem?_set_ne e]
        rcases List.mem_cons.mp h with z | z
        · exact absurd z.symm e
        · exact ih i z
  refine List.ext_getElem? fun i => ?_
  by_cases hi : i ∈ vs
  · rw [key σ' vs i hi, key σ vs i hi, d.1]
  · rw [wipe_out hi, wipe_out hi]
    exact d.2 i fun z => hi (h i z)
theorem wipe_wipe {σ : L2.St} {vs : List Nat} : wipe (wipe σ vs) vs = wipe σ vs := by
  have d : Diff σ (wipe σ vs) vs := ⟨wipe_length σ vs, fun i h => wipe_out h⟩
  exact Diff_wipe d fun _ h => h
theorem wipeE_get {ρ : Env} {i : Nat} {p : D × Bool} : ∀ {vs : List Nat}, (wipeE ρ vs)[i]? = some (some p) → ρ[i]? = some (some p) ∧ i ∉ vs
  | [], h => ⟨h, by simp⟩
  | v :: vs, h => by
    unfold wipeE at h
    by_cases e : v = i
    · subst e
      by_cases hl : v < (wipeE ρ vs).length
      · rw [List.getElem?_set_self hl] at h
        cases h
      · rw [List.getElem?_eq_none (by simpa using hl)] at h
        cases h
    · rw [List.getElem?_set_ne e] at h
      obtain ⟨h1, h2⟩ := wipeE_get h
      exact ⟨h1, by simp only [List.mem_cons, not_or]; exact ⟨fun z => e z.symm, h2⟩⟩
theorem ER.wipe {K : PySem.W.Frag} {G : Gh} {σ : L2.St} {H : Hp} {ρ : Env} (r : ER K G σ H ρ) (vs : List Nat) : ER K G (L2.wipe σ vs) H (wipeE ρ vs) := fun i d o h => by
  obtain ⟨h1, h2⟩ := wipeE_get h
  obtain ⟨v, k1, k2⟩ := r i d o h1
  exact ⟨v, by rw [wipe_out h2]; exact k1, k2⟩
theorem ER.set {K : PySem.W.Frag} {G : Gh} {σ : L2.St} {H : Hp} {ρ : Env} {i : Nat} {v : V} {d : D} {o : Bool} (r : ER K G σ H ρ) (hi : i < σ.length) (h : if o = true then OwnRep K G H v d else SRep K G H v d) : ER K G (σ.set i (some v)) H (setS ρ i d o) := fun j d' o' hj => by
  unfold setS at hj
  by_cases e : i = j
  · subst e
    by_cases hl : i < ρ.length
    · rw [List.getElem?_set_self hl] at hj
      cases hj
      exact ⟨v, List.getElem?_set_self hi, h⟩
    · rw [List.getElem?_eq_none (by simpa using hl)] at hj
      cases hj
  · rw [List.getElem?_set_ne e] at hj
    obtain ⟨u, k1, k2⟩ := r j d' o' hj
    exact ⟨u, by rw [List.getElem?_set_ne e]; exact k1, k2⟩
def tgIs : Tg → List Nat
  | .n i => [i]
  | .t is => is
/-- a target takes a value -/
def gD (K : PySem.W.Frag) (tg : Tg) : TG := fun v σ H Q => ∃ G ρ st d ρ', Good K G σ H ρ st ∧ SRep K G H v d ∧ setTg ρ tg d = some ρ' ∧ ∀ σ', Good K G σ' H ρ' st → Diff σ σ' (tgIs tg) → Q σ' H
def gDs (K : PySem.W.Frag) (is : List Nat) : TGs := fun vs σ H Q => ∃ G ρ st ds ρ', Good K G σ H ρ st ∧ Reps K G.C (G.h H) vs ds ∧ setMany ρ is ds = some ρ' ∧ ∀ σ', Good K G σ' H ρ' st → Diff σ σ' is → Q σ' H
theorem Good.set {K : PySem.W.Frag} {G : Gh} {σ : L2.St} {H : Hp} {ρ : Env} {st : Wy.St} {i : Nat} {v : V} {d : D} (g : Good K G σ H ρ st) (hi : i < σ.length) (h : SRep K G H v d) : Good K G (σ.set i (some v)) H (setS ρ i d false) st := ⟨g.er.set hi h, g.sr, g.hid⟩
theorem Diff.set {σ : L2.St} {i : Nat} {v : V} : Diff σ (σ.set i (some v)) [i] := ⟨List.length_set, fun j h => List.getElem?_set_ne fun e => h (by rw [e]; simp)⟩
theorem Diff.cons {σ σ' : L2.St} {i : Nat} {v : V} {is : List Nat} (d : Diff (σ.set i (some v)) σ' is) : Diff σ σ' (i :: is) :=
  ⟨d.1.trans List.length_set, fun j h => by
    simp only [List.mem_cons, not_or] at h
    rw [d.2 j h.2, List.getElem?_set_ne fun e => h.1 e.symm]⟩
section
variable {X : Cx} {c : Wy.Ctx} {S : Sc}
theorem Mt.ndX (m : Mt X S c) : X.N.Nodup := by
  rw [m.hN]
  exact m.nd
theorem Mt.lt (m : Mt X S c) {x : Str} {i : Nat} (h : atB S i x = true) {pins : List (Addr × Obj)} {σ : L2.St} {H : Hp} {s : Shared} (I : Inv X pins σ H s) : i < σ.length := by
  rw [I.len]
  exact (List.getElem?_eq_some_iff.mp (m.at_ h)).1
theorem pg_n (m : Mt X S c) {x : Str} {pos : Pos} {i : Nat} (h1 : atB S i x = true) (h2 : locB S x = true) : PG X (.Name x pos) (gD X.K (.n i)) := by
  refine ⟨fun pins s σ H v u Q I r w => ?_⟩
  obtain ⟨G, ρ, st, d, ρ', g, rv, e, q⟩ := w
  cases e
  exact (pg_name m.ndX (m.at_ h1) (m.loc h2).1 (m.loc h2).2).run pins s σ H v u Q I r (q _ (g.set (m.lt h1 I) rv) Diff.set)
/-- a row of names -/
def tgRow (S : Sc) : List Nat → List Expr → Bool
  | [], [] => true
  | i :: is, .Name x _ :: es => atB S i x && locB S x && tgRow S is es
  | _, _ => false
theorem tgRow_each {env : PySem.Env} : ∀ {is : List Nat} {es : List Expr}, tgRow S is es = true → (assignEach es env).length = is.length ∧ (assignEach es env).findIdx? (·.1) = none
  | [], [], _ => ⟨rfl, rfl⟩
  | [], _ :: _, h => absurd h Bool.false_ne_true
  | _ :: _, [], h => absurd h Bool.false_ne_true
  | i :: is, e :: es, h => by
    cases e <;> first | exact absurd h Bool.false_ne_true | skip
    unfold tgRow at h
    rw [Bool.and_eq_true] at h
    obtain ⟨h1, h2⟩ := tgRow_each (env := env) h.2
    exact ⟨by show (assignEach es env).length + 1 = is.length + 1; rw [h1], by
      show (List.findIdx? (·.1) ((false, _) :: assignEach es env)) = none
      rw [List.findIdx?_cons, h2]
      rfl⟩
theorem pgs_row (m : Mt X S c) : ∀ {is : List Nat} {es : List Expr}, tgRow S is es = true → PGs X es (gDs X.K is)
  | [], [], _ => ⟨fun pins s σ H vs us Q I r w => by
    obtain ⟨G, ρ, st, ds, ρ', g, rv, e, q⟩ := w
    cases ds with
    | cons _ _ => cases e
    | nil =>
      cases rv
      cases e
      exact pgs_nil.run pins s σ H [] us Q I r ⟨rfl, q σ g ⟨rfl, fun _ _ => rfl⟩⟩⟩
  | [], _ :: _, h => absurd h Bool.false_ne_true
  | _ :: _, [], h => absurd h Bool.false_ne_true
  | i :: is, e :: es, h => by
    cases e <;> first | exact absurd h Bool.false_ne_true | skip
    rename_i x pos
    unfold tgRow at h
    rw [Bool.and_eq_true, Bool.and_eq_true] at h
    refine ⟨fun pins s σ H vs us Q I r w => ?_⟩
    refine (pgs_cons (pg_n m h.1.1 h.1.2) (pgs_row m h.2) rfl).run pins s σ H vs us Q I r ?_
    obtain ⟨G, ρ, st, ds, ρ', g, rv, e, q⟩ := w
    cases ds with
    | nil => cases e
    | cons d ds =>
      cases rv with
      | cons r1 r2 =>
        refine ⟨_, _, rfl, G, ρ, st, d, _, g, r1, rfl, fun σ1 g1 d1 => ⟨G, _, st, ds, ρ', g1, r2, e, fun σ2 g2 d2 => q σ2 g2 ⟨d2.1.trans d1.1, fun j hj => ?_⟩⟩⟩
        simp only [List.mem_cons, not_or] at hj
        rw [d2.2 j hj.2, d1.2 j (by simp [tgIs]; exact hj.1)]
theorem setMany_len : ∀ {is : List Nat} {ds : List D} {ρ ρ' : Env}, setMany ρ is ds = some ρ' → ds.length = is.length
  | [], [], _, _, _ => rfl
  | [], _ :: _, _, _, e => by cases e
  | _ :: _, [], _, _, e => by cases e
  | i :: is, d :: ds, _, _, e => by
    rw [List.length_cons, List.length_cons, setMany_len (is := is) e]
theorem pg_t (m : Mt X S c) {es : List Expr} {kk : Nat} {pos : Pos} {is : List Nat} (h : tgRow S is es = true) : PG X (.Tuple es kk pos) (gD X.K (.t is)) := by
  obtain ⟨l1, l2⟩ := tgRow_each (env := X.env) h
  refine ⟨fun pins s σ H v u Q I r w => ?_⟩
  obtain ⟨G, ρ, st, d, ρ', g, rv, e, q⟩ := w
  have go : ∀ {a : Addr} {vs : List V} {ds : List D}, v = .ref a → Reps X.K G.C (G.h H) vs ds → SqT X.K H a vs → setMany ρ is ds = some ρ' → wpAny (model X.prog X.w) X.A (assign (.Tuple es kk pos) X.env u) (fun _ s' => ∃ σ' H', Inv X pins σ' H' s' ∧ Q σ' H') X.xe s := fun {a vs ds} e1 r1 h1 e2 =>
    (pg_tup (n := is.length) m.calm (pgs_row m h) l1 l2).run pins s σ H v u Q I r ⟨a, vs, e1, h1, by rw [r1.len, setMany_len e2], G, ρ, st, ds, ρ', g, r1, e2, q⟩
  cases d <;> first | (simp [setTg, tgOf] at e; done) | skip
  · obtain ⟨a, vs, e1, h1, r1⟩ := BRep.tup (.inl rv)
    exact go e1 r1 h1 e
  · obtain ⟨a, vs, e1, h1, r1⟩ := BRep.lst (.inl rv)
    subst e1
    cases r
    obtain ⟨its, rv2, ht, hz⟩ := I.list (.of h1)
    have e2 : setMany ρ is _ = some ρ' := e
    refine wyAssign_list (I.ok.hd m.calm) ht.isList (by rw [l1, List.size_toArray, ← rv2.length, r1.len, setMany_len e2]) l2 fun h' hx => ?_
    have I1 : Inv X pins σ H { s with heap := h' } := I.kept (t' := s.toks) fun b o e => hx b o (Nat.ne_of_lt (Heap.lt_size e)) e
    exact (pgs_row m h).run pins _ σ H vs _ Q I1 (by simpa using rv2) ⟨G, ρ, st, _, ρ', g, r1, e2, q⟩
  · obtain ⟨a, vs, e1, h1, r1⟩ := BRep.prx (.inl rv)
    exact go e1 r1 h1 e
def tgB (S : Sc) : Tg → Expr → Bool
  | .n i, .Name x _ => atB S i x && locB S x
  | .t is, .Tuple es _ _ => tgRow S is es
  | _, _ => false
theorem pgD (m : Mt X S c) {tg : Tg} {e : Expr} (h : tgB S tg e = true) : PG X e (gD X.K tg) := by
  cases tg <;> cases e <;> first | exact absurd h Bool.false_ne_true | skip
  · unfold tgB at h
    rw [Bool.and_eq_true] at h
    exact pg_n m h.1 h.2
  · exact pg_t m h
end
end Wy

set_option Elab.async false
set_option linter.all false
set_option maxRecDepth 100000
set_option autoImplicit false
/-! WyL: list comprehensions. -/
namespace Wy
open PySem PySem.Spec PyProof.Rows L2
def Sc.blk (S : Sc) (scope : Scope) : Sc := { S with sc := relS scope S.sc, fn := fun x => scope.names.lookup x == some .cell }
theorem Mt.blk {X : Cx} {c : Wy.Ctx} {S : Sc} (m : Mt X S c) (s : Shared) (H : Hp) (scope : Scope) (C : Addr) (cl : List (Str × Addr)) (fp : List Addr) : Mt (X.blk s H scope (compEnvC scope cl C X.env) fp) (S.blk scope) c where
  hN := m.hN
  nd := m.nd
  sc := by
    show relS scope X.env.scope = relS scope S.sc
    rw [m.sc]
  fn := rfl
  calm := m.calm
  un := m.un
  blt := m.blt
  fns := fun x i h => ⟨(m.fns x i h).ex⟩
  kws := fun q h => ⟨(m.kws q h).ex⟩
  cst := m.cst
def ownOf (S : Sc) (own : List Nat) : List (Str × Nat) := own.map fun i => ((S.N[i]?).getD ⟨#[]⟩, i)
def blkB (S : Sc) (scope : Scope) (own : List Nat) : Bool :=
  decide (scope.kind = .function) && scope.names.all (fun y => lk scope.names y.1 == some y.2) && own.all (fun i => (S.N[i]?).isSome)
    && scope.names.all (fun y => !(y.2 == .free) || (lk S.sc.names y.1 == some .cell) || (lk S.sc.names y.1 == some .free))
    && scope.names.all (fun y => !(y.2 == .local || y.2 == .cell) || (own.any fun i => match S.N[i]? with | some z => sEq y.1 z | none => false) || !(S.N.any fun z => sEq y.1 z))
theorem blk_ok {X : Cx} {c : Wy.Ctx} {S : Sc} (m : Mt X S c) {scope : Scope} {own : List Nat} (h : blkB S scope own = true) : BlkOk X.N X.env.scope scope (ownOf S own) ∧ (ownOf S own).map (·.2) = own := by
  unfold blkB at h
  simp only [Bool.and_eq_true, decide_eq_true_eq, List.all_eq_true, beq_iff_eq, Bool.or_eq_true, Bool.not_eq_true'] at h
  obtain ⟨⟨⟨⟨h1, h2⟩, h3⟩, h4⟩, h5⟩ := h
  refine ⟨⟨h1, fun y hy => by rw [lk_eq]; exact h2 y hy, fun p hp => ?_, fun y hy e => ?_, fun y hy e => ?_⟩, ?_⟩
  · unfold ownOf at hp
    obtain ⟨i, hi, rfl⟩ := List.mem_map.mp hp
    rw [m.hN]
    have := h3 i hi
    obtain ⟨z, hz⟩ := Option.isSome_iff_exists.mp this
    simp [hz]
  · rw [m.sc, lk_eq]
    rcases h4 y hy with (h | h) | h
    · rw [e] at h
      cases h
    · exact .inl h
    · exact .inr h
  · rcases h5 y hy with (h | h) | h
    · rcases e with e | e <;> rw [e] at h <;> cases h
    · left
      obtain ⟨i, hi, hz⟩ := List.any_eq_true.mp h
      cases q : S.N[i]? with
      | none => rw [q] at hz; cases hz
      | some z =>
        rw [q] at hz
        unfold ownOf
        rw [List.map_map]
        refine List.mem_map.mpr ⟨i, hi, ?_⟩
        simp [q, sEq_eq hz]
    · right
      rw [m.hN]
      intro hm
      have := List.any_eq_false.mp h y.1 hm
      simp [sEq] at this
  · unfold ownOf
    rw [List.map_map]
    simp [Function.comp_def]
section
variable {K : PySem.W.Frag} {G : Gh} {C1 C' : List Addr} {H H1 H' : Hp} {D0 : Addr}
theorem Pres.sw {O : Addr → Prop} {C : List Addr} (p : Pres G C' H H') (e : G.C = C) : Pres ⟨O, C⟩ C' H H' := by
  subst e
  exact ⟨p.keep, p.pre, p.new⟩
theorem StRep.sw {O : Addr → Prop} {C : List Addr} {st : Wy.St} (p : StRep G H st) (e : G.C = C) : StRep ⟨O, C⟩ H st := by
  subst e
  exact ⟨p.len, p.nd, p.at_⟩
abbrev Gh.plus (G : Gh) (a : Addr) : Gh := ⟨fun b => G.O b ∨ b = a, G.C⟩
theorem ext_plus (p : Pres G C' H H') (hD : H D0 = none) : Ext G H ((G.at C').plus D0) H' :=
  ⟨p.pre, fun a o h h1 h2 => ⟨p.keep a o h h2, fun z => z.elim h1 (ne_of_none h hD), p.notin h h2⟩, fun a o h h1 h2 => ⟨p.keep a o h h2, .inl h1, p.notin h h2⟩⟩
theorem plus_upd {o : HO} : (G.plus D0).h (upd H D0 o) = (G.plus D0).h H := by
  funext a
  unfold Gh.h
  by_cases e : a = D0
  · rw [if_pos (.inl (.inr e)), if_pos (.inl (.inr e))]
  · split
    · rfl
    · exact upd_ne e
end
/-- the new list so far -/
structure LcW (K : PySem.W.Frag) (G : Gh) (C1 : List Addr) (H1 : Hp) (D0 : Addr) (C' : List Addr) (H' : Hp) (st' : Wy.St) (av : List V) (ad : List D) : Prop where
  pr : Pres (G.at C1) C' H1 H'
  sr : StRep (G.at C') H' st'
  at_ : H' D0 = some (.lst av)
  out : D0 ∉ C'
  rp : Reps K C' (((G.at C').plus D0).h H') av ad
theorem LcW.more {K : PySem.W.Frag} {G : Gh} {C1 C' C2 : List Addr} {H1 H' H2 : Hp} {D0 : Addr} {st' st2 : Wy.St} {av : List V} {ad : List D} (w : LcW K G C1 H1 D0 C' H' st' av ad) (t : ∀ x ∈ C1, ∃ o, H1 x = some o) (p : Pres ((G.at C').plus D0) C2 H' H2) (s : StRep ((G.at C').plus D0 |>.at C2) H2 st2) : LcW K G C1 H1 D0 C2 H2 st2 av ad where
  pr := w.pr.trans (p.sw rfl) t
  sr := s.sw rfl
  at_ := p.keep _ _ w.at_ w.out
  out := p.notin w.at_ w.out
  rp := SReps.ext p.ext w.rp
theorem LcW.push {K : PySem.W.Frag} {G : Gh} {C1 C' : List Addr} {H1 H' : Hp} {D0 : Addr} {st' : Wy.St} {av : List V} {ad : List D} {v : V} {d : D} (w : LcW K G C1 H1 D0 C' H' st' av ad) (hD : H1 D0 = none) (r : SRep K ((G.at C').plus D0) H' v d) : LcW K G C1 H1 D0 C' (upd H' D0 (.lst (av ++ [v]))) st' (av ++ [v]) (ad ++ [d]) where
  pr := ⟨fun a o h n => by
    rw [upd_ne (ne_of_none h hD)]
    exact w.pr.keep a o h n, w.pr.pre, w.pr.new⟩
  sr := ⟨w.sr.len, w.sr.nd, fun g a h => by
    obtain ⟨ns, h1, h2⟩ := w.sr.at_ g a h
    exact ⟨ns, h1, by rw [upd_ne fun e => w.out (by rw [← e]; exact List.mem_of_getElem? h)]; exact h2⟩⟩
  at_ := upd_same
  out := w.out
  rp := by
    rw [plus_upd]
    exact Reps.app (.cons r .nil) w.rp
theorem wp_some {α : Type} {m : M α} {st : Wy.St} {Q : α → Wy.St → Prop} (h : wp m st Q) : ∃ a st', Q a st' := by
  unfold wp at h
  split at h
  · exact ⟨_, _, h⟩
  · exact h.elim
section
variable {X : Cx} {c : Wy.Ctx} {S : Sc}
theorem lc_tE {f fe : Bool} {K : PySem.W.Frag} {own : List Nat} {tgD : Tg} {mi : Env → M (List D)} {mc : Env → M Bool} {me : Env → M D} (hsub : ∀ i ∈ tgIs tgD, i ∈ own) {σ : L2.St} {H : Hp} {Q : VK}
    (w : tE K (FR K f) (fun ρ => M.bind (mi ρ) fun ds => M.bind (noExc (mapO (lcTurn ρ own tgD (lcElt mc me)) ds)) fun ys => M.of ((short ys).map .lst)) σ H Q) :
    tLc (tI K Ext mi) (gD K tgD) (tT K mc) (tE K (FR K fe) me) own σ H Q := by
  obtain ⟨G, ρ, st, g, hw⟩ := w
  refine goI g hw fun ds st1 J H1 C1 p1 g1 rJ h1 => ?_
  have h1 := wp_noExc (wp_bind h1)
  intro D0 hD
  generalize hF : lcTurn ρ own tgD (lcElt mc me) = F at h1
  refine ⟨fun i k H' => k = ds.length - i ∧ i ≤ ds.length ∧ ∃ C' st' av ad, LcW K G C1 H1 D0 C' H' st' av ad ∧ wp (mapO F (ds.drop i)) st' (fun r st2 => wp (M.of ((short (ad ++ r)).map .lst)) st2 (Post (FR K f) G H Q)), ⟨ds.length, rfl, Nat.zero_le _, C1, st1, [], [], ?_, ?_⟩, ?_⟩
  · exact ⟨Pres.more (same_new hD), g1.sr.more (same_new hD), upd_same, (new_out g1.hidden hD).2, .nil⟩
  · simpa using h1
  rintro i k H' ⟨rfl, hi, C', st', av, ad, W, hr⟩
  have hE : Ext (G.at C1) H1 ((G.at C').plus D0) H' := ext_plus W.pr hD
  have hidO : ∀ a, G.O a → a ∉ C' ∧ ∃ o, H' a = some o := fun a ha => by
    obtain ⟨n, o, ho⟩ := g1.hid a ha
    exact ⟨W.pr.notin ho n, o, W.pr.keep a o ho n⟩
  have hid' : ∀ a, ((G.at C').plus D0).O a → a ∉ ((G.at C').plus D0).C ∧ ∃ o, H' a = some o := fun a ha => by
    rcases ha with ha | ha
    · exact hidO a ha
    · subst ha
      exact ⟨W.out, _, W.at_⟩
  have sr' : StRep ((G.at C').plus D0) H' st' := W.sr.sw rfl
  have g0 : Good K ((G.at C').plus D0) (wipe σ own) H' (wipeE ρ own) st' := ⟨(g1.er.ext hE).wipe own, sr', hid'⟩
  obtain ⟨hstop, hgo⟩ := rJ _ H' hE g0.hidden i
  by_cases hlt : i < ds.length
  · right
    have hd : ds[i]? = some ds[i] := List.getElem?_eq_getElem hlt
    obtain ⟨hg1, yl⟩ := hgo _ hd
    refine ⟨hg1, _, fun H'' h => ⟨ds.length - (i + 1), by omega, rfl, by omega, h⟩, fun x H2 hx => ?_⟩
    obtain ⟨s2, rx⟩ := yl x H2 hx
    rw [List.drop_eq_getElem_cons hlt] at hr
    unfold mapO at hr
    have hr := wp_bind hr
    have hFd : F ds[i] = lcTurn ρ own tgD (lcElt mc me) ds[i] := by rw [← hF]
    rw [hFd] at hr
    unfold lcTurn at hr
    obtain ⟨ρ', e, h3⟩ := wp_of (wp_bind hr)
    have g2 : Good K ((G.at C').plus D0) (wipe σ own) H2 (wipeE ρ own) st' := g0.more s2
    refine ⟨_, _, _, _, ρ', g2, rx, e, fun σ2 g3 df => ⟨(Diff_wipe df hsub).trans wipe_wipe, ?_⟩⟩
    have W2 : LcW K G C1 H1 D0 C' H2 st' av ad := W.more g1.sr.there (Pres.more s2) g2.sr
    have tail : ∀ {C3 : List Addr} {H3 : Hp} {st3 : Wy.St} {av' : List V} {ad' y' : List D}, LcW K G C1 H1 D0 C3 H3 st3 av' ad' → ad' = ad ++ y' → wp (M.bind (mapO F (ds.drop (i + 1))) fun ys => M.pure (y' ++ ys)) st3 (fun r st2 => wp (M.of ((short (ad ++ r)).map .lst)) st2 (Post (FR K f) G H Q)) →
        ∃ C' st' av ad, LcW K G C1 H1 D0 C' H3 st' av ad ∧ wp (mapO F (ds.drop (i + 1))) st' (fun r st2 => wp (M.of ((short (ad ++ r)).map .lst)) st2 (Post (FR K f) G H Q)) := fun {C3 H3 st3 av' ad' y'} W3 ey h => by
      refine ⟨C3, st3, av', ad', W3, wp_mono (wp_bind h) fun r st2 z => ?_⟩
      have z := wp_pure z
      rw [ey, List.append_assoc]
      exact z
    unfold lcElt at h3
    refine goT g3 h3 fun b st3 H3 C3 p3 g4 h4 => ?_
    have W3 := W2.more g1.sr.there p3 g4.sr
    cases b with
    | false =>
      rw [if_neg Bool.false_ne_true]
      exact tail W3 (by simp) (wp_pure h4)
    | true =>
      rw [if_pos rfl]
      refine go g4 h4 fun y st4 v H4 C4 p4 g5 r5 h5 => ?_
      have W4 := W3.more g1.sr.there (p4.sw rfl) (g5.sr.sw rfl)
      have h6 := wp_pure h5
      refine ⟨av, W4.at_, ?_, tail (W4.push hD r5.1) rfl h6⟩
      obtain ⟨r, st5, z⟩ := wp_some (wp_bind h6)
      obtain ⟨d, e1, _⟩ := wp_of (wp_pure z)
      obtain ⟨ys, e2, _⟩ := Option.map_eq_some_iff.mp e1
      obtain ⟨_, e3⟩ := short_ok e2
      rw [W4.rp.len]
      simp only [List.length_append, List.length_cons, List.length_nil] at e3
      omega
  · left
    have hi2 : i = ds.length := by omega
    refine ⟨hstop (by omega), ?_⟩
    rw [hi2, List.drop_length] at hr
    obtain ⟨d, e1, z⟩ := wp_of (wp_pure hr)
    obtain ⟨ys, e2, e3⟩ := Option.map_eq_some_iff.mp e1
    obtain ⟨e4, _⟩ := short_ok e2
    subst e3 e4
    rw [List.append_nil] at z
    have hD2 : H D0 = none := by
      cases q : H D0 with
      | none => rfl
      | some o =>
        obtain ⟨o', z⟩ := p1.still g1.sr D0 o q
        rw [hD] at z
        cases z
    have hnO : ¬ G.O D0 := (new_out g1.hidden hD).1
    have fr : FRep K (G.at C') H H' (.ref D0) (.lst ad) := ⟨D0, rfl, hD2, hnO, W.out, .inl ⟨av, ad, rfl, W.at_, W.rp⟩⟩
    exact z (.ref D0) H' C' (p1.trans W.pr g.sr.there) W.sr fr.fr
/-- tests of a comprehension -/
theorem pts_none : PTs X [] (tT X.K (cnd none)) := ⟨fun pins s σ H Q I w => by
  obtain ⟨G, ρ, st, g, hw⟩ := w
  exact pts_nil.run pins s σ H Q I (wp_pure hw H G.C (Pres.refl G H) g.sr)⟩
theorem pts_some {e : Expr} {M0 : Md} (h : PT X e (tT X.K M0.t)) : PTs X [e] (tT X.K (cnd (some M0))) := pts_one h
theorem snd_lc (m : Mt X S c) {elt tg iter : Expr} {ifs : List Expr} {scope : Scope} {pos : Pos} {f fe : Bool} {own : List Nat} {tgD : Tg} {mi : Env → M (List D)} {mc : Env → M Bool} {me : Env → M D} (hi : PI X tg iter (tI X.K Ext mi)) (ok : blkB S scope own = true) (hsub : ∀ i ∈ tgIs tgD, i ∈ own)
    (htg : tgB (S.blk scope) tgD tg = true) (ht : ∀ X', X'.K = X.K → Mt X' (S.blk scope) c → PTs X' ifs (tT X.K mc)) (he : ∀ X', X'.K = X.K → Mt X' (S.blk scope) c → PE X' elt (tE X.K (FR X.K fe) me)) (hs : ∀ x, foldedSetIterable iter X.env x = pure x) :
    Snd X f (.ListComp elt [⟨tg, iter, ifs, 0⟩] scope pos) (.of fun ρ => M.bind (mi ρ) fun ds => M.bind (noExc (mapO (lcTurn ρ own tgD (lcElt mc me)) ds)) fun ys => M.of ((short ys).map .lst)) := by
  obtain ⟨o1, o2⟩ := blk_ok m ok
  refine Snd.of rfl (PEimp (pe_lc (g := gD X.K tgD) (tt := tT X.K mc) (te := tE X.K (FR X.K fe) me) m.calm m.ndX hi o1 (fun s H C cl fp => pgD (m.blk s H scope C cl fp) htg) (fun s H C cl fp => ht _ rfl (m.blk s H scope C cl fp)) (fun s H C cl fp => he _ rfl (m.blk s H scope C cl fp)) hs) fun σ H Q w => ?_)
  rw [o2]
  exact lc_tE hsub w
end
end Wy

set_option Elab.async false
set_option linter.all false
set_option maxRecDepth 100000
set_option autoImplicit false
/-! WyLb: comprehensions of two clauses. -/
namespace Wy
open PySem PySem.Spec PyProof.Rows L2
section
variable {K : PySem.W.Frag} {G : Gh} {H H1 H' : Hp} {D0 : Addr}
theorem setMany_own0 : ∀ {is : List Nat} {ds : List D} {ρ ρ' : Env}, setMany ρ is ds = some ρ' → ∀ {i : Nat} {d : D}, ρ'[i]? = some (some (d, true)) → ρ[i]? = some (some (d, true))
  | [], [], ρ, ρ', e, i, d, h => by
    cases e
    exact h
  | j :: is, x :: ds, ρ, ρ', e, i, d, h => by
    have h2 := setMany_own0 (ρ := setS ρ j x false) e h
    unfold setS at h2
    by_cases q : j = i
    · subst q
      by_cases hl : j < ρ.length
      · rw [List.getElem?_set_self hl] at h2
        cases h2
      · rw [List.getElem?_eq_none (by simpa using hl)] at h2
        cases h2
    · rwa [List.getElem?_set_ne q] at h2
theorem setTg_own0 {tg : Tg} {x : D} {ρ ρ' : Env} (e : setTg ρ tg x = some ρ') {i : Nat} {d : D} (h : ρ'[i]? = some (some (d, true))) : ρ[i]? = some (some (d, true)) := by
  cases tg with
  | n j => exact setMany_own0 (is := [j]) (ds := [x]) (by exact e) h
  | t is =>
    unfold setTg at e
    dsimp only at e
    split at e
    · exact setMany_own0 e h
    · cases e
theorem ER.inner {Ga Gb G2 : Gh} {σ σ2 : L2.St} {Ha Hb H2 : Hp} {ρ ρ' : Env} (ra : ER K Ga σ Ha ρ) (rb : ER K Gb σ2 Hb ρ') (ea : Ext Ga Ha G2 H2) (eb : ExtP Gb Hb G2 H2)
    (sub : ∀ (i : Nat) (d : D), ρ'[i]? = some (some (d, true)) → ρ[i]? = some (some (d, true)) ∧ σ2[i]? = σ[i]?) : ER K G2 σ2 H2 ρ' := fun i d o h => by
  obtain ⟨v, h1, h2⟩ := rb i d o h
  refine ⟨v, h1, ?_⟩
  cases o with
  | true =>
    obtain ⟨k1, k2⟩ := sub i d h
    obtain ⟨v', j1, j2⟩ := ra i d true k1
    rw [k2, j1] at h1
    cases h1
    exact OwnRep.ext ea j2
  | false => exact SRep.extP eb h2
theorem extP_upd0 {a : Addr} {o : HO} (h : G.O a) : ExtP G H G (upd H a o) := ⟨List.prefix_refl _, fun b u hb h1 h2 => ⟨by rw [upd_ne fun e => h1 (by rw [e]; exact h)]; exact hb, h1, h2⟩⟩
end
section
variable {X : Cx} {c : Wy.Ctx} {S : Sc}
theorem lc2_tE {f fe : Bool} {K : PySem.W.Frag} {own own1 : List Nat} {tgD tg1 : Tg} {mi mi1 : Env → M (List D)} {mc : Env → M Bool} {me : Env → M D} (hsub : ∀ i ∈ tgIs tgD, i ∈ own) (hsub1 : ∀ i ∈ tgIs tg1, i ∈ own1) {σ : L2.St} {H : Hp} {Q : VK}
    (w : tE K (FR K f) (fun ρ => M.bind (mi ρ) fun ds => M.bind (noExc (mapO (lcTurn ρ own tgD fun ρ' => M.bind (mi1 ρ') fun es => mapO (lcTurn ρ' own1 tg1 (lcElt mc me)) es) ds)) fun ys => M.of ((short ys).map .lst)) σ H Q) :
    tLc2 (tI K Ext mi) (gD K tgD) (tT K (cnd none)) (tI K ExtP mi1) (gD K tg1) (tT K mc) (tE K (FR K fe) me) own own1 σ H Q := by
  obtain ⟨G, ρ, st, g, hw⟩ := w
  refine goI g hw fun ds st1 J H1 C1 p1 g1 rJ h1 => ?_
  have h1 := wp_noExc (wp_bind h1)
  intro D0 hD
  generalize hF : lcTurn ρ own tgD (fun ρ' => M.bind (mi1 ρ') fun es => mapO (lcTurn ρ' own1 tg1 (lcElt mc me)) es) = F at h1
  generalize hR : (fun (ad : List D) (r : List D) (st2 : Wy.St) => wp (M.of ((short (ad ++ r)).map .lst)) st2 (Post (FR K f) G H Q)) = R
  have hRe : ∀ ad r st2, R ad r st2 = wp (M.of ((short (ad ++ r)).map .lst)) st2 (Post (FR K f) G H Q) := fun ad r st2 => by rw [← hR]
  have hRa : ∀ ad y r st2, R (ad ++ y) r st2 = R ad (y ++ r) st2 := fun ad y r st2 => by rw [hRe, hRe, List.append_assoc]
  refine ⟨fun i k H' => k = ds.length - i ∧ i ≤ ds.length ∧ ∃ C' st' av ad, LcW K G C1 H1 D0 C' H' st' av ad ∧ wp (mapO F (ds.drop i)) st' (R ad), ⟨ds.length, rfl, Nat.zero_le _, C1, st1, [], [], ?_, ?_⟩, ?_⟩
  · exact ⟨Pres.more (same_new hD), g1.sr.more (same_new hD), upd_same, (new_out g1.hidden hD).2, .nil⟩
  · refine wp_mono h1 fun r st2 z => ?_
    rw [hRe]
    exact z
  rintro i k H' ⟨rfl, hi, C', st', av, ad, W, hr⟩
  have hE : Ext (G.at C1) H1 ((G.at C').plus D0) H' := ext_plus W.pr hD
  have hidW : ∀ {C' : List Addr} {H' : Hp} {st' : Wy.St} {av : List V} {ad : List D}, LcW K G C1 H1 D0 C' H' st' av ad → ∀ a, ((G.at C').plus D0).O a → a ∉ ((G.at C').plus D0).C ∧ ∃ o, H' a = some o := fun {C' H' st' av ad} W a ha => by
    rcases ha with ha | ha
    · obtain ⟨n, o, ho⟩ := g1.hid a ha
      exact ⟨W.pr.notin ho n, o, W.pr.keep a o ho n⟩
    · subst ha
      exact ⟨W.out, _, W.at_⟩
  have sr' : StRep ((G.at C').plus D0) H' st' := W.sr.sw rfl
  have g0 : Good K ((G.at C').plus D0) (wipe σ own) H' (wipeE ρ own) st' := ⟨(g1.er.ext hE).wipe own, sr', hidW W⟩
  obtain ⟨hstop, hgo⟩ := rJ _ H' hE g0.hidden i
  by_cases hlt : i < ds.length
  · right
    have hd : ds[i]? = some ds[i] := List.getElem?_eq_getElem hlt
    obtain ⟨hg1, yl⟩ := hgo _ hd
    refine ⟨hg1, _, fun H'' h => ⟨ds.length - (i + 1), by omega, rfl, by omega, h⟩, fun x H2 hx => ?_⟩
    obtain ⟨s2, rx⟩ := yl x H2 hx
    rw [List.drop_eq_getElem_cons hlt] at hr
    unfold mapO at hr
    have hr := wp_bind hr
    have hFd : F ds[i] = lcTurn ρ own tgD (fun ρ' => M.bind (mi1 ρ') fun es => mapO (lcTurn ρ' own1 tg1 (lcElt mc me)) es) ds[i] := by rw [← hF]
    rw [hFd] at hr
    change wp (M.bind (M.of (setTg (wipeE ρ own) tgD ds[i])) fun ρ' => M.bind (mi1 ρ') fun es => mapO (lcTurn ρ' own1 tg1 (lcElt mc me)) es) _ _ at hr
    obtain ⟨ρ', e, h3⟩ := wp_of (wp_bind hr)
    have g2 : Good K ((G.at C').plus D0) (wipe σ own) H2 (wipeE ρ own) st' := g0.more s2
    refine ⟨_, _, _, _, ρ', g2, rx, e, fun σ2 g3 df => ⟨(Diff_wipe df hsub).trans wipe_wipe, ?_⟩⟩
    have hσ : wipe σ2 own = wipe σ own := (Diff_wipe df hsub).trans wipe_wipe
    have W2 : LcW K G C1 H1 D0 C' H2 st' av ad := W.more g1.sr.there (Pres.more s2) g2.sr
    refine ⟨_, ρ', st', g3, fun H3 C3 p3 s3 => ?_⟩
    dsimp only
    rw [if_pos rfl]
    have W3 := W2.more g1.sr.there p3 s3
    have g4 := g3.pres p3 s3
    refine goI g4 h3 fun es st4 J1 H4 C4 p4 g5 rJ1 h5 => ?_
    have W4 := W3.more g1.sr.there (p4.sw rfl) (g5.sr.sw rfl)
    generalize hF1 : lcTurn ρ' own1 tg1 (lcElt mc me) = F1 at h5
    have g5' : Good K ((G.at C4).plus D0) σ2 H4 ρ' st4 := g5
    have rJ1' : ItRep K ExtP ((G.at C4).plus D0) H4 J1 es := rJ1
    refine ⟨fun j k H' => k = es.length - j ∧ j ≤ es.length ∧ ∃ C' st' av ad, LcW K G C1 H1 D0 C' H' st' av ad ∧ ExtP ((G.at C4).plus D0) H4 ((G.at C').plus D0) H' ∧ wp (mapO F1 (es.drop j)) st' (fun y st2 => wp (mapO F (ds.drop (i + 1))) st2 (R (ad ++ y))), ⟨es.length, rfl, Nat.zero_le _, C4, st4, av, ad, W4, ExtP.refl _ _, ?_⟩, ?_⟩
    · refine wp_mono h5 fun y st2 z => wp_mono (wp_bind z) fun r st3 z2 => ?_
      have z2 := wp_pure z2
      rw [hRa]
      exact z2
    rintro j k H5 ⟨rfl, hj, C5, st5, av5, ad5, W5, eP, hr5⟩
    have hE5 : Ext (G.at C1) H1 ((G.at C5).plus D0) H5 := ext_plus W5.pr hD
    have er5 : ER K ((G.at C5).plus D0) σ2 H5 ρ' := ER.inner g1.er g5'.er hE5 eP fun i d hi => by
      obtain ⟨k1, k2⟩ := wipeE_get (setTg_own0 e hi)
      exact ⟨k1, by rw [← wipe_out k2, hσ, wipe_out k2]⟩
    have g6 : Good K ((G.at C5).plus D0) (wipe σ2 own1) H5 (wipeE ρ' own1) st5 := ⟨er5.wipe own1, W5.sr.sw rfl, hidW W5⟩
    obtain ⟨hstop1, hgo1⟩ := rJ1' _ H5 eP g6.hidden j
    by_cases hlt1 : j < es.length
    · right
      have hd1 : es[j]? = some es[j] := List.getElem?_eq_getElem hlt1
      obtain ⟨hg2, yl1⟩ := hgo1 _ hd1
      refine ⟨hg2, _, fun H'' h => ⟨es.length - (j + 1), by omega, rfl, by omega, h⟩, fun x1 H6 hx1 => ?_⟩
      obtain ⟨s6, rx1⟩ := yl1 x1 H6 hx1
      rw [List.drop_eq_getElem_cons hlt1] at hr5
      change wp (M.bind (F1 es[j]) fun y => M.bind (mapO F1 (es.drop (j + 1))) fun ys => M.pure (y ++ ys)) st5 _ at hr5
      have hr5 := wp_bind hr5
      have hFd1 : F1 es[j] = lcTurn ρ' own1 tg1 (lcElt mc me) es[j] := by rw [← hF1]
      rw [hFd1] at hr5
      unfold lcTurn at hr5
      obtain ⟨ρ1, e1, h6⟩ := wp_of (wp_bind hr5)
      have g7 : Good K ((G.at C5).plus D0) (wipe σ2 own1) H6 (wipeE ρ' own1) st5 := g6.more s6
      refine ⟨_, _, _, _, ρ1, g7, rx1, e1, fun σ3 g8 df1 => ⟨(Diff_wipe df1 hsub1).trans wipe_wipe, ?_⟩⟩
      have W6 : LcW K G C1 H1 D0 C5 H6 st5 av5 ad5 := W5.more g1.sr.there (Pres.more s6) g7.sr
      have eP6 : ExtP ((G.at C4).plus D0) H4 ((G.at C5).plus D0) H6 := eP.trans (Ext.more s6).p
      have tail : ∀ {C3 : List Addr} {H3 : Hp} {st3 : Wy.St} {av' : List V} {ad' y' : List D}, LcW K G C1 H1 D0 C3 H3 st3 av' ad' → ExtP ((G.at C4).plus D0) H4 ((G.at C3).plus D0) H3 → ad' = ad5 ++ y' → wp (M.bind (mapO F1 (es.drop (j + 1))) fun ys => M.pure (y' ++ ys)) st3 (fun y st2 => wp (mapO F (ds.drop (i + 1))) st2 (R (ad5 ++ y))) →
          ∃ C' st' av ad, LcW K G C1 H1 D0 C' H3 st' av ad ∧ ExtP ((G.at C4).plus D0) H4 ((G.at C').plus D0) H3 ∧ wp (mapO F1 (es.drop (j + 1))) st' (fun y st2 => wp (mapO F (ds.drop (i + 1))) st2 (R (ad ++ y))) := fun {C3 H3 st3 av' ad' y'} W3 e3 ey h => by
        refine ⟨C3, st3, av', ad', W3, e3, wp_mono (wp_bind h) fun r st2 z => ?_⟩
        have z := wp_pure z
        rw [ey, List.append_assoc]
        exact z
      unfold lcElt at h6
      refine goT g8 h6 fun b st7 H7 C7 p7 g9 h7 => ?_
      have W7 := W6.more g1.sr.there p7 g9.sr
      have eP7 : ExtP ((G.at C4).plus D0) H4 ((G.at C7).plus D0) H7 := eP6.trans p7.ext.p
      cases b with
      | false =>
        rw [if_neg Bool.false_ne_true]
        exact tail (y' := []) W7 eP7 (List.append_nil _).symm (wp_pure h7)
      | true =>
        rw [if_pos rfl]
        refine go g9 h7 fun y st8 v H8 C8 p8 g10 r10 h8 => ?_
        have W8 := W7.more g1.sr.there (p8.sw rfl) (g10.sr.sw rfl)
        have eP8 : ExtP ((G.at C4).plus D0) H4 ((G.at C8).plus D0) H8 := eP7.trans p8.ext.p
        have h9 := wp_pure h8
        refine ⟨av5, W8.at_, ?_, tail (W8.push hD r10.1) (eP8.trans (extP_upd0 (.inr rfl))) rfl h9⟩
        obtain ⟨r, st9, z⟩ := wp_some (wp_bind h9)
        obtain ⟨r2, st10, z2⟩ := wp_some (wp_pure z)
        rw [hRe] at z2
        obtain ⟨d, e1, _⟩ := wp_of z2
        obtain ⟨ys, e2, _⟩ := Option.map_eq_some_iff.mp e1
        obtain ⟨_, e3⟩ := short_ok e2
        rw [W8.rp.len]
        simp only [List.length_append, List.length_cons, List.length_nil] at e3
        omega
    · left
      have hj2 : j = es.length := by omega
      refine ⟨hstop1 (by omega), C5, st5, av5, ad5, W5, ?_⟩
      rw [hj2, List.drop_length] at hr5
      have hr5 := wp_pure hr5
      rw [List.append_nil] at hr5
      exact hr5
  · left
    have hi2 : i = ds.length := by omega
    refine ⟨hstop (by omega), ?_⟩
    rw [hi2, List.drop_length] at hr
    have hr := wp_pure hr
    rw [hRe] at hr
    obtain ⟨d, e1, z⟩ := wp_of hr
    obtain ⟨ys, e2, e3⟩ := Option.map_eq_some_iff.mp e1
    obtain ⟨e4, _⟩ := short_ok e2
    subst e3 e4
    rw [List.append_nil] at z
    have hD2 : H D0 = none := by
      cases q : H D0 with
      | none => rfl
      | some o =>
        obtain ⟨o', z⟩ := p1.still g1.sr D0 o q
        rw [hD] at z
        cases z
    have hnO : ¬ G.O D0 := (new_out g1.hidden hD).1
    have fr : FRep K (G.at C') H H' (.ref D0) (.lst ad) := ⟨D0, rfl, hD2, hnO, W.out, .inl ⟨av, ad, rfl, W.at_, W.rp⟩⟩
    exact z (.ref D0) H' C' (p1.trans W.pr g.sr.there) W.sr fr.fr
theorem snd_lc2 (m : Mt X S c) {elt tg iter tg' iter' : Expr} {ifs : List Expr} {scope : Scope} {pos : Pos} {f fe : Bool} {own own1 : List Nat} {tgD tg1 : Tg} {mi mi1 : Env → M (List D)} {mc : Env → M Bool} {me : Env → M D} (hi : PI X tg iter (tI X.K Ext mi)) (ok : blkB S scope own = true) (hv : ∀ i ∈ own1, i ∈ own) (hsub : ∀ i ∈ tgIs tgD, i ∈ own) (hsub1 : ∀ i ∈ tgIs tg1, i ∈ own1)
    (htg : tgB (S.blk scope) tgD tg = true) (htg1 : tgB (S.blk scope) tg1 tg' = true) (hi1 : ∀ X', X'.K = X.K → Mt X' (S.blk scope) c → PI X' tg' iter' (tI X.K ExtP mi1)) (ht : ∀ X', X'.K = X.K → Mt X' (S.blk scope) c → PTs X' ifs (tT X.K mc)) (he : ∀ X', X'.K = X.K → Mt X' (S.blk scope) c → PE X' elt (tE X.K (FR X.K fe) me)) (hs : ∀ x, foldedSetIterable iter X.env x = pure x) (hs1 : ∀ env x, foldedSetIterable iter' env x = pure x) :
    Snd X f (.ListComp elt [⟨tg, iter, [], 0⟩, ⟨tg', iter', ifs, 0⟩] scope pos) (.of fun ρ => M.bind (mi ρ) fun ds => M.bind (noExc (mapO (lcTurn ρ own tgD fun ρ' => M.bind (mi1 ρ') fun es => mapO (lcTurn ρ' own1 tg1 (lcElt mc me)) es) ds)) fun ys => M.of ((short ys).map .lst)) := by
  obtain ⟨o1, o2⟩ := blk_ok m ok
  refine Snd.of rfl (PEimp (pe_lc2 (g := gD X.K tgD) (g1 := gD X.K tg1) (tt := tT X.K (cnd none)) (tt1 := tT X.K mc) (te := tE X.K (FR X.K fe) me) (wi1 := tI X.K ExtP mi1) (vs1 := own1) m.calm m.ndX hi o1 (by rw [o2]; exact hv) (fun s H C cl fp => pgD (m.blk s H scope C cl fp) htg) (fun s H C cl fp => pts_none) (fun s H C cl fp => hi1 _ rfl (m.blk s H scope C cl fp)) (fun s H C cl fp => pgD (m.blk s H scope C cl fp) htg1) (fun s H C cl fp => ht _ rfl (m.blk s H scope C cl fp)) (fun s H C cl fp => he _ rfl (m.blk s H scope C cl fp)) hs hs1) fun σ H Q w => ?_)
  rw [o2]
  exact lc2_tE hsub hsub1 w
end

/-! ### dicts -/
/-- the new dict so far -/
structure DcW (K : PySem.W.Frag) (G : Gh) (C1 : List Addr) (H1 : Hp) (D0 : Addr) (C' : List Addr) (H' : Hp) (st' : Wy.St) (kvs : List (Key × V)) (ws : List D) : Prop where
  pr : Pres (G.at C1) C' H1 H'
  sr : StRep (G.at C') H' st'
  at_ : H' D0 = some (.dK kvs)
  out : D0 ∉ C'
  rp : Reps K C' (((G.at C').plus D0).h H') (kvs.map (·.2)) ws
section
variable {K : PySem.W.Frag} {G : Gh} {C1 C' C2 : List Addr} {H1 H' H2 : Hp} {D0 : Addr} {st' st2 : Wy.St} {kvs : List (Key × V)} {ws : List D}
theorem DcW.more (w : DcW K G C1 H1 D0 C' H' st' kvs ws) (t : ∀ x ∈ C1, ∃ o, H1 x = some o) (p : Pres ((G.at C').plus D0) C2 H' H2) (s : StRep ((G.at C').plus D0 |>.at C2) H2 st2) : DcW K G C1 H1 D0 C2 H2 st2 kvs ws where
  pr := w.pr.trans (p.sw rfl) t
  sr := s.sw rfl
  at_ := p.keep _ _ w.at_ w.out
  out := p.notin w.at_ w.out
  rp := SReps.ext p.ext w.rp
theorem DcW.put {k : Key} {v : V} {d : D} (w : DcW K G C1 H1 D0 C' H' st' kvs ws) (hD : H1 D0 = none) (r : SRep K ((G.at C').plus D0) H' v d) : DcW K G C1 H1 D0 C' (upd H' D0 (.dK (putK kvs k v))) st' (putK kvs k v) (dputV (keyD k) d (kvs.map fun p => keyD p.1) ws) where
  pr := ⟨fun a o h n => by
    rw [upd_ne (ne_of_none h hD)]
    exact w.pr.keep a o h n, w.pr.pre, w.pr.new⟩
  sr := ⟨w.sr.len, w.sr.nd, fun g a h => by
    obtain ⟨ns, h1, h2⟩ := w.sr.at_ g a h
    exact ⟨ns, h1, by rw [upd_ne fun e => w.out (by rw [← e]; exact List.mem_of_getElem? h)]; exact h2⟩⟩
  at_ := upd_same
  out := w.out
  rp := by
    rw [plus_upd]
    exact put_vals r w.rp
end
section
variable {X : Cx} {c : Wy.Ctx} {S : Sc}
theorem dc_tE {f fk fe : Bool} {K : PySem.W.Frag} {own : List Nat} {tgD : Tg} {mi : Env → M (List D)} {mk me : Env → M D} (hsub : ∀ i ∈ tgIs tgD, i ∈ own) {σ : L2.St} {H : Hp} {Q : VK}
    (w : tE K (FR K f) (fun ρ => M.bind (mi ρ) fun ds => noExc (dcLoop (fun d => M.bind (M.of (setTg (wipeE ρ own) tgD d)) fun ρ' => M.bind (mk ρ') fun x => M.bind (me ρ') fun y => M.pure (x, y)) ds [] [])) σ H Q) :
    tDc (tI K Ext mi) (gD K tgD) (tT K (cnd none)) (tE K (FR K fk) mk) (tE K (FR K fe) me) own σ H Q := by
  obtain ⟨G, ρ, st, g, hw⟩ := w
  refine goI g hw fun ds st1 J H1 C1 p1 g1 rJ h1 => ?_
  have h1 := wp_noExc h1
  intro D0 hD
  generalize hF : (fun d => M.bind (M.of (setTg (wipeE ρ own) tgD d)) fun ρ' => M.bind (mk ρ') fun x => M.bind (me ρ') fun y => M.pure (x, y)) = F at h1
  refine ⟨fun i k H' => k = ds.length - i ∧ i ≤ ds.length ∧ ∃ C' st' kvs ws, DcW K G C1 H1 D0 C' H' st' kvs ws ∧ wp (dcLoop F (ds.drop i) (kvs.map fun p => keyD p.1) ws) st' (Post (FR K f) G H Q), ⟨ds.length, rfl, Nat.zero_le _, C1, st1, [], [], ?_, h1⟩, ?_⟩
  · exact ⟨Pres.more (same_new hD), g1.sr.more (same_new hD), upd_same, (new_out g1.hidden hD).2, .nil⟩
  rintro i k H' ⟨rfl, hi, C', st', kvs, ws, W, hr⟩
  have hE : Ext (G.at C1) H1 ((G.at C').plus D0) H' := ext_plus W.pr hD
  have hid' : ∀ a, ((G.at C').plus D0).O a → a ∉ ((G.at C').plus D0).C ∧ ∃ o, H' a = some o := fun a ha => by
    rcases ha with ha | ha
    · obtain ⟨n, o, ho⟩ := g1.hid a ha
      exact ⟨W.pr.notin ho n, o, W.pr.keep a o ho n⟩
    · subst ha
      exact ⟨W.out, _, W.at_⟩
  have g0 : Good K ((G.at C').plus D0) (wipe σ own) H' (wipeE ρ own) st' := ⟨(g1.er.ext hE).wipe own, W.sr.sw rfl, hid'⟩
  obtain ⟨hstop, hgo⟩ := rJ _ H' hE g0.hidden i
  by_cases hlt : i < ds.length
  · right
    have hd : ds[i]? = some ds[i] := List.getElem?_eq_getElem hlt
    obtain ⟨hg1, yl⟩ := hgo _ hd
    refine ⟨hg1, _, fun H'' h => ⟨ds.length - (i + 1), by omega, rfl, by omega, h⟩, fun x H2 hx => ?_⟩
    obtain ⟨s2, rx⟩ := yl x H2 hx
    rw [List.drop_eq_getElem_cons hlt] at hr
    change wp (M.bind (F ds[i]) fun p => if isKey p.1 && Nat.ble (kvs.map fun p => keyD p.1).length sizeMax then dcLoop F (ds.drop (i + 1)) (dputK p.1 (kvs.map fun p => keyD p.1)) (dputV p.1 p.2 (kvs.map fun p => keyD p.1) ws) else M.stuck) _ _ at hr
    have hr := wp_bind hr
    have hFd : F ds[i] = M.bind (M.of (setTg (wipeE ρ own) tgD ds[i])) fun ρ' => M.bind (mk ρ') fun x => M.bind (me ρ') fun y => M.pure (x, y) := by rw [← hF]
    rw [hFd] at hr
    obtain ⟨ρ', e, h3⟩ := wp_of (wp_bind hr)
    have g2 : Good K ((G.at C').plus D0) (wipe σ own) H2 (wipeE ρ own) st' := g0.more s2
    refine ⟨_, _, _, _, ρ', g2, rx, e, fun σ2 g3 df => ⟨(Diff_wipe df hsub).trans wipe_wipe, ?_⟩⟩
    have W2 : DcW K G C1 H1 D0 C' H2 st' kvs ws := W.more g1.sr.there (Pres.more s2) g2.sr
    refine ⟨_, ρ', st', g3, fun H3 C3 p3 s3 => ?_⟩
    dsimp only
    rw [if_pos rfl]
    have W3 := W2.more g1.sr.there p3 s3
    have g4 := g3.pres p3 s3
    refine go g4 h3 fun y st4 v H4 C4 p4 g5 r5 h5 => ?_
    have W4 := W3.more g1.sr.there (p4.sw rfl) (g5.sr.sw rfl)
    refine go g5 h5 fun z st5 u H5 C5 p5 g6 r6 h6 => ?_
    have W5 := W4.more g1.sr.there (p5.sw rfl) (g6.sr.sw rfl)
    have h7 := wp_pure h6
    dsimp only at h7
    split at h7
    · rename_i hk
      rw [Bool.and_eq_true] at hk
      obtain ⟨k, _, hk2⟩ := key_of hk.1
      have e1 := key_rep hk2 (.inl r5.1)
      subst e1 hk2
      refine ⟨kvs, k, rfl, W5.at_, ?_, C5, st5, putK kvs k u, _, W5.put hD r6.1, ?_⟩
      · have := Nat.le_of_ble_eq_true hk.2
        rw [List.length_map] at this
        rw [sizeLine_eq]
        unfold sizeMax at this
        omega
      · rw [put_keys]
        exact h7
    · exact h7.elim
  · left
    have hi2 : i = ds.length := by omega
    refine ⟨hstop (by omega), ?_⟩
    rw [hi2, List.drop_length] at hr
    have z := wp_pure hr
    have hD2 : H D0 = none := by
      cases q : H D0 with
      | none => rfl
      | some o =>
        obtain ⟨o', z⟩ := p1.still g1.sr D0 o q
        rw [hD] at z
        cases z
    have hnO : ¬ G.O D0 := (new_out g1.hidden hD).1
    have fr : FRep K (G.at C') H H' (.ref D0) (.dic (kvs.map fun p => keyD p.1) ws) := ⟨D0, rfl, hD2, hnO, W.out, .inr ⟨kvs, ws, rfl, W.at_, W.rp⟩⟩
    exact z (.ref D0) H' C' (p1.trans W.pr g.sr.there) W.sr fr.fr
theorem snd_dc (m : Mt X S c) {kx vx tg iter : Expr} {scope : Scope} {pos : Pos} {f fk fe : Bool} {own : List Nat} {tgD : Tg} {mi : Env → M (List D)} {mk me : Env → M D} (hi : PI X tg iter (tI X.K Ext mi)) (ok : blkB S scope own = true) (hsub : ∀ i ∈ tgIs tgD, i ∈ own)
    (htg : tgB (S.blk scope) tgD tg = true) (hk : ∀ X', X'.K = X.K → Mt X' (S.blk scope) c → PE X' kx (tE X.K (FR X.K fk) mk)) (he : ∀ X', X'.K = X.K → Mt X' (S.blk scope) c → PE X' vx (tE X.K (FR X.K fe) me)) (hs : ∀ x, foldedSetIterable iter X.env x = pure x) :
    Snd X f (.DictComp kx vx [⟨tg, iter, [], 0⟩] scope pos) (.of fun ρ => M.bind (mi ρ) fun ds => noExc (dcLoop (fun d => M.bind (M.of (setTg (wipeE ρ own) tgD d)) fun ρ' => M.bind (mk ρ') fun x => M.bind (me ρ') fun y => M.pure (x, y)) ds [] [])) := by
  obtain ⟨o1, o2⟩ := blk_ok m ok
  refine Snd.of rfl (PEimp (pe_dc (g := gD X.K tgD) (tt := tT X.K (cnd none)) (tk := tE X.K (FR X.K fk) mk) (tv := tE X.K (FR X.K fe) me) m.calm m.ndX hi o1 (fun s H C cl fp => pgD (m.blk s H scope C cl fp) htg) (fun s H C cl fp => pts_none) (fun s H C cl fp => hk _ rfl (m.blk s H scope C cl fp)) (fun s H C cl fp => he _ rfl (m.blk s H scope C cl fp)) hs) fun σ H Q w => ?_)
  rw [o2]
  exact dc_tE hsub w
theorem snd_dic0 {pos : Pos} {f : Bool} : Snd X f (.Dict [] [] pos) (.of fun _ => M.pure (.dic [] [])) :=
  Snd.of rfl (PEimp pe_dnewK fun σ H Q w => by
    obtain ⟨G, ρ, st, g, hw⟩ := w
    intro p hp
    exact fin2 (wp_pure hw) (Pres.refl G H) g g.sr.there (same_new hp) (new_dic (kvs := []) g.hidden hp .nil).fr)
end
end Wy

set_option Elab.async false
set_option linter.all false
set_option maxRecDepth 100000
set_option autoImplicit false
/-! WyRv: xs[::-1], d.get(k, x), a text that the module's top holds. -/
namespace WyRv
open PySem PySem.Spec PyProof.Rows L2 HT
section
variable {prog : Program} {w : World} {A : Around} {E : Value → Shared → Prop} {s : Shared}
theorem adjust_rev (n : Nat) : Builtin.Slice.sliceAdjust none none (-1) (n : Int) = ((n : Int) - 1, -1) := by
  unfold Builtin.Slice.sliceAdjust
  simp
theorem places_rev (n : Nat) : Builtin.Slice.slicePlaces ((n : Int) - 1) (-1) (-1) = n := by
  unfold Builtin.Slice.slicePlaces
  have h1 : ¬ ((-1 : Int) > 0) := by omega
  simp only [h1, if_false]
  by_cases h : (-1 : Int) < (n : Int) - 1
  · simp only [h, if_true]
    rw [show (- -1 : Int) = 1 by decide, Int.ediv_one]
    omega
  · simp only [h, if_false]
    omega
theorem sliceApplied_rev {sl : Addr} {vl vu vs : Value} {n : Nat} {Q : Int × Int × Nat → Shared → Prop} (hs : s.heap.IsSliceOf sl vl vu vs) (pl : IsPart vl none) (pu : IsPart vu none) (ps : IsPart vs (some (-1)))
    (h : Q ((n : Int) - 1, -1, n) s) : wpAny (model prog w) A (Builtin.Slice.sliceApplied (.ref sl) (pure (n : Int))) Q E s := by
  obtain ⟨os, hos, hcs, hds⟩ := id hs
  unfold Builtin.Slice.sliceApplied Builtin.Slice.sliceFields
  refine wpAny_bind (wpAny_bind (wpAny_field hos hds (x := vl) rfl (wpAny_bind (wpAny_field hos hds (x := vu) rfl (wpAny_bind (wpAny_field hos hds (x := vs) rfl (wpAny_pure ?_)))))))
  refine wpAny_bind (slicePart_ ps ?_)
  show wpAny _ _ (if ((-1 : Int) == 0) = true then _ else _) _ _ s
  rw [if_neg (by decide)]
  refine wpAny_bind (slicePart_ pl (wpAny_bind (slicePart_ pu (wpAny_bind (wpAny_pure ?_)))))
  show wpAny _ _ (match Builtin.Slice.sliceAdjust none none (-1) (n : Int) with | (lo, hi) => pure (lo, (-1 : Int), Builtin.Slice.slicePlaces lo hi (-1))) _ _ s
  rw [adjust_rev n]
  show wpAny _ _ (pure ((n : Int) - 1, (-1 : Int), Builtin.Slice.slicePlaces ((n : Int) - 1) (-1) (-1))) _ _ s
  rw [places_rev]
  exact wpAny_pure h
theorem fm_congr {α β : Type} {f g : α → Option β} : ∀ {l : List α}, (∀ x ∈ l, f x = g x) → l.filterMap f = l.filterMap g
  | [], _ => rfl
  | x :: l, h => by rw [List.filterMap_cons, List.filterMap_cons, h x List.mem_cons_self, fm_congr fun y hy => h y (List.mem_cons_of_mem _ hy)]
theorem pick_rev (xs : Array Value) : ((List.range xs.size).filterMap fun (m : Nat) => xs[(((xs.size : Nat) : Int) - 1 + (m : Int) * (-1)).toNat]?).toArray = xs.toList.reverse.toArray := by
  congr 1
  have h1 : ∀ l : List Value, (List.range l.length).filterMap (fun m => l[l.length - 1 - m]?) = l.reverse := fun l => by
    refine List.ext_getElem? fun i => ?_
    have e : (List.range l.length).filterMap (fun m => l[l.length - 1 - m]?) = (List.range l.length).map fun m => l.getD (l.length - 1 - m) .none := by
      rw [← List.filterMap_eq_map]
      refine fm_congr fun m hm => ?_
      have hm := List.mem_range.mp hm
      simp only [List.getD_eq_getElem?_getD, Function.comp]
      rw [List.getElem?_eq_getElem (by omega)]
      rfl
    rw [e, List.getElem?_map]
    by_cases hi : i < l.length
    · rw [List.getElem?_range hi, List.getElem?_reverse hi]
      simp only [Option.map_some, List.getD_eq_getElem?_getD]
      rw [List.getElem?_eq_getElem (by omega)]
      rfl
    · rw [List.getElem?_eq_none (by simpa using hi), List.getElem?_eq_none (by simpa using hi)]
      rfl
  rw [← h1]
  obtain ⟨l⟩ := xs
  refine fm_congr fun m hm => ?_
  have hm : m < l.length := by simpa using hm
  show l.toArray[_]? = _
  have : (((l.toArray.size : Nat) : Int) - 1 + (m : Int) * (-1)).toNat = l.length - 1 - m := by
    rw [List.size_toArray]
    omega
  rw [this]
  simp
theorem getItem_tuple_rev {t sl : Addr} {items : Array Value} {vl vu vs : Value} {Q : Value → Shared → Prop} (ht : IsTup s.heap t items) (hs : s.heap.IsSliceOf sl vl vu vs) (pl : IsPart vl none) (pu : IsPart vu none) (ps : IsPart vs (some (-1)))
    (h : Q (.ref s.heap.objs.size) { s with heap := s.heap.push { cls := .type "tuple", data := .seq items.toList.reverse.toArray } })
    (hsz : items.size ≤ sizeLine) : wpAny (model prog w) A (getItem (.ref t) (.ref sl)) Q E s := by
  have htake : sizeOk (.seq items.toList.reverse.toArray) := by
    show items.toList.reverse.toArray.size ≤ sizeLine
    rw [List.size_toArray, List.length_reverse, Array.length_toList]
    omega
  obtain ⟨os, hos, hcs, hds⟩ := id hs
  have hTs : s.TypeIs (.ref sl) "slice" := ⟨os, hos, hcs⟩
  unfold getItem
  try with_reducible refine wpAny_holding ?_
  first | refine wpAny_bind (wpAny_pure ?_) | skip
  refine wpAny_bind (wpAny_sequenceKey ht.typeIs (by decide) ?_)
  refine wpAny_bind (wpAny_callSpecial?_slot (name := Str.ofString "__getitem__") ht.typeIs PyProof.Rows.slot_tuple_getitem
    (wpAny_call_entry PyProof.Rows.slot_tuple_getitem ht.typeIs entry_tuple_getitem ?_ (args_tuple_getitem _ _)))
  show wpAny _ _ (Builtin.Tuple.tupleItemsOf (.ref t) >>= _) _ _ s
  refine wpAny_bind (tupleItemsOf_ ht ?_)
  refine wpAny_bind (wpAny_typeOf hTs ?_)
  rw [if_pos (by decide)]
  refine wpAny_bind (sliceApplied_rev hs pl pu ps ?_)
  have hno : ¬ ((((items.size : Nat) : Int) - 1 == 0 && (-1 : Int) == 1 && items.size == items.size) = true) := by
    intro q
    rw [Bool.and_eq_true, Bool.and_eq_true] at q
    exact absurd q.1.2 (by decide)
  show wpAny _ _ (if (((items.size : Nat) : Int) - 1 == 0 && (-1 : Int) == 1 && items.size == items.size) = true then _ else _) _ _ s
  rw [if_neg hno, pick_rev]
  first
    | exact wpAny_bind (m := Builtin.Tuple.tupleExact _) (wpAny_newObj_type (wpAny_pure ⟨_, rfl, wpAny_pure h⟩) htake)
    | exact wpAny_bind (m := Builtin.Tuple.tupleExact _) (wpAny_newObj_type (wpAny_bind (wpAny_pure (wpAny_pure ⟨_, rfl, wpAny_pure h⟩))) htake)
    | exact wpAny_bind (wpAny_bind (m := Builtin.Tuple.tupleExact _) (wpAny_newObj_type (wpAny_pure (wpAny_pure ⟨_, rfl, wpAny_pure h⟩)) htake))
    | exact wpAny_bind (wpAny_bind (m := Builtin.Tuple.tupleExact _) (wpAny_newObj_type (wpAny_pure ⟨_, rfl, wpAny_pure h⟩) htake))
end
/-- xs[::-1] -/
def tRevA (K : PySem.W.Frag) (te : TE) : TE := fun σ H Q => te σ H fun x H1 => ∃ a xs, x = .ref a ∧ ((SqL K H1 a xs ∧ ∀ p, H1 p = none → Q (.ref p) (upd H1 p (.lst xs.reverse))) ∨ (SqT K H1 a xs ∧ ∀ p o, H1 p = none → o.dict = none → Q (.ref p) (upd H1 p (.frz o (.tup xs.reverse)))))
theorem pe_revA {X : Cx} {e : Expr} {te : TE} {k : Nat} {p1 p2 p3 pos : Pos} (he : PE X e te) : PE X (.Subscript e (.Slice none none (some (.UnaryOp .USub (.Constant (.int 1) k p1) p2)) p3) pos) (tRevA X.K te) := by
  refine ⟨fun pins s σ H Q I h => ?_⟩
  refine Subscript_ (thn (he.run pins s σ H _ I h) fun v s1 ⟨x, H1, I1, r1, q1⟩ => ?_)
  obtain ⟨a, xs, ex, q⟩ := q1
  subst ex
  cases r1
  have hst : PO X (some (.UnaryOp .USub (.Constant (.int 1) k p1) p2)) (tPart (tUn (rU fun i => .int (-i)) (tC (.int 1)))) := po_some (pe_un un_neg pe_int)
  refine wpAny_Slice (thn (po_none.run pins s1 σ H1 (fun o H2 => o = none ∧ H2 = H1) I1 ⟨rfl, rfl⟩) fun vl s2 ⟨l, H2, I2, pl, el, e2⟩ => ?_)
  subst el e2
  refine thn (po_none.run pins s2 σ H2 (fun o H3 => o = none ∧ H3 = H2) I2 ⟨rfl, rfl⟩) fun vu s3 ⟨u, H3, I3, pu, eu, e3⟩ => ?_
  subst eu e3
  refine thn (hst.run pins s3 σ H3 (fun o H4 => o = some (-1) ∧ H4 = H3) I3 ⟨1, rfl, -1, rfl, rfl, rfl⟩) fun vs s4 ⟨o, H4, I4, ps, eo, e4⟩ => ?_
  subst eo e4
  have I5 : Inv X pins σ H4 { s4 with heap := s4.heap.push { cls := .type "slice", data := .fields #[vl, vu, vs] } } := I4.kept (t' := s4.toks) fun b ob q => Heap.get?_push_of_some _ q
  show wpAny (model X.prog X.w) X.A (subscriptTail e (.Slice none none (some (.UnaryOp .USub (.Constant (.int 1) k p1) p2)) p3) (.ref a) (.ref s4.heap.objs.size)) (EP X pins σ Q) X.xe { s4 with heap := s4.heap.push { cls := .type "slice", data := .fields #[vl, vu, vs] } }
  rcases q with ⟨hx, q⟩ | ⟨hx, q⟩
  · obtain ⟨its, r, ht, hz⟩ := I5.list hx
    have hlen := r.length
    refine tail_any (ops := [.ref a, .ref s4.heap.objs.size]) ht.isList.typeIs (PySem.slot_list_getitem.lookup) ?_ (by with_unfolding_all rfl)
    refine wpAny_getItem_list_slice ht.isList (Heap.IsSliceOf.new _ vl vu vs) pl pu ps (by decide) ?_ (by rw [List.size_toArray]; omega)
    rw [PySem.W.krv_pick]
    refine ⟨.ref _, _, I5.laid (t' := s4.toks) (o := .lst xs.reverse) (fun b ob q => Heap.get?_push_of_some _ q) (Nat.le_refl _) ?_, rfl, q _ (I5.hok.fresh (Nat.le_refl _))⟩
    exact ⟨by rw [List.length_reverse]; exact hz, _, 0, r.reverse, Heap.get?_push_size _ rfl⟩
  · obtain ⟨its, r, ht, hz⟩ := I5.tuple hx
    have hlen := r.length
    refine tail_any (ops := [.ref a, .ref s4.heap.objs.size]) ht.typeIs (PyProof.Rows.slot_tuple_getitem.lookup) ?_ (by with_unfolding_all rfl)
    refine getItem_tuple_rev ht (Heap.IsSliceOf.new _ vl vu vs) pl pu ps ?_ (by rw [List.size_toArray]; omega)
    have hf := I5.hok.fresh (Nat.le_refl (s4.heap.push { cls := .type "slice", data := .fields #[vl, vu, vs] }).objs.size)
    exact ⟨.ref _, _, I5.laid (t' := s4.toks) (o := .frz _ (.tup xs.reverse)) (fun b ob q => Heap.get?_push_of_some _ q) (Nat.le_refl _) ⟨Heap.get?_push_size _ rfl, by rw [List.length_reverse]; exact hz, _, r.reverse, IsTup.new _ _⟩, rfl, q _ _ hf rfl⟩
end WyRv
namespace Wy
open PySem PySem.Spec PyProof.Rows L2
section
variable {X : Cx} {c : Wy.Ctx} {S : Sc}
theorem snd_rev {a : Expr} {k : Nat} {p1 p2 p3 pos : Pos} {f : Bool} {ma : Env → M D} (ha : PE X a (tE X.K (BR X.K) ma)) :
    Snd X f (.Subscript a (.Slice none none (some (.UnaryOp .USub (.Constant (.int 1) k p1) p2)) p3) pos) (.of fun ρ => M.bind (ma ρ) fun x => M.of (doRev x)) :=
  Snd.of rfl (PEimp (WyRv.pe_revA ha) fun σ H Q w => by
    obtain ⟨G, ρ, st, g, hw⟩ := w
    refine go g hw fun x st1 v H1 C1 p1 g1 r1 h1 => ?_
    obtain ⟨d, e, h2⟩ := wp_of h1
    cases x <;> first | (simp [doRev] at e; done) | skip
    · simp only [doRev, Option.some.injEq] at e
      subst e
      obtain ⟨b, xs, rfl, k1, k2⟩ := r1.tupA
      exact ⟨b, xs, rfl, .inr ⟨(k1.same hSame).sq, fun p o hp ho => fin2 h2 p1 g1 g.sr.there (same_new hp) (FR.flat (new_tup g1.hidden hp ho (Reps.rev k2)) rfl)⟩⟩
    · simp only [doRev, Option.some.injEq] at e
      subst e
      obtain ⟨b, xs, rfl, k1, k2⟩ := r1.lst
      exact ⟨b, xs, rfl, .inl ⟨.of k1, fun p hp => fin2 h2 p1 g1 g.sr.there (same_new hp) (new_lst g1.hidden hp (Reps.rev k2)).fr⟩⟩)
theorem snd_g (m : Mt X S c) {x : Str} {p : Pos} {n : Nat} {f : Bool} (hg : glB S x = true) (he : evenB x = true) (hq : (S.gc.any fun q => sEq q.1 x && q.2.1 == n) = true) :
    Snd X f (.Name x p) (.of fun _ => M.of (c.glob n)) := by
  obtain ⟨⟨y, i, z⟩, hm, hb⟩ := List.any_eq_true.mp hq
  simp only [Bool.and_eq_true, beq_iff_eq] at hb
  obtain ⟨b1, b2⟩ := hb
  have b1 := sEq_eq b1
  subst b1 b2
  obtain ⟨⟨t, h1⟩, h2⟩ := m.cst _ hm
  have P : PE X (.Name y p) (tC (.str (Wy.S z))) := ⟨fun pins s σ H Q I h => ld_glob I (m.gl hg) h1 ⟨.str (Wy.S z), H, I, ⟨t, rfl⟩, h⟩ (even_1 he).1⟩
  refine Snd.of rfl (PEimp P fun σ H Q w => ?_)
  obtain ⟨G, ρ, st, g, hw⟩ := w
  obtain ⟨d, e, h3⟩ := wp_of hw
  rw [h2] at e
  cases e
  exact fin2 h3 (Pres.refl G H) g g.sr.there (Same.refl H) (FR.flat (.str _) rfl)
theorem snd_dget (m : Mt X S c) {x : Str} {xp ap cp : Pos} {i : Nat} {a b : Expr} {ia ib : IE} {fa fb : Bool} (h1 : atB S i x = true) (h2 : visB S x = true) (h3 : evenB x = true) (hs : notStar a = true) (hs2 : notStar b = true) (hl : (ap.endLine == cp.line) = true) (ha : PE X a (tE X.K (FR X.K fa) (md c ia).s)) (hb : PE X b (tE X.K (FR X.K fb) (md c ib).s)) :
    Snd X false (.Call (.Attribute (.Name x xp) "get" ap) [a, b] [] cp) (.of fun ρ => M.bind (M.of (getB ρ i)) fun x => M.bind ((md c ia).s ρ) fun y => M.bind ((md c ib).s ρ) fun z => M.of (doGet x y z)) := by
  have st2 : starEach [a, b] X.env = [(false, eval a X.env), (false, eval b X.env)] := by rw [star1 hs, star1 hs2]; rfl
  have M : M2 X (.Name x xp) "get" ap a b cp := ⟨rfl, by rw [st2]; rfl, hl, by rw [st2]; rfl⟩
  refine Snd.of rfl (PEimp (pe_dget2 (by have := m.un; omega) (pe_var (m.at_ h1) (m.vis h2) (even_1 h3).1 (even_1 h3).2.1) ha hb M) fun σ H Q w => ?_)
  obtain ⟨G, ρ, st, g, hw⟩ := w
  obtain ⟨d, e, hw⟩ := wp_of (wp_bind hw)
  unfold getB at e
  obtain ⟨q, e1, e2⟩ := Option.map_eq_some_iff.mp e
  obtain ⟨d', o⟩ := q
  cases e2
  have hi : ρ[i]? = some (some (d', o)) := by
    cases z : ρ[i]? with
    | none => rw [z] at e1; cases e1
    | some p => rw [z] at e1; cases p with
      | none => cases e1
      | some p => cases e1; rfl
  obtain ⟨u, k1, k2⟩ := g.er i d' o hi
  have hB : BRep X.K G H u d' := by
    cases o with
    | true => rw [if_pos rfl] at k2; exact .inr k2
    | false => rw [if_neg Bool.false_ne_true] at k2; exact .inl k2
  -- a dict
  have hd : ∃ ks vs, d' = .dic ks vs := by
    obtain ⟨y, st1, hz⟩ := wp_some (wp_bind hw)
    obtain ⟨z, st2, hz⟩ := wp_some (wp_bind hz)
    obtain ⟨r, e, _⟩ := wp_of hz
    cases d' <;> first | (simp [doGet] at e; done) | skip
    exact ⟨_, _, rfl⟩
  obtain ⟨ks, vs, rfl⟩ := hd
  obtain ⟨l, kvs0, rfl, q1, _, _⟩ := hB.dic
  refine ⟨_, k1, l, rfl, .inl ⟨kvs0, .inl q1⟩, ?_⟩
  refine go g hw fun y st1 v H1 C1 p1 g1 r1 h1 => go g1 h1 fun z st2 v2 H2 C2 p2 g2 r2 h2 => ?_
  obtain ⟨r, e, h3⟩ := wp_of h2
  have hB2 := (hB.ext p1.ext).ext p2.ext
  obtain ⟨l', kvs, e', q2, q3, q4⟩ := hB2.dic
  cases e'
  simp only [doGet] at e
  split at e
  · rename_i hk
    obtain ⟨k, _, hk2⟩ := key_of hk
    have ey := key_rep hk2 (.inl (SRep.ext p2.ext r1.1))
    subst ey hk2
    rw [q3] at e
    refine ⟨valV kvs k, .k q2, ?_⟩
    have P := p1.trans p2 g.sr.there
    rcases look_rep (k := k) q4 with ⟨z1, z2⟩ | ⟨w, d', z1, z2, z3⟩
    · rw [z2] at e
      cases e
      rw [z1]
      exact h3 _ _ _ P g2.sr ⟨r2.1, fun z => nomatch z⟩
    · rw [z2] at e
      cases e
      rw [z1]
      exact h3 _ _ _ P g2.sr ⟨z3, fun z => nomatch z⟩
  · cases e
end
end Wy

set_option Elab.async false
set_option linter.all false
set_option maxRecDepth 100000
set_option autoImplicit false
set_option maxHeartbeats 1000000
/-! WyErr: errors that were caught, as values: x.name, isinstance(x, LookupError). -/
namespace Wy
open PySem PySem.Spec PyProof.Rows L2
def erT (v : Bool) : String := if v then "ValueError" else "LookupError"
section
variable {X : Cx} {c : Wy.Ctx} {S : Sc}
theorem ixOf_get {f : Nat} : ∀ {l : List Nat} {i : Nat}, ixOf f l = some i → l[i]? = some f
  | [], i, h => by cases h
  | g :: l, i, h => by
    unfold ixOf at h
    split at h
    · rename_i e
      cases h
      rw [Nat.eq_of_beq_eq_true e]
      rfl
    · obtain ⟨j, h1, h2⟩ := Option.map_eq_some_iff.mp h
      subst h2
      have := ixOf_get h1
      simpa using this
theorem snd_fld (m : Mt X S c) {y : Str} {yp pos : Pos} {f : Nat} {fa : Bool} {ma : Env → M D} (h : PE X (.Name y yp) (tE X.K (FR X.K fa) ma)) : Snd X false (.Attribute (.Name y yp) (fldN f) pos) (.of fun ρ => M.bind (ma ρ) fun x => M.of (doFld x f)) := by
  refine Snd.of rfl ⟨fun pins s σ H Q I w => ?_⟩
  obtain ⟨G, ρ, st, g, hw⟩ := w
  refine attr_of rfl (thn (h.run pins s σ H (fun v H1 => ∃ C1 st1 x d, Pres G C1 H H1 ∧ Good X.K (G.at C1) σ H1 ρ st1 ∧ SRep X.K (G.at C1) H1 v x ∧ doFld x f = some d ∧ Post (FR X.K false) G H Q d st1) I (go g hw fun x st1 v H1 C1 p1 g1 r1 h1 => ?_)) fun u s1 hh => ?_)
  · obtain ⟨d, e, h2⟩ := wp_of h1
    exact ⟨C1, st1, x, d, p1, g1, r1.1, e, h2⟩
  · obtain ⟨x, H1, I1, rx, C1, st1, dx, d, p1, g1, r1, e, h2⟩ := hh
    have hx : ∃ k ys, dx = .err k ys := by
      cases dx with
      | err k ys => exact ⟨k, ys, rfl⟩
      | _ => cases e
    obtain ⟨k, ys, hx⟩ := hx
    subst hx
    obtain ⟨i, e1, e2⟩ := Option.bind_eq_some_iff.mp (show (ixOf f (exFi k)).bind (fun i => ys[i]?) = some d from e)
    cases r1 with
    | err0 A z ha => cases e2
    | err1 A ha hd hfs rs =>
      rename_i a dd fs vs
      obtain rfl : u = Value.ref a := rx
      obtain ⟨v, hv, rv⟩ := rs.get e2
      have hfk : (exF k)[i]? = some (fldN f) := by
        unfold exF
        rw [List.getElem?_map, ixOf_get e1]
        rfl
      have z5 := congrArg (fun l => l[i]?) hfs
      simp only [List.getElem?_map, hfk, hv, Option.map_some, Option.some.injEq] at z5
      obtain ⟨⟨oe, vz, hg, hz, hdt⟩, _⟩ := I1.hok a _ (Gh.h_some.mp ha).1
      obtain ⟨mA, hns, hr⟩ := I1.hok dd _ (Gh.h_some.mp hd).1
      obtain ⟨od, ho, hl⟩ := L2.lookIn_ns hns
      obtain ⟨u, hu, ru⟩ := RelO.some_of (v := v) (o := mA (fldN f)) (by rw [← z5]; exact hr _)
      have J : PySem.W.InstAt s1.heap a oe (exC X.K k) (some od) := ⟨hg, hz.1, by unfold PySem.W.notCls; rw [hdt] <;> rfl, by rw [hz.2]; exact ho⟩
      exact PySem.HandSPX.exc_get I1.kIn J A.ga A.gg A.sub (PySem.W.findObj_own A.hd (A.nof _ (List.mem_of_getElem? hfk)) rfl (by rw [hl, hu])) (handed_of ru) ⟨v, H1, I1.tok _, ru, h2 v H1 C1 p1 g1.sr (SRep.fr rv)⟩
/-- isinstance of an error that was caught -/
def rIsT (K : PySem.W.Frag) : List V → Hp → VK → Prop := fun xs H Q => ∃ (a : Addr) (k : Nat) (d : Option Addr) (u : V) (cv : Value) (b : Bool), xs = [.ref a, u] ∧ ClsA K k ∧ H a = some (ErO K a k d) ∧ (∀ dd, d = some dd → ∃ fs, H dd = some (.xd fs)) ∧ (∀ z, RelV u z → z = cv) ∧ PySem.W.kitOne K (.ref (exC K k)) cv = some b ∧ Q (.bl b) H
theorem call_isT : CallR X (.builtin "isinstance") (rIsT X.K) := by
  intro pins s σ H xs us Q I r h
  obtain ⟨a, k, d, u, cv, b, rfl, A, ha, hd, hcv, e, q⟩ := h
  cases r with
  | cons rx rr =>
    cases rr with
    | cons rt rr =>
      cases rr
      cases rx
      have ec := (hcv _ rt).symm
      subst ec
      obtain ⟨⟨oe, vz, hg, hz, hdt⟩, _⟩ := I.hok a _ ha
      have fin : ∀ {od : Option Obj}, PySem.W.InstAt s.heap a oe (exC X.K k) od → wpAny (model X.prog X.w) X.A (call (.builtin "isinstance") [.ref a, cv]) (EP X pins σ Q) X.xe s := fun {od} J =>
        PySem.W.kia_one (PySem.W.kitx_exc (od := od) A.cl A.ga A.gg A.sub A.ca A.sp A.tk A.mro) I.kIn J e (fun z => nomatch z) fun tk => ⟨.bl b, H, I.kept (t' := tk) fun _ _ z => z, rfl, q⟩
      have nc : PySem.W.notCls oe = true := by unfold PySem.W.notCls; rw [hdt] <;> rfl
      cases d with
      | none => exact fin (od := none) ⟨hg, hz.1, nc, by rw [hz.2]; exact trivial⟩
      | some dd =>
        obtain ⟨fs, hfs⟩ := hd dd rfl
        obtain ⟨mA, hns, _⟩ := I.hok dd _ hfs
        obtain ⟨od, ho, _⟩ := L2.lookIn_ns hns
        exact fin (od := some od) ⟨hg, hz.1, nc, by rw [hz.2]; exact ho⟩
theorem snd_isx (m : Mt X S c) {p tp pos : Pos} {e : Expr} {v : Bool} {f fa : Bool} {ma : Env → M D} (hg : glB S "isinstance" = true) (hs : notStar e = true) (ht : glB S (erT v : String) = true) (h : PE X e (tE X.K (FR X.K fa) ma)) :
    Snd X f (.Call (.Name "isinstance" p) [e, .Name (erT v : String) tp] [] pos) (.of fun ρ => M.bind (ma ρ) fun x => M.of (doIsx x v)) := by
  have key : ∀ {T : String}, X.mg (T : Str) = none → bootBuiltins (T : Str) = some (.type T) → (T : Str) ≠ "__name__" → ((T : Str) == ("__debug__" : Str)) = false → T = erT v → glB S (T : Str) = true → PE X (.Call (.Name "isinstance" p) [e, .Name (T : Str) tp] [] pos) (tE X.K (FR X.K f) fun ρ => M.bind (ma ρ) fun x => M.of (doIsx x v)) := fun {T} g1 g2 g3 g4 g5 g6 => by
    refine PEimp (pe_callB call_isT (m.gl hg) (m.blt _ (by simp [bnames])) boot_isinstance (pa_cons h (pa_cons (pe_bltn (v := .ty T) (m.gl g6) g1 g2 rfl g3 g4) pa_nil rfl) (star1 hs)) (by decide) (by decide) (star1 hs) rfl) fun σ H Q w => ?_
    obtain ⟨G, ρ, st, g, hw⟩ := w
    refine go g hw fun x st1 u H1 C1 p1 g1 r1 h1 => ?_
    obtain ⟨d, e, h2⟩ := wp_of h1
    have r1 := r1.1
    have hx : ∃ k ys, x = .err k ys := by
      cases x with
      | err k ys => exact ⟨k, ys, rfl⟩
      | _ => cases e
    obtain ⟨k, ys, hx⟩ := hx
    subst hx
    cases e
    have kit : ∀ {a : Addr}, ClsA X.K k → PySem.W.kitOne X.K (.ref (exC X.K k)) (.type T) = some (exV k == v) := fun {a} A => by
      subst g5
      cases v with
      | false =>
        have := A.isL
        rw [show (exV k == false) = !exV k by cases exV k <;> rfl]
        exact this
      | true =>
        have := A.isV
        rw [show (exV k == true) = exV k by cases exV k <;> rfl]
        exact this
    have hb : Q (.bl (exV k == v)) H1 := h2 _ H1 C1 p1 g1.sr ⟨.bl _, fun _ z => nomatch z⟩
    cases r1 with
    | err0 A z ha => exact ⟨_, k, none, .ty T, .type T, _, rfl, A, (Gh.h_some.mp ha).1, fun dd z => (nomatch z), fun z hz => hz, kit (a := 0) A, hb⟩
    | err1 A ha hd hfs rs => exact ⟨_, k, _, .ty T, .type T, _, rfl, A, (Gh.h_some.mp ha).1, fun dd z => (by cases z; exact ⟨_, (Gh.h_some.mp hd).1⟩), fun z hz => hz, kit (a := 0) A, hb⟩
  refine Snd.of rfl ?_
  cases v with
  | false => exact key (T := "LookupError") (m.blt _ (by simp [bnames])) (by decide +kernel) (by decide) (by decide) rfl ht
  | true => exact key (T := "ValueError") (m.blt _ (by simp [bnames])) (by decide +kernel) (by decide) (by decide) rfl ht
end
end Wy

set_option Elab.async false
set_option linter.all false
set_option maxRecDepth 100000
set_option autoImplicit false
/-! WyE: the checker of expressions and its soundness. -/
namespace Wy
open PySem PySem.Spec PyProof.Rows L2

/-- a list, a dict that it gives is new -/
def frsh (fs : Nat → Bool) : IE → Bool
  | .call f _ | .callk f _ _ _ => fs f
  | .k _ | .tup _ | .lst _ | .b1 _ _ | .b2 _ _ _ | .dst _ _ | .mn0 _ | .isi _ _ _ | .isx _ _ | .bin _ _ _ | .neg _ | .cmp _ _ _ | .chain _ _ _ _ _ | .not _ | .slc _ _ _ | .lc _ _ _ _ _ | .lc2 _ _ _ _ _ _ _ _ | .dic0 | .dc _ _ _ _ _ => true
  | .nox a => frsh fs a
  | .and a b | .or a b => frsh fs a && frsh fs b
  | .ite _ a b => frsh fs a && frsh fs b
  | _ => false
def isIt : IE → Bool
  | .range _ | .range2 _ _ | .enum _ | .zip _ _ => true
  | _ => false
def isStar : IE → Bool
  | .star _ => true
  | _ => false
def isTupE : Expr → Bool
  | .Tuple _ _ _ => true
  | _ => false
def notSet : Expr → Bool
  | .Set _ _ _ => false
  | _ => true
def sEqs : List Str → List Str → Bool
  | [], [] => true
  | x :: xs, y :: ys => sEq x y && sEqs xs ys
  | _, _ => false
theorem sEqs_eq : ∀ {a b : List Str}, sEqs a b = true → a = b
  | [], [], _ => rfl
  | [], _ :: _, h => absurd h Bool.false_ne_true
  | _ :: _, [], h => absurd h Bool.false_ne_true
  | x :: xs, y :: ys, h => by
    unfold sEqs at h
    rw [Bool.and_eq_true] at h
    rw [sEq_eq h.1, sEqs_eq h.2]
def kwNames : List Keyword → Option (List Str)
  | [] => some []
  | ⟨some x, _, _⟩ :: r => (kwNames r).map (x :: ·)
  | _ => none
def kwB (S : Sc) (x : Str) (f n : Nat) (ks : List Str) (perm : List Nat) : Bool :=
  S.kl.any fun q => sEq q.1 x && (q.2.1 == f) && (q.2.2.1 == n) && sEqs q.2.2.2.1 ks && (q.2.2.2.2 == perm)
mutual
/-- it: 0 a value, 1 what is gone through, 2 .. by a row of names, 3 a part of a row -/
def chkE : IE → Nat → Sc → Expr → Bool
  | .k d, _, S, e => (match e with
    | .Constant k _ _ => (match cstD k with
      | some d' => kEq d' d
      | none => false)
    | _ => false)
  | .v i, _, S, e => (match e with
    | .Name x _ => atB S i x && visB S x && evenB x
    | _ => false)
  | .tup es, _, S, e => (match e with
    | .Tuple l _ _ => chkR es S l
    | _ => false)
  | .lst es, _, S, e => (match e with
    | .List l _ => chkR es S l
    | _ => false)
  | .g n, _, S, e => (match e with
    | .Name x _ => glB S x && evenB x && (S.gc.any fun q => sEq q.1 x && q.2.1 == n)
    | _ => false)
  | .rev a, _, S, e => (match e with
    | .Subscript l (.Slice none none (some (.UnaryOp .USub (.Constant (.int 1) _ _) _)) _) _ => chkE a 0 S l
    | _ => false)
  | .dget (.v i) a b, _, S, e => (match e with
    | .Call (.Attribute (.Name x _) nm ap) [l, r] [] cp => sEq nm "get" && atB S i x && visB S x && evenB x && notStar l && notStar r && (ap.endLine == cp.line) && chkE a 0 S l && chkE b 0 S r
    | _ => false)
  | .star a, it, S, e => (it == 3) && (match e with
    | .Starred l _ => chkE a 0 S l
    | _ => false)
  | .call f es, _, S, e => (match e with
    | .Call (.Name x _) l [] _ => (lk S.gl x == some f) && glB S x && evenB x && l.all notStar && chkR es S l
    | _ => false)
  | .callk f es ks kes, _, S, e => (match e with
    | .Call (.Name x _) l (kw :: kws) _ => (match kwNames (kw :: kws) with
      | some ns => kwB S x f l.length ns ks && glB S x && evenB x && l.all notStar && chkR es S l && (es.length == l.length) && (kes.length == ns.length) && chkR kes S ((kw :: kws).map (·.value)) && ((kw :: kws).map (·.value)).all notStar
      | none => false)
    | _ => false)
  | .b1 op a, _, S, e => (match e with
    | .Call (.Name x _) [l] [] _ => sEq x (b1N op) && glB S (b1N op) && notStar l && chkE a 0 S l
    | _ => false)
  | .dst n a, _, S, e => (match e with
    | .Call (.Name x _) [.Call (.Name y _) [l] [] _] [] _ => sEq x (dstN n) && glB S (dstN n) && sEq y "set" && glB S "set" && notStar l && chkE a 0 S l
    | _ => false)
  | .mn0 a, _, S, e => (match e with
    | .Call (.Name x _) [l] [⟨some y, .Constant .none _ _, _⟩] _ => sEq x "min" && sEq y "default" && glB S "min" && notStar l && chkE a 0 S l
    | _ => false)
  | .b2 op a b, _, S, e => (match e with
    | .Call (.Name x _) [l, r] [] _ => sEq x (b2N op) && glB S (b2N op) && notStar l && notStar r && chkE a 0 S l && chkE b 0 S r
    | _ => false)
  | .isi a t cs, _, S, e => (match e with
    | .Call (.Name x _) [l, r] [] _ => sEq x "isinstance" && glB S "isinstance" && notStar l && chkE a 0 S l && (match t, cs, r with
      | true, cs, .Tuple es _ _ => !cs.isEmpty && Nat.ble cs.length 100 && clsRow S cs es
      | false, [k], .Name y _ => sEq y (clsS k) && glB S (clsS k)
      | _, _, _ => false)
    | _ => false)
  | .bin op a b, _, S, e => (match e with
    | .BinOp l o r _ => (o == binOp op) && chkE a 0 S l && chkE b 0 S r
    | _ => false)
  | .neg a, _, S, e => (match e with
    | .UnaryOp .USub l _ => chkE a 0 S l
    | _ => false)
  | .cmp op a b, _, S, e => (match e with
    | .Compare l [o] [r] _ => (o == cmpOp op) && !behindInMarks (cmpOp op) r && chkE a 0 S l && chkE b 0 S r
    | _ => false)
  | .chain op op' a b d, _, S, e => (match e with
    | .Compare l [o, o'] [r, q] _ => (o == cmpOp op) && (o' == cmpOp op') && !lastMarks [cmpOp op, cmpOp op'] [r, q] && chkE a 0 S l && chkE b 0 S r && chkE d 0 S q
    | _ => false)
  | .and a b, _, S, e => (match e with
    | .BoolOp .And [x, y] _ => chkE a 0 S x && chkE b 0 S y
    | .BoolOp .And (x :: y :: z :: r) pos => chkE a 0 S x && chkE b 0 S (.BoolOp .And (y :: z :: r) pos)
    | _ => false)
  | .or a b, _, S, e => (match e with
    | .BoolOp .Or [x, y] _ => chkE a 0 S x && chkE b 0 S y
    | .BoolOp .Or (x :: y :: z :: r) pos => chkE a 0 S x && chkE b 0 S (.BoolOp .Or (y :: z :: r) pos)
    | _ => false)
  | .nox a, _, S, e => notStar e && chkE a 0 S e
  | .fld a f, _, S, e => (match e with
    | .Attribute (.Name y yp) g _ => sEq g (fldN f) && chkE a 0 S (.Name y yp)
    | _ => false)
  | .isx a v, _, S, e => (match e with
    | .Call (.Name z _) [o, .Name t _] [] _ => sEq z "isinstance" && sEq t (erT v : String) && glB S z && notStar o && glB S t && chkE a 0 S o
    | _ => false)
  | .not a, _, S, e => (match e with
    | .UnaryOp .Not l _ => chkE a 0 S l
    | _ => false)
  | .ite d a b, _, S, e => (match e with
    | .IfExp q l r _ => chkE d 0 S q && chkE a 0 S l && chkE b 0 S r
    | _ => false)
  | .idx a b, _, S, e => (match e with
    | .Subscript l r _ => notSlice r && chkE a 0 S l && chkE b 0 S r
    | _ => false)
  | .slc a lo hi, _, S, e => (match e with
    | .Subscript l (.Slice l1 l2 none _) _ => chkE a 0 S l && chkO lo S l1 && chkO hi S l2
    | _ => false)
  | .lc own elt tg it cond, _, S, e => (match e with
    | .ListComp el [⟨t, itr, ifs, k⟩] scope _ => (k == 0) && blkB S scope own && (tgIs tg).all (fun i => own.contains i) && tgB (S.blk scope) tg t && notSet itr && chkE it (if isTupE t then 2 else 1) S itr && chkC cond (S.blk scope) ifs && chkE elt 0 (S.blk scope) el
    | _ => false)
  | .lc2 own own1 elt tg it tg1 it1 cond, _, S, e => (match e with
    | .ListComp el [⟨t, itr, [], k⟩, ⟨t1, itr1, ifs, k1⟩] scope _ => (k == 0) && (k1 == 0) && blkB S scope own && own1.all (fun i => own.contains i) && (tgIs tg).all (fun i => own.contains i) && (tgIs tg1).all (fun i => own1.contains i) && tgB (S.blk scope) tg t && tgB (S.blk scope) tg1 t1 && notSet itr && notSet itr1 && chkE it (if isTupE t then 2 else 1) S itr && chkE it1 0 (S.blk scope) itr1 && chkC cond (S.blk scope) ifs && chkE elt 0 (S.blk scope) el
    | _ => false)
  | .dic0, _, _, e => (match e with
    | .Dict [] [] _ => true
    | _ => false)
  | .dc own kk vv tg it, _, S, e => (match e with
    | .DictComp kx vx [⟨t, itr, [], k⟩] scope _ => (k == 0) && blkB S scope own && (tgIs tg).all (fun i => own.contains i) && tgB (S.blk scope) tg t && notSet itr && chkE it (if isTupE t then 2 else 1) S itr && chkE kk 0 (S.blk scope) kx && chkE vv 0 (S.blk scope) vx
    | _ => false)
  | .range a, it, S, e => (it == 1 || it == 2) && (match e with
    | .Call (.Name x _) [l] [] _ => sEq x "range" && glB S "range" && notStar l && chkE a 0 S l
    | _ => false)
  | .range2 a b, it, S, e => (it == 1 || it == 2) && (match e with
    | .Call (.Name x _) [l, r] [] _ => sEq x "range" && glB S "range" && notStar l && notStar r && chkE a 0 S l && chkE b 0 S r
    | _ => false)
  | .enum a, it, S, e => (it == 2) && (match e with
    | .Call (.Name x _) [l] [] _ => sEq x "enumerate" && glB S "enumerate" && notStar l && chkE a 0 S l
    | _ => false)
  | .zip a b, it, S, e => (it == 2) && (match e with
    | .Call (.Name x _) [l, r] [] _ => sEq x "zip" && glB S "zip" && notStar l && notStar r && chkE a 0 S l && chkE b 0 S r
    | _ => false)
  | _, _, _, _ => false
def chkR : List IE → Sc → List Expr → Bool
  | [], _, [] => true
  | i :: is, S, e :: es => chkE i 3 S e && chkR is S es
  | _, _, _ => false
def chkO : Option IE → Sc → Option Expr → Bool
  | none, _, none => true
  | some i, S, some e => chkE i 0 S e
  | _, _, _ => false
def chkC : Option IE → Sc → List Expr → Bool
  | none, _, [] => true
  | some i, S, [e] => chkE i 0 S e
  | _, _, _ => false
end
end Wy

set_option Elab.async false
set_option linter.all false
set_option maxRecDepth 100000
set_option autoImplicit false
set_option maxHeartbeats 1000000
/-! WyF: soundness of the checker of expressions. -/
namespace Wy
open PySem PySem.Spec PyProof.Rows L2
section
variable {X : Cx} {c : Wy.Ctx} {S : Sc}
theorem PKimp {kws : List Keyword} {t t' : TA} (h : PK X kws t) (k : ∀ σ H Q, t' σ H Q → t σ H Q) : PK X kws t' := ⟨fun pos pins s σ H Q I w => h.run pos pins s σ H Q I (k σ H Q w)⟩
theorem kw_nil : PK X [] (tR X.K (row [])) := PKimp pk_nil fun σ H Q w => by
  obtain ⟨G, ρ, st, g, hw⟩ := w
  exact wp_pure hw [] H G.C (Pres.refl G H) g.sr .nil
theorem kw_cons {nm : Option Str} {e : Expr} {kp : Pos} {kws : List Keyword} {f : Bool} {M0 : Md} {Ms : List Md} (h : PE X e (tE X.K (FR X.K f) M0.s)) (hm : M0.m = mOf M0.s ∨ M0.m = no) (hr : PK X kws (tR X.K (row Ms))) : PK X (⟨nm, e, kp⟩ :: kws) (tR X.K (row (M0 :: Ms))) := by
  refine PKimp (pk_cons h hr) fun σ H Q w => ?_
  obtain ⟨G, ρ, st, g, hw⟩ := w
  unfold row at hw
  rcases hm with hm | hm
  · rw [hm] at hw
    refine go g (wp_bind hw) fun x st1 v H1 C1 p1 g1 r1 h1 => ?_
    refine goR g1 (wp_pure h1) fun ds st2 vs H2 C2 p2 g2 r2 h2 => ?_
    exact wp_pure h2 (v :: vs) H2 C2 (p1.trans p2 g.sr.there) g2.sr (.cons (r1.1.ext p2.ext) r2)
  · rw [hm] at hw
    exact (wp_bind hw).elim
theorem row_len {ρ : Wy.Env} : ∀ {Ms : List Md} {st : Wy.St} {Q : List D → Wy.St → Prop}, (∀ M0 ∈ Ms, M0.m = mOf M0.s ∨ M0.m = no) → wp (row Ms ρ) st Q → wp (row Ms ρ) st fun ds st' => ds.length = Ms.length ∧ Q ds st'
  | [], st, Q, _, h => ⟨rfl, h⟩
  | M0 :: Ms, st, Q, hm, h => by
    unfold row at h ⊢
    rcases hm M0 List.mem_cons_self with e | e
    · rw [e] at h ⊢
      have h := wp_bind (wp_bind h)
      have conv : ∀ {α β : Type} {m : M α} {f : α → M β} {st : Wy.St} {Q : β → Wy.St → Prop}, wp m st (fun a st' => wp (f a) st' Q) → wp (M.bind m f) st Q := fun {α β m f st Q} h => by
        unfold wp M.bind at *
        cases e : m st with
        | ok a st' =>
          rw [e] at h
          exact h
        | exc _ _ _ =>
          rw [e] at h
          exact h
        | stuck =>
          rw [e] at h
          exact h
      refine conv (conv (wp_mono h fun d st1 h1 => ?_))
      have h1 := wp_pure h1
      refine conv (wp_mono (row_len (fun z hz => hm z (List.mem_cons_of_mem _ hz)) (wp_bind h1)) fun ds st2 h2 => ?_)
      exact ⟨by rw [List.length_append, h2.1]; simp; omega, h2.2⟩
    · rw [e] at h
      exact (wp_bind h).elim
theorem kw_names {pos : Pos} {env : PySem.Env} : ∀ {kws : List Keyword} {ns : List Str}, kwNames kws = some ns → (backToKw pos (keywordEach kws env)).all (·.1.isSome) = true ∧ (backToKw pos (keywordEach kws env)).filterMap (·.1) = ns ∧ (backToKw pos (keywordEach kws env)).any (·.1.isNone) = false
  | [], ns, h => by
    cases h
    exact ⟨rfl, rfl, rfl⟩
  | ⟨none, v, p⟩ :: r, ns, h => by cases h
  | ⟨some x, v, p⟩ :: r, ns, h => by
    unfold kwNames at h
    obtain ⟨ms, h1, h2⟩ := Option.map_eq_some_iff.mp h
    obtain ⟨k1, k2, k3⟩ := kw_names (pos := pos) (env := env) h1
    subst h2
    refine ⟨k1, ?_, k3⟩
    show List.filterMap (·.1) ((some x, _) :: backToKw pos (keywordEach r env)) = x :: ms
    rw [List.filterMap_cons, k2]
theorem pe_callK0 {CX : CXT} {k : Nat} {f : Addr} {fd : FuncData} {ps ks : List Str} {sp : Sp} {E : XK} {x : Str} {p pos : Pos} {kws : List Keyword} {tk : TA} {g : List Value → List Value → List Value} {gV : List V → List V → List V} (F : FnOk X.prog X.w X.K X.mg X.base CX k f fd ps sp) (hr : Room k X.A) (hg : Gl X x) (hm : X.mg x = some (.ref f)) (hk : PySem.W.keepIn X.K (.ref f) = true) (hb : KBinds X.K fd ps ks g gV) (hx : Passes CX X E)
    (hkw : PK X kws tk) (hall : (backToKw pos (keywordEach kws X.env)).all (·.1.isSome) = true) (hks : (backToKw pos (keywordEach kws X.env)).filterMap (·.1) = ks)
    (hdb : (x == ("__debug__" : Str)) = false) (hpl : ((backTo pos (starEach [] X.env)).any (·.1) || (backToKw pos (keywordEach kws X.env)).any (·.1.isNone)) = false) :
    PE X (.Call (.Name x p) [] kws pos) (tCallK sp gV E tNil tk) := by
  refine ⟨fun pins s σ H Q I h => ?_⟩
  refine wpAny_Call_Name_kw (ld_glob I hg hm ?_ hdb)
  refine PySem.W.callWith_KW0 (h₀ := X.base) I.ok.mod.kin hk hall (thn (hkw.run pos pins s σ H _ I h) fun ws s2 ⟨zs, H2, I2, rz, q2⟩ => ⟨I2.kIn, ?_⟩) hpl
  rw [hks]
  exact run_fnk (us := []) (vs := []) F hr hb hx I2 .nil rz q2
theorem Reps.pick {K : PySem.W.Frag} {C : List Addr} {H : Hp} {vs : List V} {ds : List D} (r : Reps K C H vs ds) : ∀ perm : List Nat, Reps K C H (perm.filterMap fun j => vs[j]?) (perm.filterMap fun j => ds[j]?)
  | [] => .nil
  | j :: perm => by
    rw [List.filterMap_cons, List.filterMap_cons]
    cases h : vs[j]? with
    | none =>
      have : ds[j]? = none := by
        rw [List.getElem?_eq_none_iff] at h ⊢
        rw [← r.len]
        exact h
      rw [this]
      exact Reps.pick r perm
    | some v =>
      obtain ⟨d, hd, rd⟩ := r.getV h
      rw [hd]
      exact .cons rd (Reps.pick r perm)
theorem gP_reps {K : PySem.W.Frag} {C : List Addr} {H : Hp} {n l : Nat} {perm : List Nat} {vs zs : List V} {ds es : List D} (r : Reps K C H vs ds) (r2 : Reps K C H zs es) : Reps K C H (gP n l perm vs zs) (gP n l perm ds es) := by
  unfold gP
  rw [r.len, r2.len]
  split
  · exact Reps.app (r2.pick perm) r
  · exact .nil
theorem snd_callk (m : Mt X S c) {x : Str} {p pos : Pos} {es : List Expr} {kw : Keyword} {kws : List Keyword} {Ms Ks : List Md} {i : Nat} {ns : List Str} {perm : List Nat} (hn : kwNames (kw :: kws) = some ns) (hq : kwB S x i es.length ns perm = true) (hg : glB S x = true) (he : evenB x = true) (hs : es.all notStar = true) (hM : es = [] → Ms = [])
    (h : PA X es (tR X.K (row Ms))) (hk : PK X (kw :: kws) (tR X.K (row Ks))) (nM : Ms.length = es.length) (nK : Ks.length = ns.length) :
    Snd X (S.fr i) (.Call (.Name x p) es (kw :: kws) pos) (.of fun ρ => M.bind (row Ms ρ) fun ds => M.bind (row Ks ρ) fun kds => c.call i (gP Ms.length Ks.length perm ds kds)) := by
  obtain ⟨⟨y, i', n', ks', perm'⟩, hmem, hb⟩ := List.any_eq_true.mp hq
  simp only [Bool.and_eq_true, beq_iff_eq] at hb
  obtain ⟨⟨⟨⟨b1, b2⟩, b3⟩, b4⟩, b5⟩ := hb
  have b1 := sEq_eq b1
  have b4 := sEqs_eq b4
  subst b1 b2 b3 b4 b5
  obtain ⟨f, fd, ps, k, F, hr, hm, hk2, hb⟩ := (m.kws _ hmem).ex
  obtain ⟨k1, k2, k3⟩ := kw_names (pos := pos) (env := X.env) hn
  rw [nM, nK]
  refine Snd.of rfl ?_
  cases es with
  | nil =>
    refine PEimp (pe_callK0 (E := E0) F hr (m.gl hg) hm hk2 hb passN hk k1 k2 (even_1 he).1 (by rw [k3]; rfl)) fun σ H Q w => ?_
    obtain ⟨G, ρ, st, g, hw⟩ := w
    rw [hM rfl] at hw
    have hw : wp (M.bind (row Ks ρ) fun kds => c.call i' (gP 0 ks'.length perm' [] kds)) st (Post (FR X.K (S.fr i')) G H Q) := wp_pure (wp_bind hw)
    refine goR g hw fun kds st2 zs H2 C2 p2 g2 r2 h2 => ?_
    exact spF_go (vs := gP 0 ks'.length perm' [] zs) g p2 g2 (gP_reps .nil r2) h2
  | cons e es =>
    simp only [List.all_cons, Bool.and_eq_true] at hs
    refine PEimp (pe_callK (E := E0) F hr (m.gl hg) hm hk2 hb passN h hk k1 k2 (even_1 he).1 (star1 hs.1) (by rw [no_stars (by simp only [List.all_cons, Bool.and_eq_true]; exact hs), k3]; rfl)) fun σ H Q w => ?_
    obtain ⟨G, ρ, st, g, hw⟩ := w
    refine goR g hw fun ds st1 vs H1 C1 p1 g1 r1 h1 => goR g1 h1 fun kds st2 zs H2 C2 p2 g2 r2 h2 => ?_
    exact spF_go g (p1.trans p2 g.sr.there) g2 (gP_reps (SReps.ext p2.ext r1) r2) h2
end
/-- what the checker's yes says -/
structure Cn (X : Cx) (S : Sc) (c : Wy.Ctx) (i : IE) (it : Nat) (e : Expr) : Prop where
  v : isIt i = false → isStar i = false → Snd X (frsh S.fr i) e (md c i)
  p : isStar i = false → ∀ tg, (it = 2 → isTupE tg = true) → PI X tg e (tI X.K Ext (md c i).i)
  st : ∀ a, i = .star a → ∃ l p, e = .Starred l p ∧ PE X l (tE X.K (BR X.K) (md c a).b)
  ns : isStar i = false → notStar e = true
section
variable {X : Cx} {c : Wy.Ctx} {S : Sc} {i : IE} {e : Expr} {it : Nat}
theorem Cn.of (hs : isStar i = false) (hn : notStar e = true) (h : Snd X (frsh S.fr i) e (md c i)) : Cn X S c i it e :=
  ⟨fun _ _ => h, fun _ tg _ => h.i tg, fun a z => (by subst z; cases hs), fun _ => hn⟩
theorem Cn.ofI (hi : isIt i = true) (hs : isStar i = false) (hn : notStar e = true) (h : ∀ tg, (it = 2 → isTupE tg = true) → PI X tg e (tI X.K Ext (md c i).i)) : Cn X S c i it e :=
  ⟨fun z _ => (by rw [hi] at z; cases z), fun _ => h, fun a z => (by subst z; cases hs), fun _ => hn⟩
theorem chk0 (h : chkE i 0 S e = true) : isIt i = false ∧ isStar i = false := by
  cases i <;> first | exact ⟨rfl, rfl⟩ | (unfold chkE at h; simp at h)
theorem chk3 (h : chkE i 3 S e = true) : isIt i = false := by
  cases i <;> first | rfl | (unfold chkE at h; simp at h)
theorem Cn.v0 (q : Cn X S c i 0 e) (h : chkE i 0 S e = true) : Snd X (frsh S.fr i) e (md c i) := q.v (chk0 h).1 (chk0 h).2
theorem m_of : ∀ i : IE, isStar i = false → (md c i).m = mOf (md c i).s ∨ (md c i).m = no := by
  intro i h
  cases i <;> first | exact .inl rfl | exact .inr rfl | cases h
theorem mds_len : ∀ is : List IE, (mds c is).length = is.length
  | [] => rfl
  | i :: is => by
    show (mds c is).length + 1 = is.length + 1
    rw [mds_len is]
theorem chkR_nil {is : List IE} (h : chkR is S [] = true) : is = [] := by
  cases is with
  | nil => rfl
  | cons _ _ => unfold chkR at h; cases h
theorem not_set {env : PySem.Env} (h : notSet e = true) : ∀ x, foldedSetIterable e env x = pure x := by
  intro x
  cases e <;> first | rfl | exact absurd h Bool.false_ne_true
end
def EOk (i : IE) : Prop := ∀ ⦃c : Wy.Ctx⦄ ⦃it : Nat⦄ ⦃X : Cx⦄ ⦃S : Sc⦄ ⦃e : Expr⦄, chkE i it S e = true → Mt X S c → Cn X S c i it e
theorem sR_of : ∀ {is : List IE} (_ : ∀ i ∈ is, EOk i) {c : Wy.Ctx} {X : Cx} {S : Sc} {es : List Expr}, chkR is S es = true → Mt X S c → PA X es (tR X.K (row (mds c is)))
  | [], _, c, X, S, [], _, _ => row_nil
  | [], _, c, X, S, _ :: _, h, _ => by unfold chkR at h; cases h
  | _ :: _, _, c, X, S, [], h, _ => by unfold chkR at h; cases h
  | i :: is, ih, c, X, S, e :: es, h, m => by
    unfold chkR at h
    rw [Bool.and_eq_true] at h
    have q := ih i List.mem_cons_self h.1 m
    have r := sR_of (fun j hj => ih j (List.mem_cons_of_mem _ hj)) h.2 m
    by_cases hs : isStar i = true
    · cases i <;> first | exact absurd hs Bool.false_ne_true | skip
      rename_i a
      obtain ⟨l, p, e1, k⟩ := q.st a rfl
      subst e1
      exact row_star k r
    · have hs : isStar i = false := by simpa using hs
      exact row_cons (q.ns hs) (q.v (chk3 h.1) hs).s (m_of i hs) r
theorem sK_of : ∀ {is : List IE} (_ : ∀ i ∈ is, EOk i) {c : Wy.Ctx} {X : Cx} {S : Sc} {kws : List Keyword}, chkR is S (kws.map (·.value)) = true → (kws.map (·.value)).all notStar = true → Mt X S c → PK X kws (tR X.K (row (mds c is)))
  | [], _, c, X, S, [], _, _, _ => kw_nil
  | [], _, c, X, S, _ :: _, h, _, _ => by unfold chkR at h; cases h
  | _ :: _, _, c, X, S, [], h, _, _ => by unfold chkR at h; cases h
  | i :: is, ih, c, X, S, ⟨nm, e, kp⟩ :: kws, h, ha, m => by
    rw [List.map_cons] at h
    unfold chkR at h
    rw [Bool.and_eq_true] at h
    have q := ih i List.mem_cons_self h.1 m
    rw [List.map_cons, List.all_cons, Bool.and_eq_true] at ha
    have r := sK_of (fun j hj => ih j (List.mem_cons_of_mem _ hj)) h.2 ha.2 m
    have hs : isStar i = false := by
      cases i <;> first | rfl | skip
      obtain ⟨l, p, e1, _⟩ := q.st _ rfl
      have e1 : e = .Starred l p := e1
      subst e1
      exact absurd ha.1 Bool.false_ne_true
    exact kw_cons (q.v (chk3 h.1) hs).s (m_of i hs) r
theorem sO_of : ∀ {o : Option IE} (_ : ∀ i, o = some i → EOk i) {c : Wy.Ctx} {X : Cx} {S : Sc} {eo : Option Expr}, chkO o S eo = true → Mt X S c → PO X eo (tO X.K (part (mdo c o)))
  | none, _, c, X, S, none, _, _ => part_none
  | none, _, c, X, S, some _, h, _ => by unfold chkO at h; cases h
  | some _, _, c, X, S, none, h, _ => by unfold chkO at h; cases h
  | some i, ih, c, X, S, some e, h, m => by
    unfold chkO at h
    exact part_some ((ih i rfl h m).v0 h).s
theorem sC_of : ∀ {o : Option IE} (_ : ∀ i, o = some i → EOk i) {c : Wy.Ctx} {X : Cx} {S : Sc} {ifs : List Expr}, chkC o S ifs = true → Mt X S c → PTs X ifs (tT X.K (cnd (mdo c o)))
  | none, _, c, X, S, [], _, _ => pts_none
  | none, _, c, X, S, _ :: _, h, _ => by unfold chkC at h; cases h
  | some _, _, c, X, S, [], h, _ => by unfold chkC at h; cases h
  | some _, _, c, X, S, _ :: _ :: _, h, _ => by unfold chkC at h; cases h
  | some i, ih, c, X, S, [e], h, m => by
    unfold chkC at h
    exact pts_some ((ih i rfl h m).v0 h).t
theorem sE_k {d : D}  : EOk (.k d) := by
  intro c it X S e h m
  unfold chkE at h
  split at h
  · split at h
    · rename_i k kk pos _ d' hd
      exact .of rfl rfl (snd_k hd h)
    · cases h
  · cases h
theorem sE_g {n : Nat}  : EOk (.g n) := by
  intro c it X S e h m
  unfold chkE at h
  split at h
  · simp only [Bool.and_eq_true] at h
    exact .of rfl rfl (snd_g m h.1.1 h.1.2 h.2)
  · cases h
theorem sE_v {n : Nat}  : EOk (.v n) := by
  intro c it X S e h m
  unfold chkE at h
  split at h
  · simp only [Bool.and_eq_true] at h
    exact .of rfl rfl (snd_v m h.1.1 h.1.2 h.2)
  · cases h
theorem sE_tup {es : List IE} (ih_es : ∀ i ∈ es, EOk i) : EOk (.tup es) := by
  intro c it X S e h m
  unfold chkE at h
  split at h
  · exact .of rfl rfl (snd_tup (sR_of ih_es h m))
  · cases h
theorem sE_lst {es : List IE} (ih_es : ∀ i ∈ es, EOk i) : EOk (.lst es) := by
  intro c it X S e h m
  unfold chkE at h
  split at h
  · exact .of rfl rfl (snd_lst (sR_of ih_es h m))
  · cases h
theorem sE_star {a : IE} (ih_a : EOk a) : EOk (.star a) := by
  intro c it X S e h m
  unfold chkE at h
  rw [Bool.and_eq_true] at h
  obtain ⟨_, h⟩ := h
  split at h
  · rename_i l p
    refine ⟨fun _ z => (by cases z), fun z => (by cases z), fun a' e => ?_, fun z => (by cases z)⟩
    cases e
    exact ⟨l, p, rfl, ((ih_a h m).v0 h).b⟩
  · cases h
theorem sE_call {f : Nat} {es : List IE} (ih_es : ∀ i ∈ es, EOk i) : EOk (.call f es) := by
  intro c it X S e h m
  unfold chkE at h
  split at h
  · simp only [Bool.and_eq_true, beq_iff_eq] at h
    obtain ⟨⟨⟨⟨h1, h2⟩, h3⟩, h4⟩, h5⟩ := h
    exact .of rfl rfl (snd_call m h1 h2 h3 h4 (fun z => by subst z; rw [chkR_nil h5]; rfl) (sR_of ih_es h5 m))
  · cases h
theorem sE_callk {f : Nat} {es : List IE} {ks : List Nat} {kes : List IE} (ih_es : ∀ i ∈ es, EOk i) (ih_kes : ∀ i ∈ kes, EOk i) : EOk (.callk f es ks kes) := by
  intro c it X S e h m
  unfold chkE at h
  split at h
  · split at h
    · rename_i x p0 l kw kws pos0 _ ns hn
      simp only [Bool.and_eq_true, beq_iff_eq] at h
      obtain ⟨⟨⟨⟨⟨⟨⟨⟨h1, h2⟩, h3⟩, h4⟩, h5⟩, h6⟩, h7⟩, h8⟩, h9⟩ := h
      have q := snd_callk (c := c) (p := p0) (pos := pos0) m hn h1 h2 h3 h4 (fun z => by subst z; rw [chkR_nil h5]; rfl) (sR_of ih_es h5 m) (sK_of ih_kes h8 h9 m) (by rw [mds_len]; exact h6) (by rw [mds_len]; exact h7)
      rw [mds_len, mds_len] at q
      exact .of rfl rfl q
    · cases h
  · cases h
theorem sE_b1 {op : B1} {a : IE} (ih_a : EOk a) : EOk (.b1 op a) := by
  intro c it X S e h m
  unfold chkE at h
  split at h
  · simp only [Bool.and_eq_true] at h
    obtain ⟨⟨⟨h1, h2⟩, h3⟩, h4⟩ := h
    rw [sEq_eq h1]
    exact .of rfl rfl (snd_b1 m op h2 h3 ((ih_a h4 m).v0 h4).b)
  · cases h
theorem sE_dst {n : Bool} {a : IE} (ih_a : EOk a) : EOk (.dst n a) := by
  intro c it X S e h m
  unfold chkE at h
  split at h
  · simp only [Bool.and_eq_true] at h
    obtain ⟨⟨⟨⟨⟨h1, h2⟩, h3⟩, h4⟩, h5⟩, h6⟩ := h
    rw [sEq_eq h1, sEq_eq h3]
    exact .of rfl rfl (snd_dst m n h2 h4 h5 ((ih_a h6 m).v0 h6).b)
  · cases h
theorem sE_mn0 {a : IE} (ih_a : EOk a) : EOk (.mn0 a) := by
  intro c it X S e h m
  unfold chkE at h
  split at h
  · simp only [Bool.and_eq_true] at h
    obtain ⟨⟨⟨⟨h1, h2⟩, h3⟩, h4⟩, h5⟩ := h
    rw [sEq_eq h1, sEq_eq h2]
    exact .of rfl rfl (snd_mn0 m h3 h4 ((ih_a h5 m).v0 h5).b)
  · cases h
theorem sE_b2 {op : B2} {a : IE} {b : IE} (ih_a : EOk a) (ih_b : EOk b) : EOk (.b2 op a b) := by
  intro c it X S e h m
  unfold chkE at h
  split at h
  · simp only [Bool.and_eq_true] at h
    obtain ⟨⟨⟨⟨⟨h1, h2⟩, h3⟩, h4⟩, h5⟩, h6⟩ := h
    rw [sEq_eq h1]
    exact .of rfl rfl (snd_b2 m op h2 h3 h4 ((ih_a h5 m).v0 h5).s ((ih_b h6 m).v0 h6).s)
  · cases h
theorem sE_isi {a : IE} {t : Bool} {cs : List Cls} (ih_a : EOk a) : EOk (.isi a t cs) := by
  intro c it X S e h m
  unfold chkE at h
  split at h
  · rw [Bool.and_eq_true, Bool.and_eq_true, Bool.and_eq_true, Bool.and_eq_true] at h
    obtain ⟨⟨⟨⟨h1, h2⟩, h3⟩, h4⟩, h5⟩ := h
    rw [sEq_eq h1]
    split at h5
    · simp only [Bool.and_eq_true, Bool.not_eq_true'] at h5
      exact .of rfl rfl (snd_isiT m h2 h3 (fun z => by rw [z] at h5; cases h5.1.1) (Nat.le_of_ble_eq_true h5.1.2) h5.2 ((ih_a h4 m).v0 h4).b)
    · rw [Bool.and_eq_true] at h5
      rw [sEq_eq h5.1]
      exact .of rfl rfl (snd_isi m h2 h3 h5.2 ((ih_a h4 m).v0 h4).b)
    · cases h5
  · cases h
theorem sE_bin {op : Bin} {a : IE} {b : IE} (ih_a : EOk a) (ih_b : EOk b) : EOk (.bin op a b) := by
  intro c it X S e h m
  unfold chkE at h
  split at h
  · simp only [Bool.and_eq_true, beq_iff_eq] at h
    obtain ⟨⟨h1, h2⟩, h3⟩ := h
    rw [h1]
    exact .of rfl rfl (snd_bin op ((ih_a h2 m).v0 h2).b ((ih_b h3 m).v0 h3).b)
  · cases h
theorem sE_neg {a : IE} (ih_a : EOk a) : EOk (.neg a) := by
  intro c it X S e h m
  unfold chkE at h
  split at h
  · exact .of rfl rfl (snd_neg ((ih_a h m).v0 h).s)
  · cases h
theorem sE_cmp {op : Cmp} {a : IE} {b : IE} (ih_a : EOk a) (ih_b : EOk b) : EOk (.cmp op a b) := by
  intro c it X S e h m
  unfold chkE at h
  split at h
  · simp only [Bool.and_eq_true, beq_iff_eq, Bool.not_eq_true'] at h
    obtain ⟨⟨⟨h1, h2⟩, h3⟩, h4⟩ := h
    rw [h1]
    exact .of rfl rfl (snd_cmp m op h2 ((ih_a h3 m).v0 h3).b ((ih_b h4 m).v0 h4).b)
  · cases h
theorem sE_chain {op : Cmp} {op1 : Cmp} {a : IE} {b : IE} {d : IE} (ih_a : EOk a) (ih_b : EOk b) (ih_d : EOk d) : EOk (.chain op op1 a b d) := by
  intro c it X S e h m
  unfold chkE at h
  split at h
  · simp only [Bool.and_eq_true, beq_iff_eq, Bool.not_eq_true'] at h
    obtain ⟨⟨⟨⟨⟨h1, h2⟩, h3⟩, h4⟩, h5⟩, h6⟩ := h
    rw [h1, h2]
    exact .of rfl rfl (snd_chain m op op1 h3 ((ih_a h4 m).v0 h4).b ((ih_b h5 m).v0 h5).b ((ih_d h6 m).v0 h6).b)
  · cases h
theorem sE_and {a : IE} {b : IE} (ih_a : EOk a) (ih_b : EOk b) : EOk (.and a b) := by
  intro c it X S e h m
  unfold chkE at h
  split at h
  · rw [Bool.and_eq_true] at h
    exact .of rfl rfl (snd_and ((ih_a h.1 m).v0 h.1) (snd_one ((ih_b h.2 m).v0 h.2)))
  · rw [Bool.and_eq_true] at h
    exact .of rfl rfl (snd_and ((ih_a h.1 m).v0 h.1) ((ih_b h.2 m).v0 h.2))
  · cases h
theorem sE_or {a : IE} {b : IE} (ih_a : EOk a) (ih_b : EOk b) : EOk (.or a b) := by
  intro c it X S e h m
  unfold chkE at h
  split at h
  · rw [Bool.and_eq_true] at h
    exact .of rfl rfl (snd_or ((ih_a h.1 m).v0 h.1) (snd_one ((ih_b h.2 m).v0 h.2)))
  · rw [Bool.and_eq_true] at h
    exact .of rfl rfl (snd_or ((ih_a h.1 m).v0 h.1) ((ih_b h.2 m).v0 h.2))
  · cases h
theorem sE_not {a : IE} (ih_a : EOk a) : EOk (.not a) := by
  intro c it X S e h m
  unfold chkE at h
  split at h
  · exact .of rfl rfl (snd_not ((ih_a h m).v0 h))
  · cases h
theorem sE_ite {d : IE} {a : IE} {b : IE} (ih_d : EOk d) (ih_a : EOk a) (ih_b : EOk b) : EOk (.ite d a b) := by
  intro c it X S e h m
  unfold chkE at h
  split at h
  · simp only [Bool.and_eq_true] at h
    exact .of rfl rfl (snd_ite ((ih_d h.1.1 m).v0 h.1.1) ((ih_a h.1.2 m).v0 h.1.2) ((ih_b h.2 m).v0 h.2))
  · cases h
theorem sE_idx {a : IE} {b : IE} (ih_a : EOk a) (ih_b : EOk b) : EOk (.idx a b) := by
  intro c it X S e h m
  unfold chkE at h
  split at h
  · simp only [Bool.and_eq_true] at h
    exact .of rfl rfl (snd_idx m h.1.1 ((ih_a h.1.2 m).v0 h.1.2).b ((ih_b h.2 m).v0 h.2).s)
  · cases h
theorem sE_slc {a : IE} {lo : Option IE} {hi : Option IE} (ih_a : EOk a) (ih_lo : ∀ i, lo = some i → EOk i) (ih_hi : ∀ i, hi = some i → EOk i) : EOk (.slc a lo hi) := by
  intro c it X S e h m
  unfold chkE at h
  split at h
  · simp only [Bool.and_eq_true] at h
    exact .of rfl rfl (snd_slc ((ih_a h.1.1 m).v0 h.1.1).b (sO_of ih_lo h.1.2 m) (sO_of ih_hi h.2 m))
  · cases h
theorem sE_rev {a : IE} (ih_a : EOk a) : EOk (.rev a) := by
  intro c it X S e h m
  unfold chkE at h
  split at h
  · exact .of rfl rfl (snd_rev ((ih_a h m).v0 h).b)
  · cases h
theorem sE_lc {own : List Nat} {elt : IE} {tg : Tg} {itr : IE} {cond : Option IE} (ih_elt : EOk elt) (ih_itr : EOk itr) (ih_cond : ∀ i, cond = some i → EOk i) : EOk (.lc own elt tg itr cond) := by
  intro c it X S e h m
  unfold chkE at h
  split at h
  · rename_i el t ie ifs k scope pos
    simp only [Bool.and_eq_true, beq_iff_eq, List.all_eq_true] at h
    obtain ⟨⟨⟨⟨⟨⟨⟨h1, h2⟩, h3⟩, h4⟩, h5⟩, h6⟩, h7⟩, h8⟩ := h
    subst h1
    have q := ih_itr h6 m
    refine .of rfl rfl (snd_lc m (q.p ?_ t fun z => ?_) h2 (fun j hj => by simpa using h3 j hj) h4 (fun X' eK m' => by rw [← eK]; exact sC_of ih_cond h7 m') (fun X' eK m' => by rw [← eK]; exact ((ih_elt h8 m').v0 h8).s) (not_set h5))
    · cases itr <;> first | rfl | (unfold chkE at h6; split at h6 <;> simp at h6)
    · by_cases hT : isTupE t = true
      · exact hT
      · rw [if_neg hT] at z
        cases z
  · cases h
theorem sE_lc2 {own : List Nat} {own1 : List Nat} {elt : IE} {tg : Tg} {itr : IE} {tg1 : Tg} {it1 : IE} {cond : Option IE} (ih_elt : EOk elt) (ih_itr : EOk itr) (ih_it1 : EOk it1) (ih_cond : ∀ i, cond = some i → EOk i) : EOk (.lc2 own own1 elt tg itr tg1 it1 cond) := by
  intro c it X S e h m
  unfold chkE at h
  split at h
  · rename_i el t ie k t1 ie1 ifs k1 scope pos
    simp only [Bool.and_eq_true, beq_iff_eq, List.all_eq_true] at h
    obtain ⟨⟨⟨⟨⟨⟨⟨⟨⟨⟨⟨⟨⟨h1, h2⟩, h3⟩, h4⟩, h5⟩, h6⟩, h7⟩, h8⟩, h9⟩, h10⟩, h11⟩, h12⟩, h13⟩, h14⟩ := h
    subst h1 h2
    have q := ih_itr h11 m
    refine .of rfl rfl (snd_lc2 m (q.p ?_ t fun z => ?_) h3 (fun j hj => by simpa using h4 j hj) (fun j hj => by simpa using h5 j hj) (fun j hj => by simpa using h6 j hj) h7 h8 (fun X' eK m' => by rw [← eK]; exact PIp ((ih_it1 h12 m').v0 h12).s) (fun X' eK m' => by rw [← eK]; exact sC_of ih_cond h13 m') (fun X' eK m' => by rw [← eK]; exact ((ih_elt h14 m').v0 h14).s) (not_set h9) (fun env => not_set h10))
    · cases itr <;> first | rfl | (unfold chkE at h11; split at h11 <;> simp at h11)
    · by_cases hT : isTupE t = true
      · exact hT
      · rw [if_neg hT] at z
        cases z
  · cases h
theorem sE_range {a : IE} (ih_a : EOk a) : EOk (.range a) := by
  intro c it X S e h m
  unfold chkE at h
  rw [Bool.and_eq_true] at h
  obtain ⟨_, h⟩ := h
  split at h
  · simp only [Bool.and_eq_true] at h
    obtain ⟨⟨⟨h1, h2⟩, h3⟩, h4⟩ := h
    rw [sEq_eq h1]
    exact .ofI rfl rfl rfl fun tg _ => pi_rng1 m h2 h3 ((ih_a h4 m).v0 h4).s
  · cases h
theorem sE_range2 {a : IE} {b : IE} (ih_a : EOk a) (ih_b : EOk b) : EOk (.range2 a b) := by
  intro c it X S e h m
  unfold chkE at h
  rw [Bool.and_eq_true] at h
  obtain ⟨_, h⟩ := h
  split at h
  · simp only [Bool.and_eq_true] at h
    obtain ⟨⟨⟨⟨⟨h1, h2⟩, h3⟩, h4⟩, h5⟩, h6⟩ := h
    rw [sEq_eq h1]
    exact .ofI rfl rfl rfl fun tg _ => pi_rng2 m h2 h3 h4 ((ih_a h5 m).v0 h5).s ((ih_b h6 m).v0 h6).s
  · cases h
theorem sE_enum {a : IE} (ih_a : EOk a) : EOk (.enum a) := by
  intro c it X S e h m
  unfold chkE at h
  rw [Bool.and_eq_true, beq_iff_eq] at h
  obtain ⟨h0, h⟩ := h
  split at h
  · simp only [Bool.and_eq_true] at h
    obtain ⟨⟨⟨h1, h2⟩, h3⟩, h4⟩ := h
    rw [sEq_eq h1]
    refine .ofI rfl rfl rfl fun tg ht => ?_
    have ht := ht h0
    cases tg <;> first | exact absurd ht Bool.false_ne_true | exact pi_enumD (fun _ _ _ _ _ r => r) (fun _ _ _ _ _ r _ _ e => r.ext e) m h2 h3 ((ih_a h4 m).v0 h4).b
  · cases h
theorem sE_zip {a : IE} {b : IE} (ih_a : EOk a) (ih_b : EOk b) : EOk (.zip a b) := by
  intro c it X S e h m
  unfold chkE at h
  rw [Bool.and_eq_true, beq_iff_eq] at h
  obtain ⟨h0, h⟩ := h
  split at h
  · simp only [Bool.and_eq_true] at h
    obtain ⟨⟨⟨⟨⟨h1, h2⟩, h3⟩, h4⟩, h5⟩, h6⟩ := h
    rw [sEq_eq h1]
    refine .ofI rfl rfl rfl fun tg ht => ?_
    have ht := ht h0
    cases tg <;> first | exact absurd ht Bool.false_ne_true | exact pi_zipD (fun _ _ _ _ _ r => r) (fun _ _ _ _ _ r _ _ e => r.ext e) (fun _ _ _ _ _ r _ _ p _ _ e => (r.ext p.ext).ext e) m h2 h3 h4 ((ih_a h5 m).v0 h5).b ((ih_b h6 m).v0 h6).b
  · cases h
theorem sE_dic0   : EOk (.dic0) := by
  intro c it X S e h m
  unfold chkE at h
  split at h
  · exact .of rfl rfl snd_dic0
  · cases h
theorem sE_dc {own : List Nat} {kk : IE} {vv : IE} {tg : Tg} {itr : IE} (ih_kk : EOk kk) (ih_vv : EOk vv) (ih_itr : EOk itr) : EOk (.dc own kk vv tg itr) := by
  intro c it X S e h m
  unfold chkE at h
  split at h
  · rename_i kx vx t ie k scope pos
    simp only [Bool.and_eq_true, beq_iff_eq, List.all_eq_true] at h
    obtain ⟨⟨⟨⟨⟨⟨⟨h1, h2⟩, h3⟩, h4⟩, h5⟩, h6⟩, h7⟩, h8⟩ := h
    subst h1
    have q := ih_itr h6 m
    refine .of rfl rfl (snd_dc m (q.p ?_ t fun z => ?_) h2 (fun j hj => by simpa using h3 j hj) h4 (fun X' eK m' => by rw [← eK]; exact ((ih_kk h7 m').v0 h7).s) (fun X' eK m' => by rw [← eK]; exact ((ih_vv h8 m').v0 h8).s) (not_set h5))
    · cases itr <;> first | rfl | (unfold chkE at h6; split at h6 <;> simp at h6)
    · by_cases hT : isTupE t = true
      · exact hT
      · rw [if_neg hT] at z
        cases z
  · cases h
theorem sE_dget {o : IE} {a : IE} {b : IE} (ih_o : EOk o) (ih_a : EOk a) (ih_b : EOk b) : EOk (.dget o a b) := by
  intro c it X S e h m
  cases o <;> first | (unfold chkE at h; cases h; done) | skip
  unfold chkE at h
  split at h
  · simp only [Bool.and_eq_true] at h
    obtain ⟨⟨⟨⟨⟨⟨⟨⟨h1, h2⟩, h3⟩, h4⟩, h5⟩, h6⟩, h7⟩, h8⟩, h9⟩ := h
    rw [sEq_eq h1]
    exact .of rfl rfl (snd_dget m h2 h3 h4 h5 h6 h7 ((ih_a h8 m).v0 h8).s ((ih_b h9 m).v0 h9).s)
  · cases h
theorem nox_s {X : Cx} {e : Expr} {rel : Rel} {m : Env → M D} (h : PE X e (tE X.K rel m)) : PE X e (tE X.K rel fun ρ => noExc (m ρ)) := PEimp h fun σ H Q w => by
  obtain ⟨G, ρ, st, g, hw⟩ := w
  exact ⟨G, ρ, st, g, wp_noExc hw⟩
theorem nox_t {X : Cx} {e : Expr} {m : Env → M Bool} (h : PT X e (tT X.K m)) : PT X e (tT X.K fun ρ => noExc (m ρ)) := PTimp h fun σ H Q w => by
  obtain ⟨G, ρ, st, g, hw⟩ := w
  exact ⟨G, ρ, st, g, wp_noExc hw⟩
theorem nox_i {X : Cx} {e t : Expr} {mk : MK} {m : Env → M (List D)} (h : PI X t e (tI X.K mk m)) : PI X t e (tI X.K mk fun ρ => noExc (m ρ)) := PIimp h fun σ H Q w => by
  obtain ⟨G, ρ, st, g, hw⟩ := w
  exact ⟨G, ρ, st, g, wp_noExc hw⟩
theorem sE_nox {a : IE} (ih_a : EOk a) : EOk (.nox a) := by
  intro c it X S e h m
  have h : (notStar e && chkE a 0 S e) = true := h
  rw [Bool.and_eq_true] at h
  have q := (ih_a h.2 m).v0 h.2
  exact .of rfl h.1 ⟨nox_s q.s, nox_s q.b, nox_t q.t, fun tg => nox_i (q.i tg)⟩
theorem sE_fld {a : IE} {f : Nat} (ih_a : EOk a) : EOk (.fld a f) := by
  intro c it X S e h m
  unfold chkE at h
  split at h
  · rw [Bool.and_eq_true] at h
    rw [sEq_eq h.1]
    exact .of rfl rfl (snd_fld m ((ih_a h.2 m).v0 h.2).s)
  · cases h
theorem sE_isx {a : IE} {v : Bool} (ih_a : EOk a) : EOk (.isx a v) := by
  intro c it X S e h m
  unfold chkE at h
  split at h
  · simp only [Bool.and_eq_true] at h
    obtain ⟨⟨⟨⟨⟨h1, h2⟩, h3⟩, h4⟩, h5⟩, h6⟩ := h
    have e1 := sEq_eq h1
    have e2 := sEq_eq h2
    subst e1 e2
    exact .of rfl rfl (snd_isx m h3 h4 h5 ((ih_a h6 m).v0 h6).s)
  · cases h
theorem sE_all : ∀ (n : Nat) (i : IE), sizeOf i ≤ n → EOk i := by
  intro n
  induction n with
  | zero =>
    intro i h
    cases i <;> simp at h
  | succ n ih =>
    intro i h
    cases i with
    | k d => exact sE_k
    | g n => exact sE_g
    | v n => exact sE_v
    | tup es => exact sE_tup (fun j hj => ih j (by have := List.sizeOf_lt_of_mem hj; simp at h; omega))
    | lst es => exact sE_lst (fun j hj => ih j (by have := List.sizeOf_lt_of_mem hj; simp at h; omega))
    | star a => exact sE_star (ih a (by simp at h; omega))
    | call f es => exact sE_call (fun j hj => ih j (by have := List.sizeOf_lt_of_mem hj; simp at h; omega))
    | callk f es ks kes => exact sE_callk (fun j hj => ih j (by have := List.sizeOf_lt_of_mem hj; simp at h; omega)) (fun j hj => ih j (by have := List.sizeOf_lt_of_mem hj; simp at h; omega))
    | b1 op a => exact sE_b1 (ih a (by simp at h; omega))
    | dst n a => exact sE_dst (ih a (by simp at h; omega))
    | mn0 a => exact sE_mn0 (ih a (by simp at h; omega))
    | b2 op a b => exact sE_b2 (ih a (by simp at h; omega)) (ih b (by simp at h; omega))
    | isi a t cs => exact sE_isi (ih a (by simp at h; omega))
    | bin op a b => exact sE_bin (ih a (by simp at h; omega)) (ih b (by simp at h; omega))
    | neg a => exact sE_neg (ih a (by simp at h; omega))
    | cmp op a b => exact sE_cmp (ih a (by simp at h; omega)) (ih b (by simp at h; omega))
    | chain op op1 a b d => exact sE_chain (ih a (by simp at h; omega)) (ih b (by simp at h; omega)) (ih d (by simp at h; omega))
    | and a b => exact sE_and (ih a (by simp at h; omega)) (ih b (by simp at h; omega))
    | or a b => exact sE_or (ih a (by simp at h; omega)) (ih b (by simp at h; omega))
    | not a => exact sE_not (ih a (by simp at h; omega))
    | ite d a b => exact sE_ite (ih d (by simp at h; omega)) (ih a (by simp at h; omega)) (ih b (by simp at h; omega))
    | idx a b => exact sE_idx (ih a (by simp at h; omega)) (ih b (by simp at h; omega))
    | slc a lo hi => exact sE_slc (ih a (by simp at h; omega)) (fun j hj => ih j (by subst hj; simp at h; omega)) (fun j hj => ih j (by subst hj; simp at h; omega))
    | rev a => exact sE_rev (ih a (by simp at h; omega))
    | lc own elt tg itr cond => exact sE_lc (ih elt (by simp at h; omega)) (ih itr (by simp at h; omega)) (fun j hj => ih j (by subst hj; simp at h; omega))
    | lc2 own own1 elt tg itr tg1 it1 cond => exact sE_lc2 (ih elt (by simp at h; omega)) (ih itr (by simp at h; omega)) (ih it1 (by simp at h; omega)) (fun j hj => ih j (by subst hj; simp at h; omega))
    | range a => exact sE_range (ih a (by simp at h; omega))
    | range2 a b => exact sE_range2 (ih a (by simp at h; omega)) (ih b (by simp at h; omega))
    | enum a => exact sE_enum (ih a (by simp at h; omega))
    | zip a b => exact sE_zip (ih a (by simp at h; omega)) (ih b (by simp at h; omega))
    | dic0 => exact sE_dic0
    | dc own kk vv tg itr => exact sE_dc (ih kk (by simp at h; omega)) (ih vv (by simp at h; omega)) (ih itr (by simp at h; omega))
    | dget o a b => exact sE_dget (ih o (by simp at h; omega)) (ih a (by simp at h; omega)) (ih b (by simp at h; omega))
    | nox e0 => exact sE_nox (ih e0 (by simp at h; omega))
    | fld e0 z => exact sE_fld (ih e0 (by simp at h; omega))
    | isx e0 z => exact sE_isx (ih e0 (by simp at h; omega))
theorem sE (i : IE) {c : Wy.Ctx} {it : Nat} {X : Cx} {S : Sc} {e : Expr} (h : chkE i it S e = true) (m : Mt X S c) : Cn X S c i it e := sE_all _ i (Nat.le_refl _) h m
theorem sR (is : List IE) {c : Wy.Ctx} {X : Cx} {S : Sc} {es : List Expr} (h : chkR is S es = true) (m : Mt X S c) : PA X es (tR X.K (row (mds c is))) := sR_of (fun i _ => sE_all _ i (Nat.le_refl _)) h m
theorem sK (is : List IE) {c : Wy.Ctx} {X : Cx} {S : Sc} {kws : List Keyword} (h : chkR is S (kws.map (·.value)) = true) (ha : (kws.map (·.value)).all notStar = true) (m : Mt X S c) : PK X kws (tR X.K (row (mds c is))) := sK_of (fun i _ => sE_all _ i (Nat.le_refl _)) h ha m
theorem sO (o : Option IE) {c : Wy.Ctx} {X : Cx} {S : Sc} {eo : Option Expr} (h : chkO o S eo = true) (m : Mt X S c) : PO X eo (tO X.K (part (mdo c o))) := sO_of (fun i _ => sE_all _ i (Nat.le_refl _)) h m
theorem sC (o : Option IE) {c : Wy.Ctx} {X : Cx} {S : Sc} {ifs : List Expr} (h : chkC o S ifs = true) (m : Mt X S c) : PTs X ifs (tT X.K (cnd (mdo c o))) := sC_of (fun i _ => sE_all _ i (Nat.le_refl _)) h m
end Wy

set_option Elab.async false
set_option linter.all false
set_option maxRecDepth 100000
set_option autoImplicit false
/-! WyS: what stands between statements. -/
namespace Wy
open PySem PySem.Spec PyProof.Rows L2
/-- since the entry (G0, H0): what was there stays; a list of our own is younger -/
structure SG (K : PySem.W.Frag) (G0 : Gh) (H0 : Hp) (G : Gh) (σ : L2.St) (H : Hp) (ρ : Env) (st : Wy.St) : Prop where
  g : Good K G σ H ρ st
  pre : G0.C <+: G.C
  keep : ∀ a o, H0 a = some o → a ∉ G0.C → H a = some o
  new : ∀ a ∈ G.C, a ∈ G0.C ∨ H0 a = none
  own1 : ∀ a, G0.O a → G.O a
  own2 : ∀ a, G.O a → G0.O a ∨ H0 a = none
  fr : ∀ (i : Nat) (d : D), ρ[i]? = some (some (d, true)) → ∃ a, σ[i]? = some (some (.ref a)) ∧ ¬ G0.O a ∧ H0 a = none
  ds : ∀ (i j : Nat) (d e : D) (a : Addr), ρ[i]? = some (some (d, true)) → ρ[j]? = some (some (e, true)) → σ[i]? = some (some (.ref a)) → σ[j]? = some (some (.ref a)) → i = j
section
variable {K : PySem.W.Frag} {G0 G : Gh} {H0 H H' : Hp} {σ σ' : L2.St} {ρ ρ' : Env} {st st' : Wy.St} {C' : List Addr}
theorem SG.presG (s : SG K G0 H0 G σ H ρ st) (p : Pres G C' H H') (q : StRep (G.at C') H' st') : SG K G0 H0 (G.at C') σ H' ρ st' where
  g := s.g.pres p q
  pre := s.pre.trans p.pre
  keep := fun a o h n => by
    refine p.keep a o (s.keep a o h n) fun hc => ?_
    rcases s.new a hc with z | z
    · exact n z
    · rw [h] at z
      cases z
  new := fun a ha => by
    rcases p.new a ha with z | z
    · exact s.new a z
    · by_cases hc : a ∈ G0.C
      · exact .inl hc
      · right
        cases e : H0 a with
        | none => rfl
        | some o =>
          have := s.keep a o e hc
          rw [z] at this
          cases this
  own1 := s.own1
  own2 := s.own2
  fr := s.fr
  ds := s.ds
/-- what came up now was not there at the entry -/
theorem SG.none0 (s : SG K G0 H0 G σ H ρ st) {a : Addr} (h : H a = none) : H0 a = none := by
  cases e : H0 a with
  | none => rfl
  | some o =>
    by_cases hc : a ∈ G0.C
    · obtain ⟨o', z⟩ := s.g.sr.there a (s.pre.subset hc)
      rw [h] at z
      cases z
    · have := s.keep a o e hc
      rw [h] at this
      cases this
theorem setMany_own {i : Nat} {d : D} : ∀ {is : List Nat} {ds : List D} {ρ ρ' : Env}, setMany ρ is ds = some ρ' → ρ'[i]? = some (some (d, true)) → i ∉ is ∧ ρ[i]? = some (some (d, true))
  | [], [], ρ, ρ', e, h => by
    cases e
    exact ⟨by simp, h⟩
  | [], _ :: _, _, _, e, _ => by cases e
  | _ :: _, [], _, _, e, _ => by cases e
  | j :: is, x :: ds, ρ, ρ', e, h => by
    obtain ⟨h1, h2⟩ := setMany_own (is := is) (ds := ds) e h
    unfold setS at h2
    by_cases q : j = i
    · subst q
      by_cases hl : j < ρ.length
      · rw [List.getElem?_set_self hl] at h2
        cases h2
      · rw [List.getElem?_eq_none (by simpa using hl)] at h2
        cases h2
    · rw [List.getElem?_set_ne q] at h2
      exact ⟨by simp only [List.mem_cons, not_or]; exact ⟨fun z => q z.symm, h1⟩, h2⟩
theorem setTg_own {i : Nat} {d d' : D} {tg : Tg} (e : setTg ρ tg d = some ρ') (h : ρ'[i]? = some (some (d', true))) : i ∉ tgIs tg ∧ ρ[i]? = some (some (d', true)) := by
  cases tg with
  | n j => exact setMany_own (is := [j]) (ds := [d]) e h
  | t is =>
    have e : (match tgOf d with | some ds => setMany ρ is ds | none => none) = some ρ' := e
    split at e
    · exact setMany_own e h
    · cases e
theorem SG.tg {tg : Tg} {d : D} (s : SG K G0 H0 G σ H ρ st) (g' : Good K G σ' H ρ' st) (df : Diff σ σ' (tgIs tg)) (e : setTg ρ tg d = some ρ') : SG K G0 H0 G σ' H ρ' st where
  g := g'
  pre := s.pre
  keep := s.keep
  new := s.new
  own1 := s.own1
  own2 := s.own2
  fr := fun i d' h => by
    obtain ⟨h1, h2⟩ := setTg_own e h
    obtain ⟨a, k1, k2⟩ := s.fr i d' h2
    exact ⟨a, by rw [df.2 i h1]; exact k1, k2⟩
  ds := fun i j d1 e1 a hi hj ki kj => by
    obtain ⟨h1, h2⟩ := setTg_own e hi
    obtain ⟨h3, h4⟩ := setTg_own e hj
    rw [df.2 i h1] at ki
    rw [df.2 j h3] at kj
    exact s.ds i j d1 e1 a h2 h4 ki kj
/-- a value that has come: new and of our own (o), or one that may be kept -/
theorem SG.take {H1 : Hp} {C1 : List Addr} {f o : Bool} {v : V} {d : D} {st1 : Wy.St} (s : SG K G0 H0 G σ H ρ st) (p : Pres G C1 H H1) (q : StRep (G.at C1) H1 st1) (r : FR K f (G.at C1) H H1 v d) (ho : o = true → f = true ∧ mutD d = true) :
    ∃ G', SG K G0 H0 G' σ H1 ρ st1 ∧ Ext G H G' H1 ∧ (if o = true then OwnRep K G' H1 v d else SRep K G' H1 v d) ∧ (o = true → ∃ a, v = .ref a ∧ H a = none ∧ ¬ G0.O a) := by
  cases o with
  | false => exact ⟨G.at C1, s.presG p q, p.ext, r.1, fun z => nomatch z⟩
  | true =>
    obtain ⟨hf, hm⟩ := ho rfl
    obtain ⟨a, rfl, h0, h1, h2, h3⟩ := r.2 hf hm
    have e : Ext G H ((G.at C1).plus a) H1 := ext_plus p h0
    have n0 := s.none0 h0
    have nG0 : ¬ G0.O a := fun z => h1 (s.own1 a z)
    have s1 := s.presG p q
    refine ⟨(G.at C1).plus a, ⟨⟨s.g.er.ext e, q.sw rfl, fun b hb => ?_⟩, s1.pre, s1.keep, s1.new, fun b hb => .inl (s1.own1 b hb), fun b hb => ?_, s1.fr, s1.ds⟩, e, ?_, fun _ => ⟨a, rfl, h0, nG0⟩⟩
    · rcases hb with hb | hb
      · exact s1.g.hid b hb
      · subst hb
        exact ⟨h2, h3.there⟩
    · rcases hb with hb | hb
      · exact s1.own2 b hb
      · subst hb
        exact .inr n0
    · rw [if_pos rfl]
      exact ⟨a, rfl, .inr rfl, h2, h3⟩
/-- .. goes into a slot -/
theorem SG.put {i : Nat} {v : V} {d : D} {o : Bool} (s : SG K G0 H0 G σ H ρ st) (hi : i < σ.length) (r : if o = true then OwnRep K G H v d else SRep K G H v d)
    (hn : o = true → ∃ a, v = .ref a ∧ ¬ G0.O a ∧ H0 a = none ∧ ∀ (j : Nat) (e : D), j ≠ i → ρ[j]? = some (some (e, true)) → σ[j]? ≠ some (some (.ref a))) : SG K G0 H0 G (σ.set i (some v)) H (setS ρ i d o) st where
  g := ⟨s.g.er.set hi r, s.g.sr, s.g.hid⟩
  pre := s.pre
  keep := s.keep
  new := s.new
  own1 := s.own1
  own2 := s.own2
  fr := fun j d' h => by
    unfold setS at h
    by_cases e : i = j
    · subst e
      by_cases hl : i < ρ.length
      · rw [List.getElem?_set_self hl] at h
        cases h
        obtain ⟨a, rfl, h1, h2, _⟩ := hn rfl
        exact ⟨a, List.getElem?_set_self hi, h1, h2⟩
      · rw [List.getElem?_eq_none (by simpa using hl)] at h
        cases h
    · rw [List.getElem?_set_ne e] at h
      obtain ⟨a, h1, h2⟩ := s.fr j d' h
      exact ⟨a, by rw [List.getElem?_set_ne e]; exact h1, h2⟩
  ds := fun j k d1 e1 a hj hk kj kk => by
    have key : ∀ (j : Nat) (d1 : D), (setS ρ i d o)[j]? = some (some (d1, true)) → (j = i ∧ o = true) ∨ (j ≠ i ∧ ρ[j]? = some (some (d1, true))) := fun j d1 h => by
      unfold setS at h
      by_cases e : i = j
      · subst e
        by_cases hl : i < ρ.length
        · rw [List.getElem?_set_self hl] at h
          cases h
          exact .inl ⟨rfl, rfl⟩
        · rw [List.getElem?_eq_none (by simpa using hl)] at h
          cases h
      · rw [List.getElem?_set_ne e] at h
        exact .inr ⟨fun z => e z.symm, h⟩
    rcases key j d1 hj with ⟨e1', o1⟩ | ⟨e1', o1⟩ <;> rcases key k e1 hk with ⟨e2', o2⟩ | ⟨e2', o2⟩
    · rw [e1', e2']
    · exfalso
      subst e1'
      obtain ⟨b, rfl, _, _, hb⟩ := hn o1
      rw [List.getElem?_set_self hi] at kj
      cases kj
      rw [List.getElem?_set_ne (Ne.symm e2')] at kk
      exact hb k _ e2' o2 kk
    · exfalso
      subst e2'
      obtain ⟨b, rfl, _, _, hb⟩ := hn o2
      rw [List.getElem?_set_self hi] at kk
      cases kk
      rw [List.getElem?_set_ne (Ne.symm e1')] at kj
      exact hb j _ e1' o1 kj
    · rw [List.getElem?_set_ne (Ne.symm e1')] at kj
      rw [List.getElem?_set_ne (Ne.symm e2')] at kk
      exact s.ds j k d1 e1 a o1 o2 kj kk
/-- a slot of our own: where it stands -/
theorem SG.at_ {i : Nat} {d : D} (s : SG K G0 H0 G σ H ρ st) (h : ρ[i]? = some (some (d, true))) : ∃ a, σ[i]? = some (some (.ref a)) ∧ G.O a ∧ a ∉ G.C ∧ Own1 K G H a d ∧ ¬ G0.O a ∧ H0 a = none := by
  obtain ⟨a, h1, h2, h3⟩ := s.fr i d h
  obtain ⟨v, k1, k2⟩ := s.g.er i d true h
  rw [h1] at k1
  cases k1
  rw [if_pos rfl] at k2
  obtain ⟨b, e, k3, k4, k5⟩ := k2
  cases e
  exact ⟨a, h1, k3, k4, k5, h2, h3⟩
theorem hid_upd {a : Addr} {o : HO} (h : G.O a) : G.h (upd H a o) = G.h H := by
  funext b
  unfold Gh.h
  by_cases e : b = a
  · rw [if_pos (.inl (by rw [e]; exact h)), if_pos (.inl (by rw [e]; exact h))]
  · split
    · rfl
    · exact upd_ne e
theorem extP_upd {a : Addr} {o : HO} (h : G.O a) : ExtP G H G (upd H a o) := ⟨List.prefix_refl _, fun b u hb h1 h2 => ⟨by rw [upd_ne fun e => h1 (by rw [e]; exact h)]; exact hb, h1, h2⟩⟩
/-- a list (a dict) of our own is written -/
theorem SG.upd {i : Nat} {d d' : D} {a : Addr} {o : HO} (s : SG K G0 H0 G σ H ρ st) (h : ρ[i]? = some (some (d, true))) (ha : σ[i]? = some (some (.ref a))) (r : Own1 K G (L2.upd H a o) a d') : SG K G0 H0 G σ (L2.upd H a o) (setS ρ i d' true) st := by
  obtain ⟨b, h1, h2, h3, h4, h5, h6⟩ := s.at_ h
  rw [ha] at h1
  cases h1
  have key : ∀ (j : Nat) (d1 : D) (o1 : Bool), (setS ρ i d' true)[j]? = some (some (d1, o1)) → (j = i ∧ d1 = d' ∧ o1 = true) ∨ (j ≠ i ∧ ρ[j]? = some (some (d1, o1))) := fun j d1 o1 h => by
    unfold setS at h
    by_cases e : i = j
    · subst e
      by_cases hl : i < ρ.length
      · rw [List.getElem?_set_self hl] at h
        cases h
        exact .inl ⟨rfl, rfl, rfl⟩
      · rw [List.getElem?_eq_none (by simpa using hl)] at h
        cases h
    · rw [List.getElem?_set_ne e] at h
      exact .inr ⟨fun z => e z.symm, h⟩
  refine ⟨⟨fun j d1 o1 hj => ?_, ⟨s.g.sr.len, s.g.sr.nd, fun g b hb => ?_⟩, fun b hb => ?_⟩, s.pre, fun b u hb hn => ?_, s.new, s.own1, s.own2, fun j d1 hj => ?_, fun j k d1 e1 b hj hk => ?_⟩
  · rcases key j d1 o1 hj with ⟨rfl, rfl, rfl⟩ | ⟨hne, hj⟩
    · exact ⟨.ref a, ha, by rw [if_pos rfl]; exact ⟨a, rfl, h2, h3, r⟩⟩
    · obtain ⟨v, k1, k2⟩ := s.g.er j d1 o1 hj
      refine ⟨v, k1, ?_⟩
      cases o1 with
      | false =>
        rw [if_neg Bool.false_ne_true] at k2 ⊢
        show Rep K G.C (G.h (L2.upd H a o)) v d1
        rw [hid_upd h2]
        exact k2
      | true =>
        rw [if_pos rfl] at k2 ⊢
        obtain ⟨b, rfl, q1, q2, q3⟩ := k2
        have hba : b ≠ a := fun e => hne (s.ds j i d1 d a hj h (by rw [← e]; exact k1) ha)
        refine ⟨b, rfl, q1, q2, ?_⟩
        rcases q3 with ⟨vs, ds, z1, z2, z3⟩ | ⟨kvs, vs, z1, z2, z3⟩
        · exact .inl ⟨vs, ds, z1, by rw [upd_ne hba]; exact z2, by rw [hid_upd h2]; exact z3⟩
        · exact .inr ⟨kvs, vs, z1, by rw [upd_ne hba]; exact z2, by rw [hid_upd h2]; exact z3⟩
  · obtain ⟨ns, k1, k2⟩ := s.g.sr.at_ g b hb
    exact ⟨ns, k1, by rw [upd_ne fun e => h3 (by rw [← e]; exact List.mem_of_getElem? hb)]; exact k2⟩
  · obtain ⟨k1, u, k2⟩ := s.g.hid b hb
    refine ⟨k1, ?_⟩
    by_cases e : b = a
    · subst e
      exact ⟨o, upd_same⟩
    · exact ⟨u, by rw [upd_ne e]; exact k2⟩
  · rw [upd_ne (ne_of_none hb h6)]
    exact s.keep b u hb hn
  · rcases key j d1 true hj with ⟨rfl, rfl, _⟩ | ⟨_, hj⟩
    · exact ⟨a, ha, h5, h6⟩
    · exact s.fr j d1 hj
  · have hj' : ∃ x, ρ[j]? = some (some (x, true)) := by
      rcases key j d1 true hj with ⟨rfl, _, _⟩ | ⟨_, hj⟩
      · exact ⟨_, h⟩
      · exact ⟨_, hj⟩
    have hk' : ∃ x, ρ[k]? = some (some (x, true)) := by
      rcases key k e1 true hk with ⟨rfl, _, _⟩ | ⟨_, hk⟩
      · exact ⟨_, h⟩
      · exact ⟨_, hk⟩
    obtain ⟨x, hx⟩ := hj'
    obtain ⟨y, hy⟩ := hk'
    exact s.ds j k x y b hx hy
/-- a list of our own is given away: from now on nobody writes it -/
theorem SG.frz {i : Nat} {ρ' : Env} (s : SG K G0 H0 G σ H ρ st) (e : frzS ρ i = some ρ') : ∃ G', SG K G0 H0 G' σ H ρ' st ∧ ExtP G H G' H := by
  unfold frzS at e
  cases hi : ρ[i]? with
  | none =>
    rw [hi] at e
    cases e
  | some p =>
    rw [hi] at e
    cases p with
    | none => cases e
    | some p =>
      obtain ⟨d, o⟩ := p
      have e : some (setS ρ i d false) = some ρ' := e
      cases e
      have key : ∀ (j : Nat) (d1 : D) (o1 : Bool), (setS ρ i d false)[j]? = some (some (d1, o1)) → (j = i ∧ d1 = d ∧ o1 = false) ∨ (j ≠ i ∧ ρ[j]? = some (some (d1, o1))) := fun j d1 o1 h => by
        unfold setS at h
        by_cases e : i = j
        · subst e
          by_cases hl : i < ρ.length
          · rw [List.getElem?_set_self hl] at h
            cases h
            exact .inl ⟨rfl, rfl, rfl⟩
          · rw [List.getElem?_eq_none (by simpa using hl)] at h
            cases h
        · rw [List.getElem?_set_ne e] at h
          exact .inr ⟨fun z => e z.symm, h⟩
      have fr' : ∀ (j : Nat) (d1 : D), (setS ρ i d false)[j]? = some (some (d1, true)) → j ≠ i ∧ ρ[j]? = some (some (d1, true)) := fun j d1 h => by
        rcases key j d1 true h with ⟨_, _, z⟩ | z
        · cases z
        · exact z
      cases o with
      | false =>
        refine ⟨G, ⟨⟨fun j d1 o1 hj => ?_, s.g.sr, s.g.hid⟩, s.pre, s.keep, s.new, s.own1, s.own2, fun j d1 hj => s.fr j d1 (fr' j d1 hj).2, fun j k d1 e1 b hj hk => s.ds j k d1 e1 b (fr' j d1 hj).2 (fr' k e1 hk).2⟩, ExtP.refl G H⟩
        rcases key j d1 o1 hj with ⟨rfl, rfl, rfl⟩ | ⟨_, hj⟩
        · exact s.g.er j d1 false hi
        · exact s.g.er j d1 o1 hj
      | true =>
        obtain ⟨a, h1, h2, h3, h4, h5, h6⟩ := s.at_ hi
        have sm : Same (G.h H) ((⟨fun b => G.O b ∧ b ≠ a, G.C⟩ : Gh).h H) := fun b u hb => by
          obtain ⟨k1, k2, k3⟩ := Gh.h_some.mp hb
          exact Gh.h_some.mpr ⟨k1, fun z => k2 z.1, k3⟩
        refine ⟨⟨fun b => G.O b ∧ b ≠ a, G.C⟩, ⟨⟨fun j d1 o1 hj => ?_, s.g.sr.sw rfl, fun b hb => s.g.hid b hb.1⟩, s.pre, s.keep, s.new, fun b hb => ⟨s.own1 b hb, fun z => h5 (by rw [← z]; exact hb)⟩, fun b hb => s.own2 b hb.1, fun j d1 hj => s.fr j d1 (fr' j d1 hj).2, fun j k d1 e1 b hj hk => s.ds j k d1 e1 b (fr' j d1 hj).2 (fr' k e1 hk).2⟩,
          ⟨List.prefix_refl _, fun b u hb k1 k2 => ⟨hb, fun z => k1 z.1, k2⟩⟩⟩
        rcases key j d1 o1 hj with ⟨rfl, rfl, rfl⟩ | ⟨hne, hj⟩
        · refine ⟨.ref a, h1, ?_⟩
          rw [if_neg Bool.false_ne_true]
          have hs : ∀ {u : HO}, H a = some u → ((⟨fun b => G.O b ∧ b ≠ a, G.C⟩ : Gh).h H) a = some u := fun hu => Gh.h_some.mpr ⟨hu, fun z => z.2 rfl, h3⟩
          rcases h4 with ⟨vs, ds, rfl, z2, z3⟩ | ⟨kvs, vs, rfl, z2, z3⟩
          · exact .lst (hs z2) (z3.mono sm (List.prefix_refl _))
          · exact .dic (hs z2) (z3.mono sm (List.prefix_refl _))
        · obtain ⟨v, k1, k2⟩ := s.g.er j d1 o1 hj
          refine ⟨v, k1, ?_⟩
          cases o1 with
          | false =>
            rw [if_neg Bool.false_ne_true] at k2 ⊢
            exact k2.mono sm (List.prefix_refl _)
          | true =>
            rw [if_pos rfl] at k2 ⊢
            obtain ⟨b, rfl, q1, q2, q3⟩ := k2
            have hba : b ≠ a := fun e => hne (s.ds j i d1 d a hj hi (by rw [← e]; exact k1) h1)
            refine ⟨b, rfl, ⟨q1, hba⟩, q2, ?_⟩
            rcases q3 with ⟨vs, ds, z1, z2, z3⟩ | ⟨kvs, vs, z1, z2, z3⟩
            · exact .inl ⟨vs, ds, z1, z2, z3.mono sm (List.prefix_refl _)⟩
            · exact .inr ⟨kvs, vs, z1, z2, z3.mono sm (List.prefix_refl _)⟩
end
end Wy

set_option Elab.async false
set_option linter.all false
set_option maxRecDepth 100000
set_option autoImplicit false
/-! WyT: one rule a statement. -/
namespace Wy
open PySem PySem.Spec PyProof.Rows L2
/-- behind a statement -/
def sPost (K : PySem.W.Frag) (n : Bool) (W : WX) (G0 : Gh) (H0 : Hp) (D : Ends) (G : Gh) (H : Hp) : Out → Wy.St → Prop
  | .nx ρ', st' => ∀ σ' H' G', SG K G0 H0 G' σ' H' ρ' st' → ExtP G H G' H' → D.nx σ' H'
  | .rt d, st' => ∀ v H' C', Pres G0 C' H0 H' → StRep (G0.at C') H' st' → FR K n (G0.at C') H0 H' v d → D.rt v H'
  | .er ρ' k ys, st' => ∀ σ' H' G' cls d, SG K G0 H0 G' σ' H' ρ' st' → ExtP G H G' H' → ExcR K G' H' cls d k ys → W cls d σ' H'
def tS (K : PySem.W.Frag) (n : Bool) (W : WX) (G0 : Gh) (H0 : Hp) (m : Env → M Out) : TS := fun D σ H => ∃ G ρ st, SG K G0 H0 G σ H ρ st ∧ wp (m ρ) st (sPost K n W G0 H0 D G H)
theorem sPost.shift {K : PySem.W.Frag} {n : Bool} {W : WX} {G0 G G' : Gh} {H0 H H' : Hp} {D : Ends} {o : Out} {st : Wy.St} (e : ExtP G H G' H') (k : sPost K n W G0 H0 D G H o st) : sPost K n W G0 H0 D G' H' o st := by
  cases o with
  | nx ρ => exact fun σ2 H2 G2 s2 e2 => k σ2 H2 G2 s2 (e.trans e2)
  | rt d => exact k
  | er ρ j ys => exact fun σ2 H2 G2 cls d s2 e2 => k σ2 H2 G2 cls d s2 (e.trans e2)
/-- a loop's body, where the end and `continue` come to the same -/
def tL (K : PySem.W.Frag) (n : Bool) (W : WX) (G0 : Gh) (H0 : Hp) (m : Env → M Out) : TS := fun D σ H => tS K n W G0 H0 m D σ H ∧ ∀ σ H, D.nx σ H → D.ct σ H
/-- what a body's context must have -/
structure MtS (X : Cx) (S : Sc) (c : Wy.Ctx) : Prop extends Mt X S c where
  kd : S.sc.kind = .function
  rm : Room 0 X.A
  hst : X.stack = X.env :: X.outer
  hfr : X.env.frame = some X.env.locals
  hex : X.ex = []
  po : PassesOwn (model X.prog X.w) X.A X.env X.xe
section
variable {X : Cx} {c : Wy.Ctx} {S : Sc} {G0 : Gh} {H0 : Hp} {W : WX}
theorem PSimp {st : Stmt} {t t' : TS} (h : PS X st t) (k : ∀ D σ H, t' D σ H → t D σ H) : PS X st t' := ⟨fun pins s σ H D I w => h.run pins s σ H D I (k D σ H w)⟩
theorem PSsimp {st : List Stmt} {t t' : TS} (h : PSs X st t) (k : ∀ D σ H, t' D σ H → t D σ H) : PSs X st t' := ⟨fun pins s σ H D I w => h.run pins s σ H D I (k D σ H w)⟩
theorem MtS.bk (m : MtS X S c) : X.env.blockKind = .function := by
  unfold PySem.Env.blockKind
  rw [m.sc, m.kd]
  rfl
/-! ### rows of statements -/
theorem ss_nil : PSs X [] (tS X.K S.me W G0 H0 (xb c [])) := PSsimp pss_nil fun D σ H w => by
  obtain ⟨G, ρ, st, s, hw⟩ := w
  exact wp_pure hw σ H G s (ExtP.refl G H)
theorem ss_cons {st : Stmt} {rest : List Stmt} {i : IS} {is : List IS} (h1 : PS X st (tS X.K S.me W G0 H0 (xs c i))) (h2 : PSs X rest (tS X.K S.me W G0 H0 (xb c is))) : PSs X (st :: rest) (tS X.K S.me W G0 H0 (xb c (i :: is))) :=
  PSsimp (pss_cons h1 h2) fun D σ H w => by
    obtain ⟨G, ρ, st, s, hw⟩ := w
    unfold xb at hw
    refine ⟨G, ρ, st, s, wp_mono (wp_bind hw) fun o st' ho => ?_⟩
    cases o with
    | nx ρ' => exact fun σ' H' G' s' e => ⟨G', ρ', st', s', wp_mono ho fun o' st'' k => k.shift e⟩
    | rt d => exact wp_pure ho
    | er ρ' k ys => exact wp_pure ho
theorem sl_nil : PSs X [] (tL X.K S.me W G0 H0 (xb c [])) := PSsimp ss_nil fun D σ H w => w.1
theorem sl_cons {st : Stmt} {rest : List Stmt} {i : IS} {is : List IS} (h1 : PS X st (tS X.K S.me W G0 H0 (xs c i))) (h2 : PSs X rest (tL X.K S.me W G0 H0 (xb c is))) : PSs X (st :: rest) (tL X.K S.me W G0 H0 (xb c (i :: is))) :=
  PSsimp (pss_cons h1 h2) fun D σ H w => by
    obtain ⟨⟨G, ρ, st, s, hw⟩, hct⟩ := w
    unfold xb at hw
    refine ⟨G, ρ, st, s, wp_mono (wp_bind hw) fun o st' ho => ?_⟩
    cases o with
    | nx ρ' => exact fun σ' H' G' s' e => ⟨⟨G', ρ', st', s', wp_mono ho fun o' st'' k => k.shift e⟩, hct⟩
    | rt d => exact wp_pure ho
    | er ρ' k ys => exact wp_pure ho
/-- if e: continue -/
theorem sl_cont {e : Expr} {r : List Stmt} {p pos : Pos} {ie : IE} {ib : List IS} (he : PT X e (tT X.K (md c ie).t)) (hb : PSs X r (tL X.K S.me W G0 H0 (xb c ib))) : PSs X (.If e [.Continue p] [] pos :: r) (tL X.K S.me W G0 H0 (xb c [.ife ie [] ib])) :=
  PSsimp (pss_cons (ps_if he (pss_cons ps_continue pss_nil) pss_nil) hb) fun D σ H w => by
    obtain ⟨⟨G, ρ, st, sg, hw⟩, hct⟩ := w
    have hw : wp (M.bind (M.bind ((md c ie).t ρ) fun t => if t then xb c [] ρ else xb c ib ρ) fun o => match o with | .nx ρ' => xb c [] ρ' | .rt d => M.pure (.rt d) | .er ρ' k ys => M.pure (.er ρ' k ys)) st (sPost X.K S.me W G0 H0 D G H) := hw
    refine goT sg.g (wp_bind hw) fun k st1 H1 C1 p1 g1 h1 => ?_
    have s1 := sg.presG p1 g1.sr
    cases k with
    | true => exact hct _ _ (wp_pure (wp_pure h1) σ H1 (G.at C1) s1 p1.ext.p)
    | false =>
      refine ⟨⟨G.at C1, ρ, st1, s1, wp_mono h1 fun o st' ho => ?_⟩, hct⟩
      cases o with
      | nx ρ' => exact (wp_pure ho).shift p1.ext.p
      | rt d => exact (wp_pure ho).shift p1.ext.p
      | er ρ' k ys => exact (wp_pure ho).shift p1.ext.p
theorem sl_frz {rest : List Stmt} {i : Nat} {is : List IS} (h2 : PSs X rest (tL X.K S.me W G0 H0 (xb c is))) : PSs X rest (tL X.K S.me W G0 H0 (xb c (.frz i :: is))) :=
  PSsimp h2 fun D σ H w => by
    obtain ⟨⟨G, ρ, st, s, hw⟩, hct⟩ := w
    unfold xb xs at hw
    have hw := wp_bind (wp_bind hw)
    obtain ⟨ρ', e, h⟩ := wp_of hw
    obtain ⟨G', s', e'⟩ := s.frz e
    exact ⟨⟨G', ρ', st, s', wp_mono (wp_pure h) fun o st' k => k.shift e'⟩, hct⟩
theorem ss_frz {rest : List Stmt} {i : Nat} {is : List IS} (h2 : PSs X rest (tS X.K S.me W G0 H0 (xb c is))) : PSs X rest (tS X.K S.me W G0 H0 (xb c (.frz i :: is))) :=
  PSsimp h2 fun D σ H w => by
    obtain ⟨G, ρ, st, s, hw⟩ := w
    unfold xb xs at hw
    have hw := wp_bind (wp_bind hw)
    obtain ⟨ρ', e, h⟩ := wp_of hw
    obtain ⟨G', s', e'⟩ := s.frz e
    exact ⟨G', ρ', st, s', wp_mono (wp_pure h) fun o st' k => k.shift e'⟩
theorem ss_raises {rest : List Stmt} {is : List IS} (h2 : PSs X rest (tS X.K S.me W G0 H0 (xb c is))) : PSs X rest (tS X.K S.me W G0 H0 (xb c (.raises :: is))) :=
  PSsimp h2 fun D σ H w => by
    obtain ⟨G, ρ, st, s, hw⟩ := w
    unfold xb xs at hw
    exact ⟨G, ρ, st, s, wp_pure (wp_bind hw)⟩
theorem s_never {st : Stmt} : PS X st (tS X.K S.me W G0 H0 (xs c .never)) := ⟨fun pins s σ H D I w => by
  obtain ⟨G, ρ, st, s, hw⟩ := w
  exact hw.elim⟩
theorem s_pass {pos : Pos} : PS X (.Pass pos) (tS X.K S.me W G0 H0 (xs c .pass)) := PSimp ps_pass fun D σ H w => by
  obtain ⟨G, ρ, st, s, hw⟩ := w
  exact wp_pure hw σ H G s (ExtP.refl G H)

/-! ### values into names -/
def notComp : Expr → Bool
  | .ListComp _ _ _ _ => false
  | .SetComp _ _ _ _ => false
  | .DictComp _ _ _ _ _ => false
  | _ => true
theorem no_swap {e : Expr} {t : Option Expr} {l : Nat} {env : PySem.Env} (h : notComp e = true) : swapsWith e t l env = pure false := by
  cases e <;> first | rfl | exact absurd h Bool.false_ne_true
theorem set_tail {f n : Bool} {K : PySem.W.Frag} {tg : Tg} {me : Env → M D} {D : Ends} {σ : L2.St} {H : Hp} (w : tS K n W G0 H0 (fun ρ => M.bind (me ρ) fun d => nxt (M.of (setTg ρ tg d))) D σ H) : tE K (FR K f) me σ H fun x H1 => gD K tg x σ H1 D.nx := by
  obtain ⟨G, ρ, st, s, hw⟩ := w
  refine go s.g hw fun x st1 v H1 C1 p1 g1 r1 h1 => ?_
  obtain ⟨ρ', e, h2⟩ := wp_of (wp_bind h1)
  exact ⟨G.at C1, ρ, st1, x, ρ', g1, r1.1, e, fun σ' g' df => wp_pure h2 σ' H1 (G.at C1) ((s.presG p1 g1.sr).tg g' df e) p1.ext.p⟩
theorem assignEach1 {t : Expr} {env : PySem.Env} {S : Sc} {tg : Tg} (h : tgB S tg t = true) : (assignEach [t] env).map (·.2) = [assign t env] := by
  cases tg <;> cases t <;> first | rfl | exact absurd h Bool.false_ne_true
theorem swapped_none {t e : Expr} {env : PySem.Env} (h : (match t, e with | .Tuple _ _ _, .Tuple _ _ _ => false | .List _ _, _ => false | _, _ => true) = true) : swappedStores [t] e env = pure none := by
  cases t <;> first | rfl | (cases e <;> first | rfl | exact absurd h Bool.false_ne_true)
def plainPair (t e : Expr) : Bool := match t, e with
  | .Tuple _ _ _, .Tuple _ _ _ => false
  | .List _ _, _ => false
  | _, _ => true
theorem s_set (m : MtS X S c) {t e : Expr} {pos : Pos} {tg : Tg} {ie : IE} {f : Bool} (ht : tgB S tg t = true) (hc : notComp e = true) (hp : plainPair t e = true) (h : PE X e (tE X.K (FR X.K f) (md c ie).s)) : PS X (.Assign [t] e pos) (tS X.K S.me W G0 H0 (xs c (.set tg ie))) :=
  PSimp (ps_asg h (pgD m.toMt ht) (no_swap hc) (swapped_none hp) (assignEach1 ht)) fun D σ H w => set_tail w
/-- name = [..] -/
def swB (S : Sc) (y : Str) (py pos : Pos) (scope : Scope) : Bool := (lk S.sc.names y == some .local) && (py.line == pos.line) && !(scope.names.any fun q => q.1 == y && (q.2 == .local || q.2 == .cell))
theorem swaps_lc (m : MtS X S c) {elt : Expr} {gens : List Comprehension} {scope : Scope} {pos py : Pos} {y : Str} {l : Nat} : swapsWith (.ListComp elt gens scope pos) (some (.Name y py)) l X.env = pure (swB S y py pos scope) := by
  show pure _ = _
  congr 1
  unfold swB
  rw [m.bk]
  unfold PySem.Env.kindOf
  rw [m.sc, lk_eq]
  rfl
theorem s_setLc (m : MtS X S c) {y : Str} {py pos spos : Pos} {i : Nat} {elt t iter : Expr} {ifs : List Expr} {scope : Scope} {own : List Nat} {tgD : Tg} {ielt iit : IE} {icond : Option IE} {fe : Bool} (hy : atB S i y = true) (hl : locB S y = true)
    (hi : PI X t iter (tI X.K Ext (md c iit).i)) (ok : blkB S scope own = true) (hsub : ∀ j ∈ tgIs tgD, j ∈ own) (htg : tgB (S.blk scope) tgD t = true) (ht : ∀ X', X'.K = X.K → Mt X' (S.blk scope) c → PTs X' ifs (tT X.K (cnd (mdo c icond)))) (he : ∀ X', X'.K = X.K → Mt X' (S.blk scope) c → PE X' elt (tE X.K (FR X.K fe) (md c ielt).s)) (hs : ∀ x, foldedSetIterable iter X.env x = pure x) :
    PS X (.Assign [.Name y py] (.ListComp elt [⟨t, iter, ifs, 0⟩] scope pos) spos) (tS X.K S.me W G0 H0 (xs c (.set (.n i) (.lc own ielt tgD iit icond)))) := by
  have m0 := m.toMt
  obtain ⟨o1, o2⟩ := blk_ok m0 ok
  cases hb : swB S y py pos scope with
  | false =>
    have hsw : swapsWith (.ListComp elt [⟨t, iter, ifs, 0⟩] scope pos) (some (.Name y py)) spos.line X.env = pure false := by rw [swaps_lc m, hb]
    have hS := (snd_lc (f := true) m0 hi ok hsub htg ht he hs (pos := pos)).s
    exact PSimp (ps_asg hS (pg_n m0 hy hl) hsw rfl rfl) fun D σ H w => set_tail w
  | true =>
    have hsw : swapsWith (.ListComp elt [⟨t, iter, ifs, 0⟩] scope pos) (some (.Name y py)) spos.line X.env = pure true := by rw [swaps_lc m, hb]
    have hyl : X.env.scope.names.lookup y = some .local := by
      unfold swB at hb
      simp only [Bool.and_eq_true, beq_iff_eq] at hb
      rw [m.sc, lk_eq]
      exact hb.1.1
    have P := ps_setLc (g := gD X.K tgD) (tt := tT X.K (cnd (mdo c icond))) (te := tE X.K (FR X.K fe) (md c ielt).s) m.calm m.ndX (m.at_ hy) hyl hsw hi o1 (fun s H C cl fp => pgD (m0.blk s H scope C cl fp) htg) (fun s H C cl fp => ht _ rfl (m0.blk s H scope C cl fp)) (fun s H C cl fp => he _ rfl (m0.blk s H scope C cl fp)) hs
    refine ⟨fun pins s σ H D I w => P.run pins s σ H D I ?_⟩
    have hlt := m0.lt hy I
    rw [o2]
    have w2 : tE X.K (FR X.K true) (md c (.lc own ielt tgD iit icond)).s σ H fun x H1 => D.nx (σ.set i (some x)) H1 := by
      obtain ⟨G, ρ, st, sg, hw⟩ := w
      refine go sg.g hw fun x st1 v H1 C1 p1 g1 r1 h1 => ?_
      obtain ⟨ρ', e, h2⟩ := wp_of (wp_bind h1)
      cases e
      exact wp_pure h2 _ H1 (G.at C1) ((sg.presG p1 g1.sr).put (o := false) hlt r1.1 fun z => nomatch z) p1.ext.p
    exact lc_tE hsub w2
/-- a list, a dict of our own comes to be -/
theorem SG.apart {K : PySem.W.Frag} {G : Gh} {σ : L2.St} {H : Hp} {ρ : Env} {st : Wy.St} (s : SG K G0 H0 G σ H ρ st) {a : Addr} (h : H a = none) : ∀ (j : Nat) (e : D), ρ[j]? = some (some (e, true)) → σ[j]? ≠ some (some (.ref a)) := fun j e hj hk => by
  obtain ⟨b, h1, _, _, h4, _⟩ := s.at_ hj
  rw [hk] at h1
  cases h1
  obtain ⟨o, ho⟩ := h4.there
  rw [h] at ho
  cases ho
theorem s_own (m : MtS X S c) {y : Str} {e : Expr} {py pos : Pos} {i : Nat} {ie : IE} (h1 : atB S i y = true) (h2 : locB S y = true) (hc : notComp e = true) (h : PE X e (tE X.K (FR X.K true) (md c ie).s)) : PS X (.Assign [.Name y py] e pos) (tS X.K S.me W G0 H0 (xs c (.own i ie))) := by
  have P := ps_set (pos := pos) (pos' := py) m.ndX (m.at_ h1) (m.toMt.loc h2).1 h (no_swap hc) (m.toMt.loc h2).2
  refine ⟨fun pins s σ H D I w => P.run pins s σ H D I ?_⟩
  have hlt := m.toMt.lt h1 I
  obtain ⟨G, ρ, st, sg, hw⟩ := w
  refine go sg.g hw fun x st1 v H1 C1 p1 g1 r1 h1 => ?_
  split at h1
  · rename_i hm
    obtain ⟨G', s', e', r', n'⟩ := sg.take (o := true) p1 g1.sr r1 fun _ => ⟨rfl, hm⟩
    obtain ⟨a, rfl, ha, hG⟩ := n' rfl
    exact wp_pure h1 _ H1 G' (s'.put (o := true) hlt r' fun _ => ⟨a, rfl, hG, sg.none0 ha, fun j e _ hj => sg.apart ha j e hj⟩) e'.p
  · exact h1.elim
theorem FRep.out {K : PySem.W.Frag} {G : Gh} {σ : L2.St} {H H1 : Hp} {ρ : Env} {st : Wy.St} {C1 : List Addr} {v : V} {d : D} (s : SG K G0 H0 G σ H ρ st) (r : FRep K (G.at C1) H H1 v d) : FRep K (G0.at C1) H0 H1 v d := by
  obtain ⟨a, e, h0, h1, h2, h3⟩ := r
  have sm : Same ((⟨fun b => G.O b ∨ b = a, C1⟩ : Gh).h H1) ((⟨fun b => G0.O b ∨ b = a, C1⟩ : Gh).h H1) := fun b o hb => by
    obtain ⟨k1, k2, k3⟩ := Gh.h_some.mp hb
    exact Gh.h_some.mpr ⟨k1, fun z => k2 (z.imp (s.own1 b) id), k3⟩
  refine ⟨a, e, s.none0 h0, fun z => h1 (s.own1 a z), h2, ?_⟩
  rcases h3 with ⟨vs, ds, z1, z2, z3⟩ | ⟨kvs, vs, z1, z2, z3⟩
  · exact .inl ⟨vs, ds, z1, z2, z3.mono sm (List.prefix_refl _)⟩
  · exact .inr ⟨kvs, vs, z1, z2, z3.mono sm (List.prefix_refl _)⟩
theorem s_ret {e : Expr} {pos : Pos} {ie : IE} {f : Bool} (h0 : ∀ x ∈ G0.C, ∃ o, H0 x = some o) (hf : S.me = true → f = true) (h : PE X e (tE X.K (FR X.K f) (md c ie).s)) : PS X (.Return (some e) pos) (tS X.K S.me W G0 H0 (xs c (.ret ie))) :=
  PSimp (ps_ret h) fun D σ H w => by
    obtain ⟨G, ρ, st, sg, hw⟩ := w
    refine go sg.g hw fun x st1 v H1 C1 p1 g1 r1 h1 => ?_
    have s1 := sg.presG p1 g1.sr
    refine wp_pure h1 v H1 C1 ⟨s1.keep, s1.pre, s1.new⟩ (g1.sr.sw rfl) ⟨r1.1.mono (fun b o hb => ?_) (List.prefix_refl _), fun hn hm => (r1.2 (hf hn) hm).out sg⟩
    obtain ⟨k1, k2, k3⟩ := Gh.h_some.mp hb
    exact Gh.h_some.mpr ⟨k1, fun z => k2 (s1.own1 b z), k3⟩
theorem s_retCell {es : List Expr} {lp pos : Pos} {is : List IE} (h : PA X es (tR X.K (row (mds c is)))) : PS X (.Return (some (.List es lp)) pos) (tS X.K S.me W G0 H0 (xs c (.retCell is))) :=
  PSimp (ps_ret (pe_lst h)) fun E σ H w => by
    obtain ⟨G, ρ, st, sg, hw⟩ := w
    refine goR sg.g hw fun ds st1 vs H1 C1 p1 g1 r1 h1 => ?_
    have h1 := wp_bind h1
    have ha : (allInts ds && Nat.ble ds.length sizeMax) = true := by
      cases q : (allInts ds && Nat.ble ds.length sizeMax) with
      | true => rfl
      | false => simp [newCell, wp, q] at h1
    simp only [newCell, wp, ha, if_true] at h1
    rw [Bool.and_eq_true] at ha
    obtain ⟨ha, hb⟩ := ha
    have hns : ∀ {ds : List D} {vs : List V}, allInts ds = true → Reps X.K C1 ((G.at C1).h H1) vs ds → ∃ ns : List Int, ds = ns.map D.int ∧ vs = ns.map V.int := by
      intro ds
      induction ds with
      | nil =>
        intro vs _ r
        cases r
        exact ⟨[], rfl, rfl⟩
      | cons d ds ih =>
        intro vs h r
        cases d <;> first | exact absurd h Bool.false_ne_true | skip
        cases r with
        | cons a b =>
          obtain ⟨ns, e1, e2⟩ := ih h b
          cases a
          exact ⟨_ :: ns, by rw [e1]; rfl, by rw [e2]; rfl⟩
    obtain ⟨ns, e1, e2⟩ := hns ha r1
    subst e1 e2
    have s1 := sg.presG p1 g1.sr
    refine ⟨by rw [List.length_map]; rw [List.length_map] at hb; exact size_ok hb, fun p hp => ?_⟩
    have nC : p ∉ C1 := fun z => by
      obtain ⟨o, ho⟩ := g1.sr.there p z
      rw [hp] at ho
      cases ho
    have h1 : sPost X.K S.me W G0 H0 E G H (.rt (.cell st1.length)) (st1 ++ [ns.map D.int]) := h1
    refine h1 (.ref p) _ (C1 ++ [p]) ⟨fun b u hb' n => ?_, s1.pre.trans (List.prefix_append _ _), fun b hb' => ?_⟩ ⟨?_, ?_, fun g b hg => ?_⟩ ⟨.cell ?_, fun _ z => nomatch z⟩
    · rw [upd_ne (ne_of_none (s1.keep b u hb' n) hp)]
      exact s1.keep b u hb' n
    · rcases List.mem_append.mp hb' with z | z
      · exact s1.new b z
      · rw [List.mem_singleton.mp z]
        exact .inr (s1.none0 hp)
    · show (C1 ++ [p]).length = (st1 ++ [ns.map D.int]).length
      rw [List.length_append, List.length_append, List.length_singleton, List.length_singleton]
      have := g1.sr.len
      simp only at this
      omega
    · show (C1 ++ [p]).Nodup
      rw [List.nodup_append]
      refine ⟨g1.sr.nd, by simp, fun x hx y hy => ?_⟩
      rw [List.mem_singleton.mp hy]
      exact fun e => nC (by rw [← e]; exact hx)
    · have hg : (C1 ++ [p])[g]? = some b := hg
      have hl : C1.length = st1.length := g1.sr.len
      by_cases hlt : g < C1.length
      · rw [List.getElem?_append_left hlt] at hg
        obtain ⟨ms, k1, k2⟩ := g1.sr.at_ g b hg
        exact ⟨ms, by rw [List.getElem?_append_left (by omega)]; exact k1, by rw [upd_ne (ne_of_none k2 hp)]; exact k2⟩
      · rw [List.getElem?_append_right (by omega)] at hg
        have hz : g - C1.length = 0 := by
          cases q : g - C1.length with
          | zero => rfl
          | succ n => rw [q] at hg; simp at hg
        rw [hz] at hg
        have hg : some p = some b := hg
        cases hg
        exact ⟨ns, by rw [List.getElem?_append_right (by omega), show g - st1.length = 0 by omega]; rfl, upd_same⟩
    · show (C1 ++ [p])[st1.length]? = some p
      have hl : C1.length = st1.length := g1.sr.len
      rw [List.getElem?_append_right (by omega), show st1.length - C1.length = 0 by omega]
      rfl
theorem s_ife {e : Expr} {a b : List Stmt} {pos : Pos} {ie : IE} {ia ib : List IS} (he : PT X e (tT X.K (md c ie).t)) (ha : PSs X a (tS X.K S.me W G0 H0 (xb c ia))) (hb : PSs X b (tS X.K S.me W G0 H0 (xb c ib))) : PS X (.If e a b pos) (tS X.K S.me W G0 H0 (xs c (.ife ie ia ib))) :=
  PSimp (ps_if he ha hb) fun D σ H w => by
    obtain ⟨G, ρ, st, sg, hw⟩ := w
    refine goT sg.g hw fun k st1 H1 C1 p1 g1 h1 => ?_
    have s1 := sg.presG p1 g1.sr
    cases k with
    | true => exact ⟨G.at C1, ρ, st1, s1, wp_mono h1 fun o st' q => q.shift p1.ext.p⟩
    | false => exact ⟨G.at C1, ρ, st1, s1, wp_mono h1 fun o st' q => q.shift p1.ext.p⟩
theorem s_for (m : MtS X S c) {t iter : Expr} {body : List Stmt} {pos : Pos} {tg : Tg} {it : IE} {ib : List IS} (ht : tgB S tg t = true) (hi : PI X t iter (tI X.K ExtP (itS c it))) (hb : PSs X body (tL X.K S.me W G0 H0 (xb c ib))) (hs : ∀ x, foldedSetIterable iter X.env x = pure x) :
    PS X (.For t iter body [] pos) (tS X.K S.me W G0 H0 (xs c (.for_ tg it ib))) :=
  PSimp (ps_for m.po m.calm hi (pgD m.toMt ht) hb hs) fun D σ H w => by
    obtain ⟨G, ρ, st, sg, hw⟩ := w
    refine goI sg.g hw fun ds st1 J H1 C1 p1 g1 rJ h1 => ?_
    refine ⟨fun i k σ' H' => k = ds.length - i ∧ i ≤ ds.length ∧ ∃ G' ρ' st', SG X.K G0 H0 G' σ' H' ρ' st' ∧ ExtP (G.at C1) H1 G' H' ∧ wp (forLoop tg (xb c ib) (ds.drop i) ρ') st' (sPost X.K S.me W G0 H0 D G H), ⟨ds.length, rfl, Nat.zero_le _, G.at C1, ρ, st1, sg.presG p1 g1.sr, ExtP.refl _ _, by simpa using h1⟩, ?_⟩
    rintro i k σ' H' ⟨rfl, hi', G', ρ', st', s', e', hr⟩
    obtain ⟨hstop, hgo⟩ := rJ G' H' e' s'.g.hidden i
    by_cases hlt : i < ds.length
    · right
      have hd : ds[i]? = some ds[i] := List.getElem?_eq_getElem hlt
      obtain ⟨hg1, yl⟩ := hgo _ hd
      refine ⟨hg1, fun σ2 H2 => ds.length - (i + 1) = ds.length - (i + 1) ∧ i + 1 ≤ ds.length ∧ ∃ G' ρ' st', SG X.K G0 H0 G' σ2 H2 ρ' st' ∧ ExtP (G.at C1) H1 G' H2 ∧ wp (forLoop tg (xb c ib) (ds.drop (i + 1)) ρ') st' (sPost X.K S.me W G0 H0 D G H), fun σ2 H2 h => ⟨ds.length - (i + 1), by omega, h⟩, fun x H2 hx => ?_⟩
      obtain ⟨s2, rx⟩ := yl x H2 hx
      rw [List.drop_eq_getElem_cons hlt] at hr
      unfold forLoop at hr
      obtain ⟨ρ1, e, h3⟩ := wp_of (wp_bind hr)
      have s3 : SG X.K G0 H0 G' σ' H2 ρ' st' := s'.presG (Pres.more s2) (s'.g.sr.more s2)
      refine ⟨G', ρ', st', ds[i], ρ1, s3.g, rx, e, fun σ2 g2 df => ⟨⟨G', ρ1, st', s3.tg g2 df e, wp_mono (wp_bind h3) fun o st2 ho => ?_⟩, fun _ _ z => z⟩⟩
      cases o with
      | nx ρ2 => exact fun σ3 H3 G3 s4 e4 => ⟨rfl, by omega, G3, ρ2, st2, s4, (e'.trans (Ext.more s2).p).trans e4, ho⟩
      | rt v => exact wp_pure ho
      | er ρ2 k ys => exact fun σ3 H3 G3 cls d s4 e4 => wp_pure ho σ3 H3 G3 cls d s4 (p1.ext.p.trans ((e'.trans (Ext.more s2).p).trans e4))
    · left
      have hi2 : i = ds.length := by omega
      rw [hi2, List.drop_length] at hr
      exact ⟨hstop (by omega), wp_pure hr σ' H' G' s' (p1.ext.p.trans e')⟩
end
end Wy

set_option Elab.async false
set_option linter.all false
set_option maxRecDepth 100000
set_option autoImplicit false
/-! WyU: writes: o[i] = v, append, pop, a, b = x, y. -/
namespace Wy
open PySem PySem.Spec PyProof.Rows L2
section
variable {X : Cx} {c : Wy.Ctx} {S : Sc} {G0 : Gh} {H0 : Hp} {W : WX}
theorem ps_subD {o i value : Expr} {pos pos' : Pos} {to ti tv : TE} {t : TSet} (ho : PE X o to) (hi : PE X i ti) (hv : PE X value tv) (hs : PSet X t) (hw : swapsWith value (some (.Subscript o i pos')) pos.line X.env = pure false) :
    PS X (.Assign [.Subscript o i pos'] value pos) (fun D σ H => tv σ H fun v H1 => to σ H1 fun x H2 => ti σ H2 fun y H3 => t x y v H3 fun H4 => D.nx σ H4) := by
  refine ⟨fun pins s σ H D I h => ?_⟩
  refine wpAny_Assign_Subscript (thn (hv.run pins s σ H _ I h) fun r s1 ⟨v, H1, I1, rv, q1⟩ => thn (ho.run pins s1 σ H1 _ I1 q1) fun u s2 ⟨x, H2, I2, rx, q2⟩ => thn (hi.run pins s2 σ H2 _ I2 q2) fun iv s3 ⟨y, H3, I3, ry, q3⟩ => ?_) hw
  exact thn (hs pins s3 σ H3 x y v u iv r _ I3 rx ry rv q3) fun _ s4 ⟨H4, I4, q4⟩ => ⟨σ, H4, I4, q4⟩
theorem PSet.or {t t' : TSet} (h : PSet X t) (h' : PSet X t') : PSet X fun o i v H Q => t o i v H Q ∨ t' o i v H Q := by
  intro pins s σ H o i v ov iv u Q I ro ri rv q
  rcases q with q | q
  · exact h pins s σ H o i v ov iv u Q I ro ri rv q
  · exact h' pins s σ H o i v ov iv u Q I ro ri rv q
theorem nxt_1 {m : M Wy.Env} {st : Wy.St} {Q : Out → Wy.St → Prop} (h : wp (nxt m) st Q) : wp m st fun ρ' st' => Q (.nx ρ') st' := wp_mono (wp_bind h) fun _ _ k => k
/-- the shared list is written -/
theorem SG.cell {K : PySem.W.Frag} {G : Gh} {σ : L2.St} {H : Hp} {ρ : Wy.Env} {st : Wy.St} {g : Nat} {a : Addr} {ns : List Int} (s : SG K G0 H0 G σ H ρ st) (ha : G.C[g]? = some a) (hn : st[g]? = some (ns.map D.int)) (ms : List Int) :
    SG K G0 H0 G σ (L2.upd H a (.lst (ms.map V.int))) ρ (st.set g (ms.map D.int)) ∧ ExtP G H G (L2.upd H a (.lst (ms.map V.int))) := by
  have mem : a ∈ G.C := List.mem_of_getElem? ha
  have p : Pres G G.C H (L2.upd H a (.lst (ms.map V.int))) := ⟨fun b o h n => by rw [upd_ne fun e => n (by rw [e]; exact mem)]; exact h, List.prefix_refl _, fun _ h => .inl h⟩
  have sr : StRep (G.at G.C) (L2.upd H a (.lst (ms.map V.int))) (st.set g (ms.map D.int)) := by
    refine ⟨by rw [List.length_set]; exact s.g.sr.len, s.g.sr.nd, fun g' b hb => ?_⟩
    by_cases e : g' = g
    · subst e
      have : a = b := by
        have hb : G.C[g']? = some b := hb
        rw [ha] at hb
        exact Option.some.inj hb
      subst this
      exact ⟨ms, by rw [List.getElem?_set_self (List.getElem?_eq_some_iff.mp hn).1], upd_same⟩
    · obtain ⟨ks, k1, k2⟩ := s.g.sr.at_ g' b hb
      have hne : b ≠ a := fun z => by
        subst z
        have hb : G.C[g']? = some b := hb
        obtain ⟨l1, e1⟩ := List.getElem?_eq_some_iff.mp ha
        obtain ⟨l2, e2⟩ := List.getElem?_eq_some_iff.mp hb
        have nd := List.pairwise_iff_getElem.mp s.g.sr.nd
        rcases Nat.lt_trichotomy g' g with q | q | q
        · exact nd g' g l2 l1 q (e2.trans e1.symm)
        · exact e q
        · exact nd g g' l1 l2 q (e1.trans e2.symm)
      exact ⟨ks, by rw [List.getElem?_set_ne (Ne.symm e)]; exact k1, by rw [upd_ne hne]; exact k2⟩
  exact ⟨s.presG p sr, p.ext.p⟩
theorem s_seti (m : MtS X S c) {x : Str} {xp pos pos' : Pos} {i : Nat} {a b : Expr} {ia ib : IE} {fa fb : Bool} (h1 : atB S i x = true) (h2 : visB S x = true) (h3 : evenB x = true) (hc : notComp b = true) (ha : PE X a (tE X.K (FR X.K fa) (md c ia).s)) (hb : PE X b (tE X.K (FR X.K fb) (md c ib).s)) :
    PS X (.Assign [.Subscript (.Name x xp) a pos'] b pos) (tS X.K S.me W G0 H0 (xs c (.seti i ia ib))) :=
  PSimp (ps_subD (pe_var (m.at_ h1) (m.vis h2) (even_1 h3).1 (even_1 h3).2.1) ha hb (PSet.or set_list (L2.set_dict (by have := m.un; omega))) (no_swap hc)) fun E σ H w => by
    obtain ⟨G, ρ, st, sg, hw⟩ := w
    refine go sg.g hw fun y st1 v H1 C1 p1 g1 r1 h1 => ?_
    have s1 := sg.presG p1 g1.sr
    -- the slot
    have hslot : ∃ d o v, ρ[i]? = some (some (d, o)) ∧ σ[i]? = some (some v) := by
      obtain ⟨z, st2, hz⟩ := wp_some (wp_bind h1)
      have hz := nxt_1 hz
      unfold putIx at hz
      cases hi : ρ[i]? with
      | none =>
        rw [hi] at hz
        exact hz.elim
      | some p =>
        cases p with
        | none =>
          rw [hi] at hz
          exact hz.elim
        | some p =>
          obtain ⟨v, k1, _⟩ := sg.g.er i p.1 p.2 hi
          exact ⟨p.1, p.2, v, rfl, k1⟩
    obtain ⟨d, o, u, hi, hu⟩ := hslot
    refine ⟨u, hu, ?_⟩
    refine go s1.g h1 fun x st2 z H2 C2 p2 g2 r2 h2 => ?_
    have s2 := s1.presG p2 g2.sr
    have e02 : ExtP G H (G.at C2) H2 := (p1.trans p2 sg.g.sr.there).ext.p
    have h3 := nxt_1 h2
    unfold putIx at h3
    rw [hi] at h3
    obtain ⟨u', k1, k2⟩ := g2.er i d o hi
    rw [hu] at k1
    cases k1
    have rv : SRep X.K (G.at C2) H2 v y := r1.1.ext p2.ext
    cases d <;> try exact h3.elim
    · -- a list of our own
      rename_i ys
      cases o with
      | false => exact h3.elim
      | true =>
        cases x <;> try exact h3.elim
        rename_i n
        have h3 : wp (match ixNat ys.length n with | some k => M.pure (setS ρ i (.lst (ys.set k y)) true) | none => M.stuck) st2 (fun ρ' st' => sPost X.K S.me W G0 H0 E G H (.nx ρ') st') := h3
        split at h3
        · rename_i k hk
          rw [if_pos rfl] at k2
          obtain ⟨l, rfl, q1, q2, q3⟩ := k2
          have e1 := BRep.int (.inl r2.1)
          subst e1
          rcases q3 with ⟨vs, ds, z1, z2, z3⟩ | ⟨kvs, vs, z1, _⟩
          · cases z1
            left
            refine ⟨l, vs, n, k, rfl, rfl, z2, by rw [z3.len]; exact hk, ?_⟩
            exact wp_pure h3 σ _ (G.at C2) (s2.upd hi hu (.inl ⟨vs.set k v, ys.set k y, rfl, upd_same, by rw [hid_upd q1]; exact Reps.set rv k z3⟩)) (e02.trans (extP_upd q1))
          · cases z1
        · exact h3.elim
    · -- a dict of our own
      rename_i ks ws
      cases o with
      | false => exact h3.elim
      | true =>
        have h3 : wp (if (isKey x && Nat.ble ks.length sizeMax) = true then M.pure (setS ρ i (.dic (dputK x ks) (dputV x y ks ws)) true) else M.stuck) st2 (fun ρ' st' => sPost X.K S.me W G0 H0 E G H (.nx ρ') st') := h3
        split at h3
        · rename_i hk
          rw [Bool.and_eq_true] at hk
          obtain ⟨k, _, hk2⟩ := key_of hk.1
          rw [if_pos rfl] at k2
          obtain ⟨l, rfl, q1, q2, q3⟩ := k2
          have e1 := key_rep hk2 (.inl r2.1)
          subst e1 hk2
          rcases q3 with ⟨vs, ds, z1, _⟩ | ⟨kvs, vs, z1, z2, z3⟩
          · cases z1
          · cases z1
            right
            refine ⟨l, _, rfl, .k (v := v) (k := k) z2 ?_, ?_⟩
            · have := Nat.le_of_ble_eq_true hk.2
              rw [List.length_map] at this
              rw [sizeLine_eq]
              unfold sizeMax at this
              omega
            · exact wp_pure h3 σ _ (G.at C2) (s2.upd hi hu (.inr ⟨putK kvs k v, _, by rw [put_keys], upd_same, by rw [hid_upd q1]; exact put_vals rv z3⟩)) (e02.trans (extP_upd q1))
        · exact h3.elim
    · -- a shared list
      rename_i g
      cases x <;> try exact h3.elim
      rename_i n
      have h3 : wp (fun st : Wy.St => (match st[g]? with | some xs => (match ixNat xs.length n, y with | some k, .int _ => Res.ok ρ (st.set g (xs.set k y)) | _, _ => .stuck) | none => .stuck)) st2 (fun ρ' st' => sPost X.K S.me W G0 H0 E G H (.nx ρ') st') := h3
      have k2 : SRep X.K (G.at C2) H2 u (.cell g) := by
        cases o with
        | false => exact k2
        | true =>
          rw [if_pos rfl] at k2
          obtain ⟨l, _, _, _, q3⟩ := k2
          rcases q3 with ⟨vs, ds, z1, _⟩ | ⟨kvs, vs, z1, _⟩ <;> cases z1
      cases k2 with
      | cell hc =>
        rename_i l
        obtain ⟨ns, q1, q2⟩ := g2.sr.at_ g l hc
        unfold wp at h3
        simp only [q1] at h3
        split at h3
        · rename_i ρ' st' e
          split at e
          · rename_i k j hk
            cases e
            have e1 := BRep.int (.inl r2.1)
            have e2 := BRep.int (.inl rv)
            subst e1 e2
            left
            refine ⟨l, ns.map V.int, n, k, rfl, rfl, q2, by rw [List.length_map]; rw [List.length_map] at hk; exact hk, ?_⟩
            obtain ⟨s3, e3⟩ := s2.cell hc q1 (ns.set k j)
            have ev : (ns.map V.int).set k (.int j) = (ns.set k j).map V.int := by rw [List.map_set]
            have ed : (ns.map D.int).set k (.int j) = (ns.set k j).map D.int := by rw [List.map_set]
            rw [ev]
            rw [ed] at h3
            exact h3 σ _ (G.at C2) s3 (e02.trans e3)
          · cases e
        · exact h3.elim

/-! ### methods of lists of our own -/
theorem own_slot {K : PySem.W.Frag} {G : Gh} {σ : L2.St} {H : Hp} {ρ : Wy.Env} {st : Wy.St} {i : Nat} {ys : List D} (s : SG K G0 H0 G σ H ρ st) (h : ρ[i]? = some (some (.lst ys, true))) : ∃ a vs, σ[i]? = some (some (.ref a)) ∧ G.O a ∧ H a = some (.lst vs) ∧ Reps K G.C (G.h H) vs ys := by
  obtain ⟨a, h1, h2, h3, h4, _⟩ := s.at_ h
  rcases h4 with ⟨vs, ds, z1, z2, z3⟩ | ⟨kvs, vs, z1, _⟩
  · cases z1
    exact ⟨a, vs, h1, h2, z2, z3⟩
  · cases z1
theorem ownPut_1 {ρ ρ' : Wy.Env} {i : Nat} {f : List D → Option (List D)} (e : ownPut ρ i f = some ρ') : ∃ xs ys, ρ[i]? = some (some (.lst xs, true)) ∧ f xs = some ys ∧ ρ' = setS ρ i (.lst ys) true := by
  unfold ownPut at e
  cases hi : ρ[i]? with
  | none => rw [hi] at e; cases e
  | some p =>
    rw [hi] at e
    cases p with
    | none => cases e
    | some p =>
      obtain ⟨d, o⟩ := p
      cases d <;> try cases e
      cases o with
      | false => cases e
      | true =>
        obtain ⟨ys, e1, e2⟩ := Option.map_eq_some_iff.mp (show (f _).map _ = some ρ' from e)
        exact ⟨_, ys, rfl, e1, e2.symm⟩
theorem lst_ty {K : PySem.W.Frag} {H : Hp} {a : Addr} {vs : List V} (h : H a = some (.lst vs)) : tyV K "list" (.ref a) H := .inl ⟨rfl, vs, .of h⟩
theorem hbaseN {x name : Str} {p : Pos} {env : PySem.Env} : attributeBase (.Name x p) name env (eval (.Name x p) env) = eval (.Name x p) env := rfl
theorem s_app (m : MtS X S c) {x : Str} {xp ap cp pos : Pos} {i : Nat} {a : Expr} {ia : IE} {fa : Bool} (h1 : atB S i x = true) (h2 : visB S x = true) (h3 : evenB x = true) (hs : notStar a = true) (hl : (ap.endLine == cp.endLine && ap.endLine == cp.line) = true) (ha : PE X a (tE X.K (FR X.K fa) (md c ia).s)) :
    PS X (.Expr (.Call (.Attribute (.Name x xp) "append" ap) [a] [] cp) pos) (tS X.K S.me W G0 H0 (xs c (.app i ia))) := by
  rw [Bool.and_eq_true] at hl
  refine PSimp (ps_expr (pe_bm PySem.F.plainAttrs_list PySem.F.slot_list_append PySem.F.type_list_append mt_append (pe_var (m.at_ h1) (m.vis h2) (even_1 h3).1 (even_1 h3).2.1) (pa_cons ha pa_nil (star1 hs)) hbaseN (by rw [star1 hs]; rfl) hl.2 (star1 hs) rfl) (no_swap rfl)) fun D σ H w => ?_
  obtain ⟨G, ρ, st, sg, hw⟩ := w
  have hslot : ∃ ys, ρ[i]? = some (some (.lst ys, true)) := by
    obtain ⟨z, st2, hz⟩ := wp_some (wp_bind hw)
    obtain ⟨ρ', e, _⟩ := wp_of (nxt_1 hz)
    obtain ⟨ys, _, h, _⟩ := ownPut_1 e
    exact ⟨ys, h⟩
  obtain ⟨ys0, hy0⟩ := hslot
  obtain ⟨l, vs0, hu, _, hl0, _⟩ := own_slot sg hy0
  refine ⟨.ref l, hu, lst_ty hl0, ?_⟩
  refine go sg.g hw fun y st1 v H1 C1 p1 g1 r1 h1 => ?_
  have s1 := sg.presG p1 g1.sr
  obtain ⟨ρ', e, h4⟩ := wp_of (nxt_1 h1)
  obtain ⟨ys, zs, hy, e1, e2⟩ := ownPut_1 e
  rw [hy0] at hy
  cases hy
  obtain ⟨e3, e4⟩ := short_ok e1
  subst e3 e2
  obtain ⟨l', vs, hu', q1, hl1, rs⟩ := own_slot s1 hy0
  rw [hu] at hu'
  cases hu'
  refine ⟨l, vs, v, rfl, rfl, hl1, ?_, ?_⟩
  · rw [rs.len]
    rw [List.length_append, List.length_singleton] at e4
    omega
  · exact h4 σ _ (G.at C1) (s1.upd hy0 hu (.inl ⟨vs ++ [v], _, rfl, upd_same, by rw [hid_upd q1]; exact Reps.app (.cons r1.1 .nil) rs⟩)) (p1.ext.p.trans (extP_upd q1))
theorem popAt_1 {ρ ρ' : Wy.Env} {j : Nat} {n : Int} {d : D} (e : popAt ρ j n = some (d, ρ')) : ∃ xs k, ρ[j]? = some (some (.lst xs, true)) ∧ xs.length ≤ sizeMax ∧ ixNat xs.length n = some k ∧ xs[k]? = some d ∧ ρ' = setS ρ j (.lst (xs.eraseIdx k)) true := by
  unfold popAt at e
  cases hi : ρ[j]? with
  | none => rw [hi] at e; cases e
  | some p =>
    rw [hi] at e
    cases p with
    | none => cases e
    | some p =>
      obtain ⟨x, o⟩ := p
      cases x <;> try cases e
      cases o with
      | false => cases e
      | true =>
        rename_i xs
        have e : (if Nat.ble xs.length sizeMax = true then (ixNat xs.length n).bind fun k => (xs[k]?).map fun d => (d, setS ρ j (.lst (xs.eraseIdx k)) true) else none) = some (d, ρ') := e
        split at e
        · rename_i hb
          obtain ⟨k, e1, e2⟩ := Option.bind_eq_some_iff.mp e
          obtain ⟨z, e3, e4⟩ := Option.map_eq_some_iff.mp e2
          cases e4
          exact ⟨_, k, rfl, Nat.le_of_ble_eq_true hb, e1, e3, rfl⟩
        · cases e
theorem s_appPop (m : MtS X S c) {x y : Str} {xp yp ap ap2 cp cp2 pos : Pos} {i j : Nat} {a : Expr} {ia : IE} {fa : Bool} (h1 : atB S i x = true) (h2 : visB S x = true) (h3 : evenB x = true) (k1 : atB S j y = true) (k2 : visB S y = true) (k3 : evenB y = true) (hij : i ≠ j) (hs : notStar a = true) (hl : (ap.endLine == cp.line) = true) (hl2 : (ap2.endLine == cp2.line) = true) (ha : PE X a (tE X.K (FR X.K fa) (md c ia).s)) :
    PS X (.Expr (.Call (.Attribute (.Name x xp) "append" ap) [.Call (.Attribute (.Name y yp) "pop" ap2) [a] [] cp2] [] cp) pos) (tS X.K S.me W G0 H0 (xs c (.appPop i j ia))) := by
  have hpop := pe_bm (apos := ap2) (cpos := cp2) PySem.F.plainAttrs_list PySem.F.slot_list_pop PySem.F.type_list_pop mt_popAt (pe_var (pos := yp) (m.at_ k1) (m.vis k2) (even_1 k3).1 (even_1 k3).2.1) (pa_cons ha pa_nil (star1 hs)) hbaseN (by rw [star1 hs]; rfl) hl2 (star1 hs) rfl
  refine PSimp (ps_expr (pe_bm PySem.F.plainAttrs_list PySem.F.slot_list_append PySem.F.type_list_append mt_append (pe_var (m.at_ h1) (m.vis h2) (even_1 h3).1 (even_1 h3).2.1) (pa_cons hpop pa_nil rfl) hbaseN rfl hl rfl rfl) (no_swap rfl)) fun D σ H w => ?_
  obtain ⟨G, ρ, st, sg, hw⟩ := w
  have hslots : ∃ ys zs, ρ[i]? = some (some (.lst ys, true)) ∧ ρ[j]? = some (some (.lst zs, true)) := by
    obtain ⟨z, st2, hz⟩ := wp_some (wp_bind hw)
    obtain ⟨p, e, hz⟩ := wp_of (wp_bind hz)
    obtain ⟨n, _, e⟩ := Option.bind_eq_some_iff.mp e
    obtain ⟨xs, k, q1, q0, q2, q3, q4⟩ := popAt_1 (ρ' := p.2) (d := p.1) e
    obtain ⟨ρ', e', _⟩ := wp_of (nxt_1 hz)
    obtain ⟨ys, _, h, _⟩ := ownPut_1 e'
    rw [q4] at h
    unfold setS at h
    rw [List.getElem?_set_ne (Ne.symm hij)] at h
    exact ⟨ys, xs, h, q1⟩
  obtain ⟨ys0, zs0, hy0, hz0⟩ := hslots
  obtain ⟨l, vs0, hu, _, hl0, _⟩ := own_slot sg hy0
  obtain ⟨l2, us0, hv, _, hl20, _⟩ := own_slot sg hz0
  refine ⟨.ref l, hu, lst_ty hl0, .ref l2, hv, lst_ty hl20, ?_⟩
  refine go sg.g hw fun n st1 v H1 C1 p1 g1 r1 h1 => ?_
  have s1 := sg.presG p1 g1.sr
  obtain ⟨p, e, hz⟩ := wp_of (wp_bind h1)
  obtain ⟨n', e0, e⟩ := Option.bind_eq_some_iff.mp e
  obtain ⟨d, ρ1⟩ := p
  obtain ⟨xs, k, q1, q0, q2, q3, q4⟩ := popAt_1 e
  rw [hz0] at q1
  cases q1
  cases n <;> first | (simp [intOf] at e0; done) | skip
  simp only [intOf, Option.some.injEq] at e0
  subst e0
  have ev := BRep.int (.inl r1.1)
  subst ev
  obtain ⟨l2', us, hv', o2, hl2', rz⟩ := own_slot s1 hz0
  rw [hv] at hv'
  cases hv'
  have hlen : us.length < 2 ^ 62 := by
    rw [rz.len]
    unfold sizeMax at q0
    omega
  obtain ⟨w, hw1, rw1⟩ := rz.get q3
  obtain ⟨ii1, ii2, ii3, ii4⟩ := ixN_seq (show ixN zs0.length _ = some k from q2)
  refine ⟨l2, us, _, k, w, rfl, rfl, hl2', by rw [rz.len] at hlen; omega, by rw [rz.len] at hlen; omega, by rw [rz.len]; exact ii1, hw1, ?_⟩
  have s2 := s1.upd (o := .lst (us.eraseIdx k)) hz0 hv (.inl ⟨us.eraseIdx k, zs0.eraseIdx k, rfl, upd_same, by rw [hid_upd o2]; exact Reps.erase k rz⟩)
  subst q4
  have hi2 : (setS ρ j (.lst (zs0.eraseIdx k)) true)[i]? = some (some (.lst ys0, true)) := by
    unfold setS
    rw [List.getElem?_set_ne (Ne.symm hij)]
    exact hy0
  obtain ⟨ρ', e', h5⟩ := wp_of (nxt_1 hz)
  obtain ⟨ys, zs, hy, e1, e2⟩ := ownPut_1 e'
  rw [hi2] at hy
  cases hy
  obtain ⟨e3, e4⟩ := short_ok e1
  subst e3 e2
  obtain ⟨l', vs, hu', o1, hl1, rs⟩ := own_slot s2 hi2
  rw [hu] at hu'
  cases hu'
  have rw2 : Rep X.K (G.at C1).C ((G.at C1).h (upd H1 l2 (.lst (us.eraseIdx k)))) w d := by
    rw [hid_upd o2]
    exact rw1
  refine ⟨l, vs, w, rfl, rfl, hl1, ?_, ?_⟩
  · rw [rs.len]
    rw [List.length_append, List.length_singleton] at e4
    omega
  · exact h5 σ _ (G.at C1) (s2.upd hi2 hu (.inl ⟨vs ++ [w], _, rfl, upd_same, by rw [hid_upd o1]; exact Reps.app (.cons rw2 .nil) rs⟩)) ((p1.ext.p.trans (extP_upd o2)).trans (extP_upd o1))
end
end Wy

set_option Elab.async false
set_option linter.all false
set_option maxRecDepth 100000
set_option autoImplicit false
/-! WyP: a, b = x, y; the checker of statements and its soundness. -/
namespace Wy
open PySem PySem.Spec PyProof.Rows L2
section
variable {X : Cx} {c : Wy.Ctx} {S : Sc} {G0 : Gh} {H0 : Hp} {W : WX}
/-- a, b = x, y, stored from the right -/
def swap2 (S : Sc) (x y : Str) (px py : Pos) (a b : Expr) : Bool :=
  (lk S.sc.names x == some .local) && (lk S.sc.names y == some .local) && (py.line == px.line) && !sEq x y && notStar a && notStar b && !([a, b].all (foldedForSure 8)) && !([a, b].all (constantsAlone 8))
theorem swapped2 (m : MtS X S c) {x y : Str} {px py pt : Pos} {a b : Expr} {kt k2 : Nat} {pt2 : Pos} (h : swap2 S x y px py a b = true) : swappedStores [.Tuple [.Name x px, .Name y py] kt pt] (.Tuple [a, b] k2 pt2) X.env = pure (some [x, y]) := by
  unfold swap2 at h
  simp only [Bool.and_eq_true, beq_iff_eq, Bool.not_eq_true'] at h
  obtain ⟨⟨⟨⟨⟨⟨⟨h1, h2⟩, h3⟩, h4⟩, h5⟩, h6⟩, h7⟩, h8⟩ := h
  have hx : X.env.kindOf x = some .local := by
    unfold PySem.Env.kindOf
    rw [m.sc, lk_eq]
    exact h1
  have hy : X.env.kindOf y = some .local := by
    unfold PySem.Env.kindOf
    rw [m.sc, lk_eq]
    exact h2
  have hxy : (x == y) = false := by rw [sEq_beq]; exact h4
  have hyx : (y == x) = false := by
    rw [sEq_beq]
    cases q : sEq y x with
    | false => rfl
    | true =>
      rw [sEq_eq q] at h4
      simp [sEq] at h4
  have st : ([a, b].any fun | .Starred .. => true | _ => false) = false := by
    cases a <;> cases b <;> first | rfl | exact absurd h5 Bool.false_ne_true | exact absurd h6 Bool.false_ne_true
  unfold swappedStores
  simp only [m.bk, hx, hy, List.length_cons, List.length_nil, List.filterMap_cons, List.filterMap_nil, List.head?_cons, Option.map_some, Option.getD_some, Expr.pos, h3, beq_self_eq_true, Bool.and_self, if_true, h7, h8, List.eraseDups_cons, List.eraseDups_nil, List.filter_cons, List.filter_nil, hxy, hyx]
  rw [if_neg (by decide)]
  have e : ((if (!false) = true then [y] else []).eraseDups.length) = 1 := by simp [List.eraseDups_cons]
  split
  · rename_i hh
    exact absurd (st.symm.trans hh) (by decide)
  · rw [if_neg (by rw [e]; decide), if_neg (by decide), if_neg (by decide)]
theorem s_par2 (m : MtS X S c) {x y : Str} {px py pt pos pt2 : Pos} {a b : Expr} {kt k2 i j : Nat} {o1 o2 f1 f2 : Bool} {ia ib : IE} (hx1 : atB S i x = true) (hy1 : atB S j y = true) (hij : i ≠ j) (hw : swap2 S x y px py a b = true) (q1 : o1 = true → f1 = true) (q2 : o2 = true → f2 = true) (sa : isStar ia = false) (sb : isStar ib = false)
    (ha : PE X a (tE X.K (FR X.K f1) (md c ia).s)) (hb : PE X b (tE X.K (FR X.K f2) (md c ib).s)) :
    PS X (.Assign [.Tuple [.Name x px, .Name y py] kt pt] (.Tuple [a, b] k2 pt2) pos) (tS X.K S.me W G0 H0 (xs c (.par [i, j] [o1, o2] [ia, ib]))) := by
  have hw2 := swapped2 m hw (pt := pt) (kt := kt) (k2 := k2) (pt2 := pt2)
  unfold swap2 at hw
  simp only [Bool.and_eq_true, beq_iff_eq, Bool.not_eq_true'] at hw
  obtain ⟨⟨⟨⟨⟨⟨⟨h1, h2⟩, h3⟩, h4⟩, h5⟩, h6⟩, h7⟩, h8⟩ := hw
  have P := ps_par (pos := pos) (kt := kt) (k2 := k2) (pt := pt) (pt2 := pt2) (px := px) (py := py) m.calm m.ndX (m.at_ hx1) (m.at_ hy1) hij (by rw [m.sc, lk_eq]; exact h1) (by rw [m.sc, lk_eq]; exact h2) (pa_cons ha (pa_cons hb pa_nil (star1 h6)) (star1 h5)) hw2 rfl
  refine ⟨fun pins s σ H E I w => P.run pins s σ H E I ?_⟩
  have hi := m.toMt.lt hx1 I
  have hj := m.toMt.lt hy1 I
  obtain ⟨G, ρ, st, sg, hw⟩ := w
  have hw : wp (M.bind (row (mds c [ia, ib]) ρ) fun ds => nxt (M.of (setPar ρ [i, j] [o1, o2] ds))) st (sPost X.K S.me W G0 H0 E G H) := hw
  rcases m_of (c := c) ia sa with ma | ma
  case inr =>
    have hw : wp (M.bind (M.bind ((md c ia).m ρ) fun xs => M.bind (row (mds c [ib]) ρ) fun ys => M.pure (xs ++ ys)) fun ds => nxt (M.of (setPar ρ [i, j] [o1, o2] ds))) st (sPost X.K S.me W G0 H0 E G H) := hw
    rw [ma] at hw
    exact (wp_bind (wp_bind hw)).elim
  rcases m_of (c := c) ib sb with mb | mb
  · have hw : wp (M.bind (M.bind ((md c ia).m ρ) fun xs => M.bind (M.bind ((md c ib).m ρ) fun ys => M.bind (M.pure []) fun zs => M.pure (ys ++ zs)) fun ys => M.pure (xs ++ ys)) fun ds => nxt (M.of (setPar ρ [i, j] [o1, o2] ds))) st (sPost X.K S.me W G0 H0 E G H) := hw
    rw [ma, mb] at hw
    refine go sg.g (wp_bind (wp_bind hw)) fun d1 st1 v H1 C1 p1 g1 r1 hh => ?_
    have hh := wp_bind (wp_bind (wp_pure hh))
    -- both flags, from the end
    have flags : ∀ {st1 : Wy.St} {Q : List D → Wy.St → Prop}, True := trivial
    have key : (o1 = true → mutD d1 = true) := by
      intro z
      obtain ⟨d2, st2, k⟩ := wp_some (wp_bind hh)
      have k := wp_pure (wp_bind (wp_pure k))
      obtain ⟨ρ', e, _⟩ := wp_of (nxt_1 (wp_pure k))
      have e : (if (o1 && !mutD d1) = true then none else setPar (setS ρ i d1 o1) [j] [o2] [d2]) = some ρ' := e
      split at e
      · cases e
      · rename_i hn
        cases q : mutD d1 with
        | true => rfl
        | false => exact (hn (by rw [z, q]; rfl)).elim
    obtain ⟨G1, s1, e1, rr1, n1⟩ := sg.take (o := o1) p1 g1.sr r1 fun z => ⟨q1 z, key z⟩
    refine ⟨G1, ρ, st1, s1.g, wp_mono (wp_bind hh) fun d2 st2 k u H2 C2 p2 sr2 r2 => ?_⟩
    have k := wp_pure (wp_bind (wp_pure k))
    obtain ⟨ρ', e, fin0⟩ := wp_of (nxt_1 (wp_pure k))
    have e : (if (o1 && !mutD d1) = true then none else if (o2 && !mutD d2) = true then none else some (setS (setS ρ i d1 o1) j d2 o2)) = some ρ' := e
    split at e
    · cases e
    · split at e
      · cases e
      · rename_i _ hn2
        cases e
        have key2 : o2 = true → mutD d2 = true := fun z => by
          cases q : mutD d2 with
          | true => rfl
          | false => exact (hn2 (by rw [z, q]; rfl)).elim
        obtain ⟨G2, s2, e2, rr2, n2⟩ := s1.take (o := o2) p2 sr2 r2 fun z => ⟨q2 z, key2 z⟩
        refine ⟨v, u, rfl, ?_⟩
        have ra : if o1 = true then OwnRep X.K G2 H2 v d1 else SRep X.K G2 H2 v d1 := by
          cases o1 with
          | true => rw [if_pos rfl] at rr1 ⊢; exact rr1.ext e2
          | false => rw [if_neg Bool.false_ne_true] at rr1 ⊢; exact SRep.ext e2 rr1
        have none1 : ∀ a, H1 a = none → H a = none := fun a h => by
          cases q : H a with
          | none => rfl
          | some o =>
            obtain ⟨o', z⟩ := p1.still g1.sr a o q
            rw [h] at z
            cases z
        have s3 := s2.put (i := i) hi ra fun z => by
          obtain ⟨a, rfl, ha, hG⟩ := n1 z
          exact ⟨a, rfl, hG, sg.none0 ha, fun j e _ hj => sg.apart ha j e hj⟩
        have s4 := s3.put (i := j) (by rw [List.length_set]; exact hj) rr2 fun z => by
          obtain ⟨a, rfl, ha, hG⟩ := n2 z
          refine ⟨a, rfl, hG, s1.none0 ha, fun l e hl hj => ?_⟩
          unfold setS at hj
          by_cases q : i = l
          · subst q
            rw [List.getElem?_set_self hi]
            by_cases hll : i < ρ.length
            · rw [List.getElem?_set_self hll] at hj
              cases hj
              obtain ⟨b, rfl, hb, _⟩ := n1 rfl
              intro zz
              cases zz
              rw [if_pos rfl] at rr1
              obtain ⟨b, eb, _, _, ob⟩ := rr1
              cases eb
              obtain ⟨oo, hoo⟩ := ob.there
              rw [ha] at hoo
              cases hoo
            · rw [List.getElem?_eq_none (by simpa using hll)] at hj
              cases hj
          · rw [List.getElem?_set_ne q] at hj ⊢
            exact s1.apart ha l e hj
        exact fin0 _ H2 G2 s4 (e1.p.trans e2.p)
  · have hw : wp (M.bind (M.bind ((md c ia).m ρ) fun xs => M.bind (M.bind ((md c ib).m ρ) fun ys => M.bind (M.pure []) fun zs => M.pure (ys ++ zs)) fun ys => M.pure (xs ++ ys)) fun ds => nxt (M.of (setPar ρ [i, j] [o1, o2] ds))) st (sPost X.K S.me W G0 H0 E G H) := hw
    rw [ma, mb] at hw
    refine go sg.g (wp_bind (wp_bind hw)) fun d1 st1 v H1 C1 p1 g1 r1 hh => ?_
    exact (wp_bind (wp_bind (wp_pure hh))).elim
end
end Wy

set_option Elab.async false
set_option linter.all false
set_option maxRecDepth 100000
set_option autoImplicit false
/-! WyR: more statements. -/
namespace Wy
open PySem PySem.Spec PyProof.Rows L2
section
variable {X : Cx} {c : Wy.Ctx} {S : Sc} {G0 : Gh} {H0 : Hp} {W : WX}
theorem s_ex {e : Expr} {pos : Pos} {ie : IE} {f : Bool} (hc : notComp e = true) (h : PE X e (tE X.K (FR X.K f) (md c ie).s)) : PS X (.Expr e pos) (tS X.K S.me W G0 H0 (xs c (.ex ie))) :=
  PSimp (ps_expr h (no_swap hc)) fun D σ H w => by
    obtain ⟨G, ρ, st, s, hw⟩ := w
    refine go s.g hw fun x st1 v H1 C1 p1 g1 r1 h1 => ?_
    exact wp_pure h1 σ H1 (G.at C1) (s.presG p1 g1.sr) p1.ext.p
theorem s_while (m : MtS X S c) {t : Expr} {body : List Stmt} {pos : Pos} {ie : IE} {ib : List IS} (ht : PT X t (tT X.K (md c ie).t)) (hb : PSs X body (tL X.K S.me W G0 H0 (xb c ib))) : PS X (.While t body [] pos) (tS X.K S.me W G0 H0 (xs c (.while_ ie ib))) :=
  PSimp (ps_while m.po ht hb) fun D σ H w => by
    obtain ⟨G, ρ, st, sg, hw⟩ := w
    refine ⟨fun n σ' H' => ∃ G' ρ' st', SG X.K G0 H0 G' σ' H' ρ' st' ∧ ExtP G H G' H' ∧ wp (whileLoop (md c ie).t (xb c ib) n ρ') st' (sPost X.K S.me W G0 H0 D G H), ⟨c.turns, G, ρ, st, sg, ExtP.refl _ _, hw⟩, ?_⟩
    rintro n σ' H' ⟨G', ρ', st', s', e', hr⟩
    cases n with
    | zero => exact hr.elim
    | succ n =>
      unfold whileLoop at hr
      refine goT s'.g hr fun b st2 H2 C2 p2 g2 h2 => ?_
      have s2 := s'.presG p2 g2.sr
      have e2 := e'.trans p2.ext.p
      cases b with
      | false =>
        rw [if_neg Bool.false_ne_true]
        exact wp_pure h2 σ' H2 (G'.at C2) s2 e2
      | true =>
        rw [if_pos rfl]
        refine ⟨fun σ3 H3 => ∃ G' ρ' st', SG X.K G0 H0 G' σ3 H3 ρ' st' ∧ ExtP G H G' H3 ∧ wp (whileLoop (md c ie).t (xb c ib) n ρ') st' (sPost X.K S.me W G0 H0 D G H), fun σ3 H3 h => ⟨n, by omega, h⟩, ⟨G'.at C2, ρ', st2, s2, wp_mono (wp_bind h2) fun o st3 ho => ?_⟩, fun _ _ z => z⟩
        cases o with
        | nx ρ3 => exact fun σ3 H3 G3 s3 e3 => ⟨G3, ρ3, st3, s3, e2.trans e3, ho⟩
        | rt v => exact wp_pure ho
        | er ρ3 k ys => exact fun σ3 H3 G3 cls d s3 e3 => wp_pure ho σ3 H3 G3 cls d s3 (e2.trans e3)
theorem ixN_last {n k : Nat} (h : ixNat n (-1) = some k) : k = n - 1 ∧ 0 < n := by
  unfold ixNat at h
  split at h <;> split at h <;> first | (cases h; done) | skip
  all_goals
    cases h
    omega
theorem eraseIdx_last {α : Type} : ∀ l : List α, l.eraseIdx (l.length - 1) = l.dropLast
  | [] => rfl
  | [a] => rfl
  | a :: b :: l => by
    show a :: (b :: l).eraseIdx ((b :: l).length - 1) = _
    rw [eraseIdx_last (b :: l)]
    rfl
/-- x = y.pop() -/
theorem s_pop (m : MtS X S c) {x y : Str} {xp yp ap cp pos : Pos} {i j : Nat} (h1 : atB S i x = true) (h2 : locB S x = true) (k1 : atB S j y = true) (k2 : visB S y = true) (k3 : evenB y = true) (hij : i ≠ j) (hl : (ap.endLine == cp.line) = true) :
    PS X (.Assign [.Name x xp] (.Call (.Attribute (.Name y yp) "pop" ap) [] [] cp) pos) (tS X.K S.me W G0 H0 (xs c (.pop i j))) := by
  have hpop := pe_bm0 (apos := ap) (cpos := cp) PySem.F.plainAttrs_list PySem.F.slot_list_pop PySem.F.type_list_pop mt_pop (pe_var (pos := yp) (m.at_ k1) (m.vis k2) (even_1 k3).1 (even_1 k3).2.1) hbaseN hl
  have P := ps_asg (pos := pos) hpop (pg_n m.toMt h1 h2 (pos := xp)) (show swapsWithSole [.Name x xp] (.Call (.Attribute (.Name y yp) "pop" ap) [] [] cp) pos.line X.env = pure false from rfl) rfl rfl
  refine ⟨fun pins s σ H E I w => P.run pins s σ H E I ?_⟩
  have hi := m.toMt.lt h1 I
  obtain ⟨G, ρ, st, sg, hw⟩ := w
  obtain ⟨p, e, hz⟩ := wp_of (wp_bind hw)
  obtain ⟨d, ρ1⟩ := p
  obtain ⟨ys, k, q1, q0, q2, q3, q4⟩ := popAt_1 e
  obtain ⟨l, vs, hu, hO, hl0, rz⟩ := own_slot sg q1
  obtain ⟨ek, hpos⟩ := ixN_last q2
  subst ek q4
  obtain ⟨w, hw1, rw1⟩ := rz.get q3
  have e1 : vs.length = ys.length := rz.len
  refine ⟨.ref l, hu, lst_ty hl0, l, vs, w, rfl, rfl, hl0, by rw [e1]; exact hw1, ?_⟩
  have rz2 : Reps X.K G.C (G.h H) vs.dropLast (ys.eraseIdx (ys.length - 1)) := by
    have := Reps.erase (ys.length - 1) rz
    rwa [← e1, eraseIdx_last, e1] at this
  have s2 := sg.upd (o := .lst vs.dropLast) q1 hu (.inl ⟨vs.dropLast, ys.eraseIdx (ys.length - 1), rfl, upd_same, by rw [hid_upd hO]; exact rz2⟩)
  have rw2 : SRep X.K G (upd H l (.lst vs.dropLast)) w d := by
    show Rep X.K G.C (G.h (upd H l (.lst vs.dropLast))) w d
    rw [hid_upd hO]
    exact rw1
  exact ⟨G, _, st, d, _, s2.g, rw2, rfl, fun σ' g' df => wp_pure hz σ' _ G (s2.tg g' df rfl) (extP_upd hO)⟩
/-- x = y.pop(e) -/
theorem s_popI (m : MtS X S c) {x y : Str} {xp yp ap cp pos : Pos} {i j : Nat} {a : Expr} {ia : IE} {fa : Bool} (h1 : atB S i x = true) (h2 : locB S x = true) (k1 : atB S j y = true) (k2 : visB S y = true) (k3 : evenB y = true) (hij : i ≠ j) (hs : notStar a = true) (hl : (ap.endLine == cp.line) = true) (ha : PE X a (tE X.K (FR X.K fa) (md c ia).s)) :
    PS X (.Assign [.Name x xp] (.Call (.Attribute (.Name y yp) "pop" ap) [a] [] cp) pos) (tS X.K S.me W G0 H0 (xs c (.popI i j ia))) := by
  have hpop := pe_bm (apos := ap) (cpos := cp) PySem.F.plainAttrs_list PySem.F.slot_list_pop PySem.F.type_list_pop mt_popAt (pe_var (pos := yp) (m.at_ k1) (m.vis k2) (even_1 k3).1 (even_1 k3).2.1) (pa_cons ha pa_nil (star1 hs)) hbaseN (by rw [star1 hs]; rfl) hl (star1 hs) rfl
  have P := ps_asg (pos := pos) hpop (pg_n m.toMt h1 h2 (pos := xp)) (show swapsWithSole [.Name x xp] (.Call (.Attribute (.Name y yp) "pop" ap) [a] [] cp) pos.line X.env = pure false from rfl) rfl rfl
  refine ⟨fun pins s σ H E I w => P.run pins s σ H E I ?_⟩
  have hi := m.toMt.lt h1 I
  obtain ⟨G, ρ, st, sg, hw⟩ := w
  have hslot : ∃ zs, ρ[j]? = some (some (.lst zs, true)) := by
    obtain ⟨z, st2, hz⟩ := wp_some (wp_bind hw)
    obtain ⟨p, e, hz⟩ := wp_of (wp_bind hz)
    obtain ⟨n, _, e⟩ := Option.bind_eq_some_iff.mp e
    obtain ⟨xs, k, q1, q0, q2, q3, q4⟩ := popAt_1 (ρ' := p.2) (d := p.1) e
    exact ⟨xs, q1⟩
  obtain ⟨zs0, hz0⟩ := hslot
  obtain ⟨l2, us0, hv, _, hl20, _⟩ := own_slot sg hz0
  refine ⟨.ref l2, hv, lst_ty hl20, ?_⟩
  refine go sg.g hw fun n st1 v H1 C1 p1 g1 r1 h1 => ?_
  have s1 := sg.presG p1 g1.sr
  obtain ⟨p, e, hz⟩ := wp_of (wp_bind h1)
  obtain ⟨n', e0, e⟩ := Option.bind_eq_some_iff.mp e
  obtain ⟨d, ρ1⟩ := p
  obtain ⟨xs, k, q1, q0, q2, q3, q4⟩ := popAt_1 e
  rw [hz0] at q1
  cases q1
  cases n <;> first | (simp [intOf] at e0; done) | skip
  simp only [intOf, Option.some.injEq] at e0
  subst e0
  have ev := BRep.int (.inl r1.1)
  subst ev
  obtain ⟨l2', us, hv', o2, hl2', rz⟩ := own_slot s1 hz0
  rw [hv] at hv'
  cases hv'
  have hlen : us.length < 2 ^ 62 := by
    rw [rz.len]
    unfold sizeMax at q0
    omega
  obtain ⟨w, hw1, rw1⟩ := rz.get q3
  obtain ⟨ii1, ii2, ii3, ii4⟩ := ixN_seq (show ixN zs0.length _ = some k from q2)
  refine ⟨l2, us, _, k, w, rfl, rfl, hl2', by rw [rz.len] at hlen; omega, by rw [rz.len] at hlen; omega, by rw [rz.len]; exact ii1, hw1, ?_⟩
  have s2 := s1.upd (o := .lst (us.eraseIdx k)) hz0 hv (.inl ⟨us.eraseIdx k, zs0.eraseIdx k, rfl, upd_same, by rw [hid_upd o2]; exact Reps.erase k rz⟩)
  subst q4
  have rw2 : SRep X.K (G.at C1) (upd H1 l2 (.lst (us.eraseIdx k))) w d := by
    show Rep X.K (G.at C1).C ((G.at C1).h (upd H1 l2 (.lst (us.eraseIdx k)))) w d
    rw [hid_upd o2]
    exact rw1
  exact ⟨G.at C1, _, st1, d, _, s2.g, rw2, rfl, fun σ' g' df => wp_pure hz σ' _ (G.at C1) (s2.tg g' df rfl) (p1.ext.p.trans (extP_upd o2))⟩
end
end Wy

set_option Elab.async false
set_option linter.all false
set_option maxRecDepth 100000
set_option autoImplicit false
/-! WyRp: a, b, c = x, y, z. -/
namespace Wy
open PySem PySem.Spec PyProof.Rows L2
section
variable {X : Cx} {c : Wy.Ctx} {S : Sc} {G0 : Gh} {H0 : Hp} {W : WX}
def swap3 (S : Sc) (x y z : Str) (px py pz : Pos) (a b d : Expr) : Bool :=
  (lk S.sc.names x == some .local) && (lk S.sc.names y == some .local) && (lk S.sc.names z == some .local) && (py.line == px.line) && (pz.line == px.line) && !sEq x y && !sEq x z && !sEq y z && notStar a && notStar b && notStar d && !([a, b, d].all (foldedForSure 8)) && !([a, b, d].all (constantsAlone 8))
theorem sEq_symm {x y : Str} (h : sEq x y = false) : (y == x) = false := by
  rw [sEq_beq]
  cases q : sEq y x with
  | false => rfl
  | true =>
    rw [sEq_eq q] at h
    simp [sEq] at h
theorem swapped3 (m : MtS X S c) {x y z : Str} {px py pz pt : Pos} {a b d : Expr} {kt k2 : Nat} {pt2 : Pos} (h : swap3 S x y z px py pz a b d = true) : swappedStores [.Tuple [.Name x px, .Name y py, .Name z pz] kt pt] (.Tuple [a, b, d] k2 pt2) X.env = pure (some [x, y, z]) := by
  unfold swap3 at h
  simp only [Bool.and_eq_true, beq_iff_eq, Bool.not_eq_true'] at h
  obtain ⟨⟨⟨⟨⟨⟨⟨⟨⟨⟨⟨⟨h1, h2⟩, h3⟩, l1⟩, l2⟩, n1⟩, n2⟩, n3⟩, sa⟩, sb⟩, sd⟩, f1⟩, f2⟩ := h
  have kin : ∀ {x : Str}, lk S.sc.names x = some .local → X.env.kindOf x = some .local := fun {x} h => by
    unfold PySem.Env.kindOf
    rw [m.sc, lk_eq]
    exact h
  have hx := kin h1
  have hy := kin h2
  have hz := kin h3
  have yx := sEq_symm n1
  have zx := sEq_symm n2
  have zy := sEq_symm n3
  have st : ([a, b, d].any fun | .Starred .. => true | _ => false) = false := by
    have : ∀ e : Expr, notStar e = true → (match e with | .Starred .. => true | _ => false) = false := fun e h => by cases e <;> first | rfl | exact absurd h Bool.false_ne_true
    rw [List.any_eq_false]
    intro e he
    simp only [List.mem_cons, List.not_mem_nil, or_false] at he
    rcases he with rfl | rfl | rfl
    · rw [this _ sa]; decide
    · rw [this _ sb]; decide
    · rw [this _ sd]; decide
  unfold swappedStores
  simp only [m.bk, hx, hy, hz, List.length_cons, List.length_nil, List.filterMap_cons, List.filterMap_nil, List.head?_cons, Option.map_some, Option.getD_some, Expr.pos, l1, l2, beq_self_eq_true, Bool.and_self, if_true, f1, f2, List.eraseDups_cons, List.eraseDups_nil, List.filter_cons, List.filter_nil, yx, zx, zy]
  rw [if_neg (by decide)]
  split
  · rename_i hh
    exact absurd (st.symm.trans hh) (by decide)
  · rw [if_neg (by simp [List.eraseDups_cons, yx, zx, zy]), if_neg (by decide), if_neg (by decide)]
theorem set_far {ρ : Wy.Env} {σ : L2.St} {i : Nat} {d : D} {o : Bool} {v : V} {a : Addr} (hi : i < σ.length) (h : ∀ (l : Nat) (e : D), ρ[l]? = some (some (e, true)) → σ[l]? ≠ some (some (.ref a))) (hv : o = true → v ≠ .ref a) : ∀ (l : Nat) (e : D), (setS ρ i d o)[l]? = some (some (e, true)) → (σ.set i (some v))[l]? ≠ some (some (.ref a)) := fun l e hl => by
  unfold setS at hl
  by_cases q : i = l
  · subst q
    rw [List.getElem?_set_self hi]
    by_cases hll : i < ρ.length
    · rw [List.getElem?_set_self hll] at hl
      cases hl
      intro z
      cases z
      exact hv rfl rfl
    · rw [List.getElem?_eq_none (by simpa using hll)] at hl
      cases hl
  · rw [List.getElem?_set_ne q] at hl ⊢
    exact h l e hl
theorem own_far {K : PySem.W.Frag} {G : Gh} {H : Hp} {v : V} {d : D} {o : Bool} {a : Addr} (r : if o = true then OwnRep K G H v d else SRep K G H v d) (ha : H a = none) : o = true → v ≠ .ref a := fun z => by
  rw [if_pos z] at r
  obtain ⟨b, rfl, _, _, ob⟩ := r
  obtain ⟨oo, hoo⟩ := ob.there
  intro e
  cases e
  rw [ha] at hoo
  cases hoo
theorem rep_ext {K : PySem.W.Frag} {G G2 : Gh} {H H2 : Hp} {v : V} {d : D} {o : Bool} (e : Ext G H G2 H2) (r : if o = true then OwnRep K G H v d else SRep K G H v d) : if o = true then OwnRep K G2 H2 v d else SRep K G2 H2 v d := by
  cases o with
  | true => rw [if_pos rfl] at r ⊢; exact r.ext e
  | false => rw [if_neg Bool.false_ne_true] at r ⊢; exact SRep.ext e r
theorem row3 {A B C : Md} {ma mb mc : Env → M D} (ha : A.m = mOf ma) (hb : B.m = mOf mb) (hc : C.m = mOf mc) {ρ : Env} {st : Wy.St} {β : Type} {f : List D → M β} {Q : β → Wy.St → Prop} (h : wp (M.bind (row [A, B, C] ρ) f) st Q) :
    wp (M.bind (ma ρ) fun x => M.bind (mb ρ) fun y => M.bind (mc ρ) fun z => f [x, y, z]) st Q := by
  have h : wp (M.bind (M.bind (A.m ρ) fun xs => M.bind (M.bind (B.m ρ) fun ys => M.bind (M.bind (C.m ρ) fun zs => M.bind (M.pure []) fun ws => M.pure (zs ++ ws)) fun zs => M.pure (ys ++ zs)) fun ys => M.pure (xs ++ ys)) f) st Q := h
  rw [ha, hb, hc] at h
  simp only [wp, M.bind, mOf, M.pure] at h ⊢
  cases q1 : ma ρ st with
  | ok x s1 =>
    simp only [q1] at h ⊢
    cases q2 : mb ρ s1 with
    | ok y s2 =>
      simp only [q2] at h ⊢
      cases q3 : mc ρ s2 with
      | ok z s3 =>
        simp only [q3] at h ⊢
        exact h
      | exc _ _ _ => simp only [q3] at h
      | stuck => simp only [q3] at h
    | exc _ _ _ => simp only [q2] at h
    | stuck => simp only [q2] at h
  | exc _ _ _ => simp only [q1] at h
  | stuck => simp only [q1] at h
theorem tE_mono {K : PySem.W.Frag} {rel : Rel} {m : Env → M D} {σ : L2.St} {H : Hp} {Q Q' : VK} (k : ∀ v H', Q v H' → Q' v H') (h : tE K rel m σ H Q) : tE K rel m σ H Q' := by
  obtain ⟨G, ρ, st, g, h⟩ := h
  exact ⟨G, ρ, st, g, wp_mono h fun d st' q v H' C' p s r => k v H' (q v H' C' p s r)⟩
theorem tc3_mono {K : PySem.W.Frag} {r1 r2 r3 : Rel} {m1 m2 m3 : Env → M D} {σ : L2.St} {H : Hp} {Q Q' : List V → Hp → Prop} (k : ∀ vs H', Q vs H' → Q' vs H') (h : tCons (tE K r1 m1) (tCons (tE K r2 m2) (tCons (tE K r3 m3) tNil)) σ H Q) : tCons (tE K r1 m1) (tCons (tE K r2 m2) (tCons (tE K r3 m3) tNil)) σ H Q' :=
  tE_mono (fun _ _ => tE_mono fun _ _ => tE_mono fun _ _ => k _ _) h
theorem tc2_mono {K : PySem.W.Frag} {r1 r2 : Rel} {m1 m2 : Env → M D} {σ : L2.St} {H : Hp} {Q Q' : List V → Hp → Prop} (k : ∀ vs H', Q vs H' → Q' vs H') (h : tCons (tE K r1 m1) (tCons (tE K r2 m2) tNil) σ H Q) : tCons (tE K r1 m1) (tCons (tE K r2 m2) tNil) σ H Q' :=
  tE_mono (fun _ _ => tE_mono fun _ _ => k _ _) h
/-- three values, then the stores; the heap may have grown -/
theorem par3_core (m : MtS X S c) {x y z : Str} {i j l : Nat} {o1 o2 o3 f1 f2 f3 : Bool} {ia ib id : IE} (hx1 : atB S i x = true) (hy1 : atB S j y = true) (hz1 : atB S l z = true) (q1 : o1 = true → f1 = true) (q2 : o2 = true → f2 = true) (q3 : o3 = true → f3 = true)
    (ma : (md c ia).m = mOf (md c ia).s) (mb : (md c ib).m = mOf (md c ib).s) (mc : (md c id).m = mOf (md c id).s)
    {pins : List (Addr × Obj)} {s : Shared} {σ : L2.St} {H : Hp} {E : Ends} (I : Inv X pins σ H s) (w : tS X.K S.me W G0 H0 (xs c (.par [i, j, l] [o1, o2, o3] [ia, ib, id])) E σ H) :
    tCons (tE X.K (FR X.K f1) (md c ia).s) (tCons (tE X.K (FR X.K f2) (md c ib).s) (tCons (tE X.K (FR X.K f3) (md c id).s) tNil)) σ H fun vs H1 => ∃ u v w, vs = [u, v, w] ∧ ∀ H2, Same H1 H2 → E.nx (((σ.set i (some u)).set j (some v)).set l (some w)) H2 := by
  have hi := m.toMt.lt hx1 I
  have hj := m.toMt.lt hy1 I
  have hl := m.toMt.lt hz1 I
  obtain ⟨G, ρ, st, sg, hw⟩ := w
  have hw : wp (M.bind (row (mds c [ia, ib, id]) ρ) fun ds => nxt (M.of (setPar ρ [i, j, l] [o1, o2, o3] ds))) st (sPost X.K S.me W G0 H0 E G H) := hw
  have hw := row3 ma mb mc hw
  refine go sg.g hw fun d1 st1 v1 H1 C1 p1 g1 r1 hh1 => ?_
  have par : ∀ {d1 d2 d3 : D} {st : Wy.St} {Q : Out → Wy.St → Prop}, wp (nxt (M.of (setPar ρ [i, j, l] [o1, o2, o3] [d1, d2, d3]))) st Q → (o1 = true → mutD d1 = true) ∧ (o2 = true → mutD d2 = true) ∧ (o3 = true → mutD d3 = true) ∧ Q (.nx (setS (setS (setS ρ i d1 o1) j d2 o2) l d3 o3)) st := fun {d1 d2 d3 st Q} h => by
    obtain ⟨ρ', e, k⟩ := wp_of (nxt_1 h)
    have e : (if (o1 && !mutD d1) = true then none else if (o2 && !mutD d2) = true then none else if (o3 && !mutD d3) = true then none else some (setS (setS (setS ρ i d1 o1) j d2 o2) l d3 o3)) = some ρ' := e
    have use : ∀ {o : Bool} {d : D}, ¬ (o && !mutD d) = true → o = true → mutD d = true := fun {o d} hn z => by
      cases q : mutD d with
      | true => rfl
      | false => exact (hn (by rw [z, q]; rfl)).elim
    split at e
    · cases e
    · split at e
      · cases e
      · split at e
        · cases e
        · rename_i w1 w2 w3
          cases e
          exact ⟨use w1, use w2, use w3, k⟩
  have m1 : o1 = true → mutD d1 = true := by
    obtain ⟨d2, st2, k⟩ := wp_some (wp_bind hh1)
    obtain ⟨d3, st3, k⟩ := wp_some (wp_bind k)
    exact (par k).1
  obtain ⟨G1, s1, e1, rr1, na1⟩ := sg.take (o := o1) p1 g1.sr r1 fun z => ⟨q1 z, m1 z⟩
  refine ⟨G1, ρ, st1, s1.g, wp_mono (wp_bind hh1) fun d2 st2 hh2 v2 H2 C2 p2 sr2 r2 => ?_⟩
  have m2 : o2 = true → mutD d2 = true := by
    obtain ⟨d3, st3, k⟩ := wp_some (wp_bind hh2)
    exact (par k).2.1
  obtain ⟨G2, s2, e2, rr2, na2⟩ := s1.take (o := o2) p2 sr2 r2 fun z => ⟨q2 z, m2 z⟩
  refine ⟨G2, ρ, st2, s2.g, wp_mono (wp_bind hh2) fun d3 st3 hh3 v3 H3 C3 p3 sr3 r3 => ?_⟩
  obtain ⟨_, _, m3, fin0⟩ := par hh3
  obtain ⟨G3, s3, e3, rr3, na3⟩ := s2.take (o := o3) p3 sr3 r3 fun z => ⟨q3 z, m3 z⟩
  refine ⟨v1, v2, v3, rfl, fun H4 sm => ?_⟩
  have ra1 := rep_ext e2 rr1
  have rb1 := rep_ext e3 ra1
  have rb2 := rep_ext e3 rr2
  have t1 := s3.put (i := i) hi rb1 fun z => by
    obtain ⟨a, rfl, ha, hG⟩ := na1 z
    exact ⟨a, rfl, hG, sg.none0 ha, fun j e _ hj => sg.apart ha j e hj⟩
  have t2 := t1.put (i := j) (by rw [List.length_set]; exact hj) rb2 fun z => by
    obtain ⟨a, rfl, ha, hG⟩ := na2 z
    exact ⟨a, rfl, hG, s1.none0 ha, fun k e _ hk => set_far hi (fun l e h => s1.apart ha l e h) (own_far rr1 ha) k e hk⟩
  have t3 := t2.put (i := l) (by rw [List.length_set, List.length_set]; exact hl) rr3 fun z => by
    obtain ⟨a, rfl, ha, hG⟩ := na3 z
    exact ⟨a, rfl, hG, s2.none0 ha, fun k e _ hk => set_far (by rw [List.length_set]; exact hj) (set_far hi (fun l e h => s2.apart ha l e h) (own_far ra1 ha)) (own_far rr2 ha) k e hk⟩
  exact fin0 _ H4 (G3.at G3.C) (t3.presG (Pres.more sm) (t3.g.sr.more sm)) (((e1.p.trans e2.p).trans e3.p).trans (Ext.more sm).p)
theorem s_par3 (m : MtS X S c) {x y z : Str} {px py pz pt pos pt2 : Pos} {a b d : Expr} {kt k2 i j l : Nat} {o1 o2 o3 f1 f2 f3 : Bool} {ia ib id : IE} (hx1 : atB S i x = true) (hy1 : atB S j y = true) (hz1 : atB S l z = true) (hij : i ≠ j) (hil : i ≠ l) (hjl : j ≠ l) (hw : swap3 S x y z px py pz a b d = true) (q1 : o1 = true → f1 = true) (q2 : o2 = true → f2 = true) (q3 : o3 = true → f3 = true)
    (ma : (md c ia).m = mOf (md c ia).s) (mb : (md c ib).m = mOf (md c ib).s) (mc : (md c id).m = mOf (md c id).s)
    (ha : PE X a (tE X.K (FR X.K f1) (md c ia).s)) (hb : PE X b (tE X.K (FR X.K f2) (md c ib).s)) (hd : PE X d (tE X.K (FR X.K f3) (md c id).s)) :
    PS X (.Assign [.Tuple [.Name x px, .Name y py, .Name z pz] kt pt] (.Tuple [a, b, d] k2 pt2) pos) (tS X.K S.me W G0 H0 (xs c (.par [i, j, l] [o1, o2, o3] [ia, ib, id]))) := by
  have hw2 := swapped3 m hw (pt := pt) (kt := kt) (k2 := k2) (pt2 := pt2)
  unfold swap3 at hw
  simp only [Bool.and_eq_true, beq_iff_eq, Bool.not_eq_true'] at hw
  obtain ⟨⟨⟨⟨⟨⟨⟨⟨⟨⟨⟨⟨h1, h2⟩, h3⟩, l1⟩, l2⟩, n1⟩, n2⟩, n3⟩, sa⟩, sb⟩, sd⟩, g1⟩, g2⟩ := hw
  have P := ps_par3 (pos := pos) (kt := kt) (k2 := k2) (pt := pt) (pt2 := pt2) (px := px) (py := py) (pz := pz) m.calm m.ndX (m.at_ hx1) (m.at_ hy1) (m.at_ hz1) hij hil hjl (by rw [m.sc, lk_eq]; exact h1) (by rw [m.sc, lk_eq]; exact h2) (by rw [m.sc, lk_eq]; exact h3) (pa_cons ha (pa_cons hb (pa_cons hd pa_nil (star1 sd)) (star1 sb)) (star1 sa)) hw2 rfl
  refine ⟨fun pins s σ H E I w => P.run pins s σ H E I ?_⟩
  have k := par3_core m hx1 hy1 hz1 q1 q2 q3 ma mb mc I w
  exact tc3_mono (fun vs H1 ⟨u, v, w, e, q⟩ => ⟨u, v, w, e, q H1 (Same.refl _)⟩) k
/-- .. by way of a tuple: some name is seen from within -/
def swapN (S : Sc) (l0 : Nat) : List (Str × Pos) → Bool
  | [] => false
  | q :: r => !((lk S.sc.names q.1 == some .local) && (q.2.line == l0)) || swapN S l0 r
theorem none_len (m : MtS X S c) {l0 : Nat} : ∀ {ns : List (Str × Pos)}, swapN S l0 ns = true →
    ((ns.map fun q => Expr.Name q.1 q.2).filterMap fun | .Name id pos => if X.env.kindOf id == some .local && pos.line == l0 then some id else none | _ => none).length < ns.length
  | [], h => by cases h
  | q :: r, h => by
    unfold swapN at h
    have le : ∀ ns : List (Str × Pos), ((ns.map fun q => Expr.Name q.1 q.2).filterMap fun | .Name id pos => if X.env.kindOf id == some .local && pos.line == l0 then some id else none | _ => none).length ≤ ns.length := fun ns => by
      refine Nat.le_trans (List.length_filterMap_le _ _) ?_
      rw [List.length_map]
      exact Nat.le_refl _
    have kin : X.env.kindOf q.1 = lk S.sc.names q.1 := by
      unfold PySem.Env.kindOf
      rw [m.sc, lk_eq]
    rw [List.map_cons, List.filterMap_cons]
    cases e : (X.env.kindOf q.1 == some .local && q.2.line == l0) with
    | false =>
      simp only [e, Bool.false_eq_true, if_false]
      have := le r
      simp only [List.length_cons]
      omega
    | true =>
      rw [kin] at e
      rw [e] at h
      simp only [Bool.not_true, Bool.false_or] at h
      have := none_len m (ns := r) h
      rw [← kin] at e
      simp only [e, if_true, List.length_cons]
      omega
theorem swappedN (m : MtS X S c) {q : Str × Pos} {r : List (Str × Pos)} {es : List Expr} {kt k2 : Nat} {pt pt2 : Pos} (h : (swapN S q.2.line (q :: r) || es.all (foldedForSure 8)) = true) (hs : es.all notStar = true) (hl : es.length = (q :: r).length) : swappedStores [.Tuple ((q :: r).map fun q => Expr.Name q.1 q.2) kt pt] (.Tuple es k2 pt2) X.env = pure none := by
  rw [Bool.or_eq_true] at h
  unfold swappedStores
  simp only []
  split
  · rfl
  · split
    · rfl
    · split
      · rfl
      · rename_i z
        rcases h with h | h
        · have h1 := none_len m h
          refine absurd ?_ z
          have e : (((q :: r).map fun q => Expr.Name q.1 q.2).head?.map (·.pos.line)).getD 0 = q.2.line := rfl
          rw [e]
          simp only [Bool.or_eq_true, bne_iff_ne, List.length_map]
          exact .inl (Nat.ne_of_lt h1)
        · rw [if_pos h]
theorem s_par3c (m : MtS X S c) {x y z : Str} {px py pz pt pos pt2 : Pos} {a b d : Expr} {kt k2 i j l : Nat} {o1 o2 o3 f1 f2 f3 : Bool} {ia ib id : IE} (hx1 : atB S i x = true) (hy1 : atB S j y = true) (hz1 : atB S l z = true) (lx : locB S x = true) (ly : locB S y = true) (lz : locB S z = true) (hw : (swapN S px.line [(x, px), (y, py), (z, pz)] || [a, b, d].all (foldedForSure 8)) = true) (sa : notStar a = true) (sb : notStar b = true) (sd : notStar d = true) (q1 : o1 = true → f1 = true) (q2 : o2 = true → f2 = true) (q3 : o3 = true → f3 = true)
    (ma : (md c ia).m = mOf (md c ia).s) (mb : (md c ib).m = mOf (md c ib).s) (mc : (md c id).m = mOf (md c id).s)
    (ha : PE X a (tE X.K (FR X.K f1) (md c ia).s)) (hb : PE X b (tE X.K (FR X.K f2) (md c ib).s)) (hd : PE X d (tE X.K (FR X.K f3) (md c id).s)) :
    PS X (.Assign [.Tuple [.Name x px, .Name y py, .Name z pz] kt pt] (.Tuple [a, b, d] k2 pt2) pos) (tS X.K S.me W G0 H0 (xs c (.par [i, j, l] [o1, o2, o3] [ia, ib, id]))) := by
  have hw2 := swappedN m (q := (x, px)) (r := [(y, py), (z, pz)]) (es := [a, b, d]) (kt := kt) (k2 := k2) (pt := pt) (pt2 := pt2) hw (by simp [sa, sb, sd]) rfl
  have PG3 := pg_tup (n := 3) (k := kt) (pos := pt) m.calm (pgs_cons (pg_name (pos := px) m.ndX (m.at_ hx1) (m.toMt.loc lx).1 (m.toMt.loc lx).2) (pgs_cons (pg_name (pos := py) m.ndX (m.at_ hy1) (m.toMt.loc ly).1 (m.toMt.loc ly).2) (pgs_cons (pg_name (pos := pz) m.ndX (m.at_ hz1) (m.toMt.loc lz).1 (m.toMt.loc lz).2) pgs_nil)))
  have P := ps_asg (pos := pos) (pe_tup (x1 := k2) (pos := pt2) (pa_cons ha (pa_cons hb (pa_cons hd pa_nil (star1 sd)) (star1 sb)) (star1 sa))) PG3 rfl hw2 rfl
  refine ⟨fun pins s σ H E I w => P.run pins s σ H E I ?_⟩
  have k := par3_core m hx1 hy1 hz1 q1 q2 q3 ma mb mc I w
  refine tc3_mono (Q' := fun xs H1 => xs.length ≤ sizeLine ∧ ∀ p, H1 p = none → gTup X.K 3 (gCons (gName i) (gCons (gName j) (gCons (gName l) gNil))) (.ref p) σ (L2.upd H1 p (.tup xs)) E.nx) (fun vs H1 h => ?_) k
  obtain ⟨u, v, w, rfl, q⟩ := h
  exact ⟨by show 3 ≤ sizeLine; decide, fun p hp => ⟨p, [u, v, w], rfl, .of upd_same, rfl, u, [v, w], rfl, v, [w], rfl, w, [], rfl, rfl, q _ (same_new hp)⟩⟩
theorem row2 {A B : Md} {ma mb : Env → M D} (ha : A.m = mOf ma) (hb : B.m = mOf mb) {ρ : Env} {st : Wy.St} {β : Type} {f : List D → M β} {Q : β → Wy.St → Prop} (h : wp (M.bind (row [A, B] ρ) f) st Q) :
    wp (M.bind (ma ρ) fun x => M.bind (mb ρ) fun y => f [x, y]) st Q := by
  have h : wp (M.bind (M.bind (A.m ρ) fun xs => M.bind (M.bind (B.m ρ) fun ys => M.bind (M.pure []) fun ws => M.pure (ys ++ ws)) fun ys => M.pure (xs ++ ys)) f) st Q := h
  rw [ha, hb] at h
  simp only [wp, M.bind, mOf, M.pure] at h ⊢
  cases q1 : ma ρ st with
  | ok x s1 =>
    simp only [q1] at h ⊢
    cases q2 : mb ρ s1 with
    | ok y s2 =>
      simp only [q2] at h ⊢
      exact h
    | exc _ _ _ => simp only [q2] at h
    | stuck => simp only [q2] at h
  | exc _ _ _ => simp only [q1] at h
  | stuck => simp only [q1] at h
theorem par2_core (m : MtS X S c) {x y : Str} {i j : Nat} {o1 o2 f1 f2 : Bool} {ia ib : IE} (hx1 : atB S i x = true) (hy1 : atB S j y = true) (q1 : o1 = true → f1 = true) (q2 : o2 = true → f2 = true)
    (ma : (md c ia).m = mOf (md c ia).s) (mb : (md c ib).m = mOf (md c ib).s)
    {pins : List (Addr × Obj)} {s : Shared} {σ : L2.St} {H : Hp} {E : Ends} (I : Inv X pins σ H s) (w : tS X.K S.me W G0 H0 (xs c (.par [i, j] [o1, o2] [ia, ib])) E σ H) :
    tCons (tE X.K (FR X.K f1) (md c ia).s) (tCons (tE X.K (FR X.K f2) (md c ib).s) tNil) σ H fun vs H1 => ∃ u v, vs = [u, v] ∧ ∀ H2, Same H1 H2 → E.nx ((σ.set i (some u)).set j (some v)) H2 := by
  have hi := m.toMt.lt hx1 I
  have hj := m.toMt.lt hy1 I
  obtain ⟨G, ρ, st, sg, hw⟩ := w
  have hw : wp (M.bind (row (mds c [ia, ib]) ρ) fun ds => nxt (M.of (setPar ρ [i, j] [o1, o2] ds))) st (sPost X.K S.me W G0 H0 E G H) := hw
  have hw := row2 ma mb hw
  refine go sg.g hw fun d1 st1 v1 H1 C1 p1 g1 r1 hh1 => ?_
  have par : ∀ {d1 d2 : D} {st : Wy.St} {Q : Out → Wy.St → Prop}, wp (nxt (M.of (setPar ρ [i, j] [o1, o2] [d1, d2]))) st Q → (o1 = true → mutD d1 = true) ∧ (o2 = true → mutD d2 = true) ∧ Q (.nx (setS (setS ρ i d1 o1) j d2 o2)) st := fun {d1 d2 st Q} h => by
    obtain ⟨ρ', e, k⟩ := wp_of (nxt_1 h)
    have e : (if (o1 && !mutD d1) = true then none else if (o2 && !mutD d2) = true then none else some (setS (setS ρ i d1 o1) j d2 o2)) = some ρ' := e
    have use : ∀ {o : Bool} {d : D}, ¬ (o && !mutD d) = true → o = true → mutD d = true := fun {o d} hn z => by
      cases q : mutD d with
      | true => rfl
      | false => exact (hn (by rw [z, q]; rfl)).elim
    split at e
    · cases e
    · split at e
      · cases e
      · rename_i w1 w2
        cases e
        exact ⟨use w1, use w2, k⟩
  have m1 : o1 = true → mutD d1 = true := by
    obtain ⟨d2, st2, k⟩ := wp_some (wp_bind hh1)
    exact (par k).1
  obtain ⟨G1, s1, e1, rr1, na1⟩ := sg.take (o := o1) p1 g1.sr r1 fun z => ⟨q1 z, m1 z⟩
  refine ⟨G1, ρ, st1, s1.g, wp_mono (wp_bind hh1) fun d2 st2 hh2 v2 H2 C2 p2 sr2 r2 => ?_⟩
  obtain ⟨_, m2, fin0⟩ := par hh2
  obtain ⟨G2, s2, e2, rr2, na2⟩ := s1.take (o := o2) p2 sr2 r2 fun z => ⟨q2 z, m2 z⟩
  refine ⟨v1, v2, rfl, fun H4 sm => ?_⟩
  have ra1 := rep_ext e2 rr1
  have t1 := s2.put (i := i) hi ra1 fun z => by
    obtain ⟨a, rfl, ha, hG⟩ := na1 z
    exact ⟨a, rfl, hG, sg.none0 ha, fun j e _ hj => sg.apart ha j e hj⟩
  have t2 := t1.put (i := j) (by rw [List.length_set]; exact hj) rr2 fun z => by
    obtain ⟨a, rfl, ha, hG⟩ := na2 z
    exact ⟨a, rfl, hG, s1.none0 ha, fun k e _ hk => set_far hi (fun l e h => s1.apart ha l e h) (own_far rr1 ha) k e hk⟩
  exact fin0 _ H4 (G2.at G2.C) (t2.presG (Pres.more sm) (t2.g.sr.more sm)) ((e1.p.trans e2.p).trans (Ext.more sm).p)
theorem s_par2c (m : MtS X S c) {x y : Str} {px py pt pos pt2 : Pos} {a b : Expr} {kt k2 i j : Nat} {o1 o2 f1 f2 : Bool} {ia ib : IE} (hx1 : atB S i x = true) (hy1 : atB S j y = true) (lx : locB S x = true) (ly : locB S y = true) (hw : (swapN S px.line [(x, px), (y, py)] || [a, b].all (foldedForSure 8)) = true) (sa : notStar a = true) (sb : notStar b = true) (q1 : o1 = true → f1 = true) (q2 : o2 = true → f2 = true)
    (ma : (md c ia).m = mOf (md c ia).s) (mb : (md c ib).m = mOf (md c ib).s)
    (ha : PE X a (tE X.K (FR X.K f1) (md c ia).s)) (hb : PE X b (tE X.K (FR X.K f2) (md c ib).s)) :
    PS X (.Assign [.Tuple [.Name x px, .Name y py] kt pt] (.Tuple [a, b] k2 pt2) pos) (tS X.K S.me W G0 H0 (xs c (.par [i, j] [o1, o2] [ia, ib]))) := by
  have hw2 := swappedN m (q := (x, px)) (r := [(y, py)]) (es := [a, b]) (kt := kt) (k2 := k2) (pt := pt) (pt2 := pt2) hw (by simp [sa, sb]) rfl
  have PG2 := pg_tup (n := 2) (k := kt) (pos := pt) m.calm (pgs_cons (pg_name (pos := px) m.ndX (m.at_ hx1) (m.toMt.loc lx).1 (m.toMt.loc lx).2) (pgs_cons (pg_name (pos := py) m.ndX (m.at_ hy1) (m.toMt.loc ly).1 (m.toMt.loc ly).2) pgs_nil))
  have P := ps_asg (pos := pos) (pe_tup (x1 := k2) (pos := pt2) (pa_cons ha (pa_cons hb pa_nil (star1 sb)) (star1 sa))) PG2 rfl hw2 rfl
  refine ⟨fun pins s σ H E I w => P.run pins s σ H E I ?_⟩
  have k := par2_core m hx1 hy1 q1 q2 ma mb I w
  refine tc2_mono (Q' := fun xs H1 => xs.length ≤ sizeLine ∧ ∀ p, H1 p = none → gTup X.K 2 (gCons (gName i) (gCons (gName j) gNil)) (.ref p) σ (L2.upd H1 p (.tup xs)) E.nx) (fun vs H1 h => ?_) k
  obtain ⟨u, v, rfl, q⟩ := h
  exact ⟨by show 2 ≤ sizeLine; decide, fun p hp => ⟨p, [u, v], rfl, .of upd_same, rfl, u, [v], rfl, v, [], rfl, rfl, q _ (same_new hp)⟩⟩
theorem swapped4 {es ts : List Expr} {kt k2 : Nat} {pt pt2 : Pos} (h : ts.length = 4) : swappedStores [.Tuple ts kt pt] (.Tuple es k2 pt2) X.env = pure none := by
  unfold swappedStores
  simp only [h]
  rfl
theorem row4 {A B C D' : Md} {ma mb mc me : Env → M D} (ha : A.m = mOf ma) (hb : B.m = mOf mb) (hc : C.m = mOf mc) (hd : D'.m = mOf me) {ρ : Env} {st : Wy.St} {β : Type} {f : List D → M β} {Q : β → Wy.St → Prop} (h : wp (M.bind (row [A, B, C, D'] ρ) f) st Q) :
    wp (M.bind (ma ρ) fun x => M.bind (mb ρ) fun y => M.bind (mc ρ) fun z => M.bind (me ρ) fun u => f [x, y, z, u]) st Q := by
  have h : wp (M.bind (M.bind (A.m ρ) fun xs => M.bind (M.bind (B.m ρ) fun ys => M.bind (M.bind (C.m ρ) fun zs => M.bind (M.bind (D'.m ρ) fun us => M.bind (M.pure []) fun ws => M.pure (us ++ ws)) fun us => M.pure (zs ++ us)) fun zs => M.pure (ys ++ zs)) fun ys => M.pure (xs ++ ys)) f) st Q := h
  rw [ha, hb, hc, hd] at h
  simp only [wp, M.bind, mOf, M.pure] at h ⊢
  cases q1 : ma ρ st with
  | ok x s1 =>
    simp only [q1] at h ⊢
    cases q2 : mb ρ s1 with
    | ok y s2 =>
      simp only [q2] at h ⊢
      cases q3 : mc ρ s2 with
      | ok z s3 =>
        simp only [q3] at h ⊢
        cases q4 : me ρ s3 with
        | ok u s4 =>
          simp only [q4] at h ⊢
          exact h
        | exc _ _ _ => simp only [q4] at h
        | stuck => simp only [q4] at h
      | exc _ _ _ => simp only [q3] at h
      | stuck => simp only [q3] at h
    | exc _ _ _ => simp only [q2] at h
    | stuck => simp only [q2] at h
  | exc _ _ _ => simp only [q1] at h
  | stuck => simp only [q1] at h
theorem par4_core (m : MtS X S c) {x y z u : Str} {i j l n : Nat} {o1 o2 o3 o4 f1 f2 f3 f4 : Bool} {ia ib id ie : IE} (hx1 : atB S i x = true) (hy1 : atB S j y = true) (hz1 : atB S l z = true) (hu1 : atB S n u = true) (q1 : o1 = true → f1 = true) (q2 : o2 = true → f2 = true) (q3 : o3 = true → f3 = true) (q4 : o4 = true → f4 = true)
    (ma : (md c ia).m = mOf (md c ia).s) (mb : (md c ib).m = mOf (md c ib).s) (mc : (md c id).m = mOf (md c id).s) (me : (md c ie).m = mOf (md c ie).s)
    {pins : List (Addr × Obj)} {s : Shared} {σ : L2.St} {H : Hp} {E : Ends} (I : Inv X pins σ H s) (w : tS X.K S.me W G0 H0 (xs c (.par [i, j, l, n] [o1, o2, o3, o4] [ia, ib, id, ie])) E σ H) :
    tCons (tE X.K (FR X.K f1) (md c ia).s) (tCons (tE X.K (FR X.K f2) (md c ib).s) (tCons (tE X.K (FR X.K f3) (md c id).s) (tCons (tE X.K (FR X.K f4) (md c ie).s) tNil))) σ H fun vs H1 => ∃ u v w t, vs = [u, v, w, t] ∧ ∀ H2, Same H1 H2 → E.nx ((((σ.set i (some u)).set j (some v)).set l (some w)).set n (some t)) H2 := by
  have hi := m.toMt.lt hx1 I
  have hj := m.toMt.lt hy1 I
  have hl := m.toMt.lt hz1 I
  have hn := m.toMt.lt hu1 I
  obtain ⟨G, ρ, st, sg, hw⟩ := w
  have hw : wp (M.bind (row (mds c [ia, ib, id, ie]) ρ) fun ds => nxt (M.of (setPar ρ [i, j, l, n] [o1, o2, o3, o4] ds))) st (sPost X.K S.me W G0 H0 E G H) := hw
  have hw := row4 ma mb mc me hw
  refine go sg.g hw fun d1 st1 v1 H1 C1 p1 g1 r1 hh1 => ?_
  have par : ∀ {d1 d2 d3 d4 : D} {st : Wy.St} {Q : Out → Wy.St → Prop}, wp (nxt (M.of (setPar ρ [i, j, l, n] [o1, o2, o3, o4] [d1, d2, d3, d4]))) st Q → (o1 = true → mutD d1 = true) ∧ (o2 = true → mutD d2 = true) ∧ (o3 = true → mutD d3 = true) ∧ (o4 = true → mutD d4 = true) ∧ Q (.nx (setS (setS (setS (setS ρ i d1 o1) j d2 o2) l d3 o3) n d4 o4)) st := fun {d1 d2 d3 d4 st Q} h => by
    obtain ⟨ρ', e, k⟩ := wp_of (nxt_1 h)
    have e : (if (o1 && !mutD d1) = true then none else if (o2 && !mutD d2) = true then none else if (o3 && !mutD d3) = true then none else if (o4 && !mutD d4) = true then none else some (setS (setS (setS (setS ρ i d1 o1) j d2 o2) l d3 o3) n d4 o4)) = some ρ' := e
    have use : ∀ {o : Bool} {d : D}, ¬ (o && !mutD d) = true → o = true → mutD d = true := fun {o d} hn z => by
      cases q : mutD d with
      | true => rfl
      | false => exact (hn (by rw [z, q]; rfl)).elim
    split at e
    · cases e
    · split at e
      · cases e
      · split at e
        · cases e
        · split at e
          · cases e
          · rename_i w1 w2 w3 w4
            cases e
            exact ⟨use w1, use w2, use w3, use w4, k⟩
  have m1 : o1 = true → mutD d1 = true := by
    obtain ⟨d2, st2, k⟩ := wp_some (wp_bind hh1)
    obtain ⟨d3, st3, k⟩ := wp_some (wp_bind k)
    obtain ⟨d4, st4, k⟩ := wp_some (wp_bind k)
    exact (par k).1
  obtain ⟨G1, s1, e1, rr1, na1⟩ := sg.take (o := o1) p1 g1.sr r1 fun z => ⟨q1 z, m1 z⟩
  refine ⟨G1, ρ, st1, s1.g, wp_mono (wp_bind hh1) fun d2 st2 hh2 v2 H2 C2 p2 sr2 r2 => ?_⟩
  have m2 : o2 = true → mutD d2 = true := by
    obtain ⟨d3, st3, k⟩ := wp_some (wp_bind hh2)
    obtain ⟨d4, st4, k⟩ := wp_some (wp_bind k)
    exact (par k).2.1
  obtain ⟨G2, s2, e2, rr2, na2⟩ := s1.take (o := o2) p2 sr2 r2 fun z => ⟨q2 z, m2 z⟩
  refine ⟨G2, ρ, st2, s2.g, wp_mono (wp_bind hh2) fun d3 st3 hh3 v3 H3 C3 p3 sr3 r3 => ?_⟩
  have m3 : o3 = true → mutD d3 = true := by
    obtain ⟨d4, st4, k⟩ := wp_some (wp_bind hh3)
    exact (par k).2.2.1
  obtain ⟨G3, s3, e3, rr3, na3⟩ := s2.take (o := o3) p3 sr3 r3 fun z => ⟨q3 z, m3 z⟩
  refine ⟨G3, ρ, st3, s3.g, wp_mono (wp_bind hh3) fun d4 st4 hh4 v4 H4 C4 p4 sr4 r4 => ?_⟩
  obtain ⟨_, _, _, m4, fin0⟩ := par hh4
  obtain ⟨G4, s4, e4, rr4, na4⟩ := s3.take (o := o4) p4 sr4 r4 fun z => ⟨q4 z, m4 z⟩
  refine ⟨v1, v2, v3, v4, rfl, fun H5 sm => ?_⟩
  have ra1 := rep_ext e2 rr1
  have rb1 := rep_ext e3 ra1
  have rb2 := rep_ext e3 rr2
  have rc1 := rep_ext e4 rb1
  have rc2 := rep_ext e4 rb2
  have rc3 := rep_ext e4 rr3
  have t1 := s4.put (i := i) hi rc1 fun z => by
    obtain ⟨a, rfl, ha, hG⟩ := na1 z
    exact ⟨a, rfl, hG, sg.none0 ha, fun j e _ hj => sg.apart ha j e hj⟩
  have t2 := t1.put (i := j) (by rw [List.length_set]; exact hj) rc2 fun z => by
    obtain ⟨a, rfl, ha, hG⟩ := na2 z
    exact ⟨a, rfl, hG, s1.none0 ha, fun k e _ hk => set_far hi (fun l e h => s1.apart ha l e h) (own_far rr1 ha) k e hk⟩
  have t3 := t2.put (i := l) (by rw [List.length_set, List.length_set]; exact hl) rc3 fun z => by
    obtain ⟨a, rfl, ha, hG⟩ := na3 z
    exact ⟨a, rfl, hG, s2.none0 ha, fun k e _ hk => set_far (by rw [List.length_set]; exact hj) (set_far hi (fun l e h => s2.apart ha l e h) (own_far ra1 ha)) (own_far rr2 ha) k e hk⟩
  have t4 := t3.put (i := n) (by rw [List.length_set, List.length_set, List.length_set]; exact hn) rr4 fun z => by
    obtain ⟨a, rfl, ha, hG⟩ := na4 z
    exact ⟨a, rfl, hG, s3.none0 ha, fun k e _ hk => set_far (by rw [List.length_set, List.length_set]; exact hl) (set_far (by rw [List.length_set]; exact hj) (set_far hi (fun l e h => s3.apart ha l e h) (own_far rb1 ha)) (own_far rb2 ha)) (own_far rr3 ha) k e hk⟩
  exact fin0 _ H5 (G4.at G4.C) (t4.presG (Pres.more sm) (t4.g.sr.more sm)) ((((e1.p.trans e2.p).trans e3.p).trans e4.p).trans (Ext.more sm).p)
theorem s_par4c (m : MtS X S c) {x y z u : Str} {px py pz pu pt pos pt2 : Pos} {a b d e : Expr} {kt k2 i j l n : Nat} {o1 o2 o3 o4 f1 f2 f3 f4 : Bool} {ia ib id ie : IE} (hx1 : atB S i x = true) (hy1 : atB S j y = true) (hz1 : atB S l z = true) (hu1 : atB S n u = true) (lx : locB S x = true) (ly : locB S y = true) (lz : locB S z = true) (lu : locB S u = true) (sa : notStar a = true) (sb : notStar b = true) (sd : notStar d = true) (se : notStar e = true) (q1 : o1 = true → f1 = true) (q2 : o2 = true → f2 = true) (q3 : o3 = true → f3 = true) (q4 : o4 = true → f4 = true)
    (ma : (md c ia).m = mOf (md c ia).s) (mb : (md c ib).m = mOf (md c ib).s) (mc : (md c id).m = mOf (md c id).s) (me : (md c ie).m = mOf (md c ie).s)
    (ha : PE X a (tE X.K (FR X.K f1) (md c ia).s)) (hb : PE X b (tE X.K (FR X.K f2) (md c ib).s)) (hd : PE X d (tE X.K (FR X.K f3) (md c id).s)) (he : PE X e (tE X.K (FR X.K f4) (md c ie).s)) :
    PS X (.Assign [.Tuple [.Name x px, .Name y py, .Name z pz, .Name u pu] kt pt] (.Tuple [a, b, d, e] k2 pt2) pos) (tS X.K S.me W G0 H0 (xs c (.par [i, j, l, n] [o1, o2, o3, o4] [ia, ib, id, ie]))) := by
  have PG4 := pg_tup (n := 4) (k := kt) (pos := pt) m.calm (pgs_cons (pg_name (pos := px) m.ndX (m.at_ hx1) (m.toMt.loc lx).1 (m.toMt.loc lx).2) (pgs_cons (pg_name (pos := py) m.ndX (m.at_ hy1) (m.toMt.loc ly).1 (m.toMt.loc ly).2) (pgs_cons (pg_name (pos := pz) m.ndX (m.at_ hz1) (m.toMt.loc lz).1 (m.toMt.loc lz).2) (pgs_cons (pg_name (pos := pu) m.ndX (m.at_ hu1) (m.toMt.loc lu).1 (m.toMt.loc lu).2) pgs_nil))))
  have P := ps_asg (pos := pos) (pe_tup (x1 := k2) (pos := pt2) (pa_cons ha (pa_cons hb (pa_cons hd (pa_cons he pa_nil (star1 se)) (star1 sd)) (star1 sb)) (star1 sa))) PG4 rfl (swapped4 rfl) rfl
  refine ⟨fun pins s σ H E I w => P.run pins s σ H E I ?_⟩
  have k := par4_core m hx1 hy1 hz1 hu1 q1 q2 q3 q4 ma mb mc me I w
  refine tE_mono (fun _ _ => tc3_mono fun vs H1 h => ?_) k
  obtain ⟨u, v, w, t, e0, q⟩ := h
  show _ ∧ ∀ p, H1 p = none → gTup X.K 4 (gCons (gName i) (gCons (gName j) (gCons (gName l) (gCons (gName n) gNil)))) (.ref p) σ (L2.upd H1 p (.tup (_ :: vs))) E.nx
  rw [e0]
  exact ⟨by show 4 ≤ sizeLine; decide, fun p hp => ⟨p, [u, v, w, t], rfl, .of upd_same, rfl, u, [v, w, t], rfl, v, [w, t], rfl, w, [t], rfl, t, [], rfl, rfl, q _ (same_new hp)⟩⟩
/-! ### a comprehension into a name -/
def noSw (S : Sc) (y : Str) (py : Pos) : Expr → Bool
  | .ListComp _ _ sc p => !swB S y py p sc
  | .DictComp _ _ _ sc p => !swB S y py p sc
  | .SetComp _ _ _ _ => false
  | _ => true
theorem no_sw (m : MtS X S c) {y : Str} {py : Pos} {e : Expr} {l : Nat} (h : noSw S y py e = true) : swapsWith e (some (.Name y py)) l X.env = pure false := by
  have key : ∀ (sc : Scope) (p : Pos), (!swB S y py p sc) = true → (X.env.blockKind == .function && X.env.kindOf y == some .local && py.line == p.line && !(sc.names.any fun (n, k) => n == y && (k == .local || k == .cell))) = false := fun sc p h => by
    unfold swB at h
    have kin : X.env.kindOf y = lk S.sc.names y := by
      unfold PySem.Env.kindOf
      rw [m.sc, lk_eq]
    rw [m.bk, kin]
    rw [Bool.not_eq_true'] at h
    exact h
  cases e <;> first | rfl | exact absurd h Bool.false_ne_true | skip
  · rename_i sc p
    show pure _ = _
    congr 1
    exact key sc p h
  · rename_i sc p
    show pure _ = _
    congr 1
    exact key sc p h
theorem s_setN (m : MtS X S c) {y : Str} {e : Expr} {py pos : Pos} {i : Nat} {ie : IE} {f : Bool} (ht : tgB S (.n i) (.Name y py) = true) (hc : noSw S y py e = true) (h : PE X e (tE X.K (FR X.K f) (md c ie).s)) : PS X (.Assign [.Name y py] e pos) (tS X.K S.me W G0 H0 (xs c (.set (.n i) ie))) :=
  PSimp (ps_asg h (pgD m.toMt ht) (no_sw (l := pos.line) m hc) (swapped_none rfl) (assignEach1 ht)) fun D σ H w => set_tail w
theorem own_tail (m : MtS X S c) {y : Str} {i : Nat} {me : Env → M D} {pins : List (Addr × Obj)} {s : Shared} {σ : L2.St} {H : Hp} {D : Ends} (h1 : atB S i y = true) (I : Inv X pins σ H s) (w : tS X.K S.me W G0 H0 (fun ρ => M.bind (me ρ) fun d => if mutD d then M.pure (.nx (setS ρ i d true)) else M.stuck) D σ H) : tE X.K (FR X.K true) me σ H fun x H1 => D.nx (σ.set i (some x)) H1 := by
  have hlt := m.toMt.lt h1 I
  obtain ⟨G, ρ, st, sg, hw⟩ := w
  refine go sg.g hw fun x st1 v H1 C1 p1 g1 r1 h1 => ?_
  split at h1
  · rename_i hm
    obtain ⟨G', s', e', r', n'⟩ := sg.take (o := true) p1 g1.sr r1 fun _ => ⟨rfl, hm⟩
    obtain ⟨a, rfl, ha, hG⟩ := n' rfl
    exact wp_pure h1 _ H1 G' (s'.put (o := true) hlt r' fun _ => ⟨a, rfl, hG, sg.none0 ha, fun j e _ hj => sg.apart ha j e hj⟩) e'.p
  · exact h1.elim
theorem s_ownN (m : MtS X S c) {y : Str} {e : Expr} {py pos : Pos} {i : Nat} {ie : IE} (h1 : atB S i y = true) (h2 : locB S y = true) (hc : noSw S y py e = true) (h : PE X e (tE X.K (FR X.K true) (md c ie).s)) : PS X (.Assign [.Name y py] e pos) (tS X.K S.me W G0 H0 (xs c (.own i ie))) := by
  have P := ps_set (pos := pos) (pos' := py) m.ndX (m.at_ h1) (m.toMt.loc h2).1 h (no_sw m hc) (m.toMt.loc h2).2
  exact ⟨fun pins s σ H D I w => P.run pins s σ H D I (own_tail m h1 I w)⟩
theorem s_ownLc (m : MtS X S c) {y : Str} {py pos spos : Pos} {i : Nat} {elt t iter : Expr} {ifs : List Expr} {scope : Scope} {own : List Nat} {tgD : Tg} {ielt iit : IE} {icond : Option IE} {fe : Bool} (hy : atB S i y = true) (hl : locB S y = true)
    (hi : PI X t iter (tI X.K Ext (md c iit).i)) (ok : blkB S scope own = true) (hsub : ∀ j ∈ tgIs tgD, j ∈ own) (htg : tgB (S.blk scope) tgD t = true) (ht : ∀ X', X'.K = X.K → Mt X' (S.blk scope) c → PTs X' ifs (tT X.K (cnd (mdo c icond)))) (he : ∀ X', X'.K = X.K → Mt X' (S.blk scope) c → PE X' elt (tE X.K (FR X.K fe) (md c ielt).s)) (hs : ∀ x, foldedSetIterable iter X.env x = pure x) :
    PS X (.Assign [.Name y py] (.ListComp elt [⟨t, iter, ifs, 0⟩] scope pos) spos) (tS X.K S.me W G0 H0 (xs c (.own i (.lc own ielt tgD iit icond)))) := by
  have m0 := m.toMt
  obtain ⟨o1, o2⟩ := blk_ok m0 ok
  cases hb : swB S y py pos scope with
  | false =>
    have hS := (snd_lc (f := true) m0 hi ok hsub htg ht he hs (pos := pos)).s
    exact s_ownN m hy hl (show (!swB S y py pos scope) = true by rw [hb]; rfl) hS
  | true =>
    have hsw : swapsWith (.ListComp elt [⟨t, iter, ifs, 0⟩] scope pos) (some (.Name y py)) spos.line X.env = pure true := by rw [swaps_lc m, hb]
    have hyl : X.env.scope.names.lookup y = some .local := by
      unfold swB at hb
      simp only [Bool.and_eq_true, beq_iff_eq] at hb
      rw [m.sc, lk_eq]
      exact hb.1.1
    have P := ps_setLc (g := gD X.K tgD) (tt := tT X.K (cnd (mdo c icond))) (te := tE X.K (FR X.K fe) (md c ielt).s) m.calm m.ndX (m.at_ hy) hyl hsw hi o1 (fun s H C cl fp => pgD (m0.blk s H scope C cl fp) htg) (fun s H C cl fp => ht _ rfl (m0.blk s H scope C cl fp)) (fun s H C cl fp => he _ rfl (m0.blk s H scope C cl fp)) hs
    refine ⟨fun pins s σ H D I w => P.run pins s σ H D I ?_⟩
    rw [o2]
    exact lc_tE hsub (own_tail m hy I w)
end
end Wy

set_option Elab.async false
set_option linter.all false
set_option maxRecDepth 100000
set_option autoImplicit false
/-! WyXt: xs.extend(ys), ys a list or a tuple. -/
namespace WyXt
open PySem PySem.Spec PyProof.Rows L2
open PySem.Sem (wp)
open AutoSeq1 in
theorem extend_tup (l : Addr) (items : Array Value) (n : Nat) (b : Addr) (items2 : Array Value) (n2 : Nat) (dct : Option Addr) (sl : Array (Option Value)) (hs0 : ¬(!items.isEmpty && Builtin.List.listTooLong (items.size + items2.size)) = true) (hs1 : items.size ≤ sizeLine) (hs2 : items.size + items2.size ≤ sizeLine + 1) :
    Meets (Builtin.«list.extend» ⟨[.ref l, .ref b], []⟩) (fun _ R s => s.heap.get? l = some { cls := .type "list", dict := none, data := .seq items n, slots := #[] } ∧ s.heap.get? b = some { cls := .type "tuple", dict := dct, data := .seq items2 n2, slots := sl } ∧ R (.ok (.ret Value.none)) { s with heap := s.heap.update l (Obj.mapSeq fun x => x ++ items2), toks := s.toks }) :=
  .of_wp fun prog w A R s h => by
    obtain ⟨hp, g, d, tk, os⟩ := s; obtain ⟨hl, hb, h⟩ := h; have f1 := idx_int; have f2 := AutoSeq1.sub_tuple_tuple; have f3 := AutoSeq1.sub_list_list; have f4 := AutoSeq1.sub_tuple_list; have f5 := AutoSeq1.sub_list_tuple;
    have hz' : (items ++ items2).size ≤ sizeLine + 1 := by rw [Array.size_append]; exact hs2
    wp_walk using (wpAny_updateSeq hl rfl (hz := hs1) (_hz' := hz')), wpAny_loadPart' hl, wpAny_loadPart' hb; exact ⟨_, rfl, h⟩
section
variable {X : Cx}
def rExt (K : PySem.W.Frag) : V → List V → Hp → VK → Prop := fun x vs H Q => ∃ l b xs zs, x = .ref l ∧ vs = [.ref b] ∧ H l = some (.lst xs) ∧ (H b = some (.lst zs) ∨ SqT K H b zs) ∧ xs.length + zs.length ≤ sizeLine ∧ Q .non (upd H l (.lst (xs ++ zs)))
theorem mt_ext : MtM X "list.extend" (rExt X.K) := by
  intro pins s σ H x vs v us Q I rx rv h
  obtain ⟨l, b, xs, zs, rfl, rfl, hH, hB, hz, q⟩ := h
  rcases hB with hB | hB
  · exact mt_extend pins s σ H _ _ v us Q I rx rv ⟨l, b, xs, zs, rfl, rfl, hH, hB, hz, q⟩
  · cases rx
    obtain ⟨u, rfl, ru⟩ := rv.one
    cases ru
    obtain ⟨z, its, n, r, hl, e⟩ := I.lstM hH
    obtain ⟨its2, r2, ⟨⟨oc, od, dt, sl⟩, e2, hc, n2, hd⟩, hl2⟩ := I.tuple hB
    cases (show oc = .type "tuple" from hc)
    cases (show dt = .seq its2.toArray n2 from hd)
    have l1 := r.length
    have l2 := r2.length
    have hsz : its.toArray.size + its2.toArray.size ≤ sizeLine := by rw [List.size_toArray, List.size_toArray]; omega
    have hlong : ¬ (!its.toArray.isEmpty && Builtin.List.listTooLong (its.toArray.size + its2.toArray.size)) = true := by
      rw [notLongL hsz, Bool.and_false]
      exact Bool.false_ne_true
    refine call_meets F.slot_list_extend ⟨_, e, rfl⟩ F.entry_list_extend (F.args_list_extend_2 _ _)
      (extend_tup l its.toArray n b its2.toArray n2 od sl hlong (by rw [List.size_toArray]; omega) (by omega)) ⟨e, e2, ?_⟩
    refine ⟨.non, _, I.lset (its' := its ++ its2) hH e (by simp) (r.append r2) ?_, rfl, q⟩
    rw [List.length_append]
    omega
end
end WyXt
namespace Wy
open PySem PySem.Spec PyProof.Rows L2
section
variable {X : Cx} {c : Wy.Ctx} {S : Sc} {G0 : Gh} {H0 : Hp} {W : WX}
theorem s_ext (m : MtS X S c) {x : Str} {xp ap cp pos : Pos} {i : Nat} {a : Expr} {ia : IE} (h1 : atB S i x = true) (h2 : visB S x = true) (h3 : evenB x = true) (hs : notStar a = true) (hl : (ap.endLine == cp.line) = true) (ha : PE X a (tE X.K (BR X.K) (md c ia).b)) :
    PS X (.Expr (.Call (.Attribute (.Name x xp) "extend" ap) [a] [] cp) pos) (tS X.K S.me W G0 H0 (xs c (.ext i ia))) := by
  refine PSimp (ps_expr (pe_bm PySem.F.plainAttrs_list PySem.F.slot_list_extend PySem.F.type_list_extend WyXt.mt_ext (pe_var (m.at_ h1) (m.vis h2) (even_1 h3).1 (even_1 h3).2.1) (pa_cons ha pa_nil (star1 hs)) hbaseN (by rw [star1 hs]; rfl) hl (star1 hs) rfl) (no_swap rfl)) fun D σ H w => ?_
  obtain ⟨G, ρ, st, sg, hw⟩ := w
  have hslot : ∃ ys, ρ[i]? = some (some (.lst ys, true)) := by
    obtain ⟨z, st2, hz⟩ := wp_some (wp_bind hw)
    obtain ⟨zs, _, hz⟩ := wp_of (wp_bind hz)
    obtain ⟨ρ', e, _⟩ := wp_of (nxt_1 hz)
    obtain ⟨ys, _, h, _⟩ := ownPut_1 e
    exact ⟨ys, h⟩
  obtain ⟨ys0, hy0⟩ := hslot
  obtain ⟨l, vs0, hu, _, hl0, _⟩ := own_slot sg hy0
  refine ⟨.ref l, hu, lst_ty hl0, ?_⟩
  refine go sg.g hw fun y st1 v H1 C1 p1 g1 r1 h1 => ?_
  have s1 := sg.presG p1 g1.sr
  obtain ⟨zs, ez, h1⟩ := wp_of (wp_bind h1)
  obtain ⟨ρ', e, h4⟩ := wp_of (nxt_1 h1)
  obtain ⟨ys, ws, hy, e1, e2⟩ := ownPut_1 e
  rw [hy0] at hy
  cases hy
  obtain ⟨e3, e4⟩ := short_ok e1
  subst e3 e2
  obtain ⟨l', vs, hu', q1, hl1, rs⟩ := own_slot s1 hy0
  rw [hu] at hu'
  cases hu'
  have key : ∃ b us, v = .ref b ∧ (H1 b = some (.lst us) ∨ SqT X.K H1 b us) ∧ Reps X.K (G.at C1).C ((G.at C1).h H1) us zs := by
    cases y <;> first | (simp [seqOf] at ez; done) | skip
    · simp only [seqOf, Option.some.injEq] at ez
      subst ez
      obtain ⟨b, us, e, k1, k2⟩ := r1.tup
      exact ⟨b, us, e, .inr k1, k2⟩
    · simp only [seqOf, Option.some.injEq] at ez
      subst ez
      obtain ⟨b, us, e, k1, k2⟩ := r1.lst
      exact ⟨b, us, e, .inl k1, k2⟩
  obtain ⟨b, us, rfl, kb, ku⟩ := key
  refine ⟨l, b, vs, us, rfl, rfl, hl1, kb, ?_, ?_⟩
  · rw [rs.len, ku.len]
    rw [List.length_append] at e4
    exact e4
  · exact h4 σ _ (G.at C1) (s1.upd hy0 hu (.inl ⟨vs ++ us, _, rfl, upd_same, by rw [hid_upd q1]; exact Reps.app ku rs⟩)) (p1.ext.p.trans (extP_upd q1))
end
end Wy

set_option Elab.async false
set_option linter.all false
set_option maxRecDepth 100000
set_option autoImplicit false
/-! WyXe: calls that may let errors out. -/
namespace Wy
open PySem PySem.Spec PyProof.Rows L2
theorem FR.weak {K : PySem.W.Frag} {f : Bool} {G : Gh} {H0 H : Hp} {v : V} {d : D} (r : FR K f G H0 H v d) : FR K false G H0 H v d := ⟨r.1, fun z => nomatch z⟩
section
variable {X : Cx} {c : Wy.Ctx} {S : Sc} {G0 : Gh} {H0 : Hp} {W : WX}
theorem snd_callX (m : Mt X S c) (tk : Takes X W) {x : Str} {p pos : Pos} {e : Expr} {es : List Expr} {Ms : List Md} {i : Nat} (hl : lk S.gl x = some i) (hg : glB S x = true) (he : evenB x = true) (hs : (e :: es).all notStar = true) (h : PA X (e :: es) (tR X.K (row Ms))) :
    PE X (.Call (.Name x p) (e :: es) [] pos) (tEX X.K (FR X.K false) W fun ρ => M.bind (noExc (row Ms ρ)) fun ds => c.call i ds) := by
  obtain ⟨f, fd, ps, k, F, hr, hm, hk, hb⟩ := (m.fns x i hl).ex
  simp only [List.all_cons, Bool.and_eq_true] at hs
  refine PEimp (pe_callS (E := WE W) F hr (m.gl hg) hm hk hb (fun σ => passAt tk σ) h (even_1 he).1 (star1 hs.1) (no_stars hs.2)) fun σ H Q w => ?_
  obtain ⟨G, ρ, st, g, hw⟩ := w
  refine ⟨G, ρ, st, g, wp_mono (wpX_no (wpX_bind hw)) fun ds st1 h1 vs H1 C1 p1 s1 r1 => ?_⟩
  exact ⟨G.at C1, st1, ds, s1, (g.pres p1 s1).hid, r1, wpX_mono h1 (fun d st2 k v H2 C2 p2 s2 r2 => k v H2 C2 (p1.trans p2 g.sr.there) s2 (r2.start (p1.still s1)).weak) fun k ys st2 kk cls d H2 C2 p2 s2 r2 => kk cls d H2 C2 (p1.trans p2 g.sr.there) s2 r2⟩
theorem snd_iteX {e a b : Expr} {pos : Pos} {mt : Env → M Bool} {ma mb : Env → M D} (he : PT X e (tT X.K mt)) (ha : PE X a (tEX X.K (FR X.K false) W ma)) (hb : PE X b (tEX X.K (FR X.K false) W mb)) :
    PE X (.IfExp e a b pos) (tEX X.K (FR X.K false) W fun ρ => M.bind (noExc (mt ρ)) fun t => if t then ma ρ else mb ρ) :=
  PEimp (pe_ifExp he ha hb) fun σ H Q w => by
    obtain ⟨G, ρ, st, g, hw⟩ := w
    refine ⟨G, ρ, st, g, wp_mono (wpX_no (wpX_bind hw)) fun t st1 h1 H1 C1 p1 s1 => ?_⟩
    have key : ∀ {m : Env → M D}, wpX (m ρ) st1 (Post (FR X.K false) G H Q) (PostX X.K G H fun cls d H' => W cls d σ H') → tEX X.K (FR X.K false) W m σ H1 Q := fun {m} h2 =>
      ⟨G.at C1, ρ, st1, g.pres p1 s1, wpX_mono h2 (fun d st2 k v H2 C2 p2 s2 r2 => k v H2 C2 (p1.trans p2 g.sr.there) s2 (r2.start (p1.still s1))) fun k ys st2 kk cls d H2 C2 p2 s2 r2 => kk cls d H2 C2 (p1.trans p2 g.sr.there) s2 r2⟩
    cases t with
    | true => exact key h1
    | false => exact key h1
theorem snd_pureX {e : Expr} {f : Bool} {m : Env → M D} (h : PE X e (tE X.K (FR X.K f) m)) : PE X e (tEX X.K (FR X.K false) W fun ρ => noExc (m ρ)) :=
  PEimp h fun σ H Q w => by
    obtain ⟨G, ρ, st, g, hw⟩ := w
    exact ⟨G, ρ, st, g, wp_mono (wpX_no hw) fun d st1 k v H1 C1 p1 s1 r1 => k v H1 C1 p1 s1 r1.weak⟩
end
/-- the checker of such an expression -/
def chkX : IE → Sc → Expr → Bool
  | .ite d a b, S, e => (match e with
    | .IfExp q l r _ => chkE d 0 S q && chkX a S l && chkX b S r
    | _ => false)
  | .call f es, S, e => (match e with
    | .Call (.Name x _) (l :: ls) [] _ => (lk S.gl x == some f) && glB S x && evenB x && (l :: ls).all notStar && chkR es S (l :: ls)
    | _ => false)
  | i, S, e => chkE i 0 S e
theorem sX : ∀ (i : IE) {c : Wy.Ctx} {X : Cx} {S : Sc} {W : WX} {e : Expr}, chkX i S e = true → Mt X S c → Takes X W → PE X e (tEX X.K (FR X.K false) W (mx c i)) := by
  intro i
  have gen : ∀ {c : Wy.Ctx} {X : Cx} {S : Sc} {W : WX} {e : Expr}, chkE i 0 S e = true → Mt X S c → PE X e (tEX X.K (FR X.K false) W fun ρ => noExc ((md c i).s ρ)) := fun {c X S W e} h m => snd_pureX ((sE i h m).v0 h).s
  match i with
  | .ite d a b =>
    intro c X S W e h m tk
    unfold chkX at h
    split at h
    · simp only [Bool.and_eq_true] at h
      exact snd_iteX ((sE d h.1.1 m).v0 h.1.1).t (sX a h.1.2 m tk) (sX b h.2 m tk)
    · cases h
  | .call f es =>
    intro c X S W e h m tk
    unfold chkX at h
    split at h
    · simp only [Bool.and_eq_true, beq_iff_eq] at h
      obtain ⟨⟨⟨⟨h1, h2⟩, h3⟩, h4⟩, h5⟩ := h
      exact snd_callX m tk h1 h2 h3 (by simpa using h4) (sR es h5 m)
    · cases h
  | .k _ | .g _ | .v _ | .tup _ | .lst _ | .star _ | .callk _ _ _ _ | .b1 _ _ | .b2 _ _ _ | .dst _ _ | .mn0 _ | .isi _ _ _ | .bin _ _ _ | .neg _ | .cmp _ _ _ | .chain _ _ _ _ _ | .and _ _ | .or _ _ | .not _ | .idx _ _ | .slc _ _ _ | .rev _ | .lc _ _ _ _ _ | .lc2 _ _ _ _ _ _ _ _ | .range _ | .range2 _ _ | .enum _ | .zip _ _ | .dic0 | .dc _ _ _ _ _ | .dget _ _ _ | .fld _ _ | .isx _ _ | .nox _ =>
    intro c X S W e h m tk
    exact gen h m
section
variable {X : Cx} {c : Wy.Ctx} {S : Sc} {G0 : Gh} {H0 : Hp} {W : WX}
theorem set_tailX {n : Bool} {K : PySem.W.Frag} {tg : Tg} {me : Env → M D} {D : Ends} {σ : L2.St} {H : Hp} (w : tS K n W G0 H0 (fun ρ => tryX (me ρ) ρ fun d => nxt (M.of (setTg ρ tg d))) D σ H) : tEX K (FR K false) W me σ H fun x H1 => gD K tg x σ H1 D.nx := by
  obtain ⟨G, ρ, st, s, hw⟩ := w
  refine ⟨G, ρ, st, s.g, wpX_mono (wp_try hw) (fun x st1 h1 v H1 C1 p1 s1 r1 => ?_) fun k ys st1 h1 cls d H1 C1 p1 s1 r1 => h1 σ H1 (G.at C1) cls d (s.presG p1 s1) p1.ext.p r1⟩
  obtain ⟨ρ', e, h2⟩ := wp_of (wp_bind h1)
  exact ⟨G.at C1, ρ, st1, x, ρ', s.g.pres p1 s1, r1.1, e, fun σ' g' df => wp_pure h2 σ' H1 (G.at C1) ((s.presG p1 s1).tg g' df e) p1.ext.p⟩
theorem s_setX (m : MtS X S c) {t e : Expr} {pos : Pos} {tg : Tg} {ie : IE} (ht : tgB S tg t = true) (hc : notComp e = true) (hp : plainPair t e = true) (h : PE X e (tEX X.K (FR X.K false) W (mx c ie))) : PS X (.Assign [t] e pos) (tS X.K S.me W G0 H0 (xs c (.setX tg ie))) :=
  PSimp (ps_asg h (pgD m.toMt ht) (no_swap hc) (swapped_none hp) (assignEach1 ht)) fun D σ H w => set_tailX w
theorem s_exX {e : Expr} {pos : Pos} {ie : IE} (hc : notComp e = true) (h : PE X e (tEX X.K (FR X.K false) W (mx c ie))) : PS X (.Expr e pos) (tS X.K S.me W G0 H0 (xs c (.exX ie))) :=
  PSimp (ps_expr h (no_swap hc)) fun D σ H w => by
    obtain ⟨G, ρ, st, s, hw⟩ := w
    exact ⟨G, ρ, st, s.g, wpX_mono (wp_try hw) (fun x st1 h1 v H1 C1 p1 s1 r1 => wp_pure h1 σ H1 (G.at C1) (s.presG p1 s1) p1.ext.p) fun k ys st1 h1 cls d H1 C1 p1 s1 r1 => h1 σ H1 (G.at C1) cls d (s.presG p1 s1) p1.ext.p r1⟩
theorem s_retX {e : Expr} {pos : Pos} {ie : IE} (h0 : ∀ x ∈ G0.C, ∃ o, H0 x = some o) (hf : S.me = false) (h : PE X e (tEX X.K (FR X.K false) W (mx c ie))) : PS X (.Return (some e) pos) (tS X.K S.me W G0 H0 (xs c (.retX ie))) :=
  PSimp (ps_ret h) fun D σ H w => by
    obtain ⟨G, ρ, st, sg, hw⟩ := w
    refine ⟨G, ρ, st, sg.g, wpX_mono (wp_try hw) (fun x st1 h1 v H1 C1 p1 q1 r1 => ?_) fun k ys st1 h1 cls d H1 C1 p1 s1 r1 => h1 σ H1 (G.at C1) cls d (sg.presG p1 s1) p1.ext.p r1⟩
    have s1 := sg.presG p1 q1
    have g1 := sg.g.pres p1 q1
    refine wp_pure h1 v H1 C1 ⟨s1.keep, s1.pre, s1.new⟩ (g1.sr.sw rfl) ⟨r1.1.mono (fun b o hb => ?_) (List.prefix_refl _), fun hn hm => (by rw [hf] at hn; cases hn)⟩
    obtain ⟨k1, k2, k3⟩ := Gh.h_some.mp hb
    exact Gh.h_some.mpr ⟨k1, fun z => k2 (s1.own1 b z), k3⟩
end
end Wy

set_option Elab.async false
set_option linter.all false
set_option maxRecDepth 100000
set_option autoImplicit false
set_option maxHeartbeats 2000000
/-! WyMk: an error of the package is made. -/
namespace Wy
open PySem PySem.Spec PyProof.Rows L2
/-- what is known of a built-in class of errors -/
structure BF (B newId initId : String) (bm : List Value) : Prop where
  F : ExcBaseFacts B newId initId bm
  KF : PySem.W.KxsFacts B initId
  pass : ∀ self : Value, refuseLoop self "__setattr__" bm = pure ()
  obj : bm.contains (.type "object") = true
  bas : bm.contains (.type B) = true
def bmL : List Value := [.type "LookupError", .type "Exception", .type "BaseException", .type "object"]
def bmV : List Value := [.type "ValueError", .type "Exception", .type "BaseException", .type "object"]
theorem bfL : BF "LookupError" "LookupError.__new__" "LookupError.__init__" bmL := ⟨PySem.F.excBase_LookupError, PySem.W.kxs_LookupError, fun s => PySem.F.store_LookupError.passes s, by decide +kernel, by decide +kernel⟩
theorem bfV : BF "ValueError" "ValueError.__new__" "ValueError.__init__" bmV := ⟨PySem.F.excBase_ValueError, PySem.W.kxs_ValueError, fun s => PySem.F.store_ValueError.passes s, by decide +kernel, by decide +kernel⟩
/-- a class of the package, as the top leaves it -/
structure ExK (K : PySem.W.Frag) (newId : String) (bm : List Value) (C : Addr) : Prop where
  cls : ∃ nm q N bs sn sub ab col dd k0 k1 k2 k3 k5, K.lookup C = some (excClassObj nm q C N bs bm true sn sub ab col dd k0 k1 k2 k3 k5 newId)
  kp : PySem.W.keepIn K (.ref C) = true
  sub : PySem.W.subIn K (.ref C) (.type "BaseException") = some true
  ty : PySem.W.typeIn K (.ref C) = some (.type "type")
  sa : PySem.W.findIn K (.ref C) "__setattr__" = some (some (.builtin "object.__setattr__"))
abbrev xO (C t : Addr) (d : Option Addr) : Obj := { cls := .ref C, dict := d, data := .fields #[.ref t, .none, .none, .none, .bool false, .none] }
section
open Builtin Builtin.ObjectAttr
variable {prog : Program} {w : World} {A : Around} {E : Value → Shared → Prop} {R : Result → Shared → Prop} {hp : Heap} {g : Array GenState} {d : Drawn} {t : Nat} {os : OsState} {K : PySem.W.Frag} {B newId initId : String} {bm : List Value} {C x t0 : Addr}
theorem exk_cls (T : ExK K newId bm C) : ∃ cd, PySem.W.clsIn K C = some cd ∧ cd.mro = .ref C :: bm ∧ cd.hasDict = true := by
  obtain ⟨nm, q, N, bs, sn, sub, ab, col, dd, k0, k1, k2, k3, k5, hC⟩ := T.cls
  exact ⟨{ name := nm, bases := bs, mro := .ref C :: bm, ns := N, qualname := q, hasDict := true, slotNames := sn, subclasses := sub, abstract := ab, collection := col, hasDel := false }, by unfold PySem.W.clsIn; rw [hC] <;> rfl, rfl, rfl⟩
theorem exk_in (b : BF B newId initId bm) (T : ExK K newId bm C) (hX : ∀ v : Value, bm.contains v = true → PySem.W.mroIn K C v = some true) : PySem.W.mroIn K C (.type B) = some true := hX _ b.bas
theorem exk_mro (T : ExK K newId bm C) {v : Value} (h : bm.contains v = true) : PySem.W.mroIn K C v = some true := by
  obtain ⟨cd, h1, h2, h3⟩ := exk_cls T
  unfold PySem.W.mroIn
  rw [h1, Option.bind_some, h2, if_neg (show ¬ (List.isEmpty (Value.ref C :: bm) = true) from Bool.false_ne_true), List.contains_cons, h, Bool.or_true]
/-- the first field is set: the dict comes to be -/
theorem set_first (b : BF B newId initId bm) (T : ExK K newId bm C) {name : Str} {tk : Tok} {v : Value} {fv : Array Value} (X : K.In hp) (hx : hp.get? x = some { cls := .ref C, data := .fields fv }) (ha : PySem.W.findIn K (.ref C) name = some none)
    (hq : ∀ h' tk' dx, (∀ b o, b ≠ x → hp.get? b = some o → h'.get? b = some o) → hp.objs.size ≤ dx → dx ≠ x → h'.get? x = some { cls := .ref C, dict := some dx, data := .fields fv } → h'.Ns1 dx (fun y => if y = name then some v else none) → R (.ok (.ret .none)) ⟨h', g, d, tk', os⟩) :
    codeAny (model prog w) A (.call (.builtin "object.__setattr__") ⟨[.ref x, .str name tk, v], []⟩) R ⟨hp, g, d, t, os⟩ := by
  obtain ⟨cd, hcd, hm, hh⟩ := exk_cls T
  have I : PySem.W.InstAt hp x { cls := .ref C, data := .fields fv } C none := ⟨hx, rfl, rfl, trivial⟩
  have SF := PySem.F.store_object
  have ne : x ≠ hp.objs.size := Nat.ne_of_lt (Heap.lt_size hx)
  have lo : PySem.W.Looks (model prog w) hp (isInstance (.ref x) (.type "object")) true := I.type.andThen (PySem.W.looks_mroIn X (exk_mro T b.obj))
  refine codeAny_call_builtin SF.slot.plain SF.entry (@PySem.W.check_slot (model prog w) _ _ ⟨hp, g, d, t, os⟩ "object.__setattr__" "object" "__setattr__" (.ref x) [.str name tk, v] [] _ SF.kind SF.split lo (SF.args (.ref x) (.str name tk) v) ?_)
  have lm : PySem.W.Looks (model prog w) hp (mroOf (.ref C)) cd.mro := (PySem.W.looks_clsIn X hcd).andThen .now
  have lt : PySem.W.Looks (model prog w) hp (storeTaker? none) none := .now
  have lc : PySem.W.Looks (model prog w) hp (classData C) cd := PySem.W.looks_clsIn X hcd
  have pass : refuseLoop (.ref x) "__setattr__" cd.mro = pure () := by
    rw [hm, refuseLoop_ref]
    exact b.pass _
  rw [PySem.W.osa_eq, refuse_eq]
  refine wpAny_bind (wpAny_bind (I.type.at (wpAny_bind (lm.at ?_))))
  rw [pass]
  refine wpAny_pure (wpAny_bind (I.type.at (wpAny_bind ((PySem.W.looks_findIn X ha).at (wpAny_bind (lt.at ?_))))))
  show wpAny _ _ (storeInOwnDict (.ref x) (.ref C) (.str name tk) name v false) _ _ _
  obtain ⟨nm, bs, mro, ns, qn, hd, sn, sb, ab, col, del⟩ := cd
  dsimp only at hh
  subst hh
  unfold storeInOwnDict ownDictForStores
  repeat (first | with_reducible refine PySem.HandSPX.store_in_new ?_ ?_ | with_reducible refine wpAny_loadPart_at hx ?_ | with_reducible refine lc.at ?_ | wp_step)
  · exact ⟨_, #[], _, (Heap.get?_update_ne _ _ _ _ ne.symm).trans (Heap.get?_push_at rfl rfl), rfl, fun e he => absurd he (by simp), fun _ => rfl⟩
  · intro h' tk' hn' hs
    have hx1 : (hp.push { cls := .type "dict", data := .dict #[] }).get? x = some { cls := .ref C, data := .fields fv } := Heap.get?_push_of_some _ hx
    refine hq h' tk' hp.objs.size (fun b o hb ho => ?_) (Nat.le_refl _) ne.symm ?_ hn'
    · exact (hs.2 b (Nat.ne_of_lt (Heap.lt_size ho))).trans ((Heap.get?_update_ne _ _ _ _ hb).trans (Heap.get?_push_of_some _ ho))
    · exact (hs.2 x ne).trans (Heap.get?_update_self _ hx1 rfl)
/-- a further field -/
theorem set_more (b : BF B newId initId bm) (T : ExK K newId bm C) {name : Str} {tk : Tok} {v : Value} {dx : Addr} {fv : Array Value} {m0 : Str → Option Value} {nl : List Str} (X : K.In hp) (hx : hp.get? x = some { cls := .ref C, dict := some dx, data := .fields fv }) (hns : hp.Ns1 dx m0) (hw : Within m0 nl) (hz : nl.length ≤ 1000) (ha : PySem.W.findIn K (.ref C) name = some none)
    (hq : ∀ h' tk', (∀ b o, b ≠ dx → hp.get? b = some o → h'.get? b = some o) → h'.Ns1 dx (fun y => if y = name then some v else m0 y) → R (.ok (.ret .none)) ⟨h', g, d, tk', os⟩) :
    codeAny (model prog w) A (.call (.builtin "object.__setattr__") ⟨[.ref x, .str name tk, v], []⟩) R ⟨hp, g, d, t, os⟩ := by
  obtain ⟨cd, hcd, hm, hh⟩ := exk_cls T
  obtain ⟨oD, esD, epD, hoD, hdD, _⟩ := hns.count hw
  have I : PySem.W.InstAt hp x { cls := .ref C, dict := some dx, data := .fields fv } C (some oD) := ⟨hx, rfl, rfl, hoD⟩
  have SF := PySem.F.store_object
  have lo : PySem.W.Looks (model prog w) hp (isInstance (.ref x) (.type "object")) true := I.type.andThen (PySem.W.looks_mroIn X (exk_mro T b.obj))
  refine codeAny_call_builtin SF.slot.plain SF.entry (@PySem.W.check_slot (model prog w) _ _ ⟨hp, g, d, t, os⟩ "object.__setattr__" "object" "__setattr__" (.ref x) [.str name tk, v] [] _ SF.kind SF.split lo (SF.args (.ref x) (.str name tk) v) ?_)
  have lm : PySem.W.Looks (model prog w) hp (mroOf (.ref C)) cd.mro := (PySem.W.looks_clsIn X hcd).andThen .now
  have lt : PySem.W.Looks (model prog w) hp (storeTaker? none) none := .now
  have lc : PySem.W.Looks (model prog w) hp (classData C) cd := PySem.W.looks_clsIn X hcd
  have pass : refuseLoop (.ref x) "__setattr__" cd.mro = pure () := by
    rw [hm, refuseLoop_ref]
    exact b.pass _
  rw [PySem.W.osa_eq, refuse_eq]
  refine wpAny_bind (wpAny_bind (I.type.at (wpAny_bind (lm.at ?_))))
  rw [pass]
  refine wpAny_pure (wpAny_bind (I.type.at (wpAny_bind ((PySem.W.looks_findIn X ha).at (wpAny_bind (lt.at ?_))))))
  show wpAny _ _ (storeInOwnDict (.ref x) (.ref C) (.str name tk) name v false) _ _ _
  obtain ⟨nm, bs, mro, ns, qn, hd, sn, sb, ab, col, del⟩ := cd
  dsimp only at hh
  subst hh
  unfold storeInOwnDict ownDictForStores
  repeat (first | with_reducible refine PySem.OEX.store_in_old hns hw hz ?_ | with_reducible refine wpAny_loadPart_at hx ?_ | with_reducible refine lc.at ?_ | wp_step)
  intro h' tk' hn' hs
  exact hq h' tk' (fun b o hb ho => (hs.2 b hb).trans ho) hn'
end
abbrev inSc (ns : List (Str × NameKind)) : Scope := { kind := .function, names := ns, isGenerator := false, isCoroutine := false, more := [] }
/-- an __init__ that hands its parameter on and keeps it -/
structure In1 (K : PySem.W.Frag) (prog : Program) (mg : Str → Option Value) (C fI : Addr) (B initId : String) (f : Str) : Prop where
  fn : ∃ (oc : Value) (od : Option Addr) (osl : Array (Option Value)) (name qual : Str) (params : Arguments) (sns : List (Str × NameKind)) (dV kV doc pm : Value) (an : Option Addr) (cda cc : Addr) (ct : Value) (p0 p1 p2 p3 p4 p5 p6 p7 p8 p9 : Pos) (ar : Arg),
    K.lookup fI = some ⟨oc, od, .func (PySem.W.ksFn name qual params [.Expr (.Call (.Attribute (.Call (.Name "super" p0) [] [] p1) "__init__" p2) [.Name f p3] [] p4) p5, .Assign [.Attribute (.Name "self" p6) f p7] (.Name f p8) p9] (inSc sns) dV kV doc pm an (.ref cda) ct cc), osl⟩ ∧
    PySem.W.codeIn K (.ref cda) qual = true ∧
    (∃ (ccl : Value) (cdd : Option Addr) (ccs : Array (Option Value)) (vs : Array Value) (file : Str) (tf : Tok), K.lookup cda = some ⟨ccl, cdd, .fields vs, ccs⟩ ∧ vs[2]? = some (.str file tf) ∧ ((prog.main.file : Str) == file) = true) ∧
    (∃ (cl : Value) (cld : Option Addr) (csl : Array (Option Value)), K.lookup cc = some ⟨cl, cld, .cell (some (.ref C)), csl⟩) ∧
    (p2.endLine == p4.line) = true ∧ (params.posonlyargs ++ params.args).head? = some ar ∧ ar.arg = "self" ∧
    (∀ x v : Value, bindArgs (PySem.W.ksFn name qual params [.Expr (.Call (.Attribute (.Call (.Name "super" p0) [] [] p1) "__init__" p2) [.Name f p3] [] p4) p5, .Assign [.Attribute (.Name "self" p6) f p7] (.Name f p8) p9] (inSc sns) dV kV doc pm an (.ref cda) ct cc) ⟨[x, v], []⟩ = pure [(("self" : Str), x), (f, v)]) ∧
    (∀ x ∈ sns, x.2 ≠ .cell) ∧
    sns.lookup ("super" : Str) = some .globalImplicit ∧ sns.lookup ("__class__" : Str) = some .free ∧ sns.lookup ("self" : Str) = some .local ∧ sns.lookup f = some .local
  fnd : PySem.W.findIn K (.ref C) "__init__" = some (some (.ref fI))
  typ : PySem.W.typeIn K (.ref fI) = some (.type "function")
  sup : PySem.W.ks_superIn K C C "__init__" = some (some (.builtin initId))
  opq : PySem.W.nsIn K cStatics "thirdparty.any" = some none
  msu : mg "super" = none
  nof : PySem.W.findIn K (.ref C) f = some none
  nfs : (f == ("self" : Str)) = false ∧ (f == ("__debug__" : Str)) = false
  top : (prog.main.scope.names.lookup ("super" : Str)).isSome = false
section
variable {prog : Program} {w : World} {A : Around} {E : Value → Shared → Prop} {R : Result → Shared → Prop} {h : Heap} {g : Array GenState} {d : Drawn} {t : Nat} {os : OsState} {K : PySem.W.Frag} {B newId initId : String} {bm : List Value} {C fI x t0 : Addr} {f : Str} {mg : Str → Option Value} {v : Value}
/-- a built-in __init__, bound, called -/
theorem call_mw (b : BF B newId initId bm) (T : ExK K newId bm C) (X : K.In h) {u : Addr} {rest : List Value} {Q : Value → Shared → Prop} (he : h.get? x = some (xO C t0 none)) (hu : h.get? u = some (PySem.W.kxs_mw initId x)) (hr : rest.length ≤ sizeLine)
    (hq : ∀ h' t1, (∀ b o, b ≠ x → h.get? b = some o → h'.get? b = some o) → h'.get? x = some (xO C t1 none) → Q .none ⟨h', g, d, t, os⟩) : wpAny (model prog w) A (call (.ref u) rest) Q E ⟨h, g, d, t, os⟩ := by
  obtain ⟨nm, q, N, bs, sn, sub, ab, col, dd, k0, k1, k2, k3, k5, hC⟩ := T.cls
  refine wpAny_call (codeAny_of_tree ?_)
  show wpAny _ A.in1 (callAny (.ref u) ⟨rest, []⟩) _ _ _
  simp only [callAny]
  refine wpAny_bind (wpAny_load hu ?_)
  simp only [PySem.W.kxs_mw, show (Value.type "method-wrapper" == Value.type "method" || Value.type "method-wrapper" == Value.type "builtin_function_or_method" || Value.type "method-wrapper" == Value.type "method-wrapper") = true by decide, if_true]
  refine PySem.W.KFB.if_so (by decide) ?_
  refine wpAny_bind (PySem.W.check_bound_init b.F.toExcCallFacts (X _ _ hC) he rfl ?_)
  refine wpAny_bind (wpAny_pure (wpAny_pure ?_))
  refine ⟨plainId_quiet b.F.init.plain _, codeAny_builtin b.F.initEntry ?_⟩
  exact PySem.W.exc_init_tree (cls := .ref C) (t0 := t0) (dv := none) (c2 := .none) (c3 := .none) (b4 := .bool false) he hr fun h' k e' _ => hq h' _ k e'
theorem meth_at {c : Code} {o : Expr} {name : Str} {apos pos : Pos} {args : List Expr} {env : PySem.Env} {s : Shared} {Q : Value → Shared → Prop} (hf : methodCallForm (args.length + ([] : List Keyword).length) (backTo pos (starEach args env)) (backToKw pos (keywordEach [] env)) = true) (hl : (apos.endLine == pos.line) = true)
    (k : _root_.PySem.wpAt (model prog w) A c (attributeBase o name env (eval o env)) (fun ov s1 => wpAny (model prog w) A (calleeOf true o env ov name) (fun fx s2 => wpAny (model prog w) A (callWith pos fx.1 fx.2 (backTo pos (starEach args env)) []) Q E s2) E s1) E s) :
    _root_.PySem.wpAt (model prog w) A c (eval (.Call (.Attribute o name apos) args [] pos) env) Q E s := by
  rw [arm_eval_Call]
  refine _root_.PySem.wpAt_bind (_root_.PySem.wpAt_mono k (fun ov s1 h1 => _root_.PySem.wpAt_of_wpAny (wpAny_bind (wpAny_standAt ?_))) fun _ _ z => z)
  have hpos : methodCallPos true o env apos pos = pure pos := by unfold methodCallPos; simp [hl]
  unfold methodCall
  rw [hf]
  refine wpAny_bind (wpAny_holding (wpAny_mono h1 (fun fx s2 h2 => wpAny_bind (wpAny_of_eq hpos h2)) fun _ _ z => z))
theorem init1 (b : BF B newId initId bm) (T : ExK K newId bm C) (I : In1 K prog mg C fI B initId f) (X : K.In h) (lim : h.NoLimit) (glo : h.Ns mainGlobals mg) (blt : ∃ mb, h.Ns builtinsNs mb ∧ ∀ x : Str, x ≠ "__name__" → mb x = bootBuiltins x) (hroom : A.depth < recursionLimit)
    (hx : h.get? x = some (xO C t0 none)) (hK : ∀ o, K.lookup x ≠ some o)
    (hq : ∀ h' tk' dx t', (∀ b o, b ≠ x → h.get? b = some o → h'.get? b = some o) → h.objs.size ≤ dx → dx ≠ x → h'.get? x = some (xO C t' (some dx)) → h'.Ns1 dx (fun y => if y = f then some v else none) → R (.ok (.ret .none)) ⟨h', g, d, tk', os⟩) :
    codeAny (model prog w) A (.call (.ref fI) ⟨[.ref x, v], []⟩) R ⟨h, g, d, t, os⟩ := by
  obtain ⟨oc, od, osl, name, qual, params, sns, dV, kV, doc, pm, an, cda, cc, ct, p0, p1, p2, p3, p4, p5, p6, p7, p8, p9, ar, lk, hcd, ⟨ccl, cdd, ccs, vs, file, tf, hcode, hvs, hfile⟩, ⟨cl, cld, csl, hcell⟩, ln, har, hars, hb, s1, s5, s6, s7, s8⟩ := I.fn
  obtain ⟨cd, hcl, hm, hh⟩ := exk_cls T
  have hxL : x < h.objs.size := Heap.lt_size hx
  refine ks_codeAny_call_defAt (binds := [(("self" : Str), .ref x), (f, v)]) hroom (X _ _ lk) rfl lim (PySem.W.codeRec_of X hcd) rfl (BindsTo.of_eq (hb _ _)) s1 (fun y hy => ?_) (fun h0 hns k0 => ?_)
  · rcases List.mem_cons.mp hy with e | hy
    · rw [e]
      exact s7
    · rw [List.mem_singleton.mp hy]
      exact s8
  · have hx0 := k0 _ _ hx
    have X0 : K.In h0 := X.keeps k0
    have kin : ∀ {b : Addr} {o : Obj}, K.lookup b = some o → h0.get? b = some o := fun e => X0 _ _ e
    refine ks_wpAt_execs_cons (ks_wpAt_Expr_any (meth_at rfl ln (ks_wpAt_super_base (attr := "__init__") s5 s6 (by decide) rfl (kin lk) rfl har rfl (kin hcode) rfl hvs hfile I.top ?_)))
    have lself : ((f, v) :: [(("self" : Str), Value.ref x)]).lookup ("self" : Str) = some (.ref x) := by
      rw [List.lookup_cons, show (("self" : Str) == f) = false by rw [BEq.comm]; exact I.nfs.1]
      rfl
    have lf : ((f, v) :: [(("self" : Str), Value.ref x)]).lookup f = some v := by
      rw [List.lookup_cons, show (f == f) = true by simp]
    have loadF : ∀ {s1 : Shared} {m : Str → Option Value} {Q : Value → Shared → Prop} {E1 : Value → Shared → Prop} {A1 : Around} {pos : Pos}, s1.heap.Ns h.objs.size m → m f = some v → Q v s1 → wpAny (model prog w) A1 (eval (.Name f pos) (callEnv (PySem.W.ksFn name qual params [.Expr (.Call (.Attribute (.Call (.Name "super" p0) [] [] p1) "__init__" p2) [.Name f p3] [] p4) p5, .Assign [.Attribute (.Name "self" p6) f p7] (.Name f p8) p9] (inSc sns) dV kV doc pm an (.ref cda) ct cc) h.objs.size fI)) Q E1 s1 := fun hn hv q => wpAny_Name (wpAny_loadName_local rfl s8 hn hv q) I.nfs.2
    refine PySem.W.ks_loadName_global rfl s5 (PySem.Calls.loadGlobal_builtin (glo.keeps k0) I.msu (blt.choose_spec.1.keeps k0) ((blt.choose_spec.2 "super" (by decide)).trans (by decide +kernel)) ⟨rfl, ?_⟩)
    refine wpAny_loadName_free rfl s6 rfl ⟨_, kin hcell, rfl⟩ ?_
    rw [hars]
    have hself : (fun y => ([(("self" : Str), Value.ref x), (f, v)].reverse).lookup y) ("self" : Str) = some (.ref x) := lself
    refine wpAny_loadName_local rfl s7 hns hself ?_
    obtain ⟨oD, hD1, hD2⟩ : ∃ oD, h0.get? C = some oD ∧ oD.data = .cls cd := by
      unfold PySem.W.clsIn at hcl
      split at hcl
      · rename_i c0 d0 cd' sl ho
        cases hcl
        exact ⟨_, kin ho, rfl⟩
      · cases hcl
    have mC : PySem.W.mroIn K C (.ref C) = some true := by
      unfold PySem.W.mroIn
      rw [hcl, Option.bind_some, hm, if_neg (show ¬ (List.isEmpty (Value.ref C :: bm) = true) from Bool.false_ne_true), List.contains_cons, show (Value.ref C == Value.ref C) = true by simp, Bool.true_or]
    refine ks_wpAny_isType_cls hD1 hD2 ⟨rfl, ?_⟩
    refine ks_wpAny_call_super hD1 hD2 hx0 rfl (fun c0 e => nomatch e) (PySem.W.looks_mroIn X0 mC) (fun h1 e1 k1 => ?_)
    have X1 : K.In h1 := X0.keeps k1
    have hx1 := k1 _ _ hx0
    have I1 : PySem.W.InstAt h1 x (xO C t0 none) C none := ⟨hx1, rfl, rfl, trivial⟩
    have hsup := I.sup
    unfold PySem.W.ks_superIn at hsup
    rw [hcl, Option.bind_some] at hsup
    refine PySem.W.kxs_getMethod b.KF e1 (PySem.W.looks_opaque X1 I.opq) (l₀ := cd.mro) ((PySem.W.looks_clsIn X1 hcl).andThen .now) rfl X1 hsup (I1.type.andThen (PySem.W.looks_mroIn X1 (exk_mro T b.bas))) (PySem.W.ks_ne X1 I1 hcl) (by decide) ?_
    have k2 : ∀ (b : Addr) (o : Obj), h1.get? b = some o → (h1.push (PySem.W.kxs_mw initId x)).get? b = some o := fun b o e => Heap.get?_push_of_some _ e
    have hu : (h1.push (PySem.W.kxs_mw initId x)).get? h1.objs.size = some (PySem.W.kxs_mw initId x) := Heap.get?_push_at rfl rfl
    have n2 := hns.keeps fun b o e => k2 _ _ (k1 _ _ e)
    have hm1 : (fun y => ([(("self" : Str), Value.ref x), (f, v)].reverse).lookup y) f = some v := lf
    refine PySem.W.kxs_callWith (i := initId) (x := x) rfl (PySem.Calls.evalArgs_plain ?_)
    refine PyProof.Rows.spliced_more (loadF n2 hm1 ?_) rfl
    refine PyProof.Rows.spliced_none ⟨hu, ?_⟩
    refine call_mw b T (X1.keeps k2) (k2 _ _ hx1) hu (by rw [sizeLine_eq]; show 1 ≤ _; decide) fun h3 t1 k3 e3 => ?_
    have ne3 : ∀ {b : Addr} {o : Obj}, b ≠ x → h.get? b = some o → h3.get? b = some o := fun {b o} nb e => k3 _ _ nb (k2 _ _ (k1 _ _ (k0 _ _ e)))
    have nL : h.objs.size ≠ x := Nat.ne_of_gt hxL
    obtain ⟨oL, esL, epL, hoL, hrL⟩ := id n2
    have n3 := n2.at fun o e => k3 _ o nL e
    have X3 : K.In h3 := fun b o e => k3 b o (fun z => hK o (by rw [← z]; exact e)) (k2 _ _ (X1 _ _ e))
    have I3 : PySem.W.InstAt h3 x (xO C t1 none) C none := ⟨e3, rfl, rfl, trivial⟩
    refine ks_wpAt_execs_cons (ks_wpAt_Assign_Attr (_root_.PySem.wpAt_of_wpAny (loadF n3 hm1 ?_)))
    refine wpAny_Name (wpAny_loadName_local rfl s7 n3 hself ?_) (by decide)
    refine PySem.W.set_plain X3 I3 T.sa (set_first b T X3 e3 I.nof fun h4 tk4 dx k4 d1 d2 e4 n4 => ?_)
    refine _root_.PySem.wpAt_of_wpAny (wpAny_execs_nil ?_)
    refine hq h4 tk4 dx t1 (fun b o nb e => k4 _ _ nb (ne3 nb e)) ?_ d2 e4 n4
    obtain ⟨o3, _, _, ho3, _⟩ := id n3
    have := Heap.lt_size ho3
    exact Nat.le_of_lt (Nat.lt_of_lt_of_le this d1)
end
/-! ### .. in a def's body -/
/-- C(e): the error's dict is new -/
def tMk1 (C : Addr) (f : Str) (ta : TA) : L2.St → Hp → XK → Prop := fun σ H Q => ta σ H fun vs H1 => ∃ v, vs = [v] ∧ ∀ dd, H1 dd = none → Q (.ref C) (some dd) (upd H1 dd (.xd [(f, v)]))
section
variable {X : Cx} {B newId initId : String} {bm : List Value} {C fI : Addr} {f x : Str} {e : Expr} {ta : TA} {p pos : Pos}
theorem mk_done {pins : List (Addr × Obj)} {σ : L2.St} {H1 : Hp} {Q : XK} {hp h' : Heap} {g : Array GenState} {dr : Drawn} {tk tk' : Tok} {os : OsState} {a dx t1 : Addr} {fs : List (Str × V)} {mA : Str → Option Value} (T : ExK X.K newId bm C) (I1 : Inv X pins σ H1 ⟨hp, g, dr, tk, os⟩) (ha : hp.objs.size ≤ a) (hd : hp.objs.size ≤ dx) (hda : dx ≠ a)
    (k : ∀ b o, hp.get? b = some o → h'.get? b = some o) (e : h'.get? a = some (xO C t1 (some dx))) (hn : h'.Ns1 dx mA) (r : ∀ y, RelO (fs.lookup y) (mA y)) (q : Q (.ref C) (some dx) (upd H1 dx (.xd fs))) : MkP X pins σ Q (.ref a) ⟨h', g, dr, tk', os⟩ := by
  obtain ⟨G, g1, g2⟩ := restrict h' fun b => decide (b ≠ a)
  have gk : ∀ b, b ≠ a → G.get? b = h'.get? b := fun b hb => g1 b (decide_eq_true hb)
  have kG : ∀ b u, hp.get? b = some u → G.get? b = some u := fun b u z => by
    rw [gk b (Nat.ne_of_lt (Nat.lt_of_lt_of_le (Heap.lt_size z) ha))]
    exact k b u z
  have J : Inv X pins σ (upd H1 dx (.xd fs)) ⟨G, g, dr, tk', os⟩ := I1.laid (t' := tk') (h' := G) kG hd ⟨mA, hn.at fun o y => (gk dx hda).trans y, r⟩
  refine ⟨a, _, _, ⟨G, g, dr, tk', os⟩, _, .ref C, some dx, rfl, J, fun b o z => ?_, g2 a (by simp), e, ⟨rfl, rfl⟩, rfl, rfl, ?_, rfl, I1.bare, raises_own T.sub T.ty, q⟩
  · by_cases hb : b = a
    · rw [hb, g2 a (by simp)] at z
      cases z
    · exact (gk b hb).symm.trans z
  · rw [upd_ne (Ne.symm hda)]
    exact I1.hok.fresh ha
theorem pmk1 (b : BF B newId initId bm) (T : ExK X.K newId bm C) (In : In1 X.K X.prog X.mg C fI B initId f) (hr : Room 0 X.A) (hg : Gl X x) (hm : X.mg x = some (.ref C)) (ha : PA X [e] ta)
    (hdb : (x == ("__debug__" : Str)) = false) (he : starEach [e] X.env = (false, eval e X.env) :: starEach [] X.env) : PMk X (.Call (.Name x p) [e] [] pos) (tMk1 C f ta) := by
  intro pins s σ H Q I h
  obtain ⟨nm, q, N, bs, sn, sub, ab, col, dd, k0, k1, k2, k3, k5, hC⟩ := T.cls
  refine wpAny_Call_Name_kw (ld_glob I hg hm ?_ hdb)
  refine PySem.W.callWith_K (h₀ := X.base) I.ok.mod.kin T.kp (thn (ha.run pos pins s σ H _ I h) fun us s1 ⟨vs, H1, I1, r1, v, ev, q1⟩ => ⟨I1.kIn, ?_⟩) he rfl
  subst ev
  cases r1 with
  | @cons _ u _ us' ru rn =>
    cases rn
    show wpAny _ _ (call (.ref C) [u]) _ _ _
    obtain ⟨hp, g, dr, tk, os⟩ := s1
    have kk : ∀ b o, hp.get? b = some o → ((hp.push (PySem.W.kdv_tup [u])).push (PySem.HandSPX.excO C hp.objs.size)).get? b = some o := fun b o z => Heap.get?_push_of_some _ (Heap.get?_push_of_some _ z)
    have hget : ((hp.push (PySem.W.kdv_tup [u])).push (PySem.HandSPX.excO C hp.objs.size)).get? (hp.objs.size + 1) = some (xO C hp.objs.size none) := by heap_get
    have lim := I1.ok.mod.nolimit.keeps fun b o z => kk _ _ (I1.bs b o z).1
    have glo := I1.ok.mod.glob.keeps fun b o z => kk _ _ (I1.bs b o z).1
    obtain ⟨mb, mb1, mb2⟩ := I1.ok.mod.blt
    have hus : [u].length ≤ sizeLine := by rw [sizeLine_eq]; show 1 ≤ _; decide
    refine wpAny_call (PySem.HandSPX.call_own b.F (fun Y => rfl) (I1.kIn _ _ hC) (PySem.W.looks_findIn I1.kIn In.fnd) (fun self => PySem.W.bind_fn I1.kIn self In.typ) hus ?_)
    refine init1 b T In (I1.kIn.keeps kk) lim glo ⟨mb, mb1.keeps fun b o z => kk _ _ (I1.bs b o z).1, mb2⟩ (by rw [make_depth]; have := hr.dp; omega) hget (fun o z => ?_) (fun h' tk' dx t1 k4 d1 d2 e4 n4 => ⟨rfl, ?_⟩)
    · have := Heap.lt_size (I1.kIn _ _ z)
      exact absurd this (Nat.not_lt.mpr (Nat.le_succ _))
    · have hz : hp.objs.size ≤ dx := by
        have z1 := Heap.lt_size hget
        exact Nat.le_trans (Nat.le_of_lt (Nat.lt_of_succ_lt z1)) d1
      exact mk_done T I1 (Nat.le_succ _) hz d2 (fun b o z => k4 b o (Nat.ne_of_lt (Nat.lt_of_lt_of_le (Heap.lt_size z) (Nat.le_succ _))) (kk b o z)) e4 n4 (relO_put (fs := []) (mA := fun _ => none) ru fun _ => True.intro) (q1 dx (I1.hok.fresh hz))
/-- C(), a class without an __init__ of its own -/
theorem pmk0 (b : BF B newId initId bm) (T : ExK X.K newId bm C) (q : PySem.W.excIn X.K C bm newId = true) (hg : Gl X x) (hm : X.mg x = some (.ref C)) (hdb : (x == ("__debug__" : Str)) = false) : PMk X (.Call (.Name x p) [] [] pos) (fun _ H Q => Q (.ref C) none H) := by
  intro pins s σ H Q I h
  refine wpAny_Call_Name_kw (ld_glob I hg hm ?_ hdb)
  refine PySem.W.callWith_K0 I.kIn T.kp ?_
  obtain ⟨bm', N, nm, qn, bs, hdct, sn, sub, ab, col, dd, k0, k1, k2, k3, k5, mN, hC, hN, hni, tl⟩ := exc_obj I.kIn q
  refine wpAny_call_exc_subT b.F tl hC hN hni (fun h' e hm => ?_) (Nat.zero_le _)
  exact mk_of I hm (raises_own T.sub T.ty) h (I.hok.gone hm.new)
end
/-- all that the top tells of a class -/
structure ClsK (K : PySem.W.Frag) (prog : Program) (mg : Str → Option Value) (k : Nat) : Prop where
  has : hasX K k
  glo : mg (exN k) = some (.ref (exC K k))
  mx : ExM K k
  ks : ∃ B newId initId bm, BF B newId initId bm ∧ ExK K newId bm (exC K k) ∧ (exF k = [] → PySem.W.excIn K (exC K k) bm newId = true) ∧ ∀ f, exF k = [f] → ∃ fI, In1 K prog mg (exC K k) fI B initId f
  an : ClsA K k
end Wy

set_option Elab.async false
set_option linter.all false
set_option maxRecDepth 100000
set_option autoImplicit false
set_option maxHeartbeats 2000000
/-! WyTry: try, several except clauses, with and without a name. -/
namespace Wy
open PySem PySem.Spec PyProof.Rows L2
/-- a clause's wish: the error's object, its class, its dict -/
abbrev CW := Ends → Addr → Value → Option Addr → L2.St → Hp → Prop
def wTry (K : PySem.W.Frag) (Wout : WX) (D : Ends) : List (Value × CW) → WX
  | [] => Wout
  | (c, t) :: r => fun cls d σ H => ∃ b, PySem.W.exmOne K cls c = some b ∧ (b = true → ∀ a, H a = none → t D a cls d σ H) ∧ (b = false → wTry K Wout D r cls d σ H)
/-- the clause's suite, from where the error has come to the ground -/
def SuiteOk (X : Cx) (nm : Option Str) (ss : List Stmt) (pos : Pos) (t : CW) : Prop :=
  ∀ (pins : List (Addr × Obj)) (a : Addr) (oe : Obj) (cls : Value) (d : Option Addr) (σ : L2.St) (H : Hp) (s : Shared) (D : Ends), X.Ok → Zc cls d oe → (∃ vs, oe.data = .fields vs) → X.s_0.heap.get? a = none → (∀ p ∈ X.pn ++ pins, p.1 ≠ a) →
    Inv (X.suite a ((a, oe) :: (X.pn ++ pins))) [] σ H s → t D a cls d σ H →
    match nm with
    | none => wpAny (model X.prog X.w) (X.A.mark (some (.ref a))) (execs ss X.env) (fun f s2 => SP X pins D f s2) (fun _ _ => False) s
    | some n => wpAny (model X.prog X.w) (X.A.mark (some (.ref a))) (storeName X.env n (.ref a)) (fun _ s2 => wpAny (model X.prog X.w) (X.A.mark (some (.ref a))) (execs ss X.env) (fun f s3 => wpAny (model X.prog X.w) X.A (do bindName X.env n .none; unbindBehindTheSuite X.env n pos) (fun _ s4 => SP X pins D f s4) X.xe s3) (fun _ _ => False) s2) (fun _ _ => False) s
inductive ClsOk (X : Cx) : List ExceptHandler → List (Value × CW) → Prop
  | nil : ClsOk X [] []
  | cons {x : Str} {c : Value} {t : CW} {nm : Option Str} {b0 : Stmt} {ss : List Stmt} {np pos : Pos} {hds : List ExceptHandler} {l : List (Value × CW)} (hc : Names X x c) (hs : SuiteOk X nm (b0 :: ss) pos t) (r : ClsOk X hds l) : ClsOk X (.ExceptHandler (some (.Name x np)) nm (b0 :: ss) pos :: hds) ((c, t) :: l)
theorem sky_none {B h : Heap} {l : List PySem.Env} {a L : Addr} {Z : Obj → Prop} (x : Sky B l a Z L h) : B.get? a = none := by
  rcases x with ⟨_, q, _⟩ | q | q
  · exact q
  · exact q.2.1
  · exact q.2.1
section
variable {X : Cx} {body : List Stmt} {h0 : ExceptHandler} {hds : List ExceptHandler} {l : List (Value × CW)} {pos : Pos} {tb : WX → TS} {Wout : WX}
theorem ps_tryW (hst : X.stack = X.env :: X.outer) (hfr : X.env.frame = some X.env.locals) (hex : X.ex = []) (tk : Takes X Wout)
    (hb : ∀ (W : WX) (pn : List (Addr × Obj)) (xe : Value → Shared → Prop), Takes (X.tr pn xe) W → PassesOwn (model X.prog X.w) X.A X.env xe → PSs (X.tr pn xe) body (tb W))
    (hh : ClsOk X (h0 :: hds) l) : PS X (.Try body (h0 :: hds) [] [] pos) (fun D σ H => tb (wTry X.K Wout D l) D σ H) := by
  refine ⟨fun pins s σ H D I hw => ?_⟩
  have ok := I.ok
  have frm : X.A.frames = some (X.env :: X.outer) := by rw [ok.frames, hst]
  refine wpAny_Try_except (wpAny_mono ((hb (wTry X.K Wout D l) (X.pn ++ pins) (fun e s1 => wpAny (model X.prog X.w) X.A (noteFrame e X.env) (fun _ s2 => wpAny (model X.prog X.w) X.A (setFlight e none) (fun _ s3 =>
    wpAny (model X.prog X.w) X.A (handleBy e X.env (h0 :: hds)) (SP X pins D) X.xe s3) X.xe s2) X.xe s1) (fun u s' xx => ?_) PassesOwn.looking).run [] s σ H D (I.toTry _) hw) (fun f s1 sp => ?_) (fun e s1 he => he))
  · obtain ⟨a, B, sI, pins2, σ1, H1, cls, d, rfl, J0, nb, up, sky, na, os, ag, w⟩ := xx
    have J : Inv X pins σ1 H1 sI := J0.ofTry ok
    have sk : Sky B (X.env :: X.outer) a (Zc cls d) X.env.locals s'.heap := by rw [← hst]; exact sky
    have Ba := sky_none sk
    show wpAny (model X.prog X.w) X.A (noteFrame (.ref a) X.env) _ _ _
    refine Sky.land Zc.steady frm hfr sk fun hA flA upA => ?_
    have JA : Inv X pins σ1 H1 { s' with heap := hA } := J.landed nb flA.1 (up.trans upA) os ag
    obtain ⟨oA, vA, eA, zA, dA⟩ := flA.there
    have nfr : a ∉ frs (X.env :: X.outer) := fun hm => by
      obtain ⟨_, o2, e2, hn⟩ := flA.2.2.1.mem hm
      rw [eA] at e2
      cases e2
      exact hn _ dA
    have nI : sI.heap.get? a = none := by
      cases q : sI.heap.get? a with
      | none => rfl
      | some o =>
        have := nb a o q (by rw [hst]; exact nfr)
        rw [Ba] at this
        cases this
    have n0 : X.s_0.heap.get? a = none := by
      cases q : X.s_0.heap.get? a with
      | none => rfl
      | some o =>
        obtain ⟨o2, z⟩ := J.base.there a o q (by rw [hex]; exact fun z => nomatch z)
        rw [nI] at z
        cases z
    have nP : ∀ p ∈ X.pn ++ pins, p.1 ≠ a := fun p hp z => by
      obtain ⟨e, _⟩ := J.pin p hp
      rw [z, nI] at e
      cases e
    have nL : a ≠ X.env.locals := fun z => nfr (List.mem_filterMap.mpr ⟨X.env, List.mem_cons_self, by rw [hfr, z]⟩)
    have nF : a ∉ X.fs := fun hm => by
      obtain ⟨e, he, q⟩ := List.mem_filterMap.mp hm
      exact nfr (List.mem_filterMap.mpr ⟨e, List.mem_cons_of_mem _ he, q⟩)
    have SA := JA.suite eA dA na nL nF
    have go : ∀ {hs2 : List ExceptHandler} {l2 : List (Value × CW)}, ClsOk X hs2 l2 → wTry X.K Wout D l2 cls d σ1 H1 → wpAny (model X.prog X.w) X.A (handleBy (.ref a) X.env hs2) (SP X pins D) X.xe { s' with heap := hA } := by
      intro hs2 l2 hk
      induction hk with
      | nil =>
        intro w2
        refine wpAny_handleBy_nil ?_
        obtain ⟨_, _, _, oe, vs, tb2, oT, ts2, he, hz, hd, h1, hr⟩ := id flA
        unfold PySem.passOn
        refine wpAny_bind (wpAny_field he hd h1 ?_)
        rw [if_neg (show ¬ ((Value.ref tb2 == Value.none) = true) from by simp)]
        have last : wpAny (model X.prog X.w) X.A (setFlight (.ref a) X.env.frame) (fun _ s4 => wpAny (model X.prog X.w) X.A (throw (.ref a) : Sem Flow) (SP X pins D) X.xe s4) X.xe { s' with heap := hA } := by
          rw [hfr]
          exact PySem.HandSPX.setFlight_upZ flA fun hB heldB upB => wpAny_throw (tk _ _ ⟨a, B, sI, pins, σ1, H1, cls, d, rfl, J, nb, (up.trans upA).trans upB, .inr (.inr (by rw [hst]; exact heldB)), na, os, ag, w2⟩)
        first
          | exact wpAny_bind (wpAny_pure (wpAny_bind last))
          | exact wpAny_bind last
      | @cons x c t nm b0 ss np cpos hds3 l3 hc hsu r ih =>
        intro w2
        obtain ⟨b, hb1, hyes, hno⟩ := w2
        refine wpAny_handleBy_cons (codeAny_handlers_test ?_) (fun q => nomatch q)
        have lt : PySem.W.Looks (model X.prog X.w) hA (typeOf (.ref a)) cls := fun A1 Q1 E1 s1 kq q => wpAny_typeOf_ref (kq _ _ eA) (by rw [zA.1]; exact q)
        have lm := PySem.W.exm_one (M := model X.prog X.w) JA.kIn lt hb1
        have tst : ∀ {Q : Value → Shared → Prop} {E : Value → Shared → Prop}, Q c { s' with heap := hA } → wpAny (model X.prog X.w) (X.A.mark (some (.ref a))) (eval (.Name x np) X.env) Q E { s' with heap := hA } := fun {Q E} q => by
          obtain ⟨hg, hdb, hm | ⟨hm, hv, hn⟩⟩ := hc
          · exact ld_glob (X := X.suite a ((a, oA) :: (X.pn ++ pins))) SA hg hm q hdb
          · exact ld_blt (X := X.suite a ((a, oA) :: (X.pn ++ pins))) SA hg hm hv q hn hdb
        refine tst (lm.here ?_)
        cases b with
        | false => exact ih (hno rfl)
        | true =>
          have q := hyes rfl a na
          have land : ∀ {Q : Unit → Shared → Prop} {E : Value → Shared → Prop} {A1 : Around}, (∀ (oB : Obj) (s4 : Shared), Zc cls d oB → (∃ vs, oB.data = .fields vs) → Inv (X.suite a ((a, oB) :: (X.pn ++ pins))) [] σ1 H1 s4 → Q () s4) → wpAny (model X.prog X.w) A1 (setFlight (.ref a) none) Q E { s' with heap := hA } := fun {Q E A1} kq =>
            PySem.HandSPX.lands_againZ flA fun hB flB upB => by
              have JB : Inv X pins σ1 H1 { s' with heap := hB } := J.landed nb flB.1 ((up.trans upA).trans upB) os ag
              obtain ⟨oB, vB, eB, zB, dB⟩ := flB.there
              exact kq oB _ zB ⟨_, dB⟩ (JB.suite eB dB na nL nF)
          cases nm with
          | none => exact codeAny_handlers_suite (land fun oB s4 zB dB SB => wpAny_mono (hsu pins a oB cls d σ1 H1 s4 D ok zB dB n0 nP SB q) (fun f s6 z => z) fun _ _ z => False.elim z)
          | some n => exact codeAny_handlers_suite_as (land fun oB s4 zB dB SB => wpAny_mono (hsu pins a oB cls d σ1 H1 s4 D ok zB dB n0 nP SB q) (fun _ s5 z => wpAny_mono z (fun f s6 z2 => z2) fun _ _ z2 => False.elim z2) fun _ _ z => False.elim z)
    exact go hh w
  · cases f with
    | next =>
      obtain ⟨σ2, H2, J2, q⟩ := sp
      exact wpAny_execs_nil ⟨σ2, H2, J2.ofTry ok, q⟩
    | brk =>
      obtain ⟨σ2, H2, J2, q⟩ := sp
      exact ⟨σ2, H2, J2.ofTry ok, q⟩
    | cont =>
      obtain ⟨σ2, H2, J2, q⟩ := sp
      exact ⟨σ2, H2, J2.ofTry ok, q⟩
    | ret u =>
      obtain ⟨v, σ2, H2, J2, r, q⟩ := sp
      exact ⟨v, σ2, H2, J2.ofTry ok, r, q⟩
end
end Wy

set_option Elab.async false
set_option linter.all false
set_option maxRecDepth 100000
set_option autoImplicit false
set_option maxHeartbeats 2000000
/-! WyHd: except clauses. -/
namespace Wy
open PySem PySem.Spec PyProof.Rows L2
section
variable {X : Cx} {c : Wy.Ctx} {S : Sc} {a : Addr} {oe : Obj} {cls : Value} {d : Option Addr} {pn : List (Addr × Obj)} {k : Nat} {i : Nat} {n : Str} {ys : List D}
/-- isinstance(e, C), e the error that the suite holds -/
def rIsX (K : PySem.W.Frag) (D a : Addr) (d : Option Addr) : List V → Hp → VK → Prop := fun xs H Q => ∃ (u : V) (cv : Value) (b : Bool), xs = [.ref a, u] ∧ (∀ z, RelV u z → z = cv) ∧ PySem.W.kitOne K (.ref D) cv = some b ∧ (∀ dd, d = some dd → ∃ fs, H dd = some (.xd fs)) ∧ Q (.bl b) H
theorem call_isX (C : ClsA X.K k) (hz : Zc (.ref (exC X.K k)) d oe) (hf : ∃ vs, oe.data = .fields vs) : CallR (X.suite a ((a, oe) :: pn)) (.builtin "isinstance") (rIsX X.K (exC X.K k) a d) := by
  intro pins s σ H xs us Q I r h
  obtain ⟨u, cv, b, rfl, hcv, e, hd, q⟩ := h
  cases r with
  | cons rx rr =>
    cases rr with
    | cons rt rr =>
      cases rr
      cases rx
      have ec := (hcv _ rt).symm
      subst ec
      obtain ⟨hget, _⟩ := I.pin (a, oe) (List.mem_append.mpr (.inl List.mem_cons_self))
      obtain ⟨vs, hv⟩ := hf
      obtain ⟨oc, oD, oda, osl⟩ := oe
      obtain ⟨h1, h2⟩ := hz
      dsimp only at h1 h2 hv
      subst h1 h2 hv
      have fin : ∀ {od : Option Obj}, PySem.W.InstAt s.heap a ⟨.ref (exC X.K k), oD, .fields vs, osl⟩ (exC X.K k) od → wpAny (model (X.suite a ((a, ⟨.ref (exC X.K k), oD, .fields vs, osl⟩) :: pn)).prog X.w) (X.suite a ((a, ⟨.ref (exC X.K k), oD, .fields vs, osl⟩) :: pn)).A (call (.builtin "isinstance") [.ref a, cv]) (EP (X.suite a ((a, ⟨.ref (exC X.K k), oD, .fields vs, osl⟩) :: pn)) pins σ Q) (X.suite a ((a, ⟨.ref (exC X.K k), oD, .fields vs, osl⟩) :: pn)).xe s := fun {od} J =>
        PySem.W.kia_one (PySem.W.kitx_exc (od := od) C.cl C.ga C.gg C.sub C.ca C.sp C.tk C.mro) I.kIn J e (fun z => nomatch z) fun tk => ⟨.bl b, H, I.kept (t' := tk) fun _ _ z => z, rfl, q⟩
      cases oD with
      | none => exact fin (od := none) ⟨hget, rfl, rfl, trivial⟩
      | some dd =>
        obtain ⟨fs, hfs⟩ := hd dd rfl
        obtain ⟨mA, hns, _⟩ := I.hok dd _ hfs
        obtain ⟨od, ho, _⟩ := L2.lookIn_ns hns
        exact fin (od := some od) ⟨hget, rfl, rfl, ho⟩
/-- what an atom is -/
def haF (S : Sc) (k i j : Nat) (e : Expr) : Bool := match e with
  | .Attribute (.Name y _) g _ => atB S i y && visB S y && evenB y && (match (exF k)[j]? with
    | some f => sEq f g
    | none => false)
  | _ => false
def haB (S : Sc) (k i : Nat) (b : Bool) (e : Expr) : Bool := match e with
  | .Call (.Name z _) [.Name y _, .Name t _] [] _ => sEq z "isinstance" && glB S z && atB S i y && visB S y && evenB y && glB S t && ((sEq t "LookupError" && b == !exV k) || (sEq t "ValueError" && b == exV k))
  | _ => false
def haS (cs : List Nat) (e : Expr) : Bool := match e with
  | .Constant (.str m) _ _ => m.cps.toList == cs
  | _ => false
def haK (S : Sc) (k i : Nat) (d : D) (e : Expr) : Bool := match d with
  | .bl b => haB S k i b e
  | .str cs => haS cs e
  | _ => false
def chkHA (S : Sc) (k : Nat) (i : Nat) (x : HA) (e : Expr) : Bool := match x with
  | .f j => haF S k i j e
  | .k d => haK S k i d e
def chkHAs (S : Sc) (k : Nat) (i : Nat) : List HA → List Expr → Bool
  | [], [] => true
  | x :: xs, e :: es => notStar e && chkHA S k i x e && chkHAs S k i xs es
  | _, _ => false
/-- the reading of atoms -/
def tHA (K : PySem.W.Frag) (i : Nat) (a : Addr) (cls : Value) (d : Option Addr) (k : Nat) (o : List D → Option D) : TE := fun σ H Q => ∃ G ys dv, σ[i]? = some (some (.ref a)) ∧ ExcR K G H cls d k ys ∧ o ys = some dv ∧ ∀ v, SRep K G H v dv → Q v H
def tHAs (K : PySem.W.Frag) (i : Nat) (a : Addr) (cls : Value) (d : Option Addr) (k : Nat) (o : List D → Option (List D)) : TA := fun σ H Q => ∃ G ys ds, σ[i]? = some (some (.ref a)) ∧ ExcR K G H cls d k ys ∧ o ys = some ds ∧ ∀ vs, Reps K G.C (G.h H) vs ds → Q vs H
theorem pe_ha (m : Mt X S c) (C : ClsK X.K X.prog X.mg k) (hz : Zc cls d oe) (hf : ∃ vs, oe.data = .fields vs) {x : HA} {e : Expr} (h : chkHA S k i x e = true) : PE (X.suite a ((a, oe) :: pn)) e (tHA X.K i a cls d k fun ys => haOf ys x) := by
  cases x with
  | f j =>
    replace h : haF S k i j e = true := h
    unfold haF at h
    split at h
    · rename_i y yp g gp
      simp only [Bool.and_eq_true] at h
      obtain ⟨⟨⟨h1, h2⟩, h3⟩, h4⟩ := h
      split at h4
      · rename_i f hfj
        have e4 := sEq_eq h4
        subst e4
        refine PEimp (pe_xf (a := a) (oe := oe) (cls := cls) (d := d) (pn := pn) (C := exC X.K k) ⟨C.an.ga, C.an.gg, C.an.sub, C.an.hd⟩ (C.an.nof f (List.mem_of_getElem? hfj)) hz hf (pe_var (X := X.suite a ((a, oe) :: pn)) (m.at_ h1) (m.vis h2) (even_1 h3).1 (even_1 h3).2.1)) fun σ H Q w => ?_
        obtain ⟨G, ys, dv, s1, er, e, q⟩ := w
        refine ⟨.ref a, s1, rfl, er.cls, ?_⟩
        have e : ys[j]? = some dv := e
        rcases er.fl with ⟨z, _⟩ | ⟨dd, fs, vs, z1, z2, z3, z4⟩
        · rw [z] at hfj
          cases hfj
        · obtain ⟨v, hv, rv⟩ := z4.get e
          have z5 := congrArg (fun l => l[j]?) z3
          simp only [List.getElem?_map, hfj, hv, Option.map_some, Option.some.injEq] at z5
          exact ⟨dd, fs, v, z1, (Gh.h_some.mp z2).1, z5, q v rv⟩
      · cases h4
    · cases h
  | k dk =>
    replace h : haK S k i dk e = true := h
    cases dk with
    | bl b =>
      replace h : haB S k i b e = true := h
      unfold haB at h
      split at h
      · rename_i z zp y yp t tp cp
        simp only [Bool.and_eq_true] at h
        obtain ⟨⟨⟨⟨⟨⟨h1, h2⟩, h3⟩, h4⟩, h5⟩, h6⟩, h7⟩ := h
        have hzn := sEq_eq h1
        subst hzn
        have key : ∀ {T : String}, X.mg (T : Str) = none → bootBuiltins (T : Str) = some (.type T) → (T : Str) ≠ "__name__" → ((T : Str) == ("__debug__" : Str)) = false → t = (T : Str) → PySem.W.kitOne X.K (.ref (exC X.K k)) (.type T) = some b → PE (X.suite a ((a, oe) :: pn)) (.Call (.Name "isinstance" zp) [.Name y yp, .Name t tp] [] cp) (tHA X.K i a cls d k fun ys => haOf ys (.k (.bl b))) := fun {T} g1 g2 g3 g4 g5 g6 => by
          subst g5
          by_cases hcls : cls = .ref (exC X.K k)
          · subst hcls
            have hI : CallR (X.suite a ((a, oe) :: pn)) (.builtin "isinstance") (rIsX X.K (exC X.K k) a d) := call_isX C.an hz hf
            refine PEimp (pe_callB (X := X.suite a ((a, oe) :: pn)) hI (m.gl h2) (m.blt _ (by simp [bnames])) (by decide +kernel) (pa_cons (pe_var (X := X.suite a ((a, oe) :: pn)) (m.at_ h3) (m.vis h4) (even_1 h5).1 (even_1 h5).2.1) (pa_cons (pe_bltn (X := X.suite a ((a, oe) :: pn)) (v := .ty T) (m.gl h6) g1 g2 rfl g3 g4) pa_nil rfl) rfl)) fun σ H Q w => ?_
            obtain ⟨G, ys, dv, s1, er, e, q⟩ := w
            cases e
            refine ⟨.ref a, s1, .ty T, .type T, b, rfl, fun z hz => hz, g6, fun dd hd => ?_, q _ (.bl b)⟩
            rcases er.fl with ⟨_, z, _⟩ | ⟨dd2, fs, vs, z1, z2, _⟩
            · rw [z] at hd
              cases hd
            · rw [z1] at hd
              cases hd
              exact ⟨fs, (Gh.h_some.mp z2).1⟩
          · refine PEimp (t := fun _ _ _ => False) ⟨fun _ _ _ _ _ _ w => w.elim⟩ fun σ H Q w => ?_
            obtain ⟨G, ys, dv, s1, er, e, q⟩ := w
            exact hcls er.cls
        rw [Bool.or_eq_true, Bool.and_eq_true, Bool.and_eq_true, beq_iff_eq, beq_iff_eq] at h7
        rcases h7 with ⟨q1, q2⟩ | ⟨q1, q2⟩
        · exact key (m.blt _ (by simp [bnames])) (by decide +kernel) (by decide) (by decide) (sEq_eq q1) (by rw [q2]; exact C.an.isL)
        · exact key (m.blt _ (by simp [bnames])) (by decide +kernel) (by decide) (by decide) (sEq_eq q1) (by rw [q2]; exact C.an.isV)
      · cases h
    | str cs =>
      replace h : haS cs e = true := h
      unfold haS at h
      split at h
      · rename_i mm j p
        have e1 : mm = Wy.S cs := by
          rw [← eq_of_beq h]
          exact (S_of mm).symm
        subst e1
        refine PEimp pe_str fun σ H Q w => ?_
        obtain ⟨G, ys, dv, s1, er, e, q⟩ := w
        cases e
        exact q _ (.str cs)
      · cases h
    | _ => cases h
theorem pa_has (m : Mt X S c) (C : ClsK X.K X.prog X.mg k) (hz : Zc cls d oe) (hf : ∃ vs, oe.data = .fields vs) : ∀ {xs : List HA} {es : List Expr}, chkHAs S k i xs es = true → PA (X.suite a ((a, oe) :: pn)) es (tHAs X.K i a cls d k fun ys => hasOf ys xs)
  | [], [], _ => PAimp pa_nil fun σ H Q w => by
    obtain ⟨G, ys, ds, s1, er, e, q⟩ := w
    cases e
    exact q [] .nil
  | [], _ :: _, h => by cases h
  | _ :: _, [], h => by cases h
  | x :: xs, e :: es, h => by
    have h : (notStar e && chkHA S k i x e && chkHAs S k i xs es) = true := h
    simp only [Bool.and_eq_true] at h
    refine PAimp (pa_cons (pe_ha m C hz hf h.1.2) (pa_has m C hz hf h.2) (star1 h.1.1)) fun σ H Q w => ?_
    obtain ⟨G, ys, ds, s1, er, e, q⟩ := w
    obtain ⟨dv, e1, e2⟩ := Option.bind_eq_some_iff.mp (show (haOf ys x).bind (fun d => (hasOf ys xs).map (d :: ·)) = some ds from e)
    obtain ⟨ds2, e3, e4⟩ := Option.map_eq_some_iff.mp e2
    subst e4
    exact ⟨G, ys, dv, s1, er, e1, fun v rv => ⟨G, ys, ds2, s1, er, e3, fun vs rvs => q (v :: vs) (.cons rv rvs)⟩⟩
def hxL (S : Sc) (k : Nat) (i : Nat) (xs : List HA) (e : Expr) : Bool := match e with
  | .List es _ => chkHAs S k i xs es && Nat.ble es.length 100
  | _ => false
def chkHX (S : Sc) (k : Nat) (i : Nat) (x : HX) (e : Expr) : Bool := match x with
  | .one x => chkHA S k i x e
  | .lst xs => hxL S k i xs e
  | .tup _ => false
def tHX (K : PySem.W.Frag) (i : Nat) (a : Addr) (cls : Value) (d : Option Addr) (k : Nat) (o : List D → Option D) : TE := fun σ H Q => ∃ G ys dv, Hid G H ∧ σ[i]? = some (some (.ref a)) ∧ ExcR K G H cls d k ys ∧ o ys = some dv ∧ ∀ v H', Same H H' → SRep K G H' v dv → Q v H'
theorem chkHAs_len : ∀ {xs : List HA} {es : List Expr}, chkHAs S k i xs es = true → xs.length = es.length
  | [], [], _ => rfl
  | [], _ :: _, h => by cases h
  | _ :: _, [], h => by cases h
  | x :: xs, e :: es, h => by
    have h : (notStar e && chkHA S k i x e && chkHAs S k i xs es) = true := h
    rw [Bool.and_eq_true] at h
    rw [List.length_cons, List.length_cons, chkHAs_len h.2]
theorem hasOf_len : ∀ {xs : List HA} {ds : List D}, hasOf ys xs = some ds → ds.length = xs.length
  | [], ds, e => by
    cases e
    rfl
  | x :: xs, ds, e => by
    obtain ⟨dv, e1, e2⟩ := Option.bind_eq_some_iff.mp (show (haOf ys x).bind (fun d => (hasOf ys xs).map (d :: ·)) = some ds from e)
    obtain ⟨ds2, e3, e4⟩ := Option.map_eq_some_iff.mp e2
    subst e4
    rw [List.length_cons, List.length_cons, hasOf_len e3]
theorem pe_hx (m : Mt X S c) (C : ClsK X.K X.prog X.mg k) (hz : Zc cls d oe) (hf : ∃ vs, oe.data = .fields vs) {x : HX} {e : Expr} (h : chkHX S k i x e = true) : PE (X.suite a ((a, oe) :: pn)) e (tHX X.K i a cls d k fun ys => hxOf ys x) := by
  cases x with
  | one x =>
    refine PEimp (pe_ha m C hz hf h) fun σ H Q w => ?_
    obtain ⟨G, ys, dv, hid, s1, er, e, q⟩ := w
    exact ⟨G, ys, dv, s1, er, e, fun v rv => q v H (Same.refl _) rv⟩
  | lst xs =>
    replace h : hxL S k i xs e = true := h
    unfold hxL at h
    split at h
    · rename_i es p
      rw [Bool.and_eq_true] at h
      refine PEimp (pe_lst (pa_has m C hz hf h.1)) fun σ H Q w => ?_
      obtain ⟨G, ys, dv, hid, s1, er, e, q⟩ := w
      obtain ⟨ds, e1, e2⟩ := Option.map_eq_some_iff.mp (show (hasOf ys xs).map D.lst = some dv from e)
      subst e2
      refine ⟨G, ys, ds, s1, er, e1, fun vs rvs => ⟨?_, fun p hp => q _ _ (same_new hp) (new_lst hid hp rvs).s⟩⟩
      have l1 := Nat.le_of_ble_eq_true h.2
      rw [rvs.len, hasOf_len e1, chkHAs_len h.1, sizeLine_eq]
      omega
    · cases h
  | tup xs => cases h
end
theorem SG.wipe {K : PySem.W.Frag} {G0 G : Gh} {H0 H : Hp} {σ : L2.St} {ρ : Env} {st : Wy.St} {i : Nat} (s : SG K G0 H0 G σ H ρ st) : SG K G0 H0 G (σ.set i none) H (ρ.set i none) st := by
  have key : ∀ (j : Nat) (d : D) (o : Bool), (ρ.set i none)[j]? = some (some (d, o)) → j ≠ i ∧ ρ[j]? = some (some (d, o)) := fun j d o h => by
    by_cases e : i = j
    · subst e
      by_cases hl : i < ρ.length
      · rw [List.getElem?_set_self hl] at h
        cases h
      · rw [List.getElem?_eq_none (by simpa using hl)] at h
        cases h
    · rw [List.getElem?_set_ne e] at h
      exact ⟨fun z => e z.symm, h⟩
  have stay : ∀ (j : Nat), j ≠ i → (σ.set i none)[j]? = σ[j]? := fun j hj => List.getElem?_set_ne (Ne.symm hj)
  exact ⟨⟨fun j d o h => by
    obtain ⟨h1, h2⟩ := key j d o h
    rw [stay j h1]
    exact s.g.er j d o h2, s.g.sr, s.g.hid⟩, s.pre, s.keep, s.new, s.own1, s.own2, fun j d h => by
    obtain ⟨h1, h2⟩ := key j d true h
    rw [stay j h1]
    exact s.fr j d h2, fun j l d e b hj hl kj kl => by
    obtain ⟨h1, h2⟩ := key j d true hj
    obtain ⟨h3, h4⟩ := key l e true hl
    rw [stay j h1] at kj
    rw [stay l h3] at kl
    exact s.ds j l d e b h2 h4 kj kl⟩
/-- a slot that the environment does not tell of -/
theorem SG.dark {K : PySem.W.Frag} {G0 G : Gh} {H0 H : Hp} {σ : L2.St} {ρ : Env} {st : Wy.St} {i : Nat} {x : Option V} (s : SG K G0 H0 G σ H ρ st) : SG K G0 H0 G (σ.set i x) H (ρ.set i none) st := by
  have w := s.wipe (i := i)
  have key : ∀ (j : Nat) (d : D) (o : Bool), (ρ.set i none)[j]? = some (some (d, o)) → j ≠ i := fun j d o h z => by
    subst z
    by_cases hl : j < ρ.length
    · rw [List.getElem?_set_self hl] at h
      cases h
    · rw [List.getElem?_eq_none (by simpa using hl)] at h
      cases h
  have stay : ∀ (j : Nat), j ≠ i → (σ.set i x)[j]? = (σ.set i none)[j]? := fun j hj => by rw [List.getElem?_set_ne (Ne.symm hj), List.getElem?_set_ne (Ne.symm hj)]
  exact ⟨⟨fun j d o h => by
    rw [stay j (key j d o h)]
    exact w.g.er j d o h, w.g.sr, w.g.hid⟩, w.pre, w.keep, w.new, w.own1, w.own2, fun j d h => by
    rw [stay j (key j d true h)]
    exact w.fr j d h, fun j l d e b hj hl kj kl => by
    rw [stay j (key j d true hj)] at kj
    rw [stay l (key l e true hl)] at kl
    exact w.ds j l d e b hj hl kj kl⟩
/-- what a clause wishes -/
def cwH (K : PySem.W.Frag) (n : Bool) (W : WX) (G0 : Gh) (H0 : Hp) (h : Hd) : CW := fun D a cls d σ H => ∃ G ρ st ys, SG K G0 H0 G σ H ρ st ∧ ExcR K G H cls d h.k ys ∧ wp (h.run ρ ys) st (sPost K n W G0 H0 D G H)
section
variable {X : Cx} {c : Wy.Ctx} {S : Sc} {G0 : Gh} {H0 : Hp} {W : WX} {n y : Str} {i j k : Nat} {ex : Expr} {py apos hpos : Pos} {x : HX}
theorem suite_set (m : MtS X S c) (C : ClsK X.K X.prog X.mg k) (hn : atB S i n = true) (ln : lk S.sc.names n = some .local) (hy : atB S j y = true) (ly : locB S y = true) (hij : i ≠ j) (hc : notComp ex = true) (hx : chkHX S k i x ex = true) :
    SuiteOk X (some n) [.Assign [.Name y py] ex apos] hpos (cwH X.K S.me W G0 H0 ⟨k, some i, .set j x⟩) := by
  intro pins a oe cls d σ H s D ok hz hf n0 nP I w
  obtain ⟨G, ρ, st, ys, sg, er, hw⟩ := w
  have hN : X.N.Nodup := m.ndX
  have hi := m.at_ hn
  have kn : X.env.kindOf n = some .local := by
    unfold PySem.Env.kindOf
    rw [m.sc, lk_eq]
    exact ln
  have li : i < σ.length := by
    rw [I.len]
    exact (List.getElem?_eq_some_iff.mp hi).1
  have lj : j < σ.length := by
    rw [I.len]
    exact (List.getElem?_eq_some_iff.mp (m.at_ hy)).1
  obtain ⟨dv, e, hq⟩ := wp_of (wp_bind hw)
  have hq := wp_pure hq
  refine store_ok (X := X.suite a ((a, oe) :: (X.pn ++ pins))) (v := .ref a) I hN hi (.inl kn) rfl (fun s5 I5 => ?_) (.inr kn)
  have P := pss_one (ps_set (pos := apos) (pos' := py) (X := X.suite a ((a, oe) :: (X.pn ++ pins))) hN (m.at_ hy) (m.toMt.loc ly).1 (pe_hx m.toMt C hz hf hx) (no_swap hc) (m.toMt.loc ly).2)
  refine wpAny_mono (P.run [] s5 _ H { nx := fun σ2 H2 => D.nx (σ2.set i none) H2, rt := D.rt, bk := fun σ2 H2 => D.bk (σ2.set i none) H2, ct := fun σ2 H2 => D.ct (σ2.set i none) H2 } I5 ?_) (fun f s6 sp => ?_) (fun _ _ z => False.elim z)
  · refine ⟨G, ys, dv, sg.g.hidden, List.getElem?_set_self li, er, e, fun v H2 sm rv => ?_⟩
    show D.nx (((σ.set i (some (.ref a))).set j (some v)).set i none) H2
    have e1 : ((σ.set i (some (.ref a))).set j (some v)).set i none = (σ.set j (some v)).set i none := by
      rw [List.set_comm _ _ hij, List.set_set]
    rw [e1]
    have s2 := sg.presG (Pres.more sm) (sg.g.sr.more sm)
    exact hq _ H2 (G.at G.C) ((s2.put (i := j) (o := false) lj rv fun z => nomatch z).wipe (i := i)) (Ext.more sm).p
  · have done : ∀ {σ6 : L2.St} {H6 : Hp} {Q : Shared → Prop}, Inv (X.suite a ((a, oe) :: (X.pn ++ pins))) [] σ6 H6 s6 → (∀ s7, Inv X pins (σ6.set i none) H6 s7 → Q s7) → wpAny (model X.prog X.w) X.A (do bindName X.env n .none; unbindBehindTheSuite X.env n hpos) (fun _ s7 => Q s7) X.xe s6 := fun {σ6 H6 Q} I6 kq => gone_ok (I6.unsuite ok) hN hi kn kq
    cases f with
    | next =>
      obtain ⟨σ6, H6, I6, q6⟩ := sp
      exact done I6 fun s7 J7 => ⟨_, _, J7, q6⟩
    | brk =>
      obtain ⟨σ6, H6, I6, q6⟩ := sp
      exact done I6 fun s7 J7 => ⟨_, _, J7, q6⟩
    | cont =>
      obtain ⟨σ6, H6, I6, q6⟩ := sp
      exact done I6 fun s7 J7 => ⟨_, _, J7, q6⟩
    | ret u =>
      obtain ⟨v6, σ6, H6, I6, r6, q6⟩ := sp
      exact done I6 fun s7 J7 => ⟨_, _, _, J7, r6, q6⟩
/-- a clause without a name -/
theorem suite_none (m : MtS X S c) {cs : List Nat} (hy : atB S j y = true) (ly : locB S y = true) (hx : haS cs ex = true) :
    SuiteOk X none [.Assign [.Name y py] ex apos] hpos (cwH X.K S.me W G0 H0 ⟨k, none, .set j (.one (.k (.str cs)))⟩) := by
  intro pins a oe cls d σ H s D ok hz hf n0 nP I w
  obtain ⟨G, ρ, st, ys, sg, er, hw⟩ := w
  have lj : j < σ.length := by
    rw [I.len]
    exact (List.getElem?_eq_some_iff.mp (m.at_ hy)).1
  have hq := wp_pure (wp_bind hw)
  unfold haS at hx
  split at hx
  · rename_i mm jj p
    have e1 : mm = Wy.S cs := by
      rw [← eq_of_beq hx]
      exact (S_of mm).symm
    subst e1
    have P := pss_one (ps_set (pos := apos) (pos' := py) (X := X.suite a ((a, oe) :: (X.pn ++ pins))) m.ndX (m.at_ hy) (m.toMt.loc ly).1 (pe_str (x := Wy.S cs) (j := jj) (pos := p)) rfl (m.toMt.loc ly).2)
    refine wpAny_mono (P.run [] s _ H D I ?_) (fun f s6 sp => ?_) (fun _ _ z => False.elim z)
    · exact hq _ H G (sg.put (i := j) (o := false) lj (.str cs) fun z => nomatch z) (ExtP.refl _ _)
    · cases f with
      | next =>
        obtain ⟨σ6, H6, I6, q6⟩ := sp
        exact ⟨_, _, I6.unsuite ok, q6⟩
      | brk =>
        obtain ⟨σ6, H6, I6, q6⟩ := sp
        exact ⟨_, _, I6.unsuite ok, q6⟩
      | cont =>
        obtain ⟨σ6, H6, I6, q6⟩ := sp
        exact ⟨_, _, I6.unsuite ok, q6⟩
      | ret u =>
        obtain ⟨v6, σ6, H6, I6, r6, q6⟩ := sp
        exact ⟨_, _, _, I6.unsuite ok, r6, q6⟩
  · cases hx
/-- an error that was caught is tracked -/
theorem Inv.track {pins : List (Addr × Obj)} {σ : L2.St} {H : Hp} {s : Shared} {a : Addr} {oe : Obj} {o : HO} (I : Inv X pins σ H s) (ha : s.heap.get? a = some oe) (hf : ∃ vs, oe.data = .fields vs) (na : H a = none) (n0 : X.s_0.heap.get? a = none) (nP : ∀ p ∈ X.pn ++ pins, p.1 ≠ a) (nL : a ≠ X.env.locals)
    (new : ObjOk X.prog X.w (upd H a o) s.heap a o) : Inv X pins σ (upd H a o) s := by
  have ne : ∀ {b : Addr} {u : HO}, H b = some u → b ≠ a := fun {b u} h => ne_of_none h na
  refine ⟨I.ok, I.os, I.bare, ⟨I.base.keep, I.base.slot, fun b u e n hx => ?_, I.base.there, fun b xs e => ?_, fun b u v e => ?_, fun b ps e => ?_⟩, I.loc, I.cell, ?_, fun x c e => ?_, fun p hp => ?_, fun b u e => ?_, I.len⟩
  · rw [upd_ne fun z => by rw [z, n0] at e; cases e]
    exact I.base.free b u e n hx
  · have q := I.base.tups b xs e
    rw [upd_ne (ne q)]
    exact q
  · have q := I.base.frzs b u v e
    rw [upd_ne (ne q)]
    exact q
  · obtain ⟨more, q⟩ := I.base.tbls b ps e
    exact ⟨more, by rw [upd_ne (ne q)]; exact q⟩
  · rw [upd_ne (Ne.symm nL)]
    exact I.free
  · rw [upd_ne fun z => ?_]
    · exact I.freeC x c e
    · obtain ⟨v, oc, h1, h2⟩ := I.cell x c e
      rw [z, ha] at h1
      cases h1
      obtain ⟨vs, hv⟩ := hf
      rw [hv] at h2
      cases h2
  · obtain ⟨e, n, q⟩ := I.pin p hp
    exact ⟨e, by rw [upd_ne (nP p hp)]; exact n, q⟩
  · by_cases hb : b = a
    · subst hb
      rw [upd_same] at e
      cases e
      exact new
    · rw [upd_ne hb] at e
      exact (I.hok b u e).stay (fun c v hc z => z) (fun c hc => by rw [upd_ne (ne hc)]; exact hc) fun c xs hc => by rw [upd_ne (ne hc)]; exact hc
/-- x = error -/
theorem suite_keep (m : MtS X S c) (C : ClsK X.K X.prog X.mg k) {yn : Pos} (hn : atB S i n = true) (ln : lk S.sc.names n = some .local) (en : evenB n = true) (hy : atB S j y = true) (ly : locB S y = true) (hij : i ≠ j) :
    SuiteOk X (some n) [.Assign [.Name y py] (.Name n yn) apos] hpos (cwH X.K S.me W G0 H0 ⟨k, some i, .keep j⟩) := by
  intro pins a oe cls d σ H s D ok hz hf n0 nP I w
  obtain ⟨G, ρ, st, ys, sg, er, hw⟩ := w
  have hN : X.N.Nodup := m.ndX
  have hi := m.at_ hn
  have kn : X.env.kindOf n = some .local := by
    unfold PySem.Env.kindOf
    rw [m.sc, lk_eq]
    exact ln
  have li : i < σ.length := by
    rw [I.len]
    exact (List.getElem?_eq_some_iff.mp hi).1
  have lj : j < σ.length := by
    rw [I.len]
    exact (List.getElem?_eq_some_iff.mp (m.at_ hy)).1
  have hq := wp_pure hw
  obtain ⟨_, na, nL, _⟩ := I.pin (a, oe) (List.mem_append.mpr (.inl List.mem_cons_self))
  have vn : Vis X.env.scope n := .inl kn
  refine store_ok (X := X.suite a ((a, oe) :: (X.pn ++ pins))) (v := .ref a) I hN hi (.inl kn) rfl (fun s5 I5 => ?_) (.inr kn)
  have P := pss_one (ps_set (pos := apos) (pos' := py) (X := X.suite a ((a, oe) :: (X.pn ++ pins))) hN (m.at_ hy) (m.toMt.loc ly).1 (pe_var (X := X.suite a ((a, oe) :: (X.pn ++ pins))) (pos := yn) hi vn (even_1 en).1 (even_1 en).2.1) rfl (m.toMt.loc ly).2)
  refine wpAny_mono (P.run [] s5 _ H { nx := fun σ2 H2 => σ2 = (σ.set i (some (.ref a))).set j (some (.ref a)) ∧ H2 = H, rt := fun _ _ => False, bk := fun _ _ => False, ct := fun _ _ => False } I5 ⟨.ref a, List.getElem?_set_self li, rfl, rfl⟩) (fun f s6 sp => ?_) (fun _ _ z => False.elim z)
  cases f with
  | brk =>
    obtain ⟨_, _, _, q⟩ := sp
    exact q.elim
  | cont =>
    obtain ⟨_, _, _, q⟩ := sp
    exact q.elim
  | ret u =>
    obtain ⟨_, _, _, _, _, q⟩ := sp
    exact q.elim
  | next =>
    obtain ⟨σ6, H6, I6, e1, e2⟩ := sp
    subst e1 e2
    refine gone_ok (X := X.suite a ((a, oe) :: (X.pn ++ pins))) I6 hN hi kn fun s7 I7 => ?_
    obtain ⟨g7, _⟩ := I7.pin (a, oe) (List.mem_append.mpr (.inl List.mem_cons_self))
    have J7 := I7.unsuite ok
    have hcls := er.cls
    subst hcls
    have new : ObjOk X.prog X.w (upd H6 a (ErO X.K a k d)) s7.heap a (ErO X.K a k d) := by
      obtain ⟨vs, hv⟩ := hf
      exact ⟨⟨oe, vs, g7, hz, hv⟩, ⟨oe, g7⟩, fun h1 h2 z kk => by
        obtain ⟨o2, v2, z1, z2, z3⟩ := z
        exact ⟨o2, v2, kk _ z1, z2, z3⟩⟩
    have K7 := Inv.track J7 g7 hf na n0 nP nL new
    have e3 : ((σ.set i (some (.ref a))).set j (some (V.ref a))).set i none = (σ.set j (some (.ref a))).set i none := by
      rw [List.set_comm _ _ hij, List.set_set]
    rw [e3] at K7
    refine ⟨_, _, K7, ?_⟩
    have sm : Same H6 (upd H6 a (ErO X.K a k d)) := same_new na
    have s2 := sg.presG (Pres.more sm) (sg.g.sr.more sm)
    obtain ⟨o1, o2⟩ := new_out sg.g.hidden na
    have rv : SRep X.K G (upd H6 a (ErO X.K a k d)) (.ref a) (.err k ys) := by
      have ha : G.h (upd H6 a (ErO X.K a k d)) a = some (ErO X.K a k d) := Gh.h_some.mpr ⟨upd_same, o1, o2⟩
      rcases er.fl with ⟨z1, z2, z3⟩ | ⟨dd, fs, vs, z1, z2, z3, z4⟩
      · subst z2 z3
        exact .err0 C.an z1 ha
      · subst z1
        exact .err1 C.an ha ((Ext.more sm).same _ _ z2) z3 (z4.mono (Ext.more sm).same (Ext.more sm).pre)
    exact hq _ _ (G.at G.C) ((s2.put (i := j) (o := false) lj rv fun z => nomatch z).wipe (i := i)) (Ext.more sm).p
end
end Wy

set_option Elab.async false
set_option linter.all false
set_option maxRecDepth 100000
set_option autoImplicit false
set_option maxHeartbeats 1000000
/-! WyTr: raise, try. -/
namespace Wy
open PySem PySem.Spec PyProof.Rows L2
/-- .. and what the errors' classes tell -/
structure MtX (X : Cx) (S : Sc) (c : Wy.Ctx) : Prop extends MtS X S c where
  exs : ∀ k ∈ S.ec, ClsK X.K X.prog X.mg k
section
variable {X : Cx} {c : Wy.Ctx} {S : Sc} {G0 : Gh} {H0 : Hp} {W : WX}
theorem MtX.tr (m : MtX X S c) {pn : List (Addr × Obj)} {xe : Value → Shared → Prop} (po : PassesOwn (model X.prog X.w) X.A X.env xe) : MtX (X.tr pn xe) S c :=
  { hN := m.hN, nd := m.nd, sc := m.sc, fn := m.fn, calm := m.calm, un := m.un, blt := m.blt, fns := fun x i h => ⟨(m.fns x i h).ex⟩, kws := fun q hq => ⟨(m.kws q hq).ex⟩, cst := m.cst, kd := m.kd, rm := m.rm, hst := m.hst, hfr := m.hfr, hex := m.hex, po := po, exs := m.exs }
/-! ### raise -/
theorem exF_new {K : PySem.W.Frag} {G : Gh} {H : Hp} {k : Nat} {f : Str} {dd : Addr} {v : V} {d : D} (hid : Hid G H) (hk : exF k = [f]) (mx : ExM K k) (hd : H dd = none) (r : SRep K G H v d) : ExcR K G (upd H dd (.xd [(f, v)])) (.ref (exC K k)) (some dd) k [d] := by
  obtain ⟨o1, o2⟩ := new_out hid hd
  refine ⟨mx, rfl, .inr ⟨dd, [(f, v)], [v], rfl, Gh.h_some.mpr ⟨upd_same, o1, o2⟩, ?_, .cons (r.ext (Ext.more (same_new hd))) .nil⟩⟩
  rw [hk]
  simp [List.lookup]
theorem s_raise1 (m : MtX X S c) (tk : Takes X W) {x : Str} {p cp pos : Pos} {e : Expr} {ie : IE} {k : Nat} {f : Str} (hk : k ∈ S.ec) (hf : exF k = [f]) (hx : x = exN k) (hg : glB S x = true) (he : evenB x = true) (hs : notStar e = true) (hm : (md c ie).m = mOf (md c ie).s) (h : PA X [e] (tR X.K (row (mds c [ie])))) :
    PS X (.Raise (some (.Call (.Name x p) [e] [] cp)) none pos) (tS X.K S.me W G0 H0 (xs c (.raise_ k [ie]))) := by
  have C := m.exs k hk
  obtain ⟨B, newId, initId, bm, b, T, _, hIn⟩ := C.ks
  obtain ⟨fI, In⟩ := hIn f hf
  subst hx
  refine PSimp (ps_raise m.calm tk (pmk1 b T In m.rm (m.gl hg) C.glo h (even_1 he).1 (star1 hs))) fun DD σ H w => ?_
  obtain ⟨G, ρ, st, sg, hw⟩ := w
  have hw : wp (M.bind (M.bind ((md c ie).m ρ) fun xs => M.bind (M.pure []) fun ys => M.pure (xs ++ ys)) fun ds => M.pure (Out.er ρ k ds)) st (sPost X.K S.me W G0 H0 DD G H) := hw
  refine ⟨G, ρ, st, sg.g, ?_⟩
  show wp (M.bind ((md c ie).m ρ) fun xs => M.bind (M.pure []) fun ys => M.pure (xs ++ ys)) st _
  rw [hm] at hw ⊢
  have key : ∀ {α : Type} {m : M D} {g : List D → M α} {st : Wy.St} {Q : α → Wy.St → Prop}, wp (M.bind (M.bind (M.bind m fun d => M.pure [d]) fun xs => M.bind (M.pure []) fun ys => M.pure (xs ++ ys)) g) st Q → wp (M.bind (M.bind m fun d => M.pure [d]) fun xs => M.bind (M.pure []) fun ys => M.pure (xs ++ ys)) st fun ds st' => (∃ d, ds = [d]) ∧ wp (g ds) st' Q := fun {α m g st Q} h => by
    unfold wp M.bind M.pure at *
    cases q : m st with
    | ok a st' =>
      simp only [q] at h ⊢
      exact ⟨⟨a, rfl⟩, h⟩
    | exc _ _ _ => simp only [q] at h
    | stuck => simp only [q] at h
  refine wp_mono (key hw) fun ds st1 h1 vs H1 C1 p1 s1 r1 => ?_
  obtain ⟨⟨d, rfl⟩, h1⟩ := h1
  cases r1 with
  | cons rv rn =>
    rename_i v vs
    cases rn
    refine ⟨v, rfl, fun dd hd => ?_⟩
    have sg1 := sg.presG p1 s1
    have sm : Same H1 (upd H1 dd (.xd [(f, v)])) := same_new hd
    exact wp_pure h1 σ _ (G.at C1) (.ref (exC X.K k)) (some dd) (sg1.presG (Pres.more sm) (s1.more sm)) (p1.ext.p.trans (Ext.more sm).p) (exF_new sg1.g.hidden hf C.mx hd rv)
theorem s_raise0 (m : MtX X S c) (tk : Takes X W) {x : Str} {p cp pos : Pos} {k : Nat} (hk : k ∈ S.ec) (hf : exF k = []) (hx : x = exN k) (hg : glB S x = true) (he : evenB x = true) :
    PS X (.Raise (some (.Call (.Name x p) [] [] cp)) none pos) (tS X.K S.me W G0 H0 (xs c (.raise_ k []))) := by
  have C := m.exs k hk
  obtain ⟨B, newId, initId, bm, b, T, h0, _⟩ := C.ks
  subst hx
  refine PSimp (ps_raise m.calm tk (pmk0 b T (h0 hf) (m.gl hg) C.glo (even_1 he).1)) fun D σ H w => ?_
  obtain ⟨G, ρ, st, sg, hw⟩ := w
  have hw : wp (M.bind (M.pure []) fun ds => M.pure (Out.er ρ k ds)) st (sPost X.K S.me W G0 H0 D G H) := hw
  exact wp_pure (wp_bind hw) σ H G (.ref (exC X.K k)) none sg (ExtP.refl _ _) ⟨C.mx, rfl, .inl ⟨hf, rfl, rfl⟩⟩
/-! ### try -/
def chkC1 (S : Sc) (h : Hd) (nm : Option Str) (st : Stmt) : Bool := match nm, h.nm, h.act, st with
  | some n, some i, .set j hx, .Assign [.Name y _] ex _ => atB S i n && (lk S.sc.names n == some .local) && atB S j y && locB S y && !(i == j) && notComp ex && chkHX S h.k i hx ex
  | some n, some i, .keep j, .Assign [.Name y _] (.Name n2 _) _ => atB S i n && (lk S.sc.names n == some .local) && atB S j y && locB S y && !(i == j) && evenB n && sEq n2 n
  | none, none, .set j (.one (.k (.str cs))), .Assign [.Name y _] ex _ => atB S j y && locB S y && haS cs ex
  | _, _, _, _ => false
def chkHd (S : Sc) (h : Hd) (e : ExceptHandler) : Bool := match e with
  | .ExceptHandler (some (.Name x _)) nm [st] _ => S.ec.contains h.k && sEq x (exN h.k) && glB S x && evenB x && chkC1 S h nm st
  | _ => false
def chkHds (S : Sc) : List Hd → List ExceptHandler → Bool
  | [], [] => true
  | h :: hs, e :: es => chkHd S h e && chkHds S hs es
  | _, _ => false
theorem suite_of (m : MtX X S c) {h : Hd} {nm : Option Str} {st : Stmt} {pos : Pos} (hk : h.k ∈ S.ec) (hc : chkC1 S h nm st = true) : SuiteOk X nm [st] pos (cwH X.K S.me W G0 H0 h) := by
  have C := m.exs h.k hk
  obtain ⟨k, hnm, act⟩ := h
  unfold chkC1 at hc
  split at hc
  · rename_i e1 e2
    dsimp only at e1 e2
    subst e1 e2
    simp only [Bool.and_eq_true, Bool.not_eq_true', beq_eq_false_iff_ne, beq_iff_eq] at hc
    obtain ⟨⟨⟨⟨⟨⟨h1, h2⟩, h3⟩, h4⟩, h5⟩, h6⟩, h7⟩ := hc
    exact suite_set m.toMtS C h1 h2 h3 h4 h5 h6 h7
  · rename_i e1 e2
    dsimp only at e1 e2
    subst e1 e2
    simp only [Bool.and_eq_true, Bool.not_eq_true', beq_eq_false_iff_ne, beq_iff_eq] at hc
    obtain ⟨⟨⟨⟨⟨⟨h1, h2⟩, h3⟩, h4⟩, h5⟩, h6⟩, h7⟩ := hc
    rw [sEq_eq h7]
    exact suite_keep m.toMtS C h1 h2 h6 h3 h4 h5
  · rename_i e1 e2
    dsimp only at e1 e2
    subst e1 e2
    simp only [Bool.and_eq_true] at hc
    exact suite_none m.toMtS hc.1.1 hc.1.2 hc.2
  · cases hc
theorem cls_of (m : MtX X S c) : ∀ {hs : List Hd} {es : List ExceptHandler}, chkHds S hs es = true → ClsOk X es (hs.map fun h => (.ref (exC X.K h.k), cwH X.K S.me W G0 H0 h)) ∧ ∀ h ∈ hs, h.k < 11 ∧ hasX X.K h.k
  | [], [], _ => ⟨.nil, fun h z => nomatch z⟩
  | [], _ :: _, h => by cases h
  | _ :: _, [], h => by cases h
  | h :: hs, e :: es, q => by
    have q : (chkHd S h e && chkHds S hs es) = true := q
    rw [Bool.and_eq_true] at q
    obtain ⟨q1, q2⟩ := q
    obtain ⟨r1, r2⟩ := cls_of m q2
    unfold chkHd at q1
    split at q1
    · simp only [Bool.and_eq_true, List.contains_iff_mem] at q1
      obtain ⟨⟨⟨⟨h1, h2⟩, h3⟩, h4⟩, h5⟩ := q1
      have C := m.exs h.k h1
      have e2 := sEq_eq h2
      subst e2
      exact ⟨.cons ⟨m.gl h3, (even_1 h4).1, .inl C.glo⟩ (suite_of m h1 h5) r1, fun h' z => (List.mem_cons.mp z).elim (fun e => by rw [e]; exact ⟨C.an.lt, C.has⟩) (r2 h')⟩
    · cases q1
theorem wTry_of {K : PySem.W.Frag} {n : Bool} {DD : Ends} {ρ : Env} {k : Nat} {ys : List D} {st : Wy.St} {G : Gh} {H : Hp} : ∀ {hs : List Hd}, wp (handle hs ρ k ys) st (sPost K n W G0 H0 DD G H) → (∀ h ∈ hs, h.k < 11 ∧ hasX K h.k) → ∀ {σ' : L2.St} {H' : Hp} {G' : Gh} {cls : Value} {d : Option Addr}, SG K G0 H0 G' σ' H' ρ st → ExtP G H G' H' → ExcR K G' H' cls d k ys → wTry K W DD (hs.map fun h => (.ref (exC K h.k), cwH K n W G0 H0 h)) cls d σ' H'
  | [], hw, _, σ', H', G', cls, d, sg, e, er => wp_pure hw σ' H' G' cls d sg e er
  | h :: hs, hw, hk, σ', H', G', cls, d, sg, e, er => by
    unfold handle at hw
    obtain ⟨k1, k2⟩ := hk h List.mem_cons_self
    refine ⟨Nat.beq h.k k, by rw [er.cls]; exact er.mx h.k k1 k2, fun hb a na => ?_, fun hb => ?_⟩
    · rw [if_pos hb] at hw
      have ek : h.k = k := Nat.eq_of_beq_eq_true hb
      exact ⟨G', ρ, st, ys, sg, by rw [ek]; exact er, wp_mono hw fun o st2 q => q.shift e⟩
    · rw [if_neg (by rw [hb]; decide)] at hw
      exact wTry_of hw (fun h' z => hk h' (List.mem_cons_of_mem _ z)) sg e er
theorem s_try (m : MtX X S c) (tk : Takes X W) {body : List Stmt} {hds : List ExceptHandler} {pos : Pos} {ib : List IS} {hs : List Hd} (hne : hds ≠ []) (hh : chkHds S hs hds = true)
    (hb : ∀ (W' : WX) (pn : List (Addr × Obj)) (xe : Value → Shared → Prop), Takes (X.tr pn xe) W' → MtX (X.tr pn xe) S c → PSs (X.tr pn xe) body (tS X.K S.me W' G0 H0 (xb c ib))) : PS X (.Try body hds [] [] pos) (tS X.K S.me W G0 H0 (xs c (.try_ ib hs))) := by
  obtain ⟨q1, q2⟩ := cls_of (W := W) (G0 := G0) (H0 := H0) m hh
  cases hds with
  | nil => exact (hne rfl).elim
  | cons h0 hds =>
    refine PSimp (ps_tryW (tb := fun W' => tS X.K S.me W' G0 H0 (xb c ib)) m.hst m.hfr m.hex tk (fun W' pn xe tk' po' => hb W' pn xe tk' (m.tr po')) q1) fun D σ H w => ?_
    obtain ⟨G, ρ, st, sg, hw⟩ := w
    refine ⟨G, ρ, st, sg, wp_mono (wp_bind hw) fun o st1 ho => ?_⟩
    cases o with
    | nx ρ1 => exact wp_pure ho
    | rt d => exact wp_pure ho
    | er ρ1 k ys => exact fun σ' H' G' cls d s' e' er => wTry_of (show wp (handle hs ρ1 k ys) st1 _ from ho) q2 s' e' er
end
end Wy

set_option Elab.async false
set_option linter.all false
set_option maxRecDepth 100000
set_option autoImplicit false
set_option maxHeartbeats 4000000
/-! WyQ: the checker of statements and its soundness. -/
namespace Wy
open PySem PySem.Spec PyProof.Rows L2
def isNameE : Expr → Bool
  | .Name _ _ => true
  | _ => false
mutual
def chkS : IS → Sc → Stmt → Bool
  | .set tg ie, S, st => (match st with
    | .Assign [t] e _ => tgB S tg t && plainPair t e && chkE ie 0 S e && (notComp e || ((match t, tg with | .Name y py, .n _ => noSw S y py e | _, _ => false) || (isNameE t && (match ie with | .lc _ _ _ _ _ => true | _ => false))))
    | _ => false)
  | .own i ie, S, st => (match st with
    | .Assign [.Name y py] e _ => atB S i y && locB S y && frsh S.fr ie && chkE ie 0 S e && (noSw S y py e || (match ie with | .lc _ _ _ _ _ => true | _ => false))
    | _ => false)
  | .par is os es, S, st => (match is, os, es, st with
    | [i, j], [o1, o2], [ia, ib], .Assign [.Tuple [.Name x px, .Name y py] _ _] (.Tuple [a, b] _ _) _ => atB S i x && atB S j y && !(i == j) && (swap2 S x y px py a b || ((swapN S px.line [(x, px), (y, py)] || [a, b].all (foldedForSure 8)) && locB S x && locB S y && notStar a && notStar b)) && (!o1 || frsh S.fr ia) && (!o2 || frsh S.fr ib) && chkE ia 0 S a && chkE ib 0 S b
    | [i, j, l], [o1, o2, o3], [ia, ib, id], .Assign [.Tuple [.Name x px, .Name y py, .Name z pz] _ _] (.Tuple [a, b, d] _ _) _ => atB S i x && atB S j y && atB S l z && !(i == j) && !(i == l) && !(j == l) && (swap3 S x y z px py pz a b d || ((swapN S px.line [(x, px), (y, py), (z, pz)] || [a, b, d].all (foldedForSure 8)) && locB S x && locB S y && locB S z && notStar a && notStar b && notStar d)) && (!o1 || frsh S.fr ia) && (!o2 || frsh S.fr ib) && (!o3 || frsh S.fr id) && chkE ia 0 S a && chkE ib 0 S b && chkE id 0 S d
    | [i, j, l, n], [o1, o2, o3, o4], [ia, ib, id, ie], .Assign [.Tuple [.Name x px, .Name y py, .Name z pz, .Name u pu] _ _] (.Tuple [a, b, d, e] _ _) _ => atB S i x && atB S j y && atB S l z && atB S n u && locB S x && locB S y && locB S z && locB S u && notStar a && notStar b && notStar d && notStar e && (!o1 || frsh S.fr ia) && (!o2 || frsh S.fr ib) && (!o3 || frsh S.fr id) && (!o4 || frsh S.fr ie) && chkE ia 0 S a && chkE ib 0 S b && chkE id 0 S d && chkE ie 0 S e
    | _, _, _, _ => false)
  | .ret ie, S, st => (match st with
    | .Return (some e) _ => chkE ie 0 S e && (!S.me || frsh S.fr ie)
    | _ => false)
  | .retCell es, S, st => (match st with
    | .Return (some (.List l _)) _ => chkR es S l
    | _ => false)
  | .ife ie a b, S, st => (match st with
    | .If e l r _ => chkE ie 0 S e && chkB a S l && chkB b S r
    | _ => false)
  | .for_ tg it body, S, st => (match st with
    | .For t itr b [] _ => tgB S tg t && notSet itr && chkE it (if isTupE t then 2 else 1) S itr && chkT body S b
    | _ => false)
  | .app i ie, S, st => (match st with
    | .Expr (.Call (.Attribute (.Name x _) nm ap) [a] [] cp) _ => sEq nm "append" && atB S i x && visB S x && evenB x && notStar a && (ap.endLine == cp.endLine && ap.endLine == cp.line) && chkE ie 0 S a
    | _ => false)
  | .appPop i j ie, S, st => (match st with
    | .Expr (.Call (.Attribute (.Name x _) nm ap) [.Call (.Attribute (.Name y _) nm2 ap2) [a] [] cp2] [] cp) _ => sEq nm "append" && sEq nm2 "pop" && atB S i x && visB S x && evenB x && atB S j y && visB S y && evenB y && !(i == j) && notStar a && (ap.endLine == cp.line) && (ap2.endLine == cp2.line) && chkE ie 0 S a
    | _ => false)
  | .seti i ia ib, S, st => (match st with
    | .Assign [.Subscript (.Name x _) a _] b _ => atB S i x && visB S x && evenB x && notComp b && chkE ia 0 S a && chkE ib 0 S b
    | _ => false)
  | .ex ie, S, st => (match st with
    | .Expr e _ => notComp e && chkE ie 0 S e
    | _ => false)
  | .while_ ie b, S, st => (match st with
    | .While t body [] _ => chkE ie 0 S t && chkT b S body
    | _ => false)
  | .pop i j, S, st => (match st with
    | .Assign [.Name x _] (.Call (.Attribute (.Name y _) nm ap) [] [] cp) _ => sEq nm "pop" && atB S i x && locB S x && atB S j y && visB S y && evenB y && !(i == j) && (ap.endLine == cp.line)
    | _ => false)
  | .popI i j ie, S, st => (match st with
    | .Assign [.Name x _] (.Call (.Attribute (.Name y _) nm ap) [a] [] cp) _ => sEq nm "pop" && atB S i x && locB S x && atB S j y && visB S y && evenB y && !(i == j) && notStar a && (ap.endLine == cp.line) && chkE ie 0 S a
    | _ => false)
  | .ext i ie, S, st => (match st with
    | .Expr (.Call (.Attribute (.Name x _) nm ap) [a] [] cp) _ => sEq nm "extend" && atB S i x && visB S x && evenB x && notStar a && (ap.endLine == cp.line) && chkE ie 0 S a
    | _ => false)
  | .raise_ k es, S, st => (match es, st with
    | [ie], .Raise (some (.Call (.Name x _) [e] [] _)) none _ => S.ec.contains k && ((exF k).length == 1) && sEq x (exN k) && glB S x && evenB x && notStar e && !isIt ie && !isStar ie && chkR [ie] S [e]
    | [], .Raise (some (.Call (.Name x _) [] [] _)) none _ => S.ec.contains k && (exF k).isEmpty && sEq x (exN k) && glB S x && evenB x
    | _, _ => false)
  | .try_ b hs, S, st => (match st with
    | .Try body hds [] [] _ => !hds.isEmpty && chkHds S hs hds && chkB b S body
    | _ => false)
  | .setX tg ie, S, st => (match st with
    | .Assign [t] e _ => tgB S tg t && plainPair t e && notComp e && chkX ie S e
    | _ => false)
  | .exX ie, S, st => (match st with
    | .Expr e _ => notComp e && chkX ie S e
    | _ => false)
  | .retX ie, S, st => (match st with
    | .Return (some e) _ => !S.me && chkX ie S e
    | _ => false)
  | .pass, _, st => (match st with
    | .Pass _ => true
    | _ => false)
  | .never, _, _ => true
  | _, _, _ => false
def chkB : List IS → Sc → List Stmt → Bool
  | [], _, [] => true
  | i :: is, S, ss => (match i with
    | .frz _ => chkB is S ss
    | .raises => chkB is S ss
    | _ => (match ss with
      | s :: r => chkS i S s && chkB is S r
      | [] => false))
  | _, _, _ => false
/-- a loop's body -/
def chkT : List IS → Sc → List Stmt → Bool
  | [], _, [] => true
  | i :: is, S, ss => (match i with
    | .frz _ => chkT is S ss
    | _ => (is.isEmpty && chkCt i S ss) || (match ss with
      | s :: r => chkS i S s && chkT is S r
      | [] => false))
  | _, _, _ => false
/-- if e: continue -/
def chkCt : IS → Sc → List Stmt → Bool
  | .ife ie a b, S, ss => a.isEmpty && (match ss with
    | .If e [.Continue _] [] _ :: r => chkE ie 0 S e && chkT b S r
    | _ => false)
  | _, _, _ => false
end
section
variable {X : Cx} {c : Wy.Ctx} {S : Sc}
theorem chk12 {i : IE} {e t : Expr} (h : chkE i (if isTupE t then 2 else 1) S e = true) : isStar i = false := by
  cases i <;> first | rfl | (unfold chkE at h; split at h <;> simp at h)
theorem sI (m : Mt X S c) {i : IE} {t e : Expr} (h : chkE i (if isTupE t then 2 else 1) S e = true) : PI X t e (tI X.K ExtP (itS c i)) := by
  have hs := chk12 h
  have gen : isIt i = false → PI X t e (tI X.K ExtP (iOf (md c i).s)) := fun hi => PIp ((sE i h m).v hi hs).s
  cases i <;> first | exact gen rfl | skip
  · unfold chkE at h
    rw [Bool.and_eq_true] at h
    obtain ⟨_, h⟩ := h
    split at h
    · simp only [Bool.and_eq_true] at h
      obtain ⟨⟨⟨h1, h2⟩, h3⟩, h4⟩ := h
      rw [sEq_eq h1]
      exact pi_rng1 m h2 h3 ((sE _ h4 m).v0 h4).s
    · cases h
  · unfold chkE at h
    rw [Bool.and_eq_true] at h
    obtain ⟨_, h⟩ := h
    split at h
    · simp only [Bool.and_eq_true] at h
      obtain ⟨⟨⟨⟨⟨h1, h2⟩, h3⟩, h4⟩, h5⟩, h6⟩ := h
      rw [sEq_eq h1]
      exact pi_rng2 m h2 h3 h4 ((sE _ h5 m).v0 h5).s ((sE _ h6 m).v0 h6).s
    · cases h
  · unfold chkE at h
    rw [Bool.and_eq_true, beq_iff_eq] at h
    obtain ⟨h0, h⟩ := h
    have ht : isTupE t = true := by
      by_cases hT : isTupE t = true
      · exact hT
      · rw [if_neg hT] at h0
        cases h0
    split at h
    · simp only [Bool.and_eq_true] at h
      obtain ⟨⟨⟨h1, h2⟩, h3⟩, h4⟩ := h
      rw [sEq_eq h1]
      cases t <;> first | exact absurd ht Bool.false_ne_true | exact pi_enumD (fun _ _ _ _ _ r => .inl r.1) (fun _ _ _ _ _ r _ _ e => .inl (r.1.extP e)) m h2 h3 ((sE _ h4 m).v0 h4).s
    · cases h
  · unfold chkE at h
    rw [Bool.and_eq_true, beq_iff_eq] at h
    obtain ⟨h0, h⟩ := h
    have ht : isTupE t = true := by
      by_cases hT : isTupE t = true
      · exact hT
      · rw [if_neg hT] at h0
        cases h0
    split at h
    · simp only [Bool.and_eq_true] at h
      obtain ⟨⟨⟨⟨⟨h1, h2⟩, h3⟩, h4⟩, h5⟩, h6⟩ := h
      rw [sEq_eq h1]
      cases t <;> first | exact absurd ht Bool.false_ne_true | exact pi_zipD (rel := SR X.K) (fun _ _ _ _ _ r => .inl r) (fun _ _ _ _ _ r _ _ e => .inl (r.extP e)) (fun _ _ _ _ _ r _ _ p _ _ e => .inl ((SRep.ext p.ext r).extP e)) m h2 h3 h4 (PEimp ((sE _ h5 m).v0 h5).s fun _ _ _ => tE.toS) (PEimp ((sE _ h6 m).v0 h6).s fun _ _ _ => tE.toS)
    · cases h
end
theorem m_is {c : Wy.Ctx} {i : IE} (h : isIt i = false) (h2 : isStar i = false) : (md c i).m = mOf (md c i).s := by
  cases i <;> first | rfl | exact absurd h (by decide) | exact absurd h2 (by decide) | exact absurd h Bool.true_eq_false.mp | (simp [isIt] at h; done) | (simp [isStar] at h2; done)
/-- a block is sound -/
def SBok (is : List IS) : Prop := ∀ ⦃c : Wy.Ctx⦄ ⦃X : Cx⦄ ⦃S : Sc⦄ ⦃ss : List Stmt⦄ ⦃G0 : Gh⦄ ⦃H0 : Hp⦄ ⦃W : WX⦄, chkB is S ss = true → MtX X S c → Takes X W → (∀ x ∈ G0.C, ∃ o, H0 x = some o) → PSs X ss (tS X.K S.me W G0 H0 (xb c is))
def SLok (is : List IS) : Prop := ∀ ⦃c : Wy.Ctx⦄ ⦃X : Cx⦄ ⦃S : Sc⦄ ⦃ss : List Stmt⦄ ⦃G0 : Gh⦄ ⦃H0 : Hp⦄ ⦃W : WX⦄, chkT is S ss = true → MtX X S c → Takes X W → (∀ x ∈ G0.C, ∃ o, H0 x = some o) → PSs X ss (tL X.K S.me W G0 H0 (xb c is))
def SSok (i : IS) : Prop := ∀ ⦃c : Wy.Ctx⦄ ⦃X : Cx⦄ ⦃S : Sc⦄ ⦃st : Stmt⦄ ⦃G0 : Gh⦄ ⦃H0 : Hp⦄ ⦃W : WX⦄, chkS i S st = true → MtX X S c → Takes X W → (∀ x ∈ G0.C, ∃ o, H0 x = some o) → PS X st (tS X.K S.me W G0 H0 (xs c i))
theorem sS_set {tg : Tg} {ie : IE}  : SSok (.set tg ie) := by
  intro c X S st G0 H0 W h mx tk h0
  have m := mx.toMtS
  unfold chkS at h
  split at h
  · rename_i t e pos
    simp only [Bool.and_eq_true, Bool.or_eq_true] at h
    obtain ⟨⟨⟨h1, h2⟩, h3⟩, h4⟩ := h
    rcases h4 with h4 | h4 | ⟨h4, h5⟩
    · exact s_set m h1 h4 h2 ((sE ie h3 m.toMt).v0 h3).s
    · split at h4
      · exact s_setN m h1 h4 ((sE ie h3 m.toMt).v0 h3).s
      · cases h4
    · split at h5
      · rename_i own elt tgD itr cond
        unfold chkE at h3
        split at h3
        · rename_i el t2 ie ifs k scope cpos
          simp only [Bool.and_eq_true, beq_iff_eq, List.all_eq_true] at h3
          obtain ⟨⟨⟨⟨⟨⟨⟨k1, k2⟩, k3⟩, k4⟩, k5⟩, k6⟩, k7⟩, k8⟩ := h3
          subst k1
          cases t <;> first | exact absurd h4 Bool.false_ne_true | skip
          cases tg <;> first | exact absurd h1 Bool.false_ne_true | skip
          unfold tgB at h1
          rw [Bool.and_eq_true] at h1
          have q := sE itr k6 m.toMt
          refine s_setLc m h1.1 h1.2 (q.p (chk12 k6) t2 fun z => ?_) k2 (fun j hj => by simpa using k3 j hj) k4 (fun X' eK m' => by rw [← eK]; exact sC cond k7 m') (fun X' eK m' => by rw [← eK]; exact ((sE elt k8 m').v0 k8).s) (not_set k5)
          by_cases hT : isTupE t2 = true
          · exact hT
          · rw [if_neg hT] at z
            cases z
        · cases h3
      · cases h5
  · cases h
theorem sS_own {i : Nat} {ie : IE}  : SSok (.own i ie) := by
  intro c X S st G0 H0 W h mx tk h0
  have m := mx.toMtS
  unfold chkS at h
  split at h
  · simp only [Bool.and_eq_true, Bool.or_eq_true] at h
    obtain ⟨⟨⟨⟨h1, h2⟩, h4⟩, h3⟩, h5⟩ := h
    rcases h5 with h5 | h5
    · have q := ((sE ie h3 m.toMt).v0 h3).s
      rw [h4] at q
      exact s_ownN m h1 h2 h5 q
    · split at h5
      · rename_i own elt tgD itr cond
        unfold chkE at h3
        split at h3
        · rename_i el t2 ie ifs k scope cpos
          simp only [Bool.and_eq_true, beq_iff_eq, List.all_eq_true] at h3
          obtain ⟨⟨⟨⟨⟨⟨⟨k1, k2⟩, k3⟩, k4⟩, k5⟩, k6⟩, k7⟩, k8⟩ := h3
          subst k1
          have q := sE itr k6 m.toMt
          refine s_ownLc m h1 h2 (q.p (chk12 k6) t2 fun z => ?_) k2 (fun j hj => by simpa using k3 j hj) k4 (fun X' eK m' => by rw [← eK]; exact sC cond k7 m') (fun X' eK m' => by rw [← eK]; exact ((sE elt k8 m').v0 k8).s) (not_set k5)
          by_cases hT : isTupE t2 = true
          · exact hT
          · rw [if_neg hT] at z
            cases z
        · cases h3
      · cases h5
  · cases h
theorem sS_par {is : List Nat} {os : List Bool} {es : List IE}  : SSok (.par is os es) := by
  intro c X S st G0 H0 W h mx tk h0
  have m := mx.toMtS
  unfold chkS at h
  split at h
  · simp only [Bool.and_eq_true, Bool.not_eq_true', beq_eq_false_iff_ne, Bool.or_eq_true] at h
    obtain ⟨⟨⟨⟨⟨⟨⟨h1, h2⟩, h3⟩, h4⟩, h5⟩, h6⟩, h7⟩, h8⟩ := h
    have fr : ∀ {o : Bool} {ie : IE}, o = false ∨ frsh S.fr ie = true → o = true → frsh S.fr ie = true := fun {o ie} h z => h.elim (fun q => by rw [z] at q; cases q) id
    rcases h4 with h4 | ⟨⟨⟨⟨k1, k2⟩, k3⟩, k4⟩, k5⟩
    · exact s_par2 m h1 h2 h3 h4 (fr h5) (fr h6) (chk0 h7).2 (chk0 h8).2 ((sE _ h7 m.toMt).v0 h7).s ((sE _ h8 m.toMt).v0 h8).s
    · exact s_par2c m h1 h2 k2 k3 (by rw [Bool.or_eq_true]; exact k1) k4 k5 (fr h5) (fr h6) (m_is (chk0 h7).1 (chk0 h7).2) (m_is (chk0 h8).1 (chk0 h8).2) ((sE _ h7 m.toMt).v0 h7).s ((sE _ h8 m.toMt).v0 h8).s
  · simp only [Bool.and_eq_true, Bool.not_eq_true', beq_eq_false_iff_ne, Bool.or_eq_true] at h
    obtain ⟨⟨⟨⟨⟨⟨⟨⟨⟨⟨⟨⟨h1, h2⟩, h3⟩, h4⟩, h5⟩, h6⟩, h7⟩, p1⟩, p2⟩, p3⟩, e1⟩, e2⟩, e3⟩ := h
    have fr : ∀ {o : Bool} {ie : IE}, o = false ∨ frsh S.fr ie = true → o = true → frsh S.fr ie = true := fun {o ie} h z => h.elim (fun q => by rw [z] at q; cases q) id
    rcases h7 with h7 | ⟨⟨⟨⟨⟨⟨k1, k2⟩, k3⟩, k4⟩, k5⟩, k6⟩, k7⟩
    · exact s_par3 m h1 h2 h3 h4 h5 h6 h7 (fr p1) (fr p2) (fr p3) (m_is (chk0 e1).1 (chk0 e1).2) (m_is (chk0 e2).1 (chk0 e2).2) (m_is (chk0 e3).1 (chk0 e3).2) ((sE _ e1 m.toMt).v0 e1).s ((sE _ e2 m.toMt).v0 e2).s ((sE _ e3 m.toMt).v0 e3).s
    · exact s_par3c m h1 h2 h3 k2 k3 k4 (by rw [Bool.or_eq_true]; exact k1) k5 k6 k7 (fr p1) (fr p2) (fr p3) (m_is (chk0 e1).1 (chk0 e1).2) (m_is (chk0 e2).1 (chk0 e2).2) (m_is (chk0 e3).1 (chk0 e3).2) ((sE _ e1 m.toMt).v0 e1).s ((sE _ e2 m.toMt).v0 e2).s ((sE _ e3 m.toMt).v0 e3).s
  · simp only [Bool.and_eq_true, Bool.not_eq_true', Bool.or_eq_true] at h
    obtain ⟨⟨⟨⟨⟨⟨⟨⟨⟨⟨⟨⟨⟨⟨⟨⟨⟨⟨⟨h1, h2⟩, h3⟩, h4⟩, l1⟩, l2⟩, l3⟩, l4⟩, s1⟩, s2⟩, s3⟩, s4⟩, p1⟩, p2⟩, p3⟩, p4⟩, e1⟩, e2⟩, e3⟩, e4⟩ := h
    have fr : ∀ {o : Bool} {ie : IE}, o = false ∨ frsh S.fr ie = true → o = true → frsh S.fr ie = true := fun {o ie} h z => h.elim (fun q => by rw [z] at q; cases q) id
    exact s_par4c m h1 h2 h3 h4 l1 l2 l3 l4 s1 s2 s3 s4 (fr p1) (fr p2) (fr p3) (fr p4) (m_is (chk0 e1).1 (chk0 e1).2) (m_is (chk0 e2).1 (chk0 e2).2) (m_is (chk0 e3).1 (chk0 e3).2) (m_is (chk0 e4).1 (chk0 e4).2) ((sE _ e1 m.toMt).v0 e1).s ((sE _ e2 m.toMt).v0 e2).s ((sE _ e3 m.toMt).v0 e3).s ((sE _ e4 m.toMt).v0 e4).s
  · cases h
theorem sS_frz {i : Nat}  : SSok (.frz i) := by
  intro c X S st G0 H0 W h mx tk h0
  have m := mx.toMtS
  unfold chkS at h
  cases h
theorem sS_ret {ie : IE}  : SSok (.ret ie) := by
  intro c X S st G0 H0 W h mx tk h0
  have m := mx.toMtS
  unfold chkS at h
  split at h
  · rw [Bool.and_eq_true] at h
    exact s_ret h0 (fun z => by have := h.2; rw [z] at this; simpa using this) ((sE ie h.1 m.toMt).v0 h.1).s
  · cases h
theorem sS_retCell {es : List IE}  : SSok (.retCell es) := by
  intro c X S st G0 H0 W h mx tk h0
  have m := mx.toMtS
  unfold chkS at h
  split at h
  · exact s_retCell (sR es h m.toMt)
  · cases h
theorem sS_ife {ie : IE} {a : List IS} {b : List IS} (ih_a : SBok a) (ih_b : SBok b) : SSok (.ife ie a b) := by
  intro c X S st G0 H0 W h mx tk h0
  have m := mx.toMtS
  unfold chkS at h
  split at h
  · simp only [Bool.and_eq_true] at h
    exact s_ife ((sE ie h.1.1 m.toMt).v0 h.1.1).t (ih_a h.1.2 mx tk h0) (ih_b h.2 mx tk h0)
  · cases h
theorem sS_for_ {tg : Tg} {it : IE} {body : List IS} (ih_body : SLok body) : SSok (.for_ tg it body) := by
  intro c X S st G0 H0 W h mx tk h0
  have m := mx.toMtS
  unfold chkS at h
  split at h
  · simp only [Bool.and_eq_true] at h
    obtain ⟨⟨⟨h1, h2⟩, h3⟩, h4⟩ := h
    exact s_for m h1 (sI m.toMt h3) (ih_body h4 mx tk h0) (not_set h2)
  · cases h
theorem sS_while_ {e : IE} {body : List IS} (ih_body : SLok body) : SSok (.while_ e body) := by
  intro c X S st G0 H0 W h mx tk h0
  have m := mx.toMtS
  unfold chkS at h
  split at h
  · rw [Bool.and_eq_true] at h
    exact s_while m ((sE e h.1 m.toMt).v0 h.1).t (ih_body h.2 mx tk h0)
  · cases h
theorem sS_app {i : Nat} {ie : IE}  : SSok (.app i ie) := by
  intro c X S st G0 H0 W h mx tk h0
  have m := mx.toMtS
  unfold chkS at h
  split at h
  · simp only [Bool.and_eq_true] at h
    obtain ⟨⟨⟨⟨⟨⟨h1, h2⟩, h3⟩, h4⟩, h5⟩, h6⟩, h7⟩ := h
    rw [sEq_eq h1]
    exact s_app m h2 h3 h4 h5 (by rw [Bool.and_eq_true]; exact h6) ((sE ie h7 m.toMt).v0 h7).s
  · cases h
theorem sS_appPop {i : Nat} {j : Nat} {ie : IE}  : SSok (.appPop i j ie) := by
  intro c X S st G0 H0 W h mx tk h0
  have m := mx.toMtS
  unfold chkS at h
  split at h
  · simp only [Bool.and_eq_true, Bool.not_eq_true', beq_eq_false_iff_ne] at h
    obtain ⟨⟨⟨⟨⟨⟨⟨⟨⟨⟨⟨⟨h1, h2⟩, h3⟩, h4⟩, h5⟩, h6⟩, h7⟩, h8⟩, h9⟩, h10⟩, h11⟩, h12⟩, h13⟩ := h
    rw [sEq_eq h1, sEq_eq h2]
    exact s_appPop m h3 h4 h5 h6 h7 h8 h9 h10 h11 h12 ((sE ie h13 m.toMt).v0 h13).s
  · cases h
theorem sS_ext {i : Nat} {ie : IE}  : SSok (.ext i ie) := by
  intro c X S st G0 H0 W h mx tk h0
  have m := mx.toMtS
  unfold chkS at h
  split at h
  · simp only [Bool.and_eq_true] at h
    obtain ⟨⟨⟨⟨⟨⟨h1, h2⟩, h3⟩, h4⟩, h5⟩, h6⟩, h7⟩ := h
    rw [sEq_eq h1]
    exact s_ext m h2 h3 h4 h5 h6 ((sE ie h7 m.toMt).v0 h7).b
  · cases h
theorem sS_pop {i : Nat} {j : Nat}  : SSok (.pop i j) := by
  intro c X S st G0 H0 W h mx tk h0
  have m := mx.toMtS
  unfold chkS at h
  split at h
  · simp only [Bool.and_eq_true, Bool.not_eq_true', beq_eq_false_iff_ne] at h
    obtain ⟨⟨⟨⟨⟨⟨⟨h1, h2⟩, h3⟩, h4⟩, h5⟩, h6⟩, h7⟩, h8⟩ := h
    rw [sEq_eq h1]
    exact s_pop m h2 h3 h4 h5 h6 h7 h8
  · cases h
theorem sS_popI {i : Nat} {j : Nat} {ie : IE} : SSok (.popI i j ie) := by
  intro c X S st G0 H0 W h mx tk h0
  have m := mx.toMtS
  unfold chkS at h
  split at h
  · simp only [Bool.and_eq_true, Bool.not_eq_true', beq_eq_false_iff_ne] at h
    obtain ⟨⟨⟨⟨⟨⟨⟨⟨⟨h1, h2⟩, h3⟩, h4⟩, h5⟩, h6⟩, h7⟩, h8⟩, h9⟩, h10⟩ := h
    rw [sEq_eq h1]
    exact s_popI m h2 h3 h4 h5 h6 h7 h8 h9 ((sE ie h10 m.toMt).v0 h10).s
  · cases h
theorem sS_seti {i : Nat} {ia : IE} {ib : IE}  : SSok (.seti i ia ib) := by
  intro c X S st G0 H0 W h mx tk h0
  have m := mx.toMtS
  unfold chkS at h
  split at h
  · simp only [Bool.and_eq_true] at h
    obtain ⟨⟨⟨⟨⟨h1, h2⟩, h3⟩, h4⟩, h5⟩, h6⟩ := h
    exact s_seti m h1 h2 h3 h4 ((sE ia h5 m.toMt).v0 h5).s ((sE ib h6 m.toMt).v0 h6).s
  · cases h
theorem sS_ex {ie : IE}  : SSok (.ex ie) := by
  intro c X S st G0 H0 W h mx tk h0
  have m := mx.toMtS
  unfold chkS at h
  split at h
  · rw [Bool.and_eq_true] at h
    exact s_ex h.1 ((sE ie h.2 m.toMt).v0 h.2).s
  · cases h
theorem sS_setX {tg : Tg} {ie : IE}  : SSok (.setX tg ie) := by
  intro c X S st G0 H0 W h mx tk h0
  have m := mx.toMtS
  unfold chkS at h
  split at h
  · simp only [Bool.and_eq_true] at h
    exact s_setX m h.1.1.1 h.1.2 h.1.1.2 (sX ie h.2 m.toMt tk)
  · cases h
theorem sS_exX {ie : IE}  : SSok (.exX ie) := by
  intro c X S st G0 H0 W h mx tk h0
  have m := mx.toMtS
  unfold chkS at h
  split at h
  · rw [Bool.and_eq_true] at h
    exact s_exX h.1 (sX ie h.2 m.toMt tk)
  · cases h
theorem sS_retX {ie : IE}  : SSok (.retX ie) := by
  intro c X S st G0 H0 W h mx tk h0
  have m := mx.toMtS
  unfold chkS at h
  split at h
  · rw [Bool.and_eq_true] at h
    exact s_retX h0 (by simpa using h.1) (sX ie h.2 m.toMt tk)
  · cases h
theorem sS_raise_ {k : Nat} {es : List IE}  : SSok (.raise_ k es) := by
  intro c X S st G0 H0 W h mx tk h0
  have m := mx.toMtS
  unfold chkS at h
  split at h
  · simp only [Bool.and_eq_true, Bool.not_eq_true', beq_iff_eq, List.contains_iff_mem] at h
    obtain ⟨⟨⟨⟨⟨⟨⟨⟨h1, h2⟩, h3⟩, h4⟩, h5⟩, h6⟩, h7⟩, h8⟩, h9⟩ := h
    obtain ⟨f, hf⟩ := List.length_eq_one_iff.mp h2
    exact s_raise1 mx tk h1 hf (sEq_eq h3) h4 h5 h6 (m_is h7 h8) (sR _ h9 m.toMt)
  · simp only [Bool.and_eq_true, List.contains_iff_mem, List.isEmpty_iff] at h
    obtain ⟨⟨⟨⟨h1, h2⟩, h3⟩, h4⟩, h5⟩ := h
    exact s_raise0 mx tk h1 h2 (sEq_eq h3) h4 h5
  · cases h
theorem sS_try_ {body : List IS} {hs : List Hd} (ih_body : SBok body) : SSok (.try_ body hs) := by
  intro c X S st G0 H0 W h mx tk h0
  unfold chkS at h
  split at h
  · simp only [Bool.and_eq_true, Bool.not_eq_true', List.isEmpty_eq_false_iff] at h
    exact s_try mx tk h.1.1 h.1.2 fun W' pn xe tk' m' => ih_body h.2 m' tk' h0
  · cases h
theorem sS_pass   : SSok (.pass) := by
  intro c X S st G0 H0 W h mx tk h0
  have m := mx.toMtS
  unfold chkS at h
  split at h
  · exact s_pass
  · cases h
theorem sS_never   : SSok (.never) := by
  intro c X S st G0 H0 W h mx tk h0
  have m := mx.toMtS
  exact s_never
theorem sS_raises : SSok .raises := by
  intro c X S st G0 H0 W h mx tk h0
  have m := mx.toMtS
  unfold chkS at h
  cases h
theorem sB_of : ∀ is : List IS, (∀ i ∈ is, SSok i) → SBok is
  | [], _ => by
    intro c X S ss G0 H0 W h m tk h0
    cases ss with
    | nil => exact ss_nil
    | cons _ _ => unfold chkB at h; cases h
  | i :: is, hi => by
    intro c X S ss G0 H0 W h m tk h0
    have ih := sB_of is fun j hj => hi j (List.mem_cons_of_mem _ hj)
    unfold chkB at h
    split at h
    · exact ss_frz (ih h m tk h0)
    · exact ss_raises (ih h m tk h0)
    · split at h
      · rw [Bool.and_eq_true] at h
        exact ss_cons (hi i List.mem_cons_self h.1 m tk h0) (ih h.2 m tk h0)
      · cases h
/-- i and all that stands in it -/
def SSall (i : IS) : Prop := SSok i ∧ ∀ ie b, i = .ife ie [] b → SLok b
theorem sL_of : ∀ is : List IS, (∀ i ∈ is, SSall i) → SLok is
  | [], _ => by
    intro c X S ss G0 H0 W h m tk h0
    cases ss with
    | nil => exact sl_nil
    | cons _ _ => unfold chkT at h; cases h
  | i :: is, hi => by
    intro c X S ss G0 H0 W h m tk h0
    have ih := sL_of is fun j hj => hi j (List.mem_cons_of_mem _ hj)
    unfold chkT at h
    split at h
    · exact sl_frz (ih h m tk h0)
    · rw [Bool.or_eq_true, Bool.and_eq_true] at h
      rcases h with ⟨h1, h2⟩ | h
      · rw [List.isEmpty_iff] at h1
        subst h1
        unfold chkCt at h2
        split at h2
        · rw [Bool.and_eq_true, List.isEmpty_iff] at h2
          obtain ⟨e0, h2⟩ := h2
          subst e0
          split at h2
          · rw [Bool.and_eq_true] at h2
            exact sl_cont ((sE _ h2.1 m.toMt).v0 h2.1).t ((hi _ List.mem_cons_self).2 _ _ rfl h2.2 m tk h0)
          · cases h2
        · cases h2
      · split at h
        · rw [Bool.and_eq_true] at h
          exact sl_cons ((hi i List.mem_cons_self).1 h.1 m tk h0) (ih h.2 m tk h0)
        · cases h
theorem sS_all : ∀ (n : Nat) (i : IS), sizeOf i ≤ n → SSall i := by
  intro n
  induction n with
  | zero =>
    intro i h
    cases i <;> simp at h
  | succ n ih =>
    intro i h
    have blk : ∀ b : List IS, sizeOf b ≤ n → SBok b := fun b hb => sB_of b fun j hj => (ih j (by
      have := List.sizeOf_lt_of_mem hj
      omega)).1
    have lp : ∀ b : List IS, sizeOf b ≤ n → SLok b := fun b hb => sL_of b fun j hj => ih j (by
      have := List.sizeOf_lt_of_mem hj
      omega)
    refine ⟨?_, fun ie b e => lp b (by subst e; simp at h; omega)⟩
    cases i with
    | set tg ie => exact sS_set
    | own i ie => exact sS_own
    | par is os es => exact sS_par
    | frz i => exact sS_frz
    | ret ie => exact sS_ret
    | retCell es => exact sS_retCell
    | ife ie a b => exact sS_ife (blk _ (by simp at h; omega)) (blk _ (by simp at h; omega))
    | for_ tg it body => exact sS_for_ (lp _ (by simp at h; omega))
    | while_ e body => exact sS_while_ (lp _ (by simp at h; omega))
    | app i ie => exact sS_app
    | appPop i j ie => exact sS_appPop
    | ext i ie => exact sS_ext
    | pop i j => exact sS_pop
    | popI i j ie => exact sS_popI
    | seti i ia ib => exact sS_seti
    | ex ie => exact sS_ex
    | setX tg ie => exact sS_setX
    | exX ie => exact sS_exX
    | retX ie => exact sS_retX
    | raise_ k es => exact sS_raise_
    | try_ body hs => exact sS_try_ (blk _ (by simp at h; omega))
    | pass => exact sS_pass
    | never => exact sS_never
    | raises => exact sS_raises
theorem sB (is : List IS) {c : Wy.Ctx} {X : Cx} {S : Sc} {ss : List Stmt} {G0 : Gh} {H0 : Hp} {W : WX} (h : chkB is S ss = true) (m : MtX X S c) (tk : Takes X W) (h0 : ∀ x ∈ G0.C, ∃ o, H0 x = some o) : PSs X ss (tS X.K S.me W G0 H0 (xb c is)) := sB_of is (fun i _ => (sS_all _ i (Nat.le_refl _)).1) h m tk h0
end Wy

set_option Elab.async false
set_option linter.all false
set_option maxRecDepth 100000
set_option autoImplicit false
set_option maxHeartbeats 4000000
/-! WyNx: a program whose errors are let out at marked places alone. -/
namespace Wy
def NX {α : Type} (m : M α) : Prop := ∀ st k ys st', m st ≠ .exc k ys st'
theorem NX.pure {α : Type} {a : α} : NX (M.pure a) := fun _ _ _ _ h => nomatch h
theorem NX.stuck {α : Type} : NX (M.stuck : M α) := fun _ _ _ _ h => nomatch h
theorem NX.of {α : Type} {a : Option α} : NX (M.of a) := by
  cases a
  · exact NX.stuck
  · exact NX.pure
theorem NX.bind {α β : Type} {m : M α} {f : α → M β} (h : NX m) (k : ∀ a, NX (f a)) : NX (M.bind m f) := fun st j ys st' e => by
  unfold M.bind at e
  cases q : m st with
  | ok a s1 =>
    rw [q] at e
    exact k a s1 j ys st' e
  | exc j2 ys2 s2 => exact h st _ _ _ q
  | stuck =>
    rw [q] at e
    cases e
theorem NX.no {α : Type} {m : M α} : NX (noExc m) := fun st j ys st' e => by
  unfold noExc at e
  split at e <;> cases e
theorem NX.try_ {m : M D} {ρ : Env} {f : D → M Out} (k : ∀ a, NX (f a)) : NX (tryX m ρ f) := fun st j ys st' e => by
  unfold tryX at e
  split at e
  · exact k _ _ _ _ _ e
  · cases e
  · cases e
theorem NX.ite {α : Type} {c : Prop} [Decidable c] {a b : M α} (h : NX a) (k : NX b) : NX (if c then a else b) := by
  split
  · exact h
  · exact k
theorem NX.cell {g : Nat} : NX (cellGet g) := fun st j ys st' e => by
  unfold cellGet at e
  split at e <;> cases e
theorem NX.getIx {x y : D} : NX (getIx x y) := by
  unfold Wy.getIx
  split
  · exact NX.bind NX.cell fun _ => NX.of
  · exact NX.of
structure NXd (d : Md) : Prop where
  s : ∀ ρ, NX (d.s ρ)
  b : ∀ ρ, NX (d.b ρ)
  t : ∀ ρ, NX (d.t ρ)
  i : ∀ ρ, NX (d.i ρ)
  m : ∀ ρ, NX (d.m ρ)
theorem NXd.of {f : Env → M D} (h : ∀ ρ, NX (f ρ)) : NXd (.of f) := ⟨h, h, fun ρ => .bind (h ρ) fun _ => .of, fun ρ => .bind (h ρ) fun _ => .of, fun ρ => .bind (h ρ) fun _ => .pure⟩
theorem NXd.it {f : Env → M (List D)} (h : ∀ ρ, NX (f ρ)) : NXd (.it f) := ⟨fun _ => .stuck, fun _ => .stuck, fun _ => .stuck, h, fun _ => .stuck⟩
theorem NX.row {ms : List Md} (h : ∀ m ∈ ms, NXd m) : ∀ ρ, NX (Wy.row ms ρ) := by
  induction ms with
  | nil => exact fun _ => .pure
  | cons a ms ih => exact fun ρ => .bind ((h a List.mem_cons_self).m ρ) fun _ => .bind (ih (fun m hm => h m (List.mem_cons_of_mem _ hm)) ρ) fun _ => .pure
theorem NX.part {o : Option Md} (h : ∀ m, o = some m → NXd m) (ρ : Env) : NX (Wy.part o ρ) := by
  cases o with
  | none => exact .pure
  | some m => exact .bind ((h m rfl).s ρ) fun _ => .of
mutual
/-- no marked def is called in an expression -/
def pureI (ok : Nat → Bool) : IE → Bool
  | .k _ | .g _ | .v _ | .dic0 | .nox _ => true
  | .tup es | .lst es => pureIs ok es
  | .star e | .neg e | .not e | .range e | .enum e | .rev e => pureI ok e
  | .call f es => ok f && pureIs ok es
  | .callk f es _ kes => ok f && (pureIs ok es && pureIs ok kes)
  | .b1 _ e | .dst _ e | .mn0 e | .isi e _ _ | .fld e _ | .isx e _ => pureI ok e
  | .b2 _ a b | .bin _ a b | .cmp _ a b | .and a b | .or a b | .idx a b | .range2 a b | .zip a b => pureI ok a && pureI ok b
  | .chain _ _ a b e | .ite a b e | .dget a b e => pureI ok a && (pureI ok b && pureI ok e)
  | .slc a lo hi => pureI ok a && (pureIo ok lo && pureIo ok hi)
  | .lc _ _ _ it _ => pureI ok it
  | .lc2 _ _ _ _ it _ _ _ => pureI ok it
  | .dc _ _ _ _ it => pureI ok it
def pureIs (ok : Nat → Bool) : List IE → Bool
  | [] => true
  | e :: es => pureI ok e && pureIs ok es
def pureIo (ok : Nat → Bool) : Option IE → Bool
  | none => true
  | some e => pureI ok e
end
mutual
theorem nx_md {c : Ctx} {ok : Nat → Bool} (hc : ∀ f, ok f = true → ∀ ds, NX (c.call f ds)) : ∀ e : IE, pureI ok e = true → NXd (md c e)
  | .k d, _ => .of fun _ => .pure
  | .g n, _ => .of fun _ => .of
  | .v i, _ => ⟨fun _ => .of, fun _ => .of, fun _ => .bind .of fun _ => .of, fun _ => .bind .of fun _ => .of, fun _ => .bind .of fun _ => .pure⟩
  | .dic0, _ => .of fun _ => .pure
  | .nox e, _ => ⟨fun _ => .no, fun _ => .no, fun _ => .no, fun _ => .no, fun _ => .bind .no fun _ => .pure⟩
  | .tup es, h => .of fun ρ => .bind (.row (nx_mds hc es h) ρ) fun _ => .of
  | .lst es, h => .of fun ρ => .bind (.row (nx_mds hc es h) ρ) fun _ => .of
  | .star e, h => ⟨fun _ => .stuck, fun _ => .stuck, fun _ => .stuck, fun _ => .stuck, fun ρ => .bind ((nx_md hc e h).b ρ) fun _ => .of⟩
  | .neg e, h => .of fun ρ => .bind ((nx_md hc e h).s ρ) fun _ => .of
  | .not e, h =>
    have q := nx_md hc e h
    have f : ∀ ρ, NX (M.bind ((md c e).b ρ) fun x => M.bind (M.of (truth x)) fun t => M.pure (D.bl (!t))) := fun ρ => .bind (q.b ρ) fun _ => .bind .of fun _ => .pure
    ⟨f, f, fun ρ => .bind (q.t ρ) fun _ => .pure, fun _ => .stuck, fun ρ => .bind (f ρ) fun _ => .pure⟩
  | .range e, h => .it fun ρ => .bind ((nx_md hc e h).s ρ) fun _ => .of
  | .enum e, h => .it fun ρ => .bind ((nx_md hc e h).b ρ) fun _ => .of
  | .rev e, h => .of fun ρ => .bind ((nx_md hc e h).b ρ) fun _ => .of
  | .call f es, h => by
    have h : (ok f && pureIs ok es) = true := h
    rw [Bool.and_eq_true] at h
    exact .of fun ρ => .bind (.row (nx_mds hc es h.2) ρ) fun ds => hc f h.1 ds
  | .callk f es ks kes, h => by
    have h : (ok f && (pureIs ok es && pureIs ok kes)) = true := h
    rw [Bool.and_eq_true, Bool.and_eq_true] at h
    exact .of fun ρ => .bind (.row (nx_mds hc es h.2.1) ρ) fun ds => .bind (.row (nx_mds hc kes h.2.2) ρ) fun _ => hc f h.1 _
  | .b1 _ e, h => .of fun ρ => .bind ((nx_md hc e h).b ρ) fun _ => .of
  | .dst _ e, h => .of fun ρ => .bind ((nx_md hc e h).b ρ) fun _ => .of
  | .mn0 e, h => .of fun ρ => .bind ((nx_md hc e h).b ρ) fun _ => .of
  | .fld e _, h => .of fun ρ => .bind ((nx_md hc e h).s ρ) fun _ => .of
  | .isx e _, h => .of fun ρ => .bind ((nx_md hc e h).s ρ) fun _ => .of
  | .isi e _ _, h => .of fun ρ => .bind ((nx_md hc e h).b ρ) fun _ => .of
  | .b2 _ a b, h => by
    have h : (pureI ok a && pureI ok b) = true := h
    rw [Bool.and_eq_true] at h
    exact .of fun ρ => .bind ((nx_md hc a h.1).s ρ) fun _ => .bind ((nx_md hc b h.2).s ρ) fun _ => .of
  | .bin _ a b, h => by
    have h : (pureI ok a && pureI ok b) = true := h
    rw [Bool.and_eq_true] at h
    exact .of fun ρ => .bind ((nx_md hc a h.1).b ρ) fun _ => .bind ((nx_md hc b h.2).b ρ) fun _ => .of
  | .cmp _ a b, h => by
    have h : (pureI ok a && pureI ok b) = true := h
    rw [Bool.and_eq_true] at h
    exact .of fun ρ => .bind ((nx_md hc a h.1).b ρ) fun _ => .bind ((nx_md hc b h.2).b ρ) fun _ => .of
  | .and a b, h => by
    have h : (pureI ok a && pureI ok b) = true := h
    rw [Bool.and_eq_true] at h
    have qa := nx_md hc a h.1
    have qb := nx_md hc b h.2
    have f : ∀ ρ, NX (M.bind ((md c a).s ρ) fun x => M.bind (M.of (truth x)) fun t => if t then (md c b).s ρ else M.pure x) := fun ρ => .bind (qa.s ρ) fun _ => .bind .of fun _ => .ite (qb.s ρ) .pure
    exact ⟨f, f, fun ρ => .bind (qa.t ρ) fun _ => .ite (qb.t ρ) .pure, fun ρ => .bind (f ρ) fun _ => .of, fun ρ => .bind (f ρ) fun _ => .pure⟩
  | .or a b, h => by
    have h : (pureI ok a && pureI ok b) = true := h
    rw [Bool.and_eq_true] at h
    have qa := nx_md hc a h.1
    have qb := nx_md hc b h.2
    have f : ∀ ρ, NX (M.bind ((md c a).s ρ) fun x => M.bind (M.of (truth x)) fun t => if t then M.pure x else (md c b).s ρ) := fun ρ => .bind (qa.s ρ) fun _ => .bind .of fun _ => .ite .pure (qb.s ρ)
    exact ⟨f, f, fun ρ => .bind (qa.t ρ) fun _ => .ite .pure (qb.t ρ), fun ρ => .bind (f ρ) fun _ => .of, fun ρ => .bind (f ρ) fun _ => .pure⟩
  | .idx a b, h => by
    have h : (pureI ok a && pureI ok b) = true := h
    rw [Bool.and_eq_true] at h
    exact .of fun ρ => .bind ((nx_md hc a h.1).b ρ) fun _ => .bind ((nx_md hc b h.2).s ρ) fun _ => .getIx
  | .range2 a b, h => by
    have h : (pureI ok a && pureI ok b) = true := h
    rw [Bool.and_eq_true] at h
    exact .it fun ρ => .bind ((nx_md hc a h.1).s ρ) fun _ => .bind ((nx_md hc b h.2).s ρ) fun _ => .of
  | .zip a b, h => by
    have h : (pureI ok a && pureI ok b) = true := h
    rw [Bool.and_eq_true] at h
    exact .it fun ρ => .bind ((nx_md hc a h.1).b ρ) fun _ => .bind ((nx_md hc b h.2).b ρ) fun _ => .of
  | .chain _ _ a b e, h => by
    have h : (pureI ok a && (pureI ok b && pureI ok e)) = true := h
    rw [Bool.and_eq_true, Bool.and_eq_true] at h
    exact .of fun ρ => .bind ((nx_md hc a h.1).b ρ) fun _ => .bind ((nx_md hc b h.2.1).b ρ) fun _ => .bind .of fun _ => .ite (.bind ((nx_md hc e h.2.2).b ρ) fun _ => .of) .pure
  | .ite a b e, h => by
    have h : (pureI ok a && (pureI ok b && pureI ok e)) = true := h
    rw [Bool.and_eq_true, Bool.and_eq_true] at h
    have qa := nx_md hc a h.1
    have qb := nx_md hc b h.2.1
    have qe := nx_md hc e h.2.2
    have f : ∀ ρ, NX (M.bind ((md c a).t ρ) fun t => if t then (md c b).s ρ else (md c e).s ρ) := fun ρ => .bind (qa.t ρ) fun _ => .ite (qb.s ρ) (qe.s ρ)
    exact ⟨f, f, fun ρ => .bind (qa.t ρ) fun _ => .ite (qb.t ρ) (qe.t ρ), fun ρ => .bind (f ρ) fun _ => .of, fun ρ => .bind (f ρ) fun _ => .pure⟩
  | .dget a b e, h => by
    have h : (pureI ok a && (pureI ok b && pureI ok e)) = true := h
    rw [Bool.and_eq_true, Bool.and_eq_true] at h
    exact .of fun ρ => .bind ((nx_md hc a h.1).b ρ) fun _ => .bind ((nx_md hc b h.2.1).s ρ) fun _ => .bind ((nx_md hc e h.2.2).s ρ) fun _ => .of
  | .slc a lo hi, h => by
    have h : (pureI ok a && (pureIo ok lo && pureIo ok hi)) = true := h
    rw [Bool.and_eq_true, Bool.and_eq_true] at h
    exact .of fun ρ => .bind ((nx_md hc a h.1).b ρ) fun _ => .bind (.part (nx_mdo hc lo h.2.1) ρ) fun _ => .bind (.part (nx_mdo hc hi h.2.2) ρ) fun _ => .of
  | .lc own elt tg it cond, h => .of fun ρ => .bind ((nx_md hc it h).i ρ) fun _ => .bind .no fun _ => .of
  | .lc2 own own1 elt tg it tg1 it1 cond, h => .of fun ρ => .bind ((nx_md hc it h).i ρ) fun _ => .bind .no fun _ => .of
  | .dc own k v tg it, h => .of fun ρ => .bind ((nx_md hc it h).i ρ) fun _ => .no
theorem nx_mds {c : Ctx} {ok : Nat → Bool} (hc : ∀ f, ok f = true → ∀ ds, NX (c.call f ds)) : ∀ es : List IE, pureIs ok es = true → ∀ m ∈ mds c es, NXd m
  | [], _ => fun m hm => nomatch hm
  | e :: es, h => by
    have h : (pureI ok e && pureIs ok es) = true := h
    rw [Bool.and_eq_true] at h
    intro m hm
    rcases List.mem_cons.mp (show m ∈ md c e :: mds c es from hm) with z | z
    · rw [z]
      exact nx_md hc e h.1
    · exact nx_mds hc es h.2 m z
theorem nx_mdo {c : Ctx} {ok : Nat → Bool} (hc : ∀ f, ok f = true → ∀ ds, NX (c.call f ds)) : ∀ o : Option IE, pureIo ok o = true → ∀ m, mdo c o = some m → NXd m
  | none, _ => fun m hm => nomatch hm
  | some e, h => fun m hm => by
    cases hm
    exact nx_md hc e h
end
/-! ### statements -/
mutual
def pureS (ok : Nat → Bool) : IS → Bool
  | .set _ e | .own _ e | .ret e | .app _ e | .ext _ e | .ex e | .appPop _ _ e | .popI _ _ e => pureI ok e
  | .par _ _ es | .retCell es | .raise_ _ es => pureIs ok es
  | .ife e a b => pureI ok e && (pureB ok a && pureB ok b)
  | .for_ _ it b => pureI ok it && pureB ok b
  | .while_ e b => pureI ok e && pureB ok b
  | .seti _ a b => pureI ok a && pureI ok b
  | .try_ b _ => pureB ok b
  | .setX _ _ | .exX _ | .retX _ | .frz _ | .pop _ _ | .pass | .never | .raises => true
def pureB (ok : Nat → Bool) : List IS → Bool
  | [] => true
  | i :: is => pureS ok i && pureB ok is
end
theorem NX.nxt {m : M Env} (h : NX m) : NX (Wy.nxt m) := .bind h fun _ => .pure
theorem NX.for_ {tg : Tg} {body : Env → M Out} (h : ∀ ρ, NX (body ρ)) : ∀ (ds : List D) (ρ : Env), NX (forLoop tg body ds ρ)
  | [], ρ => .pure
  | d :: ds, ρ => .bind .of fun ρ1 => .bind (h ρ1) fun o => by
    cases o with
    | nx ρ2 => exact NX.for_ h ds ρ2
    | rt v => exact .pure
    | er ρ2 k ys => exact .pure
theorem NX.while_ {test : Env → M Bool} {body : Env → M Out} (ht : ∀ ρ, NX (test ρ)) (h : ∀ ρ, NX (body ρ)) : ∀ (n : Nat) (ρ : Env), NX (whileLoop test body n ρ)
  | 0, ρ => .stuck
  | n + 1, ρ => .bind (ht ρ) fun t => .ite (.bind (h ρ) fun o => by
    cases o with
    | nx ρ2 => exact NX.while_ ht h n ρ2
    | rt v => exact .pure
    | er ρ2 k ys => exact .pure) .pure
theorem NX.itS {c : Ctx} {ok : Nat → Bool} (hc : ∀ f, ok f = true → ∀ ds, NX (c.call f ds)) {e : IE} (h : pureI ok e = true) (ρ : Env) : NX (Wy.itS c e ρ) := by
  have q := nx_md hc e h
  cases e <;> first | exact .bind (q.s ρ) fun _ => .of | exact q.i ρ | skip
  · rename_i a
    exact .bind ((nx_md hc a h).s ρ) fun _ => .of
  · rename_i a b
    have h : (pureI ok a && pureI ok b) = true := h
    rw [Bool.and_eq_true] at h
    exact .bind ((nx_md hc a h.1).s ρ) fun _ => .bind ((nx_md hc b h.2).s ρ) fun _ => .of
theorem NX.putIx {ρ : Env} {i : Nat} {a b : D} : NX (Wy.putIx ρ i a b) := by
  unfold Wy.putIx
  split
  · split
    · intro st k ys st' e
      dsimp only at e
      split at e
      · split at e <;> cases e
      · cases e
    · exact .stuck
  · split
    · split
      · exact .pure
      · exact .stuck
    · exact .stuck
  · exact .ite .pure .stuck
  · exact .stuck
theorem NX.newCell {ds : List D} : NX (Wy.newCell ds) := by
  intro st k ys st' e
  unfold Wy.newCell at e
  split at e <;> cases e
theorem NX.handle : ∀ (hs : List Hd) (ρ : Env) (k : Nat) (ys : List D), NX (Wy.handle hs ρ k ys)
  | [], _, _, _ => .pure
  | h :: hs, ρ, k, ys => by
    unfold Wy.handle
    refine .ite ?_ (NX.handle hs ρ k ys)
    unfold Hd.run
    split
    · exact .bind .of fun _ => .pure
    · exact .bind .of fun _ => .pure
    · exact .pure
theorem NX.caught {hs : List Hd} : ∀ o, NX (Wy.caught hs o)
  | .er ρ k ys => .handle hs ρ k ys
  | .nx _ => .pure
  | .rt _ => .pure
mutual
theorem nx_xs {c : Ctx} {ok : Nat → Bool} (hc : ∀ f, ok f = true → ∀ ds, NX (c.call f ds)) : ∀ (i : IS) (ρ : Env), pureS ok i = true → NX (xs c i ρ)
  | .set tg e, ρ, h => .bind ((nx_md hc e h).s ρ) fun _ => .nxt .of
  | .own i e, ρ, h => .bind ((nx_md hc e h).s ρ) fun _ => .ite .pure .stuck
  | .par is os es, ρ, h => .bind (.row (nx_mds hc es h) ρ) fun _ => .nxt .of
  | .frz i, ρ, h => .nxt .of
  | .ret e, ρ, h => .bind ((nx_md hc e h).s ρ) fun _ => .pure
  | .retCell es, ρ, h => .bind (.row (nx_mds hc es h) ρ) fun _ => .bind .newCell fun _ => .pure
  | .ife e a b, ρ, h => by
    have h : (pureI ok e && (pureB ok a && pureB ok b)) = true := h
    rw [Bool.and_eq_true, Bool.and_eq_true] at h
    exact .bind ((nx_md hc e h.1).t ρ) fun _ => .ite (nx_xb hc a ρ h.2.1) (nx_xb hc b ρ h.2.2)
  | .for_ tg it b, ρ, h => by
    have h : (pureI ok it && pureB ok b) = true := h
    rw [Bool.and_eq_true] at h
    exact .bind (.itS hc h.1 ρ) fun ds => .for_ (fun ρ => nx_xb hc b ρ h.2) ds ρ
  | .while_ e b, ρ, h => by
    have h : (pureI ok e && pureB ok b) = true := h
    rw [Bool.and_eq_true] at h
    exact .while_ (nx_md hc e h.1).t (fun ρ => nx_xb hc b ρ h.2) _ ρ
  | .app i e, ρ, h => .bind ((nx_md hc e h).s ρ) fun _ => .nxt .of
  | .appPop i j e, ρ, h => .bind ((nx_md hc e h).s ρ) fun _ => .bind .of fun _ => .nxt .of
  | .ext i e, ρ, h => .bind ((nx_md hc e h).b ρ) fun _ => .bind .of fun _ => .nxt .of
  | .pop t j, ρ, h => .bind .of fun _ => .pure
  | .popI t j e, ρ, h => .bind ((nx_md hc e h).s ρ) fun _ => .bind .of fun _ => .pure
  | .seti i a b, ρ, h => by
    have h : (pureI ok a && pureI ok b) = true := h
    rw [Bool.and_eq_true] at h
    exact .bind ((nx_md hc b h.2).s ρ) fun _ => .bind ((nx_md hc a h.1).s ρ) fun _ => .nxt .putIx
  | .ex e, ρ, h => .bind ((nx_md hc e h).s ρ) fun _ => .pure
  | .setX tg e, ρ, h => .try_ fun _ => .nxt .of
  | .exX e, ρ, h => .try_ fun _ => .pure
  | .retX e, ρ, h => .try_ fun _ => .pure
  | .raise_ k es, ρ, h => .bind (.row (nx_mds hc es h) ρ) fun _ => .pure
  | .try_ b hs, ρ, h => .bind (nx_xb hc b ρ h) fun o => .caught o
  | .raises, ρ, h => .pure
  | .pass, ρ, h => .pure
  | .never, ρ, h => .stuck
theorem nx_xb {c : Ctx} {ok : Nat → Bool} (hc : ∀ f, ok f = true → ∀ ds, NX (c.call f ds)) : ∀ (is : List IS) (ρ : Env), pureB ok is = true → NX (xb c is ρ)
  | [], ρ, _ => .pure
  | i :: is, ρ, h => by
    have h : (pureS ok i && pureB ok is) = true := h
    rw [Bool.and_eq_true] at h
    exact .bind (nx_xs hc i ρ h.1) fun o => by
      cases o with
      | nx ρ2 => exact nx_xb hc is ρ2 h.2
      | rt v => exact .pure
      | er ρ2 k ys => exact .pure
end
/-- the defs that let nothing out -/
def okF (p : Prog) (f : Nat) : Bool := match p.fns[f]? with
  | some F => !raisesB F.body
  | none => true
def pureP (p : Prog) : Bool := p.fns.all fun F => pureB (okF p) F.body
theorem nx_run {p : Prog} (h : pureP p = true) : ∀ n, (∀ f, okF p f = true → ∀ ds, NX (p.run n f ds)) ∧ ∀ (F : Fn), F ∈ p.fns → ∀ ρ, NX (xb ⟨p.run n, fun i => p.glob[i]?, p.turns⟩ F.body ρ) := by
  intro n
  have second : (∀ f, okF p f = true → ∀ ds, NX (p.run n f ds)) → ∀ (F : Fn), F ∈ p.fns → ∀ ρ, NX (xb ⟨p.run n, fun i => p.glob[i]?, p.turns⟩ F.body ρ) := fun hn F hF ρ => nx_xb hn F.body ρ (List.all_eq_true.mp h F hF)
  suffices hs : ∀ f, okF p f = true → ∀ ds, NX (p.run n f ds) from ⟨hs, second hs⟩
  induction n with
  | zero => exact fun f _ ds => .stuck
  | succ n ih =>
    intro f hf ds
    have ih := ih fun hn F hF ρ => nx_xb hn F.body ρ (List.all_eq_true.mp h F hF)
    unfold Prog.run
    split
    · rename_i F hF
      refine .ite (.bind (nx_xb ih F.body _ (List.all_eq_true.mp h F (List.mem_of_getElem? hF))) fun o => ?_) .stuck
      unfold okF at hf
      rw [hF] at hf
      have hf : raisesB F.body = false := by simpa using hf
      unfold finF
      rw [hf]
      cases o <;> first | exact .pure | exact .stuck
    · exact .stuck
end Wy

set_option Elab.async false
set_option linter.all false
set_option maxRecDepth 100000
set_option autoImplicit false
/-! WyG: all defs of a row keep their promises. -/
namespace Wy
open PySem PySem.Spec PyProof.Rows L2
structure DefI where
  x : Str
  args : Arguments
  body : List Stmt
  scope : Scope
  N : List Str
  ps : List Str
  /-- it gives new lists -/
  nw : Bool := false
abbrev KL := List (Str × Nat × Nat × List Str × List Nat)
abbrev GC := List (Str × Nat × List Nat)
def frOf (ds : List DefI) (i : Nat) : Bool := match ds[i]? with
  | some d => d.nw
  | none => false
def scOf (gl : List (Str × Nat)) (kl : KL) (gc : GC) (ec : List Nat) (fr : Nat → Bool) (d : DefI) : Sc := { N := d.N, sc := d.scope, fn := fun _ => true, gl := gl, kl := kl, fr := fr, me := d.nw, gc := gc, ec := ec }
def chkF (gl : List (Str × Nat)) (kl : KL) (gc : GC) (ec : List Nat) (fr : Nat → Bool) (d : DefI) (F : Fn) : Bool :=
  chkB F.body (scOf gl kl gc ec fr d) d.body && (d.N.length == F.ns) && (d.ps.length == F.np) && C8.scC d.N d.ps d.scope && decide (d.scope.kind = .function)
def chkFs (gl : List (Str × Nat)) (kl : KL) (gc : GC) (ec : List Nat) (fr : Nat → Bool) : List DefI → List Fn → Bool
  | [], [] => true
  | d :: ds, F :: fs => chkF gl kl gc ec fr d F && chkFs gl kl gc ec fr ds fs
  | _, _ => false
theorem chkFs_at {gl : List (Str × Nat)} {kl : KL} {gc : GC} {ec : List Nat} {fr : Nat → Bool} : ∀ {ds : List DefI} {fs : List Fn} {i : Nat} {F : Fn}, chkFs gl kl gc ec fr ds fs = true → fs[i]? = some F → ∃ d, ds[i]? = some d ∧ chkF gl kl gc ec fr d F = true
  | [], [], i, F, _, e => by simp at e
  | [], _ :: _, _, _, h, _ => by cases h
  | _ :: _, [], _, _, h, _ => by cases h
  | d :: ds, F0 :: fs, 0, F, h, e => by
    unfold chkFs at h
    rw [Bool.and_eq_true] at h
    cases e
    exact ⟨d, rfl, h.1⟩
  | d :: ds, F0 :: fs, i + 1, F, h, e => by
    unfold chkFs at h
    rw [Bool.and_eq_true] at h
    exact chkFs_at (i := i) h.2 (by simpa using e)
def gcB (gc : GC) (glob : List D) : Bool := gc.all fun q => match glob[q.2.1]? with
  | some (.str x) => x == q.2.2
  | _ => false
theorem gcB_at {gc : GC} {glob : List D} (h : gcB gc glob = true) {q : Str × Nat × List Nat} (hq : q ∈ gc) : glob[q.2.1]? = some (.str q.2.2) := by
  have h1 := List.all_eq_true.mp h q hq
  split at h1
  · rename_i x e
    rw [e, eq_of_beq h1]
  · cases h1
abbrev FunI (K : PySem.W.Frag) (d : DefI) (f : Addr) (fd : FuncData) : Prop := FunD K d.x d.x d.args d.body d.scope [] [] f fd
/-- what the head tells -/
structure Told (K : PySem.W.Frag) (prog : Program) (mg : Str → Option Value) (gl : List (Str × Nat)) (kl : KL) (gc : GC) (ec : List Nat) (ds : List DefI) : Prop where
  cst : ∀ q ∈ gc, ∃ t, mg q.1 = some (.str (S q.2.2) t)
  def_ : ∀ (i : Nat) (d : DefI), ds[i]? = some d → ∃ f fd, FunI K d f fd ∧ mg d.x = some (.ref f)
  blt : ∀ x ∈ bnames, mg x = none
  bind : ∀ (i : Nat) (d : DefI), ds[i]? = some d → ∀ f fd, FunI K d f fd → Binds K fd d.ps []
  gl : ∀ x i, lk gl x = some i → ∃ d, ds[i]? = some d ∧ d.x = x
  kw : ∀ q ∈ kl, ∃ d, ds[q.2.1]? = some d ∧ d.x = q.1 ∧ ∀ f fd, FunI K d f fd → KBinds K fd d.ps q.2.2.2.1 (gP q.2.2.1 q.2.2.2.1.length q.2.2.2.2) (gP q.2.2.1 q.2.2.2.1.length q.2.2.2.2)
  exs : ∀ k ∈ ec, ClsK K prog mg k
section
variable {P : Program} {w : World} {K : PySem.W.Frag} {mg : Str → Option Value} {base : Heap} {gl : List (Str × Nat)} {kl : KL} {gc : GC} {ec : List Nat} {ds : List DefI} {pr : Prog}
def endQ (Q : D → Wy.St → Prop) (E : Nat → List D → Wy.St → Prop) : Out → Wy.St → Prop
  | .nx _, st => Q .non st
  | .rt d, st => Q d st
  | .er _ k ys, st => E k ys st
theorem run_len (hp : pureP pr = true) {n i : Nat} {xs : List D} {st : Wy.St} {Q : D → Wy.St → Prop} {E : Nat → List D → Wy.St → Prop} (h : wpX (pr.run (n + 1) i xs) st Q E) : ∃ F, pr.fns[i]? = some F ∧ xs.length = F.np ∧ wp (xb ⟨pr.run n, fun i => pr.glob[i]?, pr.turns⟩ F.body (startE F.np F.ns xs)) st (endQ Q E) := by
  unfold Prog.run at h
  split at h
  · rename_i F hF
    split at h
    · rename_i hl
      refine ⟨F, hF, hl, ?_⟩
      have nx := (nx_run hp n).2 F (List.mem_of_getElem? hF) (startE F.np F.ns xs)
      unfold wpX M.bind at h
      unfold wp
      cases e : xb ⟨pr.run n, fun i => pr.glob[i]?, pr.turns⟩ F.body (startE F.np F.ns xs) st with
      | ok o st' =>
        rw [e] at h
        unfold finF at h
        by_cases hr : raisesB F.body = true
        · rw [if_pos hr] at h
          cases o <;> exact h
        · rw [if_neg hr] at h
          cases o <;> first | exact h | exact h.elim
      | exc k ys st' => exact (nx _ _ _ _ e).elim
      | stuck =>
        rw [e] at h
        exact h
    · exact h.elim
  · exact h.elim
theorem start_er {C : List Addr} {G : Gh} {H : Hp} {vs : List V} {xs : List D} {N : List Str} {m : Nat} (r : Reps K G.C (G.h H) vs xs) : ER K G (L2.start N vs) H (xs.map (fun d => some (d, false)) ++ List.replicate m none) := by
  intro i d o h
  by_cases hi : i < xs.length
  · rw [List.getElem?_append_left (by simpa using hi), List.getElem?_map] at h
    cases q : xs[i]? with
    | none =>
      rw [q] at h
      cases h
    | some x =>
      rw [q] at h
      cases h
      obtain ⟨v, hv, rv⟩ := r.get q
      refine ⟨v, ?_, rv⟩
      unfold L2.start
      rw [List.getElem?_append_left (by rw [List.length_map, r.len]; exact hi), List.getElem?_map, hv]
      rfl
  · rw [List.getElem?_append_right (by simpa using hi)] at h
    rw [List.getElem?_replicate] at h
    split at h
    · cases h
    · cases h
theorem no_own {np ns : Nat} {xs : List D} {j : Nat} {e : D} (hj : (startE np ns xs)[j]? = some (some (e, true))) : False := by
  unfold startE at hj
  by_cases hl : j < xs.length
  · rw [List.getElem?_append_left (by simpa using hl), List.getElem?_map] at hj
    cases q : xs[j]? with
    | none =>
      rw [q] at hj
      cases hj
    | some x =>
      rw [q] at hj
      cases hj
  · rw [List.getElem?_append_right (by simpa using hl), List.getElem?_replicate] at hj
    split at hj <;> cases hj
theorem fns_ok (T : Told K P mg gl kl gc ec ds) (hp : pureP pr = true) (hgc : gcB gc pr.glob = true) (hc : chkFs gl kl gc ec (frOf ds) ds pr.fns = true) : ∀ (n i : Nat) (d : DefI) (f : Addr) (fd : FuncData), ds[i]? = some d → FunI K d f fd → FnOk P w K mg base (L2.CX P w) n f fd d.ps (spF K d.nw (pr.run n i)) := by
  intro n
  induction n with
  | zero =>
    intro i d f fd hd F
    refine ⟨fun vs H Q E h => ?_, fun A outer s H args us vs Q E _ _ _ _ h => ?_⟩
    · obtain ⟨G, st, xs, _, _, _, h⟩ := h
      exact h.elim
    · obtain ⟨G, st, xs, _, _, _, h⟩ := h
      exact h.elim
  | succ n ih =>
    intro i d f fd hd F
    have lenF : ∀ F0, pr.fns[i]? = some F0 → chkF gl kl gc ec (frOf ds) d F0 = true := fun F0 hF => by
      obtain ⟨d', h1, h2⟩ := chkFs_at hc hF
      rw [hd] at h1
      cases h1
      exact h2
    have len : ∀ vs H Q E, spF K d.nw (pr.run (n + 1) i) vs H Q E → vs.length = d.ps.length := fun vs H Q E h => by
      obtain ⟨G, st, xs, _, _, r, h⟩ := h
      obtain ⟨F0, h1, h2, _⟩ := run_len hp h
      have c0 := lenF F0 h1
      unfold chkF at c0
      simp only [Bool.and_eq_true, beq_iff_eq] at c0
      rw [r.len, h2, c0.1.1.2]
    by_cases hF : ∃ F0, pr.fns[i]? = some F0
    · obtain ⟨F0, hF⟩ := hF
      have c0 := lenF F0 hF
      unfold chkF at c0
      simp only [Bool.and_eq_true, beq_iff_eq, decide_eq_true_eq] at c0
      obtain ⟨⟨⟨⟨k1, k2⟩, k3⟩, k4⟩, k5⟩ := c0
      have sc := C8.fnScope_by k4
      refine F.ok sc len fun cdv A outer s H vs Q E hr h => ?_
      obtain ⟨G, st, xs, sr, hid, r, h⟩ := h
      obtain ⟨F1, h1, h2, hw⟩ := run_len hp h
      rw [hF] at h1
      cases h1
      have mt : MtX (cxOf (L2.CX P w) P w K mg base d.N d.x d.scope f cdv A outer s H E) (scOf gl kl gc ec (frOf ds) d) ⟨pr.run n, fun i => pr.glob[i]?, pr.turns⟩ :=
        { hN := rfl
          nd := sc.nd
          sc := rfl
          fn := rfl
          calm := rfl
          un := by
            have := hr.un
            show (A.deeper _).units + 200 < cLine
            omega
          blt := T.blt
          fns := fun x j hx => by
            obtain ⟨d', q1, q2⟩ := T.gl x j hx
            obtain ⟨f', fd', q3, q4⟩ := T.def_ j d' q1
            subst q2
            have e : frOf ds j = d'.nw := by unfold frOf; rw [q1]
            show CallOk _ (frOf ds j) _ _ _
            rw [e]
            exact ⟨f', fd', d'.ps, n, ih j d' f' fd' q1 q3, hr, q4, q3.kp, T.bind j d' q1 f' fd' q3⟩
          kws := fun q hq => by
            obtain ⟨d', q1, q2, q5⟩ := T.kw q hq
            obtain ⟨f', fd', q3, q4⟩ := T.def_ _ d' q1
            rw [q2] at q4
            have e : frOf ds q.2.1 = d'.nw := by unfold frOf; rw [q1]
            show KwOk _ (frOf ds q.2.1) _ _ _ _ _ _
            rw [e]
            exact ⟨f', fd', d'.ps, n, ih _ d' f' fd' q1 q3, hr, q4, q3.kp, q5 f' fd' q3⟩
          cst := fun q hq => ⟨T.cst q hq, gcB_at hgc hq⟩
          kd := k5
          rm := hr.mono (Nat.zero_le _)
          hst := rfl
          hfr := rfl
          hex := rfl
          po := passes_of rfl
          exs := T.exs }
      have tk := takes_of (X := cxOf (L2.CX P w) P w K mg base d.N d.x d.scope f cdv A outer s H E) rfl rfl rfl rfl
      refine ⟨_, sB F0.body k1 mt (G0 := G) (H0 := H) (W := fun cls d _ H => E cls d H) tk sr.there, G, _, st, ?_, wp_mono hw fun o st' k => ?_⟩
      · exact ⟨⟨start_er (C := []) r, sr, hid⟩, List.prefix_refl _, fun _ _ h _ => h, fun _ h => .inl h, fun _ h => h, fun _ h => .inl h, fun j e hj => (no_own hj).elim, fun j l e e' a hj _ _ _ => (no_own hj).elim⟩
      · cases o with
        | nx ρ' => exact fun σ' H' G' s' e => k .non H' G'.C ⟨s'.keep, s'.pre, s'.new⟩ (s'.g.sr.sw rfl) ⟨.non, fun _ z => nomatch z⟩
        | rt v => exact fun u H' C' p q r => k u H' C' p q r
        | er ρ' j ys => exact fun σ' H' G' cls d s' e r => k cls d H' G'.C ⟨s'.keep, s'.pre, s'.new⟩ (s'.g.sr.sw rfl) (ExcR.mono (G := G') (H := H') (fun b o hb => by
            obtain ⟨k1, k2, k3⟩ := Gh.h_some.mp hb
            exact Gh.h_some.mpr ⟨k1, fun z => k2 (s'.own1 b z), k3⟩) (List.prefix_refl _) r)
    · refine ⟨len, fun A outer s H args us vs Q E _ _ _ _ h => ?_⟩
      obtain ⟨G, st, xs, _, _, _, h⟩ := h
      obtain ⟨F0, h1, _⟩ := run_len hp h
      exact (hF ⟨F0, h1⟩).elim
end
end Wy

set_option Elab.async false
set_option linter.all false
set_option maxRecDepth 100000
set_option autoImplicit false
set_option maxHeartbeats 1000000
/-! WyHk: what the head tells of the errors' classes. -/
namespace Wy
open PySem PySem.Spec PyProof.Rows L2
def bmK (k : Nat) : List Value := if exV k then bmV else bmL
def nwK (k : Nat) : String := if exV k then "ValueError.__new__" else "LookupError.__new__"
def inK (k : Nat) : String := if exV k then "ValueError.__init__" else "LookupError.__init__"
def bsK (k : Nat) : String := if exV k then "ValueError" else "LookupError"
theorem bfK (k : Nat) : BF (bsK k) (nwK k) (inK k) (bmK k) := by
  unfold bsK nwK inK bmK
  cases exV k with
  | false => exact bfL
  | true => exact bfV
/-! ### the class -/
def shpB (K : PySem.W.Frag) (newId : String) (bm : List Value) (C : Addr) : Bool := match K.lookup C with
  | some ⟨.type "type", _, .cls cd, sl⟩ => (match sl.toList with
    | [_, _, _, _, some (.builtin n), _] => n == newId && (decide (cd.mro = .ref C :: bm) && (cd.hasDict && !cd.hasDel))
    | _ => false)
  | _ => false
theorem shp_ok {K : PySem.W.Frag} {newId : String} {bm : List Value} {C : Addr} (h : shpB K newId bm C = true) : ∃ nm q N bs sn sub ab col dd k0 k1 k2 k3 k5, K.lookup C = some (excClassObj nm q C N bs bm true sn sub ab col dd k0 k1 k2 k3 k5 newId) := by
  unfold shpB at h
  split at h
  · rename_i dd cd sl ho
    split at h
    · rename_i k0 k1 k2 k3 n k5 hs
      simp only [Bool.and_eq_true, beq_iff_eq, Bool.not_eq_true', decide_eq_true_eq] at h
      obtain ⟨rfl, hm, hd, hl⟩ := h
      obtain ⟨nm, bs, mro, ns, qn, hdct, sn, sub, ab, col, del⟩ := cd
      dsimp only at hm hd hl
      subst hm hd hl
      have hsl : sl = #[k0, k1, k2, k3, some (.builtin n), k5] := by
        obtain ⟨l⟩ := sl
        simp only at hs
        rw [hs]
      subst hsl
      exact ⟨nm, qn, ns, bs, sn, sub, ab, col, dd, k0, k1, k2, k3, k5, ho⟩
    · cases h
  · cases h
def eqO (a b : Option (Option Value)) : Bool := decide (a = b)
def clsB (K : PySem.W.Frag) (k : Nat) : Bool :=
  let C := exC K k
  Nat.blt k 11 && (eqO (PySem.W.nsIn K mainGlobals (exN k)) (some (some (.ref C))) && ((List.range 11).all (fun j => match PySem.W.nsIn K mainGlobals (exN j) with
    | some (some (.ref a)) => decide (PySem.W.exmOne K (.ref C) (.ref a) = some (Nat.beq j k))
    | _ => true) && (shpB K (nwK k) (bmK k) C && (PySem.W.keepIn K (.ref C) && (decide (PySem.W.subIn K (.ref C) (.type "BaseException") = some true) && (decide (PySem.W.typeIn K (.ref C) = some (.type "type")) &&
    (eqO (PySem.W.findIn K (.ref C) "__setattr__") (some (some (.builtin "object.__setattr__"))) && (eqO (PySem.W.findIn K (.ref C) "__getattribute__") (some (some (.builtin "BaseException.__getattribute__"))) && (eqO (PySem.W.findIn K (.ref C) "__getattr__") (some none) &&
    (eqO (PySem.W.findIn K (.ref C) "__class__") (some (some (.builtin "object.__class__"))) && (eqO (PySem.W.specialIn K (.builtin "object.__class__") "__get__") (some (some (.builtin "getset_descriptor.__get__"))) && (decide (PySem.W.takesIn K (.builtin "object.__class__") = some true) &&
    ((exF k).all (fun f => eqO (PySem.W.findIn K (.ref C) f) (some none)) && (decide (PySem.W.kitOne K (.ref C) (.type "LookupError") = some (!exV k)) && (decide (PySem.W.kitOne K (.ref C) (.type "ValueError") = some (exV k)) && (!(exF k).isEmpty || PySem.W.excIn K C (bmK k) (nwK k)))))))))))))))))
/-! ### its __init__ -/
structure IniD where
  k : Nat
  name : Str
  qual : Str
  params : Arguments
  body : List Stmt
  sns : List (Str × NameKind)
abbrev FnY : Type := Option (Str × Str × Arguments × FuncBody × Scope × Addr × List Str × Addr)
def fnY (K : PySem.W.Frag) (a : Addr) : FnY := match K.lookup a with
  | some ⟨_, _, .func fd, _⟩ => some (fd.name, fd.qualname, fd.params, fd.body, fd.scope, fd.globals, fd.closure.map (·.1), fd.builtins)
  | _ => none
def IniD.val (d : IniD) : FnY := some (d.name, d.qual, d.params, .stmts d.body, inSc d.sns, mainGlobals, ["__class__"], builtinsNs)
def inA (K : PySem.W.Frag) (k : Nat) : Addr := match PySem.W.findIn K (.ref (exC K k)) "__init__" with
  | some (some (.ref a)) => a
  | _ => 0
def codB (K : PySem.W.Frag) (file : Str) (cd : Value) : Bool := match cd with
  | .ref cda => (match K.lookup cda with
    | some ⟨_, _, .fields vs, _⟩ => (match (vs[2]? : Option Value) with
      | some (Value.str f _) => file == f
      | _ => false)
    | _ => false)
  | _ => false
def celB (K : PySem.W.Frag) (C : Addr) (cl : List (Str × Addr)) : Bool := match cl with
  | [(_, cc)] => (match K.lookup cc with
    | some ⟨_, _, .cell (some v), _⟩ => decide (v = .ref C)
    | _ => false)
  | _ => false
def IniD.ok (K : PySem.W.Frag) (file : Str) (d : IniD) : Bool :=
  let C := exC K d.k
  let fI := inA K d.k
  eqO (PySem.W.findIn K (.ref C) "__init__") (some (some (.ref fI))) && (decide (PySem.W.typeIn K (.ref fI) = some (.type "function")) && (eqO (PySem.W.ks_superIn K C C "__init__") (some (some (.builtin (inK d.k)))) && (eqO (PySem.W.nsIn K cStatics "thirdparty.any") (some none) && (match K.lookup fI with
    | some ⟨_, _, .func fd, _⟩ => PySem.W.codeIn K fd.code d.qual && (codB K file fd.code && (celB K C fd.closure && decide (fd.defaults = .none)))
    | _ => false))))
/-- .. as it stands in the text -/
structure InS (d : IniD) (f : Str) : Prop where
  ex : ∃ (p0 p1 p2 p3 p4 p5 p6 p7 p8 p9 : Pos) (ar : Arg), d.body = [.Expr (.Call (.Attribute (.Call (.Name "super" p0) [] [] p1) "__init__" p2) [.Name f p3] [] p4) p5, .Assign [.Attribute (.Name "self" p6) f p7] (.Name f p8) p9] ∧
    (p2.endLine == p4.line) = true ∧ (d.params.posonlyargs ++ d.params.args).head? = some ar ∧ ar.arg = "self"
  bind : ∀ (kV doc pm : Value) (an : Option Addr) (cda cc : Addr) (ct x v : Value), bindArgs (PySem.W.ksFn d.name d.qual d.params d.body (inSc d.sns) .none kV doc pm an (.ref cda) ct cc) ⟨[x, v], []⟩ = pure [(("self" : Str), x), (f, v)]
  nocell : ∀ x ∈ d.sns, x.2 ≠ .cell
  s1 : d.sns.lookup ("super" : Str) = some .globalImplicit
  s2 : d.sns.lookup ("__class__" : Str) = some .free
  s3 : d.sns.lookup ("self" : Str) = some .local
  s4 : d.sns.lookup f = some .local
  nfs : (f == ("self" : Str)) = false ∧ (f == ("__debug__" : Str)) = false
section
variable {K : PySem.W.Frag} {h : Heap} {mg : Str → Option Value} {prog : Program} {d : IniD} {f : Str}
theorem fstOne {α : Type} {l : List (α × Addr)} {x : α} (h : l.map (·.1) = [x]) : ∃ c, l = [(x, c)] := by
  cases l with
  | nil => cases h
  | cons p r =>
    cases r with
    | nil =>
      obtain ⟨a, c⟩ := p
      cases h
      exact ⟨c, rfl⟩
    | cons _ _ => cases h
theorem in1_of (e : fnY K (inA K d.k) = d.val) (c : d.ok K prog.main.file = true) (S : InS d f) (hs : mg "super" = none) (nof : PySem.W.findIn K (.ref (exC K d.k)) f = some none) (top : (prog.main.scope.names.lookup ("super" : Str)).isSome = false) :
    In1 K prog mg (exC K d.k) (inA K d.k) (bsK d.k) (inK d.k) f := by
  unfold IniD.ok at c
  simp only [Bool.and_eq_true] at c
  obtain ⟨c1, c2, c3, c4, c5⟩ := c
  unfold fnY at e
  cases q : K.lookup (inA K d.k) with
  | none =>
    rw [q] at c5
    cases c5
  | some o =>
    obtain ⟨oc, od, dt, osl⟩ := o
    rw [q] at c5 e
    cases dt with
    | func fd =>
      obtain ⟨n1, n2, n3, n4, n5, n6, n7, n8, n9, n10, n11, n12, n13, n14, n15⟩ := fd
      have e2 : (some (n1, n2, n3, n4, n5, n6, n7.map (·.1), n15) : FnY) = some (d.name, d.qual, d.params, FuncBody.stmts d.body, inSc d.sns, mainGlobals, [("__class__" : Str)], builtinsNs) := e
      simp only [Option.some.injEq, Prod.mk.injEq] at e2
      obtain ⟨h1, h2, h3, h4, h5, h6, h7, h8⟩ := e2
      obtain ⟨cc, h7⟩ := fstOne h7
      subst h1 h2 h3 h4 h5 h6 h7 h8
      have c5 : (PySem.W.codeIn K n13 d.qual && (codB K prog.main.file n13 && (celB K (exC K d.k) [("__class__", cc)] && decide (n8 = .none)))) = true := c5
      simp only [Bool.and_eq_true, decide_eq_true_eq] at c5
      obtain ⟨k1, k2, k3, k4⟩ := c5
      subst k4
      obtain ⟨cda, rfl⟩ : ∃ a, n13 = .ref a := by
        unfold codB at k2
        split at k2
        · exact ⟨_, rfl⟩
        · cases k2
      obtain ⟨p0, p1, p2, p3, p4, p5, p6, p7, p8, p9, ar, hb, hl, ha, ha2⟩ := S.ex
      have hbind := S.bind n9 n10 n11 n12 cda cc n14
      rw [hb] at q hbind
      refine ⟨⟨oc, od, osl, _, _, _, d.sns, .none, n9, n10, n11, n12, cda, cc, n14, p0, p1, p2, p3, p4, p5, p6, p7, p8, p9, ar, q, k1, ?_, ?_, hl, ha, ha2, hbind, S.nocell, S.s1, S.s2, S.s3, S.s4⟩, of_decide_eq_true c1, of_decide_eq_true c2, of_decide_eq_true c3, of_decide_eq_true c4, hs, nof, S.nfs, top⟩
      · have k2 : (match K.lookup cda with
          | some ⟨_, _, .fields vs, _⟩ => (match (vs[2]? : Option Value) with
            | some (Value.str f _) => prog.main.file == f
            | _ => false)
          | _ => false) = true := k2
        split at k2
        · rename_i a b vs cs hlk
          split at k2
          · rename_i fl tf hv
            exact ⟨a, b, cs, vs, fl, tf, hlk, hv, k2⟩
          · cases k2
        · cases k2
      · have k3 : (match K.lookup cc with
          | some ⟨_, _, .cell (some v), _⟩ => decide (v = .ref (exC K d.k))
          | _ => false) = true := k3
        split at k3
        · rename_i a b v cs hlk
          rw [of_decide_eq_true k3] at hlk
          exact ⟨a, b, cs, hlk⟩
        · cases k3
    | _ => cases c5
theorem clsK_of (X : K.In h) (G : h.Ns mainGlobals mg) {k : Nat} (c : clsB K k = true) (hin : ∀ f, exF k = [f] → ∃ fI, In1 K prog mg (exC K k) fI (bsK k) (inK k) f) : ClsK K prog mg k := by
  unfold clsB at c
  simp only [Bool.and_eq_true, List.all_eq_true, decide_eq_true_eq] at c
  obtain ⟨c1, c2, c3, c4, c5, c6, c7, c8, c9, c10, c11, c12, c13, c14, c15, c16, c17⟩ := c
  have lt : k < 11 := by simpa [Nat.blt_eq] using c1
  have hcls := shp_ok c4
  have T : ExK K (nwK k) (bmK k) (exC K k) := ⟨hcls, c5, c6, c7, of_decide_eq_true c8⟩
  obtain ⟨cd, e1, e2, e3⟩ := exk_cls T
  refine ⟨⟨_, of_decide_eq_true c2⟩, PySem.W.mg_of X G (of_decide_eq_true c2), fun j hj hx => ?_, ⟨bsK k, nwK k, inK k, bmK k, bfK k, T, fun hf => ?_, hin⟩, ⟨lt, by rw [e1]; rfl, c6, exk_mro T (bfK k).obj, ?_, of_decide_eq_true c9, of_decide_eq_true c10, of_decide_eq_true c11, of_decide_eq_true c12, c13, fun f hf => of_decide_eq_true (c14 f hf), c15, c16⟩⟩
  · obtain ⟨a, ha⟩ := hx
    have q := c3 j (List.mem_range.mpr hj)
    rw [ha] at q
    have ea : exC K j = a := by
      unfold exC
      rw [ha]
    rw [ea]
    exact of_decide_eq_true q
  · rw [hf] at c17
    simpa using c17
  · unfold PySem.W.hasDictIn
    rw [e1]
    exact e3
end
/-! ### the Hook -/
def obsY (fa : List He.Fa) (fn : List He.DefD) (ini : List IniD) (ex : PySem.W.Frag → Bool) (K : PySem.W.Frag) : He.AlD × (Bool × List FnY) := (He.obsD fa fn K, (ex K, ini.map fun d => fnY K (inA K d.k)))
def valY (fn : List He.DefD) (ini : List IniD) : He.AlD × (Bool × List FnY) := (He.valD fn, (true, ini.map IniD.val))
def obsYG (n : Nat) (fa : List He.Fa) (fn : List He.DefD) (ini : List IniD) (ex : PySem.W.Frag → Bool) (g : Addr → Option Obj) : He.AlD × (Bool × List FnY) := obsY fa fn ini ex (He.frG g (cStatics :: He.asD g n))
def hookY (n : Nat) (fa : List He.Fa) (fn : List He.DefD) (ini : List IniD) (ex : PySem.W.Frag → Bool) : PySem.W.Hook where
  α := He.AlD × (Bool × List FnY)
  obs := fun s => obsYG n fa fn ini ex s.heap.get?
  val := fun _ => valY fn ini
  says := fun _ h => ∃ K : PySem.W.Frag, K.In h ∧ obsY fa fn ini ex K = valY fn ini
  of := fun _ _ e => ⟨_, He.frG_in, e⟩
  keeps := fun _ _ _ ⟨K, hK, c⟩ k => ⟨K, PySem.W.Frag.In.keeps hK k, c⟩
theorem obsYG_eq {n : Nat} {fa : List He.Fa} {fn : List He.DefD} {ini : List IniD} {ex : PySem.W.Frag → Bool} {g : Addr → Option Obj} {s : Shared} (h : ∀ a, g a = s.heap.get? a) : obsYG n fa fn ini ex g = (hookY n fa fn ini ex).obs s := by
  have e : g = s.heap.get? := funext h
  rw [e]
  rfl
def exB (ec : List Nat) (file : Str) (ini : List IniD) (K : PySem.W.Frag) : Bool := ec.all (fun k => clsB K k) && (ini.all (fun d => d.ok K file) && ec.all fun k => !((exF k).length == 1) || ini.any fun d => d.k == k)
theorem exs_of {K : PySem.W.Frag} {h : Heap} {mg : Str → Option Value} {prog : Program} {fa : List He.Fa} {fn : List He.DefD} {ini : List IniD} {ec : List Nat} (X : K.In h) (G : h.Ns mainGlobals mg) (c : obsY fa fn ini (exB ec prog.main.file ini) K = valY fn ini) (hs : mg "super" = none)
    (top : ini ≠ [] → (prog.main.scope.names.lookup ("super" : Str)).isSome = false) (hS : ∀ d ∈ ini, ∀ f, exF d.k = [f] → InS d f) : ∀ k ∈ ec, ClsK K prog mg k := by
  have c1 : exB ec prog.main.file ini K = true := congrArg (fun z : He.AlD × (Bool × List FnY) => z.2.1) c
  have c2 : (ini.map fun d => fnY K (inA K d.k)) = ini.map IniD.val := congrArg (fun z : He.AlD × (Bool × List FnY) => z.2.2) c
  unfold exB at c1
  simp only [Bool.and_eq_true, List.all_eq_true] at c1
  obtain ⟨h1, h2, h3⟩ := c1
  intro k hk
  refine clsK_of X G (h1 k hk) fun f hf => ?_
  have q := h3 k hk
  rw [hf] at q
  have q : (ini.any fun d => d.k == k) = true := by simpa using q
  obtain ⟨d, hd, e⟩ := List.any_eq_true.mp q
  have e : d.k = k := by simpa using e
  subst e
  obtain ⟨i, hi⟩ := List.mem_iff_getElem?.mp hd
  have z := congrArg (fun l => l[i]?) c2
  simp only [List.getElem?_map, hi, Option.map_some, Option.some.injEq] at z
  have nof : PySem.W.findIn K (.ref (exC K d.k)) f = some none := by
    have := h1 d.k hk
    unfold clsB at this
    simp only [Bool.and_eq_true, List.all_eq_true] at this
    obtain ⟨_, _, _, _, _, _, _, _, _, _, _, _, _, c14, _⟩ := this
    exact of_decide_eq_true (c14 f (by rw [hf]; exact List.mem_cons_self))
  exact ⟨_, in1_of z (h2 d hd) (hS d hd f hf) hs nof (top fun z => by rw [z] at hd; cases hd)⟩
end Wy

set_option Elab.async false
set_option linter.all false
set_option maxRecDepth 100000
set_option autoImplicit false
/-! WyH: what the head tells, and the end. -/
namespace Wy
open PySem PySem.Spec PyProof.Rows L2
def DefI.d (d : DefI) : He.DefD := ⟨(d.x, none), d.x, d.x, d.args, d.body, d.scope, [], []⟩
def faOf (ds : List DefI) (gc : GC) : List He.Fa := ds.map (fun d => .glo d.x) ++ (bnames.map .free ++ gc.map fun q => .str q.1 (S q.2.2))
def glsB (gl : List (Str × Nat)) (ds : List DefI) : Bool := gl.all fun q => match ds[q.2]? with
  | some d => sEq d.x q.1
  | none => false
theorem lk_mem {α : Type} : ∀ {l : List (Str × α)} {x : Str} {a : α}, lk l x = some a → (x, a) ∈ l
  | [], _, _, h => by cases h
  | p :: r, x, a, h => by
    unfold lk at h
    split at h
    · rename_i e
      cases h
      rw [sEq_eq e]
      exact List.mem_cons_self
    · exact List.mem_cons_of_mem _ (lk_mem h)
theorem told_of {K : PySem.W.Frag} {prog : Program} {h : Heap} {mg : Str → Option Value} {gl : List (Str × Nat)} {kl : KL} {gc : GC} {ec : List Nat} {ds : List DefI} (X : K.In h) (G : h.Ns mainGlobals mg) (c : He.SaysD (faOf ds gc) (ds.map DefI.d) K)
    (hb : ∀ d ∈ ds, ∀ f fd, FunI K d f fd → Binds K fd d.ps []) (hg : glsB gl ds = true)
    (hk : ∀ q ∈ kl, ∃ d, ds[q.2.1]? = some d ∧ d.x = q.1 ∧ ∀ f fd, FunI K d f fd → KBinds K fd d.ps q.2.2.2.1 (gP q.2.2.1 q.2.2.2.1.length q.2.2.2.2) (gP q.2.2.1 q.2.2.2.1.length q.2.2.2.2)) (hx : ∀ k ∈ ec, ClsK K prog mg k) : Told K prog mg gl kl gc ec ds where
  exs := hx
  cst := fun q hq => by
    obtain ⟨i, hi⟩ := List.mem_iff_getElem?.mp hq
    have e := c.fact (ds.length + (bnames.length + i)) (f := .str q.1 (S q.2.2)) (by
      unfold faOf
      rw [List.getElem?_append_right (by rw [List.length_map]; omega), List.length_map, Nat.add_sub_cancel_left, List.getElem?_append_right (by rw [List.length_map]; omega), List.length_map, Nat.add_sub_cancel_left, List.getElem?_map, hi]
      rfl)
    exact He.str_ok X G e
  def_ := fun i d hd => by
    obtain ⟨fd, F⟩ := c.def_ i (d := d.d) (by rw [List.getElem?_map, hd]; rfl)
    have hlt : i < ds.length := (List.getElem?_eq_some_iff.mp hd).1
    have q := c.fact i (f := .glo d.x) (by
      unfold faOf
      rw [List.getElem?_append_left (by rw [List.length_map]; exact hlt), List.getElem?_map, hd]
      rfl)
    exact ⟨_, fd, F, He.glo_ok X G q⟩
  blt := fun x hx => by
    obtain ⟨i, hi⟩ := List.mem_iff_getElem?.mp hx
    have q := c.fact (ds.length + i) (f := .free x) (by
      unfold faOf
      have hlt : i < bnames.length := (List.getElem?_eq_some_iff.mp hi).1
      rw [List.getElem?_append_right (by rw [List.length_map]; omega), List.length_map, Nat.add_sub_cancel_left, List.getElem?_append_left (by rw [List.length_map]; exact hlt), List.getElem?_map, hi]
      rfl)
    exact He.free_ok X G q
  bind := fun i d hd => hb d (List.mem_of_getElem? hd)
  gl := fun x i hx => by
    have := List.all_eq_true.mp hg _ (lk_mem hx)
    split at this
    · rename_i d hd
      exact ⟨d, hd, sEq_eq this⟩
    · cases this
  kw := hk
theorem kb_of {K : PySem.W.Frag} {d : DefI} {n l : Nat} {perm : List Nat} {ks : List Str} (hp : d.ps ≠ []) (hl : ks.length = l)
    (h : ∀ (kV doc pm : Value) (an : Option Addr) (cdv ct : Value) (us ws : List Value), us.length = n → ws.length = l → bindArgs (PySem.W.fnOf d.x d.x d.args d.body d.scope .none kV doc pm an cdv ct) ⟨us, ks.zip ws⟩ = pure (d.ps.zip (us ++ perm.filterMap fun j => ws[j]?))) :
    ∀ f fd, FunI K d f fd → KBinds K fd d.ps ks (gP n ks.length perm) (gP n ks.length perm) := by
  intro f fd F
  subst hl
  refine ⟨fun s us ws _ hlen => ?_, fun {vs us zs ws} r r2 => ?_⟩
  · unfold gP at hlen ⊢
    split at hlen
    · rename_i hc
      rw [if_pos hc]
      obtain ⟨oc, od, dV, kV, doc, pm, an, cdv, ct, osl, rfl, lk, hcd, hD, hK⟩ := F.ex
      rcases hD with ⟨_, rfl⟩ | ⟨e, _⟩
      · exact .of_eq (h kV doc pm an cdv ct us ws hc.1 hc.2)
      · exact absurd rfl e
    · rename_i hc
      exact absurd (List.length_eq_zero_iff.mp hlen.symm) hp
  · unfold gP
    rw [r.length, r2.length]
    split
    · refine r.append ?_
      have key : ∀ perm : List Nat, Vals (perm.filterMap fun j => zs[j]?) (perm.filterMap fun j => ws[j]?) := fun perm => by
        induction perm with
        | nil => exact .nil
        | cons j perm ih =>
          rw [List.filterMap_cons, List.filterMap_cons]
          cases q : zs[j]? with
          | none =>
            rw [r2.none_of q]
            exact ih
          | some z =>
            obtain ⟨u, hu, ru⟩ := r2.get q
            rw [hu]
            exact .cons ru ih
      exact key perm
    · exact .nil
theorem h_none {H : Hp} : (⟨fun _ => False, []⟩ : Gh).h H = H := by
  funext a
  unfold Gh.h
  rw [if_neg (fun z => z.elim id fun q => nomatch q)]
theorem lint_reps {K : PySem.W.Frag} {C : List Addr} {H : Hp} : ∀ ns : List Int, Reps K C H (ns.map V.int) (ns.map D.int)
  | [] => .nil
  | n :: r => .cons (.int n) (lint_reps r)
theorem law_sp {K : PySem.W.Frag} {call : List D → M D} {ns : List Int} (hm : ∃ st', call [.scr (ns.map D.int)] [] = .ok (.bl true) st') {H : Hp} {a : Addr} {E : XK} (h : SqL K H a (ns.map V.int)) : spF K false call [.ref a] H (fun v _ => v = .bl true) E :=
  ⟨⟨fun _ => False, []⟩, [], [.scr (ns.map D.int)], ⟨rfl, List.nodup_nil, fun g b hb => by simp at hb⟩, fun b hb => hb.elim, .cons (.scr (by rw [h_none]; exact h) (by rw [h_none]; exact lint_reps ns)) .nil,
    by
      obtain ⟨st', e⟩ := hm
      unfold wpX
      rw [e]
      exact fun v H' C' p s r => BRep.bl (.inl r.1)⟩
/-- .. whatever the world is -/
def CXw (P : Program) : CXT := fun outer H s E u s' => ∃ w, L2.CX P w outer H s E u s'
theorem fn_w {P : Program} {w : World} {K : PySem.W.Frag} {mg : Str → Option Value} {base : Heap} {n : Nat} {f : Addr} {fd : FuncData} {ps : List Str} {sp : Sp} (F : FnOk P w K mg base (L2.CX P w) n f fd ps sp) : FnOk P w K mg base (CXw P) n f fd ps sp :=
  ⟨F.len, fun A outer s H args us vs Q E a b c d e => codeAny_mono (F.run A outer s H args us vs Q E a b c d e) fun r s' hr => by
    cases r with
    | error x => exact ⟨w, hr⟩
    | ok fl =>
      cases fl <;> first | exact hr | exact hr.elim⟩
theorem cxw_none {P : Program} (H : Hp) (s : Shared) (e : Value) (s' : Shared) (h : CXw P [] H s (fun _ _ _ => False) e s') : False := by
  obtain ⟨_, _, _, _, _, _, _, _, _, _, _, _, _, q⟩ := h
  exact q
end Wy

set_option Elab.async false
set_option linter.all false
set_option maxRecDepth 100000
set_option autoImplicit false
/-! WyM: the evaluator, reckoned: what the laws' helpers give. Plain Lean. -/
namespace Wy
theorem bind_ok {α β : Type} {m : M α} {f : α → M β} {st st' : St} {a : α} (h : m st = .ok a st') : M.bind m f st = f a st' := by
  unfold M.bind
  rw [h]
theorem of_some {α : Type} {x : Option α} {st : St} {a : α} (h : x = some a) : M.of x st = .ok a st := by rw [h]; rfl
theorem mapO_ok {f : D → M (List D)} {g : D → D} {st : St} : ∀ {xs : List D}, (∀ x ∈ xs, f x st = .ok [g x] st) → mapO f xs st = .ok (xs.map g) st
  | [], _ => rfl
  | x :: xs, h => by
    unfold mapO
    rw [bind_ok (h x List.mem_cons_self), bind_ok (mapO_ok fun y hy => h y (List.mem_cons_of_mem _ hy))]
    rfl
/-- .. with a test that looks at nothing that is drawn -/
theorem mapO_if {f : D → M (List D)} {g : D → D} {t : D → Bool} {st : St} : ∀ {xs : List D}, (∀ x ∈ xs, f x st = .ok (if t x then [g x] else []) st) → mapO f xs st = .ok ((xs.filter t).map g) st
  | [], _ => rfl
  | x :: xs, h => by
    unfold mapO
    rw [bind_ok (h x List.mem_cons_self), bind_ok (mapO_if fun y hy => h y (List.mem_cons_of_mem _ hy))]
    rw [List.filter_cons]
    split <;> rfl
theorem noExc_ok {α : Type} {m : M α} {st st' : St} {a : α} (h : m st = .ok a st') : noExc m st = .ok a st' := by
  unfold noExc
  rw [h]
theorem pure_ok {α : Type} {a : α} {st : St} : M.pure a st = .ok a st := rfl
/-- one call of a def -/
theorem run_1 {p : Prog} {n i : Nat} {F : Fn} {ds : List D} {st st' : St} {o : Out} (hF : p.fns[i]? = some F) (hl : ds.length = F.np) (h : xb ⟨p.run n, fun i => p.glob[i]?, p.turns⟩ F.body (startE F.np F.ns ds) st = .ok o st') {d : D} (ho : finF F.body o = M.pure d := by rfl) : p.run (n + 1) i ds st = .ok d st' := by
  unfold Prog.run
  rw [hF]
  simp only [hl, if_true]
  rw [bind_ok h, ho]
  rfl
/-! ### big steps -/
section
variable {c : Ctx} {ρ ρ' : Env} {st st1 st2 st3 : St} {e a b : IE} {d d1 d2 d3 : D} {ds es ys : List D} {t : Bool}
theorem ev_b1 {op : B1} (h : (md c e).b ρ st = .ok d1 st1) (k : doB1 op d1 = some d) : (md c (.b1 op e)).s ρ st = .ok d st1 := by
  show M.bind ((md c e).b ρ) (fun x => M.of (doB1 op x)) st = _
  rw [bind_ok h, of_some k]
theorem ev_b2 {op : B2} (h : (md c a).s ρ st = .ok d1 st1) (h2 : (md c b).s ρ st1 = .ok d2 st2) (k : doB2 op d1 d2 = some d) : (md c (.b2 op a b)).s ρ st = .ok d st2 := by
  show M.bind ((md c a).s ρ) (fun x => M.bind ((md c b).s ρ) fun y => M.of (doB2 op x y)) st = _
  rw [bind_ok h, bind_ok h2, of_some k]
theorem ev_bin {op : Bin} (h : (md c a).b ρ st = .ok d1 st1) (h2 : (md c b).b ρ st1 = .ok d2 st2) (k : doBin op d1 d2 = some d) : (md c (.bin op a b)).s ρ st = .ok d st2 := by
  show M.bind ((md c a).b ρ) (fun x => M.bind ((md c b).b ρ) fun y => M.of (doBin op x y)) st = _
  rw [bind_ok h, bind_ok h2, of_some k]
theorem ev_cmp {op : Cmp} (h : (md c a).b ρ st = .ok d1 st1) (h2 : (md c b).b ρ st1 = .ok d2 st2) (k : doCmp op d1 d2 = some t) : (md c (.cmp op a b)).s ρ st = .ok (.bl t) st2 := by
  show M.bind ((md c a).b ρ) (fun x => M.bind ((md c b).b ρ) fun y => M.of ((doCmp op x y).map D.bl)) st = _
  rw [bind_ok h, bind_ok h2, of_some (a := D.bl t) (by rw [k]; rfl)]
theorem et_cmp {op : Cmp} (h : (md c a).b ρ st = .ok d1 st1) (h2 : (md c b).b ρ st1 = .ok d2 st2) (k : doCmp op d1 d2 = some t) : (md c (.cmp op a b)).t ρ st = .ok t st2 := by
  show M.bind (M.bind ((md c a).b ρ) (fun x => M.bind ((md c b).b ρ) fun y => M.of ((doCmp op x y).map D.bl))) (fun d => M.of (truth d)) st = _
  rw [bind_ok (show M.bind ((md c a).b ρ) (fun x => M.bind ((md c b).b ρ) fun y => M.of ((doCmp op x y).map D.bl)) st = .ok (.bl t) st2 by rw [bind_ok h, bind_ok h2, of_some (a := D.bl t) (by rw [k]; rfl)])]
  rfl
theorem ev_isi {tu : Bool} {cs : List Cls} (h : (md c e).b ρ st = .ok d1 st1) (k : isAny d1 cs = some t) : (md c (.isi e tu cs)).s ρ st = .ok (.bl t) st1 := by
  show M.bind ((md c e).b ρ) (fun x => M.of ((isAny x cs).map D.bl)) st = _
  rw [bind_ok h, of_some (a := D.bl t) (by rw [k]; rfl)]
theorem et_isi {tu : Bool} {cs : List Cls} (h : (md c e).b ρ st = .ok d1 st1) (k : isAny d1 cs = some t) : (md c (.isi e tu cs)).t ρ st = .ok t st1 := by
  show M.bind (M.bind ((md c e).b ρ) (fun x => M.of ((isAny x cs).map D.bl))) (fun d => M.of (truth d)) st = _
  rw [bind_ok (show M.bind ((md c e).b ρ) (fun x => M.of ((isAny x cs).map D.bl)) st = .ok (.bl t) st1 by rw [bind_ok h, of_some (a := D.bl t) (by rw [k]; rfl)])]
  rfl
theorem ev_ite (h : (md c e).t ρ st = .ok t st1) (k : (if t then (md c a).s ρ else (md c b).s ρ) st1 = .ok d st2) : (md c (.ite e a b)).s ρ st = .ok d st2 := by
  show M.bind ((md c e).t ρ) (fun t => if t then (md c a).s ρ else (md c b).s ρ) st = _
  rw [bind_ok h]
  exact k
theorem ev_not (h : (md c a).b ρ st = .ok d1 st1) (k : truth d1 = some t) : (md c (.not a)).s ρ st = .ok (.bl (!t)) st1 := by
  show M.bind ((md c a).b ρ) (fun x => M.bind (M.of (truth x)) fun t => M.pure (D.bl (!t))) st = _
  rw [bind_ok h, bind_ok (of_some k), pure_ok]
theorem et_not (h : (md c a).t ρ st = .ok t st1) : (md c (.not a)).t ρ st = .ok (!t) st1 := by
  show M.bind ((md c a).t ρ) (fun t => M.pure (!t)) st = _
  rw [bind_ok h, pure_ok]
theorem et_and {t' : Bool} (h : (md c a).t ρ st = .ok t st1) (k : (if t then (md c b).t ρ else M.pure false) st1 = .ok t' st2) : (md c (.and a b)).t ρ st = .ok t' st2 := by
  show M.bind ((md c a).t ρ) (fun t => if t then (md c b).t ρ else M.pure false) st = _
  rw [bind_ok h]
  exact k
theorem et_or {t' : Bool} (h : (md c a).t ρ st = .ok t st1) (k : (if t then M.pure true else (md c b).t ρ) st1 = .ok t' st2) : (md c (.or a b)).t ρ st = .ok t' st2 := by
  show M.bind ((md c a).t ρ) (fun t => if t then M.pure true else (md c b).t ρ) st = _
  rw [bind_ok h]
  exact k
theorem ev_and (h : (md c a).s ρ st = .ok d1 st1) (k : truth d1 = some t) (k2 : (if t then (md c b).s ρ else M.pure d1) st1 = .ok d st2) : (md c (.and a b)).s ρ st = .ok d st2 := by
  show M.bind ((md c a).s ρ) (fun x => M.bind (M.of (truth x)) fun t => if t then (md c b).s ρ else M.pure x) st = _
  rw [bind_ok h, bind_ok (of_some k)]
  exact k2
theorem ev_or (h : (md c a).s ρ st = .ok d1 st1) (k : truth d1 = some t) (k2 : (if t then M.pure d1 else (md c b).s ρ) st1 = .ok d st2) : (md c (.or a b)).s ρ st = .ok d st2 := by
  show M.bind ((md c a).s ρ) (fun x => M.bind (M.of (truth x)) fun t => if t then M.pure x else (md c b).s ρ) st = _
  rw [bind_ok h, bind_ok (of_some k)]
  exact k2
theorem ev_lc {own : List Nat} {tg : Tg} {cond : Option IE} (h : (md c e).i ρ st = .ok ds st1) (k : mapO (lcTurn ρ own tg (lcElt (cnd (mdo c cond)) (md c a).s)) ds st1 = .ok ys st2) (hs : short ys = some ys) : (md c (.lc own a tg e cond)).s ρ st = .ok (.lst ys) st2 := by
  show M.bind ((md c e).i ρ) (fun ds => M.bind (noExc (mapO (lcTurn ρ own tg (lcElt (cnd (mdo c cond)) (md c a).s)) ds)) fun ys => M.of ((short ys).map D.lst)) st = _
  rw [bind_ok h, bind_ok (noExc_ok k), of_some (a := .lst ys) (by rw [hs]; rfl)]
theorem ev_tup {is : List IE} (h : row (mds c is) ρ st = .ok ds st1) (hs : short ds = some ds) : (md c (.tup is)).s ρ st = .ok (.tup ds) st1 := by
  show M.bind (row (mds c is) ρ) (fun ds => M.of ((short ds).map D.tup)) st = _
  rw [bind_ok h, of_some (a := .tup ds) (by rw [hs]; rfl)]
theorem ev_lst {is : List IE} (h : row (mds c is) ρ st = .ok ds st1) (hs : short ds = some ds) : (md c (.lst is)).s ρ st = .ok (.lst ds) st1 := by
  show M.bind (row (mds c is) ρ) (fun ds => M.of ((short ds).map D.lst)) st = _
  rw [bind_ok h, of_some (a := .lst ds) (by rw [hs]; rfl)]
theorem ev_call {f : Nat} {is : List IE} (h : row (mds c is) ρ st = .ok ds st1) (k : c.call f ds st1 = .ok d st2) : (md c (.call f is)).s ρ st = .ok d st2 := by
  show M.bind (row (mds c is) ρ) (fun ds => c.call f ds) st = _
  rw [bind_ok h]
  exact k
theorem ev_idx (h : (md c a).b ρ st = .ok d1 st1) (h2 : (md c b).s ρ st1 = .ok d2 st2) (k : getIx d1 d2 st2 = .ok d st3) : (md c (.idx a b)).s ρ st = .ok d st3 := by
  show M.bind ((md c a).b ρ) (fun x => M.bind ((md c b).s ρ) fun y => getIx x y) st = _
  rw [bind_ok h, bind_ok h2]
  exact k
theorem row_nil' : row [] ρ st = .ok [] st := rfl
theorem row_cons' {is : List IE} {i : IE} {xs : List D} (h : (md c i).m ρ st = .ok xs st1) (k : row (mds c is) ρ st1 = .ok ys st2) : row (mds c (i :: is)) ρ st = .ok (xs ++ ys) st2 := by
  show M.bind ((md c i).m ρ) (fun xs => M.bind (row (mds c is) ρ) fun ys => M.pure (xs ++ ys)) st = _
  rw [bind_ok h, bind_ok k, pure_ok]
theorem em_of {i : IE} (hm : (md c i).m = mOf (md c i).s) (h : (md c i).s ρ st = .ok d st1) : (md c i).m ρ st = .ok [d] st1 := by
  rw [hm]
  show M.bind ((md c i).s ρ) (fun d => M.pure [d]) st = _
  rw [bind_ok h, pure_ok]
theorem et_of {i : IE} (hm : (md c i).t = tOf (md c i).b) (h : (md c i).b ρ st = .ok d st1) (k : truth d = some t) : (md c i).t ρ st = .ok t st1 := by
  rw [hm]
  show M.bind ((md c i).b ρ) (fun d => M.of (truth d)) st = _
  rw [bind_ok h, of_some k]
theorem ei_of {i : IE} (hm : (md c i).i = iOf (md c i).b) (h : (md c i).b ρ st = .ok d st1) (k : itemsOf d = some ds) : (md c i).i ρ st = .ok ds st1 := by
  rw [hm]
  show M.bind ((md c i).b ρ) (fun d => M.of (itemsOf d)) st = _
  rw [bind_ok h, of_some k]
theorem eb_b1 {op : B1} (h : (md c e).b ρ st = .ok d1 st1) (k : doB1 op d1 = some d) : (md c (.b1 op e)).b ρ st = .ok d st1 := ev_b1 h k
theorem eb_bin {op : Bin} (h : (md c a).b ρ st = .ok d1 st1) (h2 : (md c b).b ρ st1 = .ok d2 st2) (k : doBin op d1 d2 = some d) : (md c (.bin op a b)).b ρ st = .ok d st2 := ev_bin h h2 k
theorem eb_call {f : Nat} {is : List IE} (h : row (mds c is) ρ st = .ok ds st1) (k : c.call f ds st1 = .ok d st2) : (md c (.call f is)).b ρ st = .ok d st2 := ev_call h k
theorem eb_idx (h : (md c a).b ρ st = .ok d1 st1) (h2 : (md c b).s ρ st1 = .ok d2 st2) (k : getIx d1 d2 st2 = .ok d st3) : (md c (.idx a b)).b ρ st = .ok d st3 := ev_idx h h2 k
theorem eb_lc {own : List Nat} {tg : Tg} {cond : Option IE} (h : (md c e).i ρ st = .ok ds st1) (k : mapO (lcTurn ρ own tg (lcElt (cnd (mdo c cond)) (md c a).s)) ds st1 = .ok ys st2) (hs : short ys = some ys) : (md c (.lc own a tg e cond)).b ρ st = .ok (.lst ys) st2 := ev_lc h k hs
/-! statements -/
variable {ss : List IS} {o : Out}
theorem xs_of {s : IS} {ρ ρ' : Env} {st st' : St} (h : xb c [s] ρ st = .ok (.nx ρ') st') : xs c s ρ st = .ok (.nx ρ') st' := by
  have h : M.bind (xs c s ρ) (fun o => match o with | .nx ρ' => xb c [] ρ' | .rt d => M.pure (.rt d) | .er ρ' k ys => M.pure (.er ρ' k ys)) st = .ok (.nx ρ') st' := h
  unfold M.bind at h
  cases e : xs c s ρ st with
  | ok o s1 =>
    rw [e] at h
    cases o with
    | nx ρ1 =>
      have h : Res.ok (Out.nx ρ1) s1 = .ok (.nx ρ') st' := h
      cases h
      rfl
    | rt d =>
      have h : Res.ok (Out.rt d) s1 = .ok (.nx ρ') st' := h
      cases h
    | er ρ1 k ys =>
      have h : Res.ok (Out.er ρ1 k ys) s1 = .ok (.nx ρ') st' := h
      cases h
  | exc _ _ _ => rw [e] at h; cases h
  | stuck => rw [e] at h; cases h
theorem xb_step {s : IS} {ss : List IS} {ρ ρ' : Env} {st st' : St} (h : xb c [s] ρ st = .ok (.nx ρ') st') : xb c (s :: ss) ρ st = xb c ss ρ' st' := by
  show M.bind (xs c s ρ) (fun o => match o with | .nx ρ' => xb c ss ρ' | .rt d => M.pure (.rt d) | .er ρ' k ys => M.pure (.er ρ' k ys)) st = _
  rw [bind_ok (xs_of h)]
theorem xb_ret (h : (md c e).s ρ st = .ok d st1) : xb c (.ret e :: ss) ρ st = .ok (.rt d) st1 := by
  show M.bind (M.bind ((md c e).s ρ) fun d => M.pure (Out.rt d)) _ st = _
  rw [bind_ok (show M.bind ((md c e).s ρ) (fun d => M.pure (Out.rt d)) st = .ok (.rt d) st1 by rw [bind_ok h, pure_ok])]
  rfl
theorem xb_retCell {is : List IE} (h : row (mds c is) ρ st = .ok ds st1) (k : newCell ds st1 = .ok d st2) : xb c (.retCell is :: ss) ρ st = .ok (.rt d) st2 := by
  show M.bind (M.bind (row (mds c is) ρ) fun ds => M.bind (newCell ds) fun d => M.pure (Out.rt d)) _ st = _
  rw [bind_ok (show M.bind (row (mds c is) ρ) (fun ds => M.bind (newCell ds) fun d => M.pure (Out.rt d)) st = .ok (.rt d) st2 by rw [bind_ok h, bind_ok k, pure_ok])]
  rfl
theorem xb_set {tg : Tg} (h : (md c e).s ρ st = .ok d st1) (k : setTg ρ tg d = some ρ') : xb c (.set tg e :: ss) ρ st = xb c ss ρ' st1 := by
  show M.bind (M.bind ((md c e).s ρ) fun d => nxt (M.of (setTg ρ tg d))) _ st = _
  rw [bind_ok (show M.bind ((md c e).s ρ) (fun d => nxt (M.of (setTg ρ tg d))) st = .ok (.nx ρ') st1 by rw [bind_ok h]; unfold nxt; rw [bind_ok (of_some k), pure_ok])]
theorem xb_own {i : Nat} (h : (md c e).s ρ st = .ok d st1) (k : mutD d = true) : xb c (.own i e :: ss) ρ st = xb c ss (setS ρ i d true) st1 := by
  show M.bind (M.bind ((md c e).s ρ) fun d => if mutD d then M.pure (Out.nx (setS ρ i d true)) else M.stuck) _ st = _
  rw [bind_ok (show M.bind ((md c e).s ρ) (fun d => if mutD d then M.pure (Out.nx (setS ρ i d true)) else M.stuck) st = .ok (.nx (setS ρ i d true)) st1 by rw [bind_ok h, if_pos k, pure_ok])]
theorem xb_frz {i : Nat} (k : frzS ρ i = some ρ') : xb c (.frz i :: ss) ρ st = xb c ss ρ' st := by
  show M.bind (nxt (M.of (frzS ρ i))) _ st = _
  rw [bind_ok (show nxt (M.of (frzS ρ i)) st = .ok (.nx ρ') st by unfold nxt; rw [bind_ok (of_some k), pure_ok])]
/-- an if that returns, or goes on -/
theorem xb_ife {xs ys : List IS} (h : (md c e).t ρ st = .ok t st1) (k : (if t then xb c xs ρ else xb c ys ρ) st1 = .ok o st2) : xb c (.ife e xs ys :: ss) ρ st = (match o with | .nx ρ' => xb c ss ρ' st2 | .rt d => .ok (.rt d) st2 | .er ρ' k ys => .ok (.er ρ' k ys) st2) := by
  show M.bind (M.bind ((md c e).t ρ) fun t => if t then xb c xs ρ else xb c ys ρ) _ st = _
  rw [bind_ok (show M.bind ((md c e).t ρ) (fun t => if t then xb c xs ρ else xb c ys ρ) st = .ok o st2 by rw [bind_ok h]; exact k)]
  cases o <;> rfl
theorem xb_for {tg : Tg} {body : List IS} (h : itS c e ρ st = .ok ds st1) (k : forLoop tg (xb c body) ds ρ st1 = .ok o st2) : xb c (.for_ tg e body :: ss) ρ st = (match o with | .nx ρ' => xb c ss ρ' st2 | .rt d => .ok (.rt d) st2 | .er ρ' k ys => .ok (.er ρ' k ys) st2) := by
  show M.bind (M.bind (itS c e ρ) fun ds => forLoop tg (xb c body) ds ρ) _ st = _
  rw [bind_ok (show M.bind (itS c e ρ) (fun ds => forLoop tg (xb c body) ds ρ) st = .ok o st2 by rw [bind_ok h]; exact k)]
  cases o <;> rfl
theorem xb_seti {i : Nat} (hb : (md c b).s ρ st = .ok d1 st1) (ha : (md c a).s ρ st1 = .ok d2 st2) (k : putIx ρ i d2 d1 st2 = .ok ρ' st3) : xb c (.seti i a b :: ss) ρ st = xb c ss ρ' st3 := by
  show M.bind (M.bind ((md c b).s ρ) fun y => M.bind ((md c a).s ρ) fun x => nxt (putIx ρ i x y)) _ st = _
  rw [bind_ok (show M.bind ((md c b).s ρ) (fun y => M.bind ((md c a).s ρ) fun x => nxt (putIx ρ i x y)) st = .ok (.nx ρ') st3 by rw [bind_ok hb, bind_ok ha]; unfold nxt; rw [bind_ok k, pure_ok])]
theorem for_cons {tg : Tg} {f : Env → M Out} {ρ1 ρ2 : Env} (h : setTg ρ tg d = some ρ1) (k : f ρ1 st = .ok (.nx ρ2) st1) : forLoop tg f (d :: ds) ρ st = forLoop tg f ds ρ2 st1 := by
  show M.bind (M.of (setTg ρ tg d)) (fun ρ1 => M.bind (f ρ1) fun o => match o with | .nx ρ2 => forLoop tg f ds ρ2 | .rt v => M.pure (Out.rt v) | .er ρ2 k ys => M.pure (Out.er ρ2 k ys)) st = _
  rw [bind_ok (of_some h), bind_ok k]
end
/-! ### tupled -/
mutual
def tupD : D → D
  | .tup xs => .tup (tupDs xs)
  | .lst xs => .tup (tupDs xs)
  | d => d
def tupDs : List D → List D
  | [] => []
  | x :: xs => tupD x :: tupDs xs
end
theorem tupDs_map : ∀ xs : List D, tupDs xs = xs.map tupD
  | [] => rfl
  | x :: xs => by rw [tupDs, tupDs_map xs]; rfl
mutual
/-- rows of things, texts, numbers; no row is longer than 1000 -/
def szOk : D → Bool
  | .tup xs => Nat.ble xs.length 1000 && szOks xs
  | .lst xs => Nat.ble xs.length 1000 && szOks xs
  | .str _ | .int _ | .bl _ | .non => true
  | _ => false
def szOks : List D → Bool
  | [] => true
  | x :: xs => szOk x && szOks xs
end
theorem szOks_1 : ∀ {xs : List D}, szOks xs = true → ∀ x ∈ xs, szOk x = true
  | y :: xs, h, x, hx => by
    unfold szOks at h
    rw [Bool.and_eq_true] at h
    rcases List.mem_cons.mp hx with z | z
    · rw [z]; exact h.1
    · exact szOks_1 h.2 x z
theorem dep_1 {xs : List D} {x : D} (h : x ∈ xs) : dep x ≤ deps xs := by
  induction xs with
  | nil => cases h
  | cons y xs ih =>
    unfold deps
    rcases List.mem_cons.mp h with z | z
    · rw [z]
      exact Nat.le_max_left _ _
    · exact Nat.le_trans (ih z) (Nat.le_max_right _ _)
theorem short_1 {xs : List D} (h : xs.length ≤ 1000) : short xs = some xs := by
  unfold short
  rw [if_pos]
  exact Nat.ble_eq_true_of_le (by unfold sizeMax; omega)
def tupledF (i : Nat) : Fn := ⟨1, 2, [
  .ret (.ite (.isi (.v 0) true [.list, .tuple]) (.b1 .tuple (.lc [1] (.call i [(.v 1)]) (.n 1) (.v 0) none)) (.v 0))]⟩
theorem tupled_run {p : Prog} {i : Nat} (hF : p.fns[i]? = some (tupledF i)) : ∀ (n : Nat) (d : D) (st : St), szOk d = true → dep d < n → p.run n i [d] st = .ok (tupD d) st := by
  intro n
  induction n with
  | zero =>
    intro d st _ h
    omega
  | succ n ih =>
    intro d st hz hd
    have seq : ∀ xs : List D, (isAny d [.list, .tuple] = some true) → itemsOf d = some xs → xs.length ≤ 1000 → szOks xs = true → deps xs < n → p.run (n + 1) i [d] st = .ok (.tup (tupDs xs)) st := by
      intro xs ht hi h1 h2 h3
      refine run_1 (o := .rt (.tup (tupDs xs))) hF rfl (xb_ret (ev_ite (et_isi (d1 := d) rfl ht) ?_))
      rw [if_pos rfl]
      refine ev_b1 (d1 := .lst (tupDs xs)) (ev_lc (ds := xs) (ei_of (d := d) rfl rfl hi) ?_ (short_1 (by rw [tupDs_map, List.length_map]; exact h1))) rfl
      rw [tupDs_map]
      refine mapO_ok fun x hx => ?_
      have hr := ih x st (szOks_1 h2 x hx) (Nat.lt_of_le_of_lt (dep_1 hx) h3)
      show M.bind (p.run n i [x]) (fun y => M.pure [y]) st = _
      rw [bind_ok hr, pure_ok]
    have leaf : isAny d [.list, .tuple] = some false → tupD d = d → p.run (n + 1) i [d] st = .ok (tupD d) st := fun ht he => by
      rw [he]
      refine run_1 (o := .rt d) hF rfl (xb_ret (ev_ite (et_isi (d1 := d) rfl ht) ?_))
      rfl
    cases d <;> first | exact absurd hz Bool.false_ne_true | skip
    · exact leaf rfl rfl
    · exact leaf rfl rfl
    · exact leaf rfl rfl
    · exact leaf rfl rfl
    · rename_i xs
      unfold szOk at hz
      rw [Bool.and_eq_true] at hz
      exact seq xs rfl rfl (Nat.le_of_ble_eq_true hz.1) hz.2 (by unfold dep at hd; omega)
    · rename_i xs
      unfold szOk at hz
      rw [Bool.and_eq_true] at hz
      exact seq xs rfl rfl (Nat.le_of_ble_eq_true hz.1) hz.2 (by unfold dep at hd; omega)
end Wy

set_option Elab.async false
set_option linter.all false
set_option maxRecDepth 100000
set_option autoImplicit false
/-! WyN: the laws' helpers: lists, same, take, box, cells. Plain Lean. -/
namespace Wy
theorem xb_skip {c : Ctx} {ρ : Env} {st st1 : St} {e : IE} {xs : List IS} {ss : List IS} (h : (md c e).t ρ st = .ok false st1) : xb c (.ife e xs [] :: ss) ρ st = xb c ss ρ st1 :=
  xb_ife (t := false) (o := .nx ρ) h rfl
theorem xb_then {c : Ctx} {ρ : Env} {st st1 st2 : St} {e : IE} {xs ys : List IS} {ss : List IS} {d : D} (h : (md c e).t ρ st = .ok true st1) (k : xb c xs ρ st1 = .ok (.rt d) st2) : xb c (.ife e xs ys :: ss) ρ st = .ok (.rt d) st2 :=
  xb_ife (t := true) (o := .rt d) h k
mutual
def lstD : D → D
  | .tup xs => .lst (lstDs xs)
  | .lst xs => .lst (lstDs xs)
  | d => d
def lstDs : List D → List D
  | [] => []
  | x :: xs => lstD x :: lstDs xs
end
theorem lstDs_map : ∀ xs : List D, lstDs xs = xs.map lstD
  | [] => rfl
  | x :: xs => by rw [lstDs, lstDs_map xs]; rfl
def listsF (i : Nat) : Fn := ⟨1, 2, [
  .ret (.ite (.isi (.v 0) true [.list, .tuple]) (.lc [1] (.call i [(.v 1)]) (.n 1) (.v 0) none) (.v 0))]⟩
theorem lists_run {p : Prog} {i : Nat} (hF : p.fns[i]? = some (listsF i)) : ∀ (n : Nat) (d : D) (st : St), szOk d = true → dep d < n → p.run n i [d] st = .ok (lstD d) st := by
  intro n
  induction n with
  | zero =>
    intro d st _ h
    omega
  | succ n ih =>
    intro d st hz hd
    have seq : ∀ xs : List D, (isAny d [.list, .tuple] = some true) → itemsOf d = some xs → xs.length ≤ 1000 → szOks xs = true → deps xs < n → p.run (n + 1) i [d] st = .ok (.lst (lstDs xs)) st := by
      intro xs ht hi h1 h2 h3
      refine run_1 (o := .rt (.lst (lstDs xs))) hF rfl (xb_ret (ev_ite (et_isi (d1 := d) rfl ht) ?_))
      rw [if_pos rfl]
      refine ev_lc (ds := xs) (ei_of (d := d) rfl rfl hi) ?_ (short_1 (by rw [lstDs_map, List.length_map]; exact h1))
      rw [lstDs_map]
      refine mapO_ok fun x hx => ?_
      have hr := ih x st (szOks_1 h2 x hx) (Nat.lt_of_le_of_lt (dep_1 hx) h3)
      show M.bind (p.run n i [x]) (fun y => M.pure [y]) st = _
      rw [bind_ok hr, pure_ok]
    have leaf : isAny d [.list, .tuple] = some false → lstD d = d → p.run (n + 1) i [d] st = .ok (lstD d) st := fun ht he => by
      rw [he]
      refine run_1 (o := .rt d) hF rfl (xb_ret (ev_ite (et_isi (d1 := d) rfl ht) ?_))
      rfl
    cases d <;> first | exact absurd hz Bool.false_ne_true | skip
    · exact leaf rfl rfl
    · exact leaf rfl rfl
    · exact leaf rfl rfl
    · exact leaf rfl rfl
    · rename_i xs
      unfold szOk at hz
      rw [Bool.and_eq_true] at hz
      exact seq xs rfl rfl (Nat.le_of_ble_eq_true hz.1) hz.2 (by unfold dep at hd; omega)
    · rename_i xs
      unfold szOk at hz
      rw [Bool.and_eq_true] at hz
      exact seq xs rfl rfl (Nat.le_of_ble_eq_true hz.1) hz.2 (by unfold dep at hd; omega)
mutual
theorem tup_lst : ∀ d : D, tupD (lstD d) = tupD d
  | .tup xs => by
    unfold lstD tupD
    rw [tups_lsts xs]
  | .lst xs => by
    unfold lstD tupD
    rw [tups_lsts xs]
  | .non => rfl
  | .bl _ => rfl
  | .int _ => rfl
  | .str _ => rfl
  | .dic _ _ => rfl
  | .cell _ => rfl
  | .err _ _ => rfl
  | .exc _ _ => rfl
  | .scr _ => rfl
theorem tups_lsts : ∀ xs : List D, tupDs (lstDs xs) = tupDs xs
  | [] => rfl
  | x :: xs => by
    unfold lstDs tupDs
    rw [tup_lst x, tups_lsts xs]
end
mutual
theorem lst_sz : ∀ d : D, szOk d = true → szOk (lstD d) = true
  | .tup xs, h => by
    unfold szOk at h
    rw [Bool.and_eq_true] at h
    unfold lstD szOk
    rw [Bool.and_eq_true]
    exact ⟨by rw [lstDs_map, List.length_map]; exact h.1, lsts_sz xs h.2⟩
  | .lst xs, h => by
    unfold szOk at h
    rw [Bool.and_eq_true] at h
    unfold lstD szOk
    rw [Bool.and_eq_true]
    exact ⟨by rw [lstDs_map, List.length_map]; exact h.1, lsts_sz xs h.2⟩
  | .non, h => h
  | .bl _, h => h
  | .int _, h => h
  | .str _, h => h
  | .dic _ _, h => h
  | .cell _, h => h
  | .exc _ _, h => h
  | .scr _, h => h
theorem lsts_sz : ∀ xs : List D, szOks xs = true → szOks (lstDs xs) = true
  | [], _ => rfl
  | x :: xs, h => by
    unfold szOks at h
    rw [Bool.and_eq_true] at h
    unfold lstDs szOks
    rw [Bool.and_eq_true]
    exact ⟨lst_sz x h.1, lsts_sz xs h.2⟩
end
mutual
theorem lst_dep : ∀ d : D, dep (lstD d) = dep d
  | .tup xs => by
    unfold lstD dep
    rw [lsts_dep xs]
  | .lst xs => by
    unfold lstD dep
    rw [lsts_dep xs]
  | .non => rfl
  | .bl _ => rfl
  | .int _ => rfl
  | .str _ => rfl
  | .dic _ _ => rfl
  | .cell _ => rfl
  | .err _ _ => rfl
  | .exc _ _ => rfl
  | .scr _ => rfl
theorem lsts_dep : ∀ xs : List D, deps (lstDs xs) = deps xs
  | [] => rfl
  | x :: xs => by
    unfold lstDs deps
    rw [lst_dep x, lsts_dep xs]
end
/-! ### the same -/
def sameF (i : Nat) : Fn := ⟨2, 5, [
  .ife (.isi (.v 1) true [.list, .tuple]) [.ife (.or (.cmp .ne (.isi (.v 0) false [.list]) (.isi (.v 1) false [.list])) (.cmp .ne (.isi (.v 0) false [.tuple]) (.isi (.v 1) false [.tuple]))) [.ret (.k (.bl false))] [], .ret (.and (.cmp .eq (.b1 .len (.v 0)) (.b1 .len (.v 1))) (.b1 .all (.lc [3, 4] (.call i [(.v 3), (.v 4)]) (.t [3, 4]) (.zip (.v 0) (.v 1)) none)))] [],
  .ife (.isi (.v 1) false [.dict]) [.ife (.or (.not (.isi (.v 0) false [.dict])) (.cmp .ne (.b1 .sorted (.v 0)) (.b1 .sorted (.v 1)))) [.ret (.k (.bl false))] [], .ret (.b1 .all (.lc [2] (.call i [(.idx (.v 0) (.v 2)), (.idx (.v 1) (.v 2))]) (.n 2) (.v 1) none))] [],
  .ife (.or (.cmp .is_ (.v 1) (.k .non)) (.isi (.v 1) true [.bool, .str])) [.ret (.and (.cmp .eq (.v 0) (.v 1)) (.and (.cmp .eq (.isi (.v 0) false [.bool]) (.isi (.v 1) false [.bool])) (.cmp .eq (.cmp .is_ (.v 0) (.k .non)) (.cmp .is_ (.v 1) (.k .non)))))] [],
  .ret (.and (.isi (.v 0) false [.int]) (.and (.not (.isi (.v 0) false [.bool])) (.cmp .eq (.v 0) (.v 1))))]⟩
theorem bools_true : ∀ n : Nat, dBools (List.replicate n (.bl true)) = some (List.replicate n true)
  | 0 => rfl
  | n + 1 => by
    rw [List.replicate_succ, List.replicate_succ]
    show (dBools (List.replicate n (.bl true))).map (true :: ·) = _
    rw [bools_true n]
    rfl
theorem all_true (n : Nat) : (List.replicate n true).all id = true := by
  induction n with
  | zero => rfl
  | succ n ih => rw [List.replicate_succ, List.all_cons, ih]; rfl
theorem pairUp_len_ : ∀ xs : List D, (pairUp xs xs).length = xs.length
  | [] => rfl
  | x :: xs => by
    show (pairUp xs xs).length + 1 = xs.length + 1
    rw [pairUp_len_ xs]
theorem pairUp_self : ∀ {xs : List D} {q : D}, q ∈ pairUp xs xs → ∃ x ∈ xs, q = .exc 0 [x, x]
  | [], q, h => by cases h
  | x :: xs, q, h => by
    rcases List.mem_cons.mp (show q ∈ D.exc 0 [x, x] :: pairUp xs xs from h) with z | z
    · exact ⟨x, List.mem_cons_self, z⟩
    · obtain ⟨y, h1, h2⟩ := pairUp_self z
      exact ⟨y, List.mem_cons_of_mem _ h1, h2⟩
theorem same_run {p : Prog} {i : Nat} (hF : p.fns[i]? = some (sameF i)) : ∀ (n : Nat) (d : D) (st : St), szOk d = true → dep d < n → p.run n i [d, d] st = .ok (.bl true) st := by
  intro n
  induction n with
  | zero =>
    intro d st _ h
    omega
  | succ n ih =>
    intro d st hz hd
    have zip : ∀ xs : List D, zipOf d d = some (pairUp xs xs) → xs.length ≤ 1000 → szOks xs = true → deps xs < n → (md ⟨p.run n, fun i => p.glob[i]?, p.turns⟩ (.b1 .all (.lc [3, 4] (.call i [(.v 3), (.v 4)]) (.t [3, 4]) (.zip (.v 0) (.v 1)) none))).s [some (d, false), some (d, false), none, none, none] st = .ok (.bl true) st := by
      intro xs hzip h1 h2 h3
      have hm : mapO (lcTurn [some (d, false), some (d, false), none, none, none] [3, 4] (.t [3, 4]) (lcElt (cnd (mdo ⟨p.run n, fun i => p.glob[i]?, p.turns⟩ none)) (md ⟨p.run n, fun i => p.glob[i]?, p.turns⟩ (.call i [(.v 3), (.v 4)])).s)) (pairUp xs xs) st = .ok ((pairUp xs xs).map fun _ => .bl true) st := by
        refine mapO_ok fun q hq => ?_
        obtain ⟨x, hx, rfl⟩ := pairUp_self hq
        have hr := ih x st (szOks_1 h2 x hx) (Nat.lt_of_le_of_lt (dep_1 hx) h3)
        show M.bind (p.run n i [x, x]) (fun y => M.pure [y]) st = _
        rw [bind_ok hr, pure_ok]
      refine ev_b1 (d1 := .lst ((pairUp xs xs).map fun _ => .bl true)) (ev_lc (ds := pairUp xs xs) ?_ hm (short_1 (by rw [List.length_map, pairUp_len_]; exact h1))) ?_
      · show M.bind (M.of (some d)) (fun x => M.bind (M.of (some d)) fun y => M.of (zipOf x y)) st = _
        rw [bind_ok (of_some rfl), bind_ok (of_some rfl), of_some hzip]
      · rw [List.map_const']
        show (dBools _).map _ = _
        rw [bools_true]
        show some (D.bl ((List.replicate _ true).all id)) = _
        rw [all_true]
    have eqD : ∀ x : D, okD x = true → plain x = true → deq x x = true → doCmp .eq x x = some true := fun x h1 h2 h3 => by
      show (if okD x && plain x then some (deq x x) else none) = _
      rw [h1, h2, h3]
      rfl
    have many : ∀ xs : List D, (p.glob = p.glob) → (∀ c : Ctx, (md c (.isi (.v 1) true [.list, .tuple])).t [some (d, false), some (d, false), none, none, none] st = .ok true st) →
        (∀ c : Ctx, (md c (.or (.cmp .ne (.isi (.v 0) false [.list]) (.isi (.v 1) false [.list])) (.cmp .ne (.isi (.v 0) false [.tuple]) (.isi (.v 1) false [.tuple])))).t [some (d, false), some (d, false), none, none, none] st = .ok false st) →
        (∀ c : Ctx, (md c (.b1 .len (.v 0))).s [some (d, false), some (d, false), none, none, none] st = .ok (.int xs.length) st) → (∀ c : Ctx, (md c (.b1 .len (.v 1))).s [some (d, false), some (d, false), none, none, none] st = .ok (.int xs.length) st) → zipOf d d = some (pairUp xs xs) → xs.length ≤ 1000 → szOks xs = true → deps xs < n → p.run (n + 1) i [d, d] st = .ok (.bl true) st := by
      intro xs _ a1 a2 a3 a4 hz1 h1 h2 h3
      refine run_1 (o := .rt (.bl true)) hF rfl ?_
      refine xb_then (a1 _) ((xb_skip (a2 _)).trans (xb_ret ?_))
      refine ev_and (d1 := .bl true) (t := true) (ev_cmp (t := true) (a3 _) (a4 _) (eqD _ rfl rfl (by simp [deq]))) rfl ?_
      rw [if_pos rfl]
      exact zip xs hz1 h1 h2 h3
    cases d <;> first | exact absurd hz Bool.false_ne_true | skip
    · refine run_1 (o := .rt (.bl true)) hF rfl ?_
      refine (xb_skip (st1 := st) rfl).trans ((xb_skip (st1 := st) rfl).trans (xb_then (st1 := st) rfl (xb_ret ?_)))
      rfl
    · rename_i b
      refine run_1 (o := .rt (.bl true)) hF rfl ?_
      refine (xb_skip (st1 := st) rfl).trans ((xb_skip (st1 := st) rfl).trans (xb_then (st1 := st) rfl (xb_ret ?_)))
      refine ev_and (d1 := .bl true) (t := true) (ev_cmp (d1 := .bl b) (d2 := .bl b) (st1 := st) rfl rfl (eqD _ rfl rfl (by simp [deq]))) rfl ?_
      rfl
    · rename_i k
      refine run_1 (o := .rt (.bl true)) hF rfl ?_
      refine (xb_skip (st1 := st) rfl).trans ((xb_skip (st1 := st) rfl).trans ((xb_skip (st1 := st) rfl).trans (xb_ret ?_)))
      refine ev_and (d1 := .bl true) (t := true) (st1 := st) rfl rfl ?_
      rw [if_pos rfl]
      refine ev_and (d1 := .bl true) (t := true) (st1 := st) rfl rfl ?_
      rw [if_pos rfl]
      exact ev_cmp (d1 := .int k) (d2 := .int k) (st1 := st) rfl rfl (eqD _ rfl rfl (by simp [deq]))
    · rename_i s
      refine run_1 (o := .rt (.bl true)) hF rfl ?_
      refine (xb_skip (st1 := st) rfl).trans ((xb_skip (st1 := st) rfl).trans (xb_then (st1 := st) rfl (xb_ret ?_)))
      refine ev_and (d1 := .bl true) (t := true) (st1 := st) (ev_cmp (d1 := .str s) (d2 := .str s) (st1 := st) rfl rfl (eqD _ rfl rfl (by simp [deq]))) rfl ?_
      rfl
    · rename_i xs
      unfold szOk at hz
      rw [Bool.and_eq_true] at hz
      exact many xs rfl (fun _ => rfl) (fun _ => rfl) (fun _ => rfl) (fun _ => rfl) rfl (Nat.le_of_ble_eq_true hz.1) hz.2 (by unfold dep at hd; omega)
    · rename_i xs
      unfold szOk at hz
      rw [Bool.and_eq_true] at hz
      exact many xs rfl (fun _ => rfl) (fun _ => rfl) (fun _ => rfl) (fun _ => rfl) rfl (Nat.le_of_ble_eq_true hz.1) hz.2 (by unfold dep at hd; omega)
end Wy

set_option Elab.async false
set_option linter.all false
set_option maxRecDepth 100000
set_option autoImplicit false
/-! WyK: the laws' draws. Plain Lean. -/
namespace Wy
/-- the box of draws at g; B bounds how many were drawn -/
def Tin (st : St) (g : Nat) (B : Int) : Prop := ∃ a b c : Int, st[g]? = some [.int a, .int b, .int c] ∧ 0 ≤ c ∧ c ≤ B
theorem Tin.more {st : St} {g : Nat} {B B' : Int} (t : Tin st g B) (h : B ≤ B') : Tin st g B' := by
  obtain ⟨a, b, c, h1, h2, h3⟩ := t
  exact ⟨a, b, c, h1, h2, by omega⟩
def takeF : Fn := ⟨2, 6, [
  .ife (.cmp .gt (.idx (.v 0) (.k (.int (0)))) (.k (.int (0)))) [.set (.n 5) (.bin .mod (.b1 .int (.idx (.v 0) (.k (.int (0))))) (.v 1)), .seti 0 (.k (.int (0))) (.bin .fdiv (.idx (.v 0) (.k (.int (0)))) (.v 1)), .ret (.v 5)] [],
  .seti 0 (.k (.int (2))) (.bin .add (.idx (.v 0) (.k (.int (2)))) (.k (.int (1)))),
  .set (.n 2) (.bin .mod (.b1 .int (.bin .mul (.bin .add (.idx (.v 0) (.k (.int (1)))) (.bin .mul (.k (.int (48271))) (.idx (.v 0) (.k (.int (2)))))) (.bin .add (.k (.int (39373))) (.idx (.v 0) (.k (.int (2))))))) (.k (.int (2147483647)))),
  .set (.n 3) (.bin .add (.bin .mod (.b1 .int (.v 2)) (.k (.int (40009)))) (.k (.int (7)))),
  .set (.n 4) (.bin .mod (.b1 .int (.bin .mul (.bin .add (.bin .add (.v 2) (.idx (.v 0) (.k (.int (2))))) (.bin .fdiv (.idx (.v 0) (.k (.int (1)))) (.k (.int (1000003))))) (.v 3))) (.k (.int (2147483629)))),
  .ret (.bin .mod (.b1 .int (.bin .fdiv (.bin .mod (.b1 .int (.bin .add (.bin .mul (.v 4) (.k (.int (48271)))) (.v 2))) (.k (.int (2147483587)))) (.k (.int (64))))) (.v 1))]⟩
theorem bin_mod {i j : Int} (h : 0 < j) : doBin .mod (.int i) (.int j) = some (.int (i % j)) := by
  show (if 0 < j then some (D.int (i % j)) else none) = _
  rw [if_pos h]
theorem bin_fdiv {i j : Int} (h : 0 < j) (h2 : j < 1073741824) : doBin .fdiv (.int i) (.int j) = some (.int (i / j)) := by
  show (if 0 < j ∧ j < 1073741824 then some (D.int (i / j)) else none) = _
  rw [if_pos ⟨h, h2⟩]
theorem bin_mul {i j : Int} (h : (big64 i || big64 j) = true) : doBin .mul (.int i) (.int j) = some (.int (i * j)) := by
  show (if (big64 i || big64 j) = true then some (D.int (i * j)) else none) = _
  rw [if_pos h]
theorem big_of {i : Int} (h : -18446744073709551616 < i) (h2 : i < 18446744073709551616) : big64 i = true := by
  unfold big64
  rw [Bool.and_eq_true, decide_eq_true_eq, decide_eq_true_eq]
  exact ⟨h, h2⟩
theorem cmp_gt {i j : Int} : doCmp .gt (.int i) (.int j) = some (decide (j < i)) := rfl
theorem get_cell {st : St} {g : Nat} {xs : List D} {y d : D} (h : st[g]? = some xs) (k : doIdx (.lst xs) y = some d) : getIx (.cell g) y st = .ok d st := by
  show M.bind (cellGet g) (fun xs => M.of (doIdx (.lst xs) y)) st = _
  rw [bind_ok (show cellGet g st = .ok xs st by unfold cellGet; rw [h]), of_some k]
theorem ev_cell {c : Ctx} {ρ : Env} {st : St} {g : Nat} {xs : List D} {k : Int} {d : D} (hρ : getB ρ 0 = some (.cell g)) (h : st[g]? = some xs) (e : doIdx (.lst xs) (.int k) = some d) : (md c (.idx (.v 0) (.k (.int k)))).s ρ st = .ok d st :=
  ev_idx (d1 := .cell g) (d2 := .int k) (of_some hρ) rfl (get_cell h e)
theorem eb_cell {c : Ctx} {ρ : Env} {st : St} {g : Nat} {xs : List D} {k : Int} {d : D} (hρ : getB ρ 0 = some (.cell g)) (h : st[g]? = some xs) (e : doIdx (.lst xs) (.int k) = some d) : (md c (.idx (.v 0) (.k (.int k)))).b ρ st = .ok d st := ev_cell hρ h e
theorem put_cell {ρ : Env} {st : St} {g : Nat} {xs : List D} {n m : Int} {k : Nat} {o : Bool} (hρ : ρ[0]?.join = some (.cell g, o)) (h : st[g]? = some xs) (e : ixNat xs.length n = some k) : putIx ρ 0 (.int n) (.int m) st = .ok ρ (st.set g (xs.set k (.int m))) := by
  unfold putIx
  rw [hρ]
  simp only [h, e]
theorem set_self {st : St} {g : Nat} {xs ys : List D} (h : st[g]? = some xs) : (st.set g ys)[g]? = some ys := List.getElem?_set_self (List.getElem?_eq_some_iff.mp h).1
theorem take_run {p : Prog} {i : Nat} (hF : p.fns[i]? = some takeF) {n g : Nat} {B top : Int} {st : St} (ht : Tin st g B) (hB : B ≤ 1000000) (h0 : 0 < top) (h1 : top < 1073741824) :
    ∃ d st', p.run (n + 1) i [.cell g, .int top] st = .ok (.int d) st' ∧ 0 ≤ d ∧ d < top ∧ Tin st' g (B + 1) ∧ st'.length = st.length := by
  obtain ⟨a, b, c, hs, hc0, hcB⟩ := ht
  by_cases ha : 0 < a
  · refine ⟨a % top, st.set g [.int (a / top), .int b, .int c], ?_, Int.emod_nonneg _ (by omega), Int.emod_lt_of_pos _ h0, ⟨a / top, b, c, set_self hs, hc0, by omega⟩, by simp⟩
    refine run_1 (o := .rt (.int (a % top))) hF rfl (xb_then (et_cmp (eb_cell rfl hs rfl) rfl (by rw [cmp_gt, decide_eq_true ha])) ?_)
    refine (xb_set (ev_bin (eb_b1 (eb_cell rfl hs rfl) rfl) rfl (bin_mod h0)) rfl).trans ?_
    refine (xb_seti (ev_bin (eb_cell rfl hs rfl) rfl (bin_fdiv h0 h1)) rfl (put_cell (o := false) rfl hs rfl)).trans (xb_ret ?_)
    rfl
  · have hs2 : (st.set g [.int a, .int b, .int (c + 1)])[g]? = some [.int a, .int b, .int (c + 1)] := set_self hs
    generalize hst : st.set g [.int a, .int b, .int (c + 1)] = st2 at hs2
    have once0 : ∃ x : Int, x = ((b + 48271 * (c + 1)) * (39373 + (c + 1))) % 2147483647 := ⟨_, rfl⟩
    obtain ⟨once, honce⟩ := once0
    have hfar : 0 ≤ once % 40009 + 7 ∧ once % 40009 + 7 < 50000 := by
      have := Int.emod_nonneg once (show (40009 : Int) ≠ 0 by decide)
      have := Int.emod_lt_of_pos once (show (0 : Int) < 40009 by decide)
      omega
    refine ⟨((((((once + (c + 1)) + b / 1000003) * (once % 40009 + 7)) % 2147483629 * 48271 + once) % 2147483587) / 64) % top, st2, ?_, Int.emod_nonneg _ (by omega), Int.emod_lt_of_pos _ h0, ⟨a, b, c + 1, hs2, by omega, by omega⟩, by rw [← hst]; simp⟩
    refine run_1 (o := .rt (.int _)) hF rfl ?_
    refine (xb_skip (et_cmp (eb_cell rfl hs rfl) rfl (by rw [cmp_gt, decide_eq_false ha]))).trans ?_
    refine (xb_seti (ev_bin (eb_cell rfl hs rfl) rfl rfl) rfl (put_cell (o := false) rfl hs rfl)).trans ?_
    rw [show st.set g ([D.int a, D.int b, D.int c].set (Int.toNat 2) (D.int (c + 1))) = st2 from hst]
    refine (xb_set (d := .int once) (ev_bin (eb_b1 (eb_bin (eb_bin (eb_cell rfl hs2 rfl) (eb_bin (d1 := .int 48271) rfl (eb_cell rfl hs2 rfl) (bin_mul (by rw [big_of (i := 48271) (by decide) (by decide)]; rfl))) rfl) (eb_bin (d1 := .int 39373) rfl (eb_cell rfl hs2 rfl) rfl) (bin_mul (by rw [big_of (i := 39373 + (c + 1)) (by omega) (by omega)]; simp))) rfl) rfl (by rw [bin_mod (by decide), honce])) rfl).trans ?_
    refine (xb_set (d := .int (once % 40009 + 7)) (ev_bin (eb_bin (eb_b1 (d1 := .int once) rfl rfl) rfl (bin_mod (by decide))) rfl rfl) rfl).trans ?_
    refine (xb_set (d := .int (((once + (c + 1)) + b / 1000003) * (once % 40009 + 7) % 2147483629)) (ev_bin (eb_b1 (eb_bin (eb_bin (eb_bin (d1 := .int once) rfl (eb_cell rfl hs2 rfl) rfl) (eb_bin (eb_cell rfl hs2 rfl) rfl (bin_fdiv (by decide) (by decide))) rfl) rfl (bin_mul (j := once % 40009 + 7) (by rw [big_of (i := once % 40009 + 7) (by omega) (by omega)]; simp))) rfl) rfl (bin_mod (by decide))) rfl).trans ?_
    generalize (((once + (c + 1)) + b / 1000003) * (once % 40009 + 7) % 2147483629) = tw
    exact xb_ret (ev_bin (eb_b1 (eb_bin (eb_bin (eb_b1 (eb_bin (eb_bin (d1 := .int tw) (d2 := .int 48271) rfl rfl (bin_mul (by rw [big_of (i := 48271) (by decide) (by decide)]; simp))) (d2 := .int once) rfl rfl) rfl) rfl (bin_mod (by decide))) rfl (bin_fdiv (by decide) (by decide))) rfl) rfl (bin_mod h0))
end Wy

set_option Elab.async false
set_option linter.all false
set_option maxRecDepth 100000
set_option autoImplicit false
/-! WyJ: the laws' boxes, cells and frame. Plain Lean. -/
namespace Wy
theorem mapO_st {f : D → M (List D)} {g : D → D} : ∀ {xs : List D} {st : St}, (∀ x ∈ xs, ∀ st, ∃ st', f x st = .ok [g x] st') → ∃ st', mapO f xs st = .ok (xs.map g) st'
  | [], st, _ => ⟨st, rfl⟩
  | x :: xs, st, h => by
    obtain ⟨st1, h1⟩ := h x List.mem_cons_self st
    obtain ⟨st2, h2⟩ := mapO_st (xs := xs) (st := st1) fun y hy => h y (List.mem_cons_of_mem _ hy)
    refine ⟨st2, ?_⟩
    unfold mapO
    rw [bind_ok h1, bind_ok h2]
    rfl
def boxF (m : Int) : Fn := ⟨2, 3, [
  .set (.n 2) (.ite (.cmp .lt (.v 1) (.b1 .len (.v 0))) (.idx (.v 0) (.v 1)) (.k (.int (0)))),
  .retCell [(.bin .mul (.b1 .abs (.v 2)) (.b1 .int (.cmp .ge (.b1 .abs (.v 2)) (.bin .pow (.k (.int (10))) (.k (.int (18))))))), (.bin .add (.bin .add (.bin .mod (.b1 .int (.v 2)) (.k (.int (2305843009213693951)))) (.bin .mul (.k (.int (39373))) (.v 1))) (.k (.int (m)))), (.k (.int (0)))]]⟩
theorem box_run {p : Prog} {i : Nat} {m : Int} (hF : p.fns[i]? = some (boxF m)) {n : Nat} {xs : List Int} {k : Int} {st : St} (h0 : 0 ≤ k) (h1 : k < xs.length) :
    ∃ st', p.run (n + 1) i [.lst (xs.map D.int), .int k] st = .ok (.cell st.length) st' ∧ Tin st' st.length 0 := by
  have hlt : k.toNat < xs.length := by omega
  generalize hx : xs[k.toNat] = x
  have hix : doIdx (.lst (xs.map D.int)) (.int k) = some (.int x) := by
    show (ixNat (xs.map D.int).length k).bind (fun j => (xs.map D.int)[j]?) = _
    unfold ixNat
    rw [if_pos h0, if_pos (by rw [List.length_map]; exact h1)]
    show (xs.map D.int)[k.toNat]? = _
    rw [List.getElem?_map, List.getElem?_eq_getElem hlt, hx]
    rfl
  have hcmp : doCmp .lt (.int k) (.int ((xs.map D.int).length : Nat)) = some true := by
    show some (decide (k < ((xs.map D.int).length : Nat))) = _
    rw [List.length_map, decide_eq_true h1]
  generalize hc : (doB1 .int (.bl (!decide ((if x < 0 then -x else x) < 1000000000000000000)))) = y
  have hy : ∃ y' : Int, y = some (.int y') ∧ 0 ≤ y' ∧ y' ≤ 1 := by
    rw [← hc]
    cases decide ((if x < 0 then -x else x) < 1000000000000000000) with
    | true => exact ⟨0, rfl, by omega, by omega⟩
    | false => exact ⟨1, rfl, by omega, by omega⟩
  obtain ⟨y', rfl, hy0, hy1⟩ := hy
  refine ⟨st ++ [[.int ((if x < 0 then -x else x) * y'), .int (x % 2305843009213693951 + 39373 * k + m), .int 0]], ?_, _, _, 0, by simp; exact ⟨rfl, rfl⟩, by omega, by omega⟩
  refine run_1 (o := .rt (.cell st.length)) hF rfl ?_
  refine (xb_set (d := .int x) (ev_ite (t := true) (et_cmp (d1 := .int k) (d2 := .int ((xs.map D.int).length : Nat)) rfl rfl hcmp) (ev_idx (d1 := .lst (xs.map D.int)) (d2 := .int k) rfl rfl (of_some hix))) rfl).trans ?_
  have hrow : ∀ c : Ctx, row (mds c [(.bin .mul (.b1 .abs (.v 2)) (.b1 .int (.cmp .ge (.b1 .abs (.v 2)) (.bin .pow (.k (.int (10))) (.k (.int (18))))))), (.bin .add (.bin .add (.bin .mod (.b1 .int (.v 2)) (.k (.int (2305843009213693951)))) (.bin .mul (.k (.int (39373))) (.v 1))) (.k (.int (m)))), (.k (.int (0)))]) [some (.lst (xs.map D.int), false), some (.int k, false), some (.int x, false)] st = .ok [.int ((if x < 0 then -x else x) * y'), .int (x % 2305843009213693951 + 39373 * k + m), .int 0] st := by
    intro c
    refine row_cons' (xs := [.int ((if x < 0 then -x else x) * y')]) (em_of rfl (ev_bin (d1 := .int (if x < 0 then -x else x)) (d2 := .int y') rfl (eb_b1 (d1 := .bl (!decide ((if x < 0 then -x else x) < 1000000000000000000))) rfl hc) (bin_mul (by rw [big_of (i := y') (by omega) (by omega)]; simp)))) ?_
    refine row_cons' (xs := [.int (x % 2305843009213693951 + 39373 * k + m)]) (em_of rfl (ev_bin (eb_bin (eb_bin (eb_b1 (d1 := .int x) rfl rfl) rfl (bin_mod (by decide))) (eb_bin (d1 := .int 39373) (d2 := .int k) rfl rfl (bin_mul (by rw [big_of (i := 39373) (by decide) (by decide)]; rfl))) rfl) rfl rfl)) rfl
  exact xb_retCell (hrow _) rfl
def cellsF : Fn := ⟨2, 6, [
  .own 2 (.or (.b1 .list (.slc (.v 0) none (some (.v 1)))) (.lst [(.k (.int (0)))])),
  .for_ (.t [3, 4]) (.enum (.slc (.v 0) (some (.v 1)) (some (.k (.int (63)))))) [.set (.n 5) (.bin .mod (.b1 .int (.v 3)) (.v 1)), .seti 2 (.v 5) (.bin .add (.idx (.v 2) (.v 5)) (.bin .mul (.v 4) (.bin .add (.v 3) (.k (.int (2))))))],
  .frz 2,
  .ret (.v 2)]⟩
def cellE (sc : D) (m : Int) (ys : List D) (a b e : Slot) : Env := [some (sc, false), some (.int m, false), some (.lst ys, true), a, b, e]
theorem cells_loop {c : Ctx} {sc : D} {m : Int} {st : St} (hm : 0 < m) : ∀ (l : List Int) (k : Nat) (xs : List Int) (a b e : Slot), (xs.length : Int) = m → k + l.length ≤ 63 →
    ∃ (xs' : List Int) (a' b' e' : Slot), xs'.length = xs.length ∧ forLoop (.t [3, 4]) (xb c [.set (.n 5) (.bin .mod (.b1 .int (.v 3)) (.v 1)), .seti 2 (.v 5) (.bin .add (.idx (.v 2) (.v 5)) (.bin .mul (.v 4) (.bin .add (.v 3) (.k (.int (2))))))]) (withIx k (l.map D.int)) (cellE sc m (xs.map D.int) a b e) st = .ok (.nx (cellE sc m (xs'.map D.int) a' b' e')) st
  | [], k, xs, a, b, e, _, _ => ⟨xs, a, b, e, rfl, rfl⟩
  | x :: l, k, xs, a, b, e, hl, hk => by
    have hr0 : 0 ≤ (k : Int) % m := Int.emod_nonneg _ (by omega)
    have hr1 : (k : Int) % m < m := Int.emod_lt_of_pos _ hm
    have hlt : ((k : Int) % m).toNat < xs.length := by omega
    have hixn : ixNat (xs.map D.int).length ((k : Int) % m) = some ((k : Int) % m).toNat := by
      unfold ixNat
      rw [if_pos hr0, if_pos (by rw [List.length_map]; omega)]
    have hix : doIdx (.lst (xs.map D.int)) (.int ((k : Int) % m)) = some (.int xs[((k : Int) % m).toNat]) := by
      show (ixNat (xs.map D.int).length _).bind (fun j => (xs.map D.int)[j]?) = _
      rw [hixn]
      show (xs.map D.int)[((k : Int) % m).toNat]? = _
      rw [List.getElem?_map, List.getElem?_eq_getElem hlt]
      rfl
    generalize hz : xs[((k : Int) % m).toNat] + x * ((k : Int) + 2) = z
    have hk' : k + (l.length + 1) ≤ 63 := hk
    have hset : (xs.map D.int).set ((k : Int) % m).toNat (.int z) = (xs.set ((k : Int) % m).toNat z).map D.int := by rw [List.map_set]
    obtain ⟨xs', a', b', e', h1, h2⟩ := cells_loop (c := c) (sc := sc) (st := st) hm l (k + 1) (xs.set ((k : Int) % m).toNat z) (some (.int k, false)) (some (.int x, false)) (some (.int ((k : Int) % m), false)) (by rw [List.length_set]; exact hl) (by omega)
    refine ⟨xs', a', b', e', by rw [h1, List.length_set], ?_⟩
    refine (for_cons (ρ1 := cellE sc m (xs.map D.int) (some (.int k, false)) (some (.int x, false)) e) (ρ2 := cellE sc m ((xs.set ((k : Int) % m).toNat z).map D.int) (some (.int k, false)) (some (.int x, false)) (some (.int ((k : Int) % m), false))) rfl ?_).trans h2
    refine (xb_set (d := .int ((k : Int) % m)) (ev_bin (eb_b1 (d1 := .int k) rfl rfl) (d2 := .int m) rfl (bin_mod hm)) rfl).trans ?_
    refine (xb_seti (d1 := .int z) (d2 := .int ((k : Int) % m)) (st2 := st) (ev_bin (eb_idx (d1 := .lst (xs.map D.int)) (d2 := .int ((k : Int) % m)) rfl rfl (of_some hix)) (eb_bin (d1 := .int x) (d2 := .int ((k : Int) + 2)) rfl (eb_bin (d1 := .int k) (d2 := .int 2) rfl rfl rfl) (bin_mul (by rw [big_of (i := (k : Int) + 2) (by omega) (by omega)]; simp))) (by rw [← hz]; rfl)) rfl (st3 := st) (ρ' := cellE sc m ((xs.set ((k : Int) % m).toNat z).map D.int) (some (.int k, false)) (some (.int x, false)) (some (.int ((k : Int) % m), false))) ?_).trans rfl
    show (match ixNat (xs.map D.int).length ((k : Int) % m) with | some j => M.pure (setS (cellE sc m (xs.map D.int) (some (.int k, false)) (some (.int x, false)) (some (.int ((k : Int) % m), false))) 2 (.lst ((xs.map D.int).set j (.int z))) true) | none => M.stuck) st = _
    rw [hixn]
    show Res.ok (cellE sc m ((xs.map D.int).set ((k : Int) % m).toNat (.int z)) (some (.int k, false)) (some (.int x, false)) (some (.int ((k : Int) % m), false))) st = _
    rw [hset]
theorem cut_lo {xs : List Int} {m : Nat} : cutD (xs.map D.int) none (some (m : Int)) = (xs.take m).map D.int := by
  unfold cutD cutIx
  simp only [List.length_map]
  rw [if_neg (by omega)]
  rw [List.drop_zero, Nat.sub_zero, Int.toNat_natCast, ← List.map_take]
  congr 1
  by_cases h : m ≤ xs.length
  · rw [Nat.min_eq_left h]
  · rw [Nat.min_eq_right (by omega), List.take_of_length_le (Nat.le_refl _), List.take_of_length_le (by omega)]
theorem cut_hi {xs : List Int} {m : Nat} (h : m ≤ 63) : cutD (xs.map D.int) (some (m : Int)) (some 63) = ((xs.drop m).take (63 - m)).map D.int := by
  unfold cutD cutIx
  simp only [List.length_map]
  rw [if_neg (by omega), if_neg (by omega), Int.toNat_natCast, ← List.map_drop, ← List.map_take]
  congr 1
  by_cases h1 : m ≤ xs.length
  · rw [Nat.min_eq_left h1]
    by_cases h2 : 63 ≤ xs.length
    · rw [Nat.min_eq_left (by omega)]
      rfl
    · rw [Nat.min_eq_right (by omega), List.take_of_length_le (by rw [List.length_drop]; exact Nat.le_refl _), List.take_of_length_le (by rw [List.length_drop]; omega)]
  · have e : min m xs.length = xs.length := Nat.min_eq_right (by omega)
    rw [e, List.drop_of_length_le (Nat.le_refl _), List.drop_of_length_le (by omega), List.take_nil, List.take_nil]
theorem short_i {xs : List Int} (h : xs.length ≤ 1000) : short (xs.map D.int) = some (xs.map D.int) := short_1 (by rw [List.length_map]; exact h)
theorem cells_run {p : Prog} {i : Nat} (hF : p.fns[i]? = some cellsF) {n m : Nat} {ns : List Int} {st : St} (hm : 0 < m) (hm2 : m ≤ 63) (hn : ns.length ≤ 63) :
    ∃ xs : List Int, 1 ≤ xs.length ∧ xs.length ≤ m ∧ p.run (n + 1) i [.scr (ns.map D.int), .int (m : Int)] st = .ok (.lst (xs.map D.int)) st := by
  -- the first cells
  have hfirst : ∃ xs0 : List Int, 1 ≤ xs0.length ∧ xs0.length ≤ m ∧ (ns.length ≤ m ∨ xs0.length = m) ∧ ∀ c : Ctx, (md c (.or (.b1 .list (.slc (.v 0) none (some (.v 1)))) (.lst [(.k (.int (0)))]))).s [some (.scr (ns.map D.int), false), some (.int (m : Int), false), none, none, none, none] st = .ok (.lst (xs0.map D.int)) st := by
    have hs : ∀ c : Ctx, (md c (.b1 .list (.slc (.v 0) none (some (.v 1))))).s [some (.scr (ns.map D.int), false), some (.int (m : Int), false), none, none, none, none] st = .ok (.lst ((ns.take m).map D.int)) st := fun c => by
      rw [← cut_lo]
      rfl
    cases h : ns.take m with
    | nil =>
      refine ⟨[0], by simp, by simp; omega, .inl ?_, fun c => ?_⟩
      · have := congrArg List.length h
        rw [List.length_take, List.length_nil] at this
        omega
      · have hs := hs c
        rw [h] at hs
        exact ev_or (t := false) hs rfl rfl
    | cons x r =>
      have hl := congrArg List.length h
      rw [List.length_take] at hl
      refine ⟨x :: r, by simp, by omega, ?_, fun c => ?_⟩
      · by_cases q : ns.length ≤ m
        · exact .inl q
        · right
          rw [← hl]
          omega
      · have hs := hs c
        rw [h] at hs
        exact ev_or (t := true) hs rfl rfl
  obtain ⟨xs0, a1, a2, a3, hown⟩ := hfirst
  have hit : ∀ c : Ctx, itS c (.enum (.slc (.v 0) (some (.v 1)) (some (.k (.int (63)))))) (cellE (.scr (ns.map D.int)) m (xs0.map D.int) none none none) st = .ok (withIx 0 (((ns.drop m).take (63 - m)).map D.int)) st := fun c => by
    rw [← cut_hi hm2]
    rfl
  have hloop : ∀ c : Ctx, ∃ (xs' : List Int) (a' b' e' : Slot), xs'.length = xs0.length ∧ forLoop (.t [3, 4]) (xb c [.set (.n 5) (.bin .mod (.b1 .int (.v 3)) (.v 1)), .seti 2 (.v 5) (.bin .add (.idx (.v 2) (.v 5)) (.bin .mul (.v 4) (.bin .add (.v 3) (.k (.int (2))))))]) (withIx 0 (((ns.drop m).take (63 - m)).map D.int)) (cellE (.scr (ns.map D.int)) m (xs0.map D.int) none none none) st = .ok (.nx (cellE (.scr (ns.map D.int)) m (xs'.map D.int) a' b' e')) st := fun c => by
    rcases a3 with q | q
    · rw [List.drop_of_length_le q, List.take_nil]
      exact ⟨xs0, none, none, none, rfl, rfl⟩
    · exact cells_loop (by omega) _ 0 xs0 none none none (by omega) (by rw [List.length_take, List.length_drop]; omega)
  obtain ⟨xs', a', b', e', h1, h2⟩ := hloop ⟨p.run n, fun i => p.glob[i]?, p.turns⟩
  refine ⟨xs', by omega, by omega, ?_⟩
  refine run_1 (o := .rt (.lst (xs'.map D.int))) hF rfl ?_
  refine (xb_own (hown _) rfl).trans ?_
  refine (xb_for (o := .nx (cellE (.scr (ns.map D.int)) m (xs'.map D.int) a' b' e')) (hit _) h2).trans ?_
  refine (xb_frz (ρ' := [some (.scr (ns.map D.int), false), some (.int (m : Int), false), some (.lst (xs'.map D.int), false), a', b', e']) rfl).trans (xb_ret rfl)
/-! ### the law -/
def lawF (hand cells box right : Nat) (m : Int) : Fn := ⟨1, 3, [
  .ife (.not (.call hand [])) [.ret (.k (.bl false))] [],
  .set (.n 1) (.call cells [(.v 0), (.k (.int (m)))]),
  .ret (.b1 .all (.lc [2] (.call right [(.call box [(.v 1), (.v 2)])]) (.n 2) (.range (.b1 .len (.v 1))) none))]⟩
theorem range_mem : ∀ (k : Nat) (lo : Int) (d : D), d ∈ rangeD lo k → ∃ j : Int, d = .int j ∧ lo ≤ j ∧ j < lo + k
  | 0, lo, d, h => by cases h
  | k + 1, lo, d, h => by
    rcases List.mem_cons.mp (show d ∈ D.int lo :: rangeD (lo + 1) k from h) with z | z
    · exact ⟨lo, z, by omega, by omega⟩
    · obtain ⟨j, h1, h2, h3⟩ := range_mem k (lo + 1) d z
      exact ⟨j, h1, by omega, by omega⟩
theorem range_len : ∀ (k : Nat) (lo : Int), (rangeD lo k).length = k
  | 0, _ => rfl
  | k + 1, lo => by
    show (rangeD (lo + 1) k).length + 1 = k + 1
    rw [range_len k]
theorem law_run {p : Prog} {li hand cells box right m : Nat} {mb : Int} (hL : p.fns[li]? = some (lawF hand cells box right m)) (hC : p.fns[cells]? = some cellsF) (hB : p.fns[box]? = some (boxF mb)) {n : Nat} (hm : 0 < m) (hm2 : m ≤ 63)
    (hh : p.run (n + 1) hand [] [] = .ok (.bl true) []) (hr : ∀ st g, Tin st g 0 → ∃ st', p.run (n + 1) right [.cell g] st = .ok (.bl true) st') {ns : List Int} (hn : ns.length ≤ 63) :
    ∃ st', p.run (n + 2) li [.scr (ns.map D.int)] [] = .ok (.bl true) st' := by
  obtain ⟨xs, a1, a2, hc⟩ := cells_run (n := n) hC (st := []) hm hm2 hn
  have hmap : ∃ st', mapO (lcTurn [some (.scr (ns.map D.int), false), some (.lst (xs.map D.int), false), none] [2] (.n 2) (lcElt (cnd (mdo ⟨p.run (n + 1), fun i => p.glob[i]?, p.turns⟩ none)) (md ⟨p.run (n + 1), fun i => p.glob[i]?, p.turns⟩ (.call right [(.call box [(.v 1), (.v 2)])])).s)) (rangeD 0 xs.length) [] = .ok ((rangeD 0 xs.length).map fun _ => .bl true) st' := by
    refine mapO_st fun d hd st => ?_
    obtain ⟨j, rfl, j0, j1⟩ := range_mem _ _ _ hd
    obtain ⟨st1, b1, b2⟩ := box_run hB (n := n) (xs := xs) (k := j) (st := st) j0 (by omega)
    obtain ⟨st2, b3⟩ := hr st1 _ b2
    refine ⟨st2, ?_⟩
    have he : (md ⟨p.run (n + 1), fun i => p.glob[i]?, p.turns⟩ (.call right [(.call box [(.v 1), (.v 2)])])).s [some (.scr (ns.map D.int), false), some (.lst (xs.map D.int), false), some (.int j, false)] st = .ok (.bl true) st2 :=
      ev_call (ds := [.cell st.length]) (row_cons' (xs := [.cell st.length]) (em_of rfl (ev_call (ds := [.lst (xs.map D.int), .int j]) rfl b1)) rfl) b3
    show M.bind ((md ⟨p.run (n + 1), fun i => p.glob[i]?, p.turns⟩ (.call right [(.call box [(.v 1), (.v 2)])])).s [some (.scr (ns.map D.int), false), some (.lst (xs.map D.int), false), some (.int j, false)]) (fun y => M.pure [y]) st = _
    rw [bind_ok he, pure_ok]
  obtain ⟨st', hmap⟩ := hmap
  refine ⟨st', run_1 (o := .rt (.bl true)) hL rfl ?_⟩
  refine (xb_skip (st1 := []) (et_not (t := true) (et_of (d := .bl true) rfl (eb_call (ds := []) rfl hh) rfl))).trans ?_
  refine (xb_set (d := .lst (xs.map D.int)) (ev_call (ds := [.scr (ns.map D.int), .int (m : Int)]) rfl hc) rfl).trans (xb_ret ?_)
  refine ev_b1 (d1 := .lst ((rangeD 0 xs.length).map fun _ => .bl true)) (eb_lc (ds := rangeD 0 xs.length) ?_ hmap (short_1 (by rw [List.length_map, range_len]; omega))) ?_
  · have hl : (md ⟨p.run (n + 1), fun i => p.glob[i]?, p.turns⟩ (.b1 .len (.v 1))).s [some (.scr (ns.map D.int), false), some (.lst (xs.map D.int), false), none] [] = .ok (.int (xs.length : Nat)) [] := by
      refine ev_b1 (d1 := .lst (xs.map D.int)) rfl ?_
      show some (D.int ((xs.map D.int).length : Nat)) = _
      rw [List.length_map]
    refine Eq.trans (bind_ok (f := fun x => M.of (rng1 x)) hl) ?_
    show M.of (if ((xs.length : Nat) : Int) ≤ 1000000000 ∧ -1000000000 ≤ ((xs.length : Nat) : Int) then some (rangeD 0 (((xs.length : Nat) : Int)).toNat) else none) [] = _
    rw [if_pos ⟨by omega, by omega⟩]
    rfl
  · rw [List.map_const']
    show (dBools _).map _ = _
    rw [bools_true]
    show some (D.bl ((List.replicate _ true).all id)) = _
    rw [all_true]
end Wy

set_option autoImplicit false
set_option linter.all false
namespace Wy
def onNx (f : Env → M Out) : Out → M Out
  | .nx ρ => f ρ
  | .rt d => M.pure (.rt d)
  | .er ρ k ys => M.pure (.er ρ k ys)
section
variable (c : Ctx) (ρ : Env)
@[simp] theorem y_s_k (d : D) : (md c (.k d)).s ρ = M.pure d := (rfl)
@[simp] theorem y_b_k (d : D) : (md c (.k d)).b ρ = M.pure d := (rfl)
@[simp] theorem y_t_k (d : D) : (md c (.k d)).t ρ = M.bind (M.pure d) fun d => M.of (truth d) := (rfl)
@[simp] theorem y_i_k (d : D) : (md c (.k d)).i ρ = M.bind (M.pure d) fun d => M.of (itemsOf d) := (rfl)
@[simp] theorem y_m_k (d : D) : (md c (.k d)).m ρ = M.bind (M.pure d) fun d => M.pure [d] := (rfl)
@[simp] theorem y_s_fld (e : IE) (f : Nat) : (md c (.fld e f)).s ρ = M.bind ((md c e).s ρ) fun x => M.of (doFld x f) := (rfl)
@[simp] theorem y_b_fld (e : IE) (f : Nat) : (md c (.fld e f)).b ρ = M.bind ((md c e).s ρ) fun x => M.of (doFld x f) := (rfl)
@[simp] theorem y_t_fld (e : IE) (f : Nat) : (md c (.fld e f)).t ρ = M.bind (M.bind ((md c e).s ρ) fun x => M.of (doFld x f)) fun d => M.of (truth d) := (rfl)
@[simp] theorem y_i_fld (e : IE) (f : Nat) : (md c (.fld e f)).i ρ = M.bind (M.bind ((md c e).s ρ) fun x => M.of (doFld x f)) fun d => M.of (itemsOf d) := (rfl)
@[simp] theorem y_m_fld (e : IE) (f : Nat) : (md c (.fld e f)).m ρ = M.bind (M.bind ((md c e).s ρ) fun x => M.of (doFld x f)) fun d => M.pure [d] := (rfl)
@[simp] theorem y_s_isx (e : IE) (v : Bool) : (md c (.isx e v)).s ρ = M.bind ((md c e).s ρ) fun x => M.of (doIsx x v) := (rfl)
@[simp] theorem y_b_isx (e : IE) (v : Bool) : (md c (.isx e v)).b ρ = M.bind ((md c e).s ρ) fun x => M.of (doIsx x v) := (rfl)
@[simp] theorem y_t_isx (e : IE) (v : Bool) : (md c (.isx e v)).t ρ = M.bind (M.bind ((md c e).s ρ) fun x => M.of (doIsx x v)) fun d => M.of (truth d) := (rfl)
@[simp] theorem y_i_isx (e : IE) (v : Bool) : (md c (.isx e v)).i ρ = M.bind (M.bind ((md c e).s ρ) fun x => M.of (doIsx x v)) fun d => M.of (itemsOf d) := (rfl)
@[simp] theorem y_m_isx (e : IE) (v : Bool) : (md c (.isx e v)).m ρ = M.bind (M.bind ((md c e).s ρ) fun x => M.of (doIsx x v)) fun d => M.pure [d] := (rfl)
@[simp] theorem y_s_g (n : Nat) : (md c (.g n)).s ρ = M.of (c.glob n) := (rfl)
@[simp] theorem y_b_g (n : Nat) : (md c (.g n)).b ρ = M.of (c.glob n) := (rfl)
@[simp] theorem y_t_g (n : Nat) : (md c (.g n)).t ρ = M.bind (M.of (c.glob n)) fun d => M.of (truth d) := (rfl)
@[simp] theorem y_i_g (n : Nat) : (md c (.g n)).i ρ = M.bind (M.of (c.glob n)) fun d => M.of (itemsOf d) := (rfl)
@[simp] theorem y_m_g (n : Nat) : (md c (.g n)).m ρ = M.bind (M.of (c.glob n)) fun d => M.pure [d] := (rfl)
@[simp] theorem y_s_tup (es : List IE) : (md c (.tup es)).s ρ = M.bind (row (mds c es) ρ) fun ds => M.of ((short ds).map .tup) := (rfl)
@[simp] theorem y_b_tup (es : List IE) : (md c (.tup es)).b ρ = M.bind (row (mds c es) ρ) fun ds => M.of ((short ds).map .tup) := (rfl)
@[simp] theorem y_t_tup (es : List IE) : (md c (.tup es)).t ρ = M.bind (M.bind (row (mds c es) ρ) fun ds => M.of ((short ds).map .tup)) fun d => M.of (truth d) := (rfl)
@[simp] theorem y_i_tup (es : List IE) : (md c (.tup es)).i ρ = M.bind (M.bind (row (mds c es) ρ) fun ds => M.of ((short ds).map .tup)) fun d => M.of (itemsOf d) := (rfl)
@[simp] theorem y_m_tup (es : List IE) : (md c (.tup es)).m ρ = M.bind (M.bind (row (mds c es) ρ) fun ds => M.of ((short ds).map .tup)) fun d => M.pure [d] := (rfl)
@[simp] theorem y_s_lst (es : List IE) : (md c (.lst es)).s ρ = M.bind (row (mds c es) ρ) fun ds => M.of ((short ds).map .lst) := (rfl)
@[simp] theorem y_b_lst (es : List IE) : (md c (.lst es)).b ρ = M.bind (row (mds c es) ρ) fun ds => M.of ((short ds).map .lst) := (rfl)
@[simp] theorem y_t_lst (es : List IE) : (md c (.lst es)).t ρ = M.bind (M.bind (row (mds c es) ρ) fun ds => M.of ((short ds).map .lst)) fun d => M.of (truth d) := (rfl)
@[simp] theorem y_i_lst (es : List IE) : (md c (.lst es)).i ρ = M.bind (M.bind (row (mds c es) ρ) fun ds => M.of ((short ds).map .lst)) fun d => M.of (itemsOf d) := (rfl)
@[simp] theorem y_m_lst (es : List IE) : (md c (.lst es)).m ρ = M.bind (M.bind (row (mds c es) ρ) fun ds => M.of ((short ds).map .lst)) fun d => M.pure [d] := (rfl)
@[simp] theorem y_s_call (f : Nat) (es : List IE) : (md c (.call f es)).s ρ = M.bind (row (mds c es) ρ) fun ds => c.call f ds := (rfl)
@[simp] theorem y_b_call (f : Nat) (es : List IE) : (md c (.call f es)).b ρ = M.bind (row (mds c es) ρ) fun ds => c.call f ds := (rfl)
@[simp] theorem y_t_call (f : Nat) (es : List IE) : (md c (.call f es)).t ρ = M.bind (M.bind (row (mds c es) ρ) fun ds => c.call f ds) fun d => M.of (truth d) := (rfl)
@[simp] theorem y_i_call (f : Nat) (es : List IE) : (md c (.call f es)).i ρ = M.bind (M.bind (row (mds c es) ρ) fun ds => c.call f ds) fun d => M.of (itemsOf d) := (rfl)
@[simp] theorem y_m_call (f : Nat) (es : List IE) : (md c (.call f es)).m ρ = M.bind (M.bind (row (mds c es) ρ) fun ds => c.call f ds) fun d => M.pure [d] := (rfl)
@[simp] theorem y_s_callk (f : Nat) (es : List IE) (ks : List Nat) (kes : List IE) : (md c (.callk f es ks kes)).s ρ = M.bind (row (mds c es) ρ) fun ds => M.bind (row (mds c kes) ρ) fun kds => c.call f (gP es.length kes.length ks ds kds) := (rfl)
@[simp] theorem y_b_callk (f : Nat) (es : List IE) (ks : List Nat) (kes : List IE) : (md c (.callk f es ks kes)).b ρ = M.bind (row (mds c es) ρ) fun ds => M.bind (row (mds c kes) ρ) fun kds => c.call f (gP es.length kes.length ks ds kds) := (rfl)
@[simp] theorem y_t_callk (f : Nat) (es : List IE) (ks : List Nat) (kes : List IE) : (md c (.callk f es ks kes)).t ρ = M.bind (M.bind (row (mds c es) ρ) fun ds => M.bind (row (mds c kes) ρ) fun kds => c.call f (gP es.length kes.length ks ds kds)) fun d => M.of (truth d) := (rfl)
@[simp] theorem y_i_callk (f : Nat) (es : List IE) (ks : List Nat) (kes : List IE) : (md c (.callk f es ks kes)).i ρ = M.bind (M.bind (row (mds c es) ρ) fun ds => M.bind (row (mds c kes) ρ) fun kds => c.call f (gP es.length kes.length ks ds kds)) fun d => M.of (itemsOf d) := (rfl)
@[simp] theorem y_m_callk (f : Nat) (es : List IE) (ks : List Nat) (kes : List IE) : (md c (.callk f es ks kes)).m ρ = M.bind (M.bind (row (mds c es) ρ) fun ds => M.bind (row (mds c kes) ρ) fun kds => c.call f (gP es.length kes.length ks ds kds)) fun d => M.pure [d] := (rfl)
@[simp] theorem y_s_b1 (op : B1) (e : IE) : (md c (.b1 op e)).s ρ = M.bind ((md c e).b ρ) fun d => M.of (doB1 op d) := (rfl)
@[simp] theorem y_b_b1 (op : B1) (e : IE) : (md c (.b1 op e)).b ρ = M.bind ((md c e).b ρ) fun d => M.of (doB1 op d) := (rfl)
@[simp] theorem y_t_b1 (op : B1) (e : IE) : (md c (.b1 op e)).t ρ = M.bind (M.bind ((md c e).b ρ) fun d => M.of (doB1 op d)) fun d => M.of (truth d) := (rfl)
@[simp] theorem y_i_b1 (op : B1) (e : IE) : (md c (.b1 op e)).i ρ = M.bind (M.bind ((md c e).b ρ) fun d => M.of (doB1 op d)) fun d => M.of (itemsOf d) := (rfl)
@[simp] theorem y_m_b1 (op : B1) (e : IE) : (md c (.b1 op e)).m ρ = M.bind (M.bind ((md c e).b ρ) fun d => M.of (doB1 op d)) fun d => M.pure [d] := (rfl)
@[simp] theorem y_s_dst (n : Bool) (e : IE) : (md c (.dst n e)).s ρ = M.bind ((md c e).b ρ) fun d => M.of (doSet n d) := (rfl)
@[simp] theorem y_b_dst (n : Bool) (e : IE) : (md c (.dst n e)).b ρ = M.bind ((md c e).b ρ) fun d => M.of (doSet n d) := (rfl)
@[simp] theorem y_t_dst (n : Bool) (e : IE) : (md c (.dst n e)).t ρ = M.bind (M.bind ((md c e).b ρ) fun d => M.of (doSet n d)) fun d => M.of (truth d) := (rfl)
@[simp] theorem y_i_dst (n : Bool) (e : IE) : (md c (.dst n e)).i ρ = M.bind (M.bind ((md c e).b ρ) fun d => M.of (doSet n d)) fun d => M.of (itemsOf d) := (rfl)
@[simp] theorem y_m_dst (n : Bool) (e : IE) : (md c (.dst n e)).m ρ = M.bind (M.bind ((md c e).b ρ) fun d => M.of (doSet n d)) fun d => M.pure [d] := (rfl)
@[simp] theorem y_s_mn0 (e : IE) : (md c (.mn0 e)).s ρ = M.bind ((md c e).b ρ) fun d => M.of (doMn0 d) := (rfl)
@[simp] theorem y_b_mn0 (e : IE) : (md c (.mn0 e)).b ρ = M.bind ((md c e).b ρ) fun d => M.of (doMn0 d) := (rfl)
@[simp] theorem y_t_mn0 (e : IE) : (md c (.mn0 e)).t ρ = M.bind (M.bind ((md c e).b ρ) fun d => M.of (doMn0 d)) fun d => M.of (truth d) := (rfl)
@[simp] theorem y_i_mn0 (e : IE) : (md c (.mn0 e)).i ρ = M.bind (M.bind ((md c e).b ρ) fun d => M.of (doMn0 d)) fun d => M.of (itemsOf d) := (rfl)
@[simp] theorem y_m_mn0 (e : IE) : (md c (.mn0 e)).m ρ = M.bind (M.bind ((md c e).b ρ) fun d => M.of (doMn0 d)) fun d => M.pure [d] := (rfl)
@[simp] theorem y_s_b2 (op : B2) (a b : IE) : (md c (.b2 op a b)).s ρ = M.bind ((md c a).s ρ) fun x => M.bind ((md c b).s ρ) fun y => M.of (doB2 op x y) := (rfl)
@[simp] theorem y_b_b2 (op : B2) (a b : IE) : (md c (.b2 op a b)).b ρ = M.bind ((md c a).s ρ) fun x => M.bind ((md c b).s ρ) fun y => M.of (doB2 op x y) := (rfl)
@[simp] theorem y_t_b2 (op : B2) (a b : IE) : (md c (.b2 op a b)).t ρ = M.bind (M.bind ((md c a).s ρ) fun x => M.bind ((md c b).s ρ) fun y => M.of (doB2 op x y)) fun d => M.of (truth d) := (rfl)
@[simp] theorem y_i_b2 (op : B2) (a b : IE) : (md c (.b2 op a b)).i ρ = M.bind (M.bind ((md c a).s ρ) fun x => M.bind ((md c b).s ρ) fun y => M.of (doB2 op x y)) fun d => M.of (itemsOf d) := (rfl)
@[simp] theorem y_m_b2 (op : B2) (a b : IE) : (md c (.b2 op a b)).m ρ = M.bind (M.bind ((md c a).s ρ) fun x => M.bind ((md c b).s ρ) fun y => M.of (doB2 op x y)) fun d => M.pure [d] := (rfl)
@[simp] theorem y_s_isi (e : IE) (t : Bool) (cs : List Cls) : (md c (.isi e t cs)).s ρ = M.bind ((md c e).b ρ) fun d => M.of ((isAny d cs).map .bl) := (rfl)
@[simp] theorem y_b_isi (e : IE) (t : Bool) (cs : List Cls) : (md c (.isi e t cs)).b ρ = M.bind ((md c e).b ρ) fun d => M.of ((isAny d cs).map .bl) := (rfl)
@[simp] theorem y_t_isi (e : IE) (t : Bool) (cs : List Cls) : (md c (.isi e t cs)).t ρ = M.bind (M.bind ((md c e).b ρ) fun d => M.of ((isAny d cs).map .bl)) fun d => M.of (truth d) := (rfl)
@[simp] theorem y_i_isi (e : IE) (t : Bool) (cs : List Cls) : (md c (.isi e t cs)).i ρ = M.bind (M.bind ((md c e).b ρ) fun d => M.of ((isAny d cs).map .bl)) fun d => M.of (itemsOf d) := (rfl)
@[simp] theorem y_m_isi (e : IE) (t : Bool) (cs : List Cls) : (md c (.isi e t cs)).m ρ = M.bind (M.bind ((md c e).b ρ) fun d => M.of ((isAny d cs).map .bl)) fun d => M.pure [d] := (rfl)
@[simp] theorem y_s_bin (op : Bin) (a b : IE) : (md c (.bin op a b)).s ρ = M.bind ((md c a).b ρ) fun x => M.bind ((md c b).b ρ) fun y => M.of (doBin op x y) := (rfl)
@[simp] theorem y_b_bin (op : Bin) (a b : IE) : (md c (.bin op a b)).b ρ = M.bind ((md c a).b ρ) fun x => M.bind ((md c b).b ρ) fun y => M.of (doBin op x y) := (rfl)
@[simp] theorem y_t_bin (op : Bin) (a b : IE) : (md c (.bin op a b)).t ρ = M.bind (M.bind ((md c a).b ρ) fun x => M.bind ((md c b).b ρ) fun y => M.of (doBin op x y)) fun d => M.of (truth d) := (rfl)
@[simp] theorem y_i_bin (op : Bin) (a b : IE) : (md c (.bin op a b)).i ρ = M.bind (M.bind ((md c a).b ρ) fun x => M.bind ((md c b).b ρ) fun y => M.of (doBin op x y)) fun d => M.of (itemsOf d) := (rfl)
@[simp] theorem y_m_bin (op : Bin) (a b : IE) : (md c (.bin op a b)).m ρ = M.bind (M.bind ((md c a).b ρ) fun x => M.bind ((md c b).b ρ) fun y => M.of (doBin op x y)) fun d => M.pure [d] := (rfl)
@[simp] theorem y_s_neg (a : IE) : (md c (.neg a)).s ρ = M.bind ((md c a).s ρ) fun x => M.of ((intOf x).map fun i => .int (-i)) := (rfl)
@[simp] theorem y_b_neg (a : IE) : (md c (.neg a)).b ρ = M.bind ((md c a).s ρ) fun x => M.of ((intOf x).map fun i => .int (-i)) := (rfl)
@[simp] theorem y_t_neg (a : IE) : (md c (.neg a)).t ρ = M.bind (M.bind ((md c a).s ρ) fun x => M.of ((intOf x).map fun i => .int (-i))) fun d => M.of (truth d) := (rfl)
@[simp] theorem y_i_neg (a : IE) : (md c (.neg a)).i ρ = M.bind (M.bind ((md c a).s ρ) fun x => M.of ((intOf x).map fun i => .int (-i))) fun d => M.of (itemsOf d) := (rfl)
@[simp] theorem y_m_neg (a : IE) : (md c (.neg a)).m ρ = M.bind (M.bind ((md c a).s ρ) fun x => M.of ((intOf x).map fun i => .int (-i))) fun d => M.pure [d] := (rfl)
@[simp] theorem y_s_cmp (op : Cmp) (a b : IE) : (md c (.cmp op a b)).s ρ = M.bind ((md c a).b ρ) fun x => M.bind ((md c b).b ρ) fun y => M.of ((doCmp op x y).map .bl) := (rfl)
@[simp] theorem y_b_cmp (op : Cmp) (a b : IE) : (md c (.cmp op a b)).b ρ = M.bind ((md c a).b ρ) fun x => M.bind ((md c b).b ρ) fun y => M.of ((doCmp op x y).map .bl) := (rfl)
@[simp] theorem y_t_cmp (op : Cmp) (a b : IE) : (md c (.cmp op a b)).t ρ = M.bind (M.bind ((md c a).b ρ) fun x => M.bind ((md c b).b ρ) fun y => M.of ((doCmp op x y).map .bl)) fun d => M.of (truth d) := (rfl)
@[simp] theorem y_i_cmp (op : Cmp) (a b : IE) : (md c (.cmp op a b)).i ρ = M.bind (M.bind ((md c a).b ρ) fun x => M.bind ((md c b).b ρ) fun y => M.of ((doCmp op x y).map .bl)) fun d => M.of (itemsOf d) := (rfl)
@[simp] theorem y_m_cmp (op : Cmp) (a b : IE) : (md c (.cmp op a b)).m ρ = M.bind (M.bind ((md c a).b ρ) fun x => M.bind ((md c b).b ρ) fun y => M.of ((doCmp op x y).map .bl)) fun d => M.pure [d] := (rfl)
@[simp] theorem y_s_chain (op op1 : Cmp) (a b e : IE) : (md c (.chain op op1 a b e)).s ρ = M.bind ((md c a).b ρ) fun x => M.bind ((md c b).b ρ) fun y => M.bind (M.of (doCmp op x y)) fun t => if t then M.bind ((md c e).b ρ) fun z => M.of ((doCmp op1 y z).map .bl) else M.pure (.bl false) := (rfl)
@[simp] theorem y_b_chain (op op1 : Cmp) (a b e : IE) : (md c (.chain op op1 a b e)).b ρ = M.bind ((md c a).b ρ) fun x => M.bind ((md c b).b ρ) fun y => M.bind (M.of (doCmp op x y)) fun t => if t then M.bind ((md c e).b ρ) fun z => M.of ((doCmp op1 y z).map .bl) else M.pure (.bl false) := (rfl)
@[simp] theorem y_t_chain (op op1 : Cmp) (a b e : IE) : (md c (.chain op op1 a b e)).t ρ = M.bind (M.bind ((md c a).b ρ) fun x => M.bind ((md c b).b ρ) fun y => M.bind (M.of (doCmp op x y)) fun t => if t then M.bind ((md c e).b ρ) fun z => M.of ((doCmp op1 y z).map .bl) else M.pure (.bl false)) fun d => M.of (truth d) := (rfl)
@[simp] theorem y_i_chain (op op1 : Cmp) (a b e : IE) : (md c (.chain op op1 a b e)).i ρ = M.bind (M.bind ((md c a).b ρ) fun x => M.bind ((md c b).b ρ) fun y => M.bind (M.of (doCmp op x y)) fun t => if t then M.bind ((md c e).b ρ) fun z => M.of ((doCmp op1 y z).map .bl) else M.pure (.bl false)) fun d => M.of (itemsOf d) := (rfl)
@[simp] theorem y_m_chain (op op1 : Cmp) (a b e : IE) : (md c (.chain op op1 a b e)).m ρ = M.bind (M.bind ((md c a).b ρ) fun x => M.bind ((md c b).b ρ) fun y => M.bind (M.of (doCmp op x y)) fun t => if t then M.bind ((md c e).b ρ) fun z => M.of ((doCmp op1 y z).map .bl) else M.pure (.bl false)) fun d => M.pure [d] := (rfl)
@[simp] theorem y_s_idx (a b : IE) : (md c (.idx a b)).s ρ = M.bind ((md c a).b ρ) fun x => M.bind ((md c b).s ρ) fun y => getIx x y := (rfl)
@[simp] theorem y_b_idx (a b : IE) : (md c (.idx a b)).b ρ = M.bind ((md c a).b ρ) fun x => M.bind ((md c b).s ρ) fun y => getIx x y := (rfl)
@[simp] theorem y_t_idx (a b : IE) : (md c (.idx a b)).t ρ = M.bind (M.bind ((md c a).b ρ) fun x => M.bind ((md c b).s ρ) fun y => getIx x y) fun d => M.of (truth d) := (rfl)
@[simp] theorem y_i_idx (a b : IE) : (md c (.idx a b)).i ρ = M.bind (M.bind ((md c a).b ρ) fun x => M.bind ((md c b).s ρ) fun y => getIx x y) fun d => M.of (itemsOf d) := (rfl)
@[simp] theorem y_m_idx (a b : IE) : (md c (.idx a b)).m ρ = M.bind (M.bind ((md c a).b ρ) fun x => M.bind ((md c b).s ρ) fun y => getIx x y) fun d => M.pure [d] := (rfl)
@[simp] theorem y_s_slc (a : IE) (lo hi : Option IE) : (md c (.slc a lo hi)).s ρ = M.bind ((md c a).b ρ) fun x => M.bind (part (mdo c lo) ρ) fun l => M.bind (part (mdo c hi) ρ) fun h => M.of (doSlc x l h) := (rfl)
@[simp] theorem y_b_slc (a : IE) (lo hi : Option IE) : (md c (.slc a lo hi)).b ρ = M.bind ((md c a).b ρ) fun x => M.bind (part (mdo c lo) ρ) fun l => M.bind (part (mdo c hi) ρ) fun h => M.of (doSlc x l h) := (rfl)
@[simp] theorem y_t_slc (a : IE) (lo hi : Option IE) : (md c (.slc a lo hi)).t ρ = M.bind (M.bind ((md c a).b ρ) fun x => M.bind (part (mdo c lo) ρ) fun l => M.bind (part (mdo c hi) ρ) fun h => M.of (doSlc x l h)) fun d => M.of (truth d) := (rfl)
@[simp] theorem y_i_slc (a : IE) (lo hi : Option IE) : (md c (.slc a lo hi)).i ρ = M.bind (M.bind ((md c a).b ρ) fun x => M.bind (part (mdo c lo) ρ) fun l => M.bind (part (mdo c hi) ρ) fun h => M.of (doSlc x l h)) fun d => M.of (itemsOf d) := (rfl)
@[simp] theorem y_m_slc (a : IE) (lo hi : Option IE) : (md c (.slc a lo hi)).m ρ = M.bind (M.bind ((md c a).b ρ) fun x => M.bind (part (mdo c lo) ρ) fun l => M.bind (part (mdo c hi) ρ) fun h => M.of (doSlc x l h)) fun d => M.pure [d] := (rfl)
@[simp] theorem y_s_rev (a : IE) : (md c (.rev a)).s ρ = M.bind ((md c a).b ρ) fun x => M.of (doRev x) := (rfl)
@[simp] theorem y_b_rev (a : IE) : (md c (.rev a)).b ρ = M.bind ((md c a).b ρ) fun x => M.of (doRev x) := (rfl)
@[simp] theorem y_t_rev (a : IE) : (md c (.rev a)).t ρ = M.bind (M.bind ((md c a).b ρ) fun x => M.of (doRev x)) fun d => M.of (truth d) := (rfl)
@[simp] theorem y_i_rev (a : IE) : (md c (.rev a)).i ρ = M.bind (M.bind ((md c a).b ρ) fun x => M.of (doRev x)) fun d => M.of (itemsOf d) := (rfl)
@[simp] theorem y_m_rev (a : IE) : (md c (.rev a)).m ρ = M.bind (M.bind ((md c a).b ρ) fun x => M.of (doRev x)) fun d => M.pure [d] := (rfl)
@[simp] theorem y_s_lc (own : List Nat) (elt : IE) (tg : Tg) (it : IE) (cond : Option IE) : (md c (.lc own elt tg it cond)).s ρ = M.bind ((md c it).i ρ) fun ds => M.bind (noExc (mapO (lcTurn ρ own tg (lcElt (cnd (mdo c cond)) (md c elt).s)) ds)) fun ys => M.of ((short ys).map .lst) := (rfl)
@[simp] theorem y_b_lc (own : List Nat) (elt : IE) (tg : Tg) (it : IE) (cond : Option IE) : (md c (.lc own elt tg it cond)).b ρ = M.bind ((md c it).i ρ) fun ds => M.bind (noExc (mapO (lcTurn ρ own tg (lcElt (cnd (mdo c cond)) (md c elt).s)) ds)) fun ys => M.of ((short ys).map .lst) := (rfl)
@[simp] theorem y_t_lc (own : List Nat) (elt : IE) (tg : Tg) (it : IE) (cond : Option IE) : (md c (.lc own elt tg it cond)).t ρ = M.bind (M.bind ((md c it).i ρ) fun ds => M.bind (noExc (mapO (lcTurn ρ own tg (lcElt (cnd (mdo c cond)) (md c elt).s)) ds)) fun ys => M.of ((short ys).map .lst)) fun d => M.of (truth d) := (rfl)
@[simp] theorem y_i_lc (own : List Nat) (elt : IE) (tg : Tg) (it : IE) (cond : Option IE) : (md c (.lc own elt tg it cond)).i ρ = M.bind (M.bind ((md c it).i ρ) fun ds => M.bind (noExc (mapO (lcTurn ρ own tg (lcElt (cnd (mdo c cond)) (md c elt).s)) ds)) fun ys => M.of ((short ys).map .lst)) fun d => M.of (itemsOf d) := (rfl)
@[simp] theorem y_m_lc (own : List Nat) (elt : IE) (tg : Tg) (it : IE) (cond : Option IE) : (md c (.lc own elt tg it cond)).m ρ = M.bind (M.bind ((md c it).i ρ) fun ds => M.bind (noExc (mapO (lcTurn ρ own tg (lcElt (cnd (mdo c cond)) (md c elt).s)) ds)) fun ys => M.of ((short ys).map .lst)) fun d => M.pure [d] := (rfl)
@[simp] theorem y_s_lc2 (own own1 : List Nat) (elt : IE) (tg : Tg) (it : IE) (tg1 : Tg) (it1 : IE) (cond : Option IE) : (md c (.lc2 own own1 elt tg it tg1 it1 cond)).s ρ = M.bind ((md c it).i ρ) fun ds => M.bind (noExc (mapO (lcTurn ρ own tg fun ρ1 => M.bind (iOf (md c it1).s ρ1) fun es => mapO (lcTurn ρ1 own1 tg1 (lcElt (cnd (mdo c cond)) (md c elt).s)) es) ds)) fun ys => M.of ((short ys).map .lst) := (rfl)
@[simp] theorem y_b_lc2 (own own1 : List Nat) (elt : IE) (tg : Tg) (it : IE) (tg1 : Tg) (it1 : IE) (cond : Option IE) : (md c (.lc2 own own1 elt tg it tg1 it1 cond)).b ρ = M.bind ((md c it).i ρ) fun ds => M.bind (noExc (mapO (lcTurn ρ own tg fun ρ1 => M.bind (iOf (md c it1).s ρ1) fun es => mapO (lcTurn ρ1 own1 tg1 (lcElt (cnd (mdo c cond)) (md c elt).s)) es) ds)) fun ys => M.of ((short ys).map .lst) := (rfl)
@[simp] theorem y_t_lc2 (own own1 : List Nat) (elt : IE) (tg : Tg) (it : IE) (tg1 : Tg) (it1 : IE) (cond : Option IE) : (md c (.lc2 own own1 elt tg it tg1 it1 cond)).t ρ = M.bind (M.bind ((md c it).i ρ) fun ds => M.bind (noExc (mapO (lcTurn ρ own tg fun ρ1 => M.bind (iOf (md c it1).s ρ1) fun es => mapO (lcTurn ρ1 own1 tg1 (lcElt (cnd (mdo c cond)) (md c elt).s)) es) ds)) fun ys => M.of ((short ys).map .lst)) fun d => M.of (truth d) := (rfl)
@[simp] theorem y_i_lc2 (own own1 : List Nat) (elt : IE) (tg : Tg) (it : IE) (tg1 : Tg) (it1 : IE) (cond : Option IE) : (md c (.lc2 own own1 elt tg it tg1 it1 cond)).i ρ = M.bind (M.bind ((md c it).i ρ) fun ds => M.bind (noExc (mapO (lcTurn ρ own tg fun ρ1 => M.bind (iOf (md c it1).s ρ1) fun es => mapO (lcTurn ρ1 own1 tg1 (lcElt (cnd (mdo c cond)) (md c elt).s)) es) ds)) fun ys => M.of ((short ys).map .lst)) fun d => M.of (itemsOf d) := (rfl)
@[simp] theorem y_m_lc2 (own own1 : List Nat) (elt : IE) (tg : Tg) (it : IE) (tg1 : Tg) (it1 : IE) (cond : Option IE) : (md c (.lc2 own own1 elt tg it tg1 it1 cond)).m ρ = M.bind (M.bind ((md c it).i ρ) fun ds => M.bind (noExc (mapO (lcTurn ρ own tg fun ρ1 => M.bind (iOf (md c it1).s ρ1) fun es => mapO (lcTurn ρ1 own1 tg1 (lcElt (cnd (mdo c cond)) (md c elt).s)) es) ds)) fun ys => M.of ((short ys).map .lst)) fun d => M.pure [d] := (rfl)
@[simp] theorem y_s_dic0  : (md c (.dic0)).s ρ = M.pure (.dic [] []) := (rfl)
@[simp] theorem y_b_dic0  : (md c (.dic0)).b ρ = M.pure (.dic [] []) := (rfl)
@[simp] theorem y_t_dic0  : (md c (.dic0)).t ρ = M.bind (M.pure (.dic [] [])) fun d => M.of (truth d) := (rfl)
@[simp] theorem y_i_dic0  : (md c (.dic0)).i ρ = M.bind (M.pure (.dic [] [])) fun d => M.of (itemsOf d) := (rfl)
@[simp] theorem y_m_dic0  : (md c (.dic0)).m ρ = M.bind (M.pure (.dic [] [])) fun d => M.pure [d] := (rfl)
@[simp] theorem y_s_dc (own : List Nat) (k v : IE) (tg : Tg) (it : IE) : (md c (.dc own k v tg it)).s ρ = M.bind ((md c it).i ρ) fun ds => noExc (dcLoop (fun d => M.bind (M.of (setTg (wipeE ρ own) tg d)) fun ρ1 => M.bind ((md c k).s ρ1) fun x => M.bind ((md c v).s ρ1) fun y => M.pure (x, y)) ds [] []) := (rfl)
@[simp] theorem y_b_dc (own : List Nat) (k v : IE) (tg : Tg) (it : IE) : (md c (.dc own k v tg it)).b ρ = M.bind ((md c it).i ρ) fun ds => noExc (dcLoop (fun d => M.bind (M.of (setTg (wipeE ρ own) tg d)) fun ρ1 => M.bind ((md c k).s ρ1) fun x => M.bind ((md c v).s ρ1) fun y => M.pure (x, y)) ds [] []) := (rfl)
@[simp] theorem y_t_dc (own : List Nat) (k v : IE) (tg : Tg) (it : IE) : (md c (.dc own k v tg it)).t ρ = M.bind (M.bind ((md c it).i ρ) fun ds => noExc (dcLoop (fun d => M.bind (M.of (setTg (wipeE ρ own) tg d)) fun ρ1 => M.bind ((md c k).s ρ1) fun x => M.bind ((md c v).s ρ1) fun y => M.pure (x, y)) ds [] [])) fun d => M.of (truth d) := (rfl)
@[simp] theorem y_i_dc (own : List Nat) (k v : IE) (tg : Tg) (it : IE) : (md c (.dc own k v tg it)).i ρ = M.bind (M.bind ((md c it).i ρ) fun ds => noExc (dcLoop (fun d => M.bind (M.of (setTg (wipeE ρ own) tg d)) fun ρ1 => M.bind ((md c k).s ρ1) fun x => M.bind ((md c v).s ρ1) fun y => M.pure (x, y)) ds [] [])) fun d => M.of (itemsOf d) := (rfl)
@[simp] theorem y_m_dc (own : List Nat) (k v : IE) (tg : Tg) (it : IE) : (md c (.dc own k v tg it)).m ρ = M.bind (M.bind ((md c it).i ρ) fun ds => noExc (dcLoop (fun d => M.bind (M.of (setTg (wipeE ρ own) tg d)) fun ρ1 => M.bind ((md c k).s ρ1) fun x => M.bind ((md c v).s ρ1) fun y => M.pure (x, y)) ds [] [])) fun d => M.pure [d] := (rfl)
@[simp] theorem y_s_dget (a b e : IE) : (md c (.dget a b e)).s ρ = M.bind ((md c a).b ρ) fun x => M.bind ((md c b).s ρ) fun y => M.bind ((md c e).s ρ) fun z => M.of (doGet x y z) := (rfl)
@[simp] theorem y_b_dget (a b e : IE) : (md c (.dget a b e)).b ρ = M.bind ((md c a).b ρ) fun x => M.bind ((md c b).s ρ) fun y => M.bind ((md c e).s ρ) fun z => M.of (doGet x y z) := (rfl)
@[simp] theorem y_t_dget (a b e : IE) : (md c (.dget a b e)).t ρ = M.bind (M.bind ((md c a).b ρ) fun x => M.bind ((md c b).s ρ) fun y => M.bind ((md c e).s ρ) fun z => M.of (doGet x y z)) fun d => M.of (truth d) := (rfl)
@[simp] theorem y_i_dget (a b e : IE) : (md c (.dget a b e)).i ρ = M.bind (M.bind ((md c a).b ρ) fun x => M.bind ((md c b).s ρ) fun y => M.bind ((md c e).s ρ) fun z => M.of (doGet x y z)) fun d => M.of (itemsOf d) := (rfl)
@[simp] theorem y_m_dget (a b e : IE) : (md c (.dget a b e)).m ρ = M.bind (M.bind ((md c a).b ρ) fun x => M.bind ((md c b).s ρ) fun y => M.bind ((md c e).s ρ) fun z => M.of (doGet x y z)) fun d => M.pure [d] := (rfl)
@[simp] theorem y_s_nox (e : IE) : (md c (.nox e)).s ρ = noExc ((md c e).s ρ) := (rfl)
@[simp] theorem y_b_nox (e : IE) : (md c (.nox e)).b ρ = noExc ((md c e).b ρ) := (rfl)
@[simp] theorem y_t_nox (e : IE) : (md c (.nox e)).t ρ = noExc ((md c e).t ρ) := (rfl)
@[simp] theorem y_i_nox (e : IE) : (md c (.nox e)).i ρ = noExc ((md c e).i ρ) := (rfl)
@[simp] theorem y_m_nox (e : IE) : (md c (.nox e)).m ρ = M.bind (noExc ((md c e).s ρ)) fun d => M.pure [d] := (rfl)
@[simp] theorem y_s_v (i : Nat) : (md c (.v i)).s ρ = M.of (getS ρ i) := (rfl)
@[simp] theorem y_b_v (i : Nat) : (md c (.v i)).b ρ = M.of (getB ρ i) := (rfl)
@[simp] theorem y_t_v (i : Nat) : (md c (.v i)).t ρ = M.bind (M.of (getB ρ i)) fun d => M.of (truth d) := (rfl)
@[simp] theorem y_i_v (i : Nat) : (md c (.v i)).i ρ = M.bind (M.of (getB ρ i)) fun d => M.of (itemsOf d) := (rfl)
@[simp] theorem y_m_v (i : Nat) : (md c (.v i)).m ρ = M.bind (M.of (getS ρ i)) fun d => M.pure [d] := (rfl)
@[simp] theorem y_m_star (e : IE) : (md c (.star e)).m ρ = M.bind ((md c e).b ρ) fun d => M.of (seqOf d) := (rfl)
@[simp] theorem y_s_and (a b : IE) : (md c (.and a b)).s ρ = M.bind ((md c a).s ρ) fun x => M.bind (M.of (truth x)) fun t => if t then (md c b).s ρ else M.pure x := (rfl)
@[simp] theorem y_b_and (a b : IE) : (md c (.and a b)).b ρ = M.bind ((md c a).s ρ) fun x => M.bind (M.of (truth x)) fun t => if t then (md c b).s ρ else M.pure x := (rfl)
@[simp] theorem y_m_and (a b : IE) : (md c (.and a b)).m ρ = M.bind (M.bind ((md c a).s ρ) fun x => M.bind (M.of (truth x)) fun t => if t then (md c b).s ρ else M.pure x) fun d => M.pure [d] := (rfl)
@[simp] theorem y_i_and (a b : IE) : (md c (.and a b)).i ρ = M.bind (M.bind ((md c a).s ρ) fun x => M.bind (M.of (truth x)) fun t => if t then (md c b).s ρ else M.pure x) fun d => M.of (itemsOf d) := (rfl)
@[simp] theorem y_s_or (a b : IE) : (md c (.or a b)).s ρ = M.bind ((md c a).s ρ) fun x => M.bind (M.of (truth x)) fun t => if t then M.pure x else (md c b).s ρ := (rfl)
@[simp] theorem y_b_or (a b : IE) : (md c (.or a b)).b ρ = M.bind ((md c a).s ρ) fun x => M.bind (M.of (truth x)) fun t => if t then M.pure x else (md c b).s ρ := (rfl)
@[simp] theorem y_m_or (a b : IE) : (md c (.or a b)).m ρ = M.bind (M.bind ((md c a).s ρ) fun x => M.bind (M.of (truth x)) fun t => if t then M.pure x else (md c b).s ρ) fun d => M.pure [d] := (rfl)
@[simp] theorem y_i_or (a b : IE) : (md c (.or a b)).i ρ = M.bind (M.bind ((md c a).s ρ) fun x => M.bind (M.of (truth x)) fun t => if t then M.pure x else (md c b).s ρ) fun d => M.of (itemsOf d) := (rfl)
@[simp] theorem y_t_and (a b : IE) : (md c (.and a b)).t ρ = M.bind ((md c a).t ρ) fun t => if t then (md c b).t ρ else M.pure false := (rfl)
@[simp] theorem y_t_or (a b : IE) : (md c (.or a b)).t ρ = M.bind ((md c a).t ρ) fun t => if t then M.pure true else (md c b).t ρ := (rfl)
@[simp] theorem y_s_not (a : IE) : (md c (.not a)).s ρ = M.bind ((md c a).b ρ) fun x => M.bind (M.of (truth x)) fun t => M.pure (.bl (!t)) := (rfl)
@[simp] theorem y_b_not (a : IE) : (md c (.not a)).b ρ = M.bind ((md c a).b ρ) fun x => M.bind (M.of (truth x)) fun t => M.pure (.bl (!t)) := (rfl)
@[simp] theorem y_m_not (a : IE) : (md c (.not a)).m ρ = M.bind (M.bind ((md c a).b ρ) fun x => M.bind (M.of (truth x)) fun t => M.pure (.bl (!t))) fun d => M.pure [d] := (rfl)
@[simp] theorem y_t_not (a : IE) : (md c (.not a)).t ρ = M.bind ((md c a).t ρ) fun t => M.pure (!t) := (rfl)
@[simp] theorem y_s_ite (e a b : IE) : (md c (.ite e a b)).s ρ = M.bind ((md c e).t ρ) fun t => if t then (md c a).s ρ else (md c b).s ρ := (rfl)
@[simp] theorem y_b_ite (e a b : IE) : (md c (.ite e a b)).b ρ = M.bind ((md c e).t ρ) fun t => if t then (md c a).s ρ else (md c b).s ρ := (rfl)
@[simp] theorem y_m_ite (e a b : IE) : (md c (.ite e a b)).m ρ = M.bind (M.bind ((md c e).t ρ) fun t => if t then (md c a).s ρ else (md c b).s ρ) fun d => M.pure [d] := (rfl)
@[simp] theorem y_i_ite (e a b : IE) : (md c (.ite e a b)).i ρ = M.bind (M.bind ((md c e).t ρ) fun t => if t then (md c a).s ρ else (md c b).s ρ) fun d => M.of (itemsOf d) := (rfl)
@[simp] theorem y_t_ite (e a b : IE) : (md c (.ite e a b)).t ρ = M.bind ((md c e).t ρ) fun t => if t then (md c a).t ρ else (md c b).t ρ := (rfl)
@[simp] theorem y_i_range (a : IE) : (md c (.range a)).i ρ = M.bind ((md c a).s ρ) fun x => M.of (rng1 x) := (rfl)
@[simp] theorem y_i_range2 (a b : IE) : (md c (.range2 a b)).i ρ = M.bind ((md c a).s ρ) fun x => M.bind ((md c b).s ρ) fun y => M.of (rng2 x y) := (rfl)
@[simp] theorem y_i_enum (a : IE) : (md c (.enum a)).i ρ = M.bind ((md c a).b ρ) fun x => M.of (enumOf x) := (rfl)
@[simp] theorem y_i_zip (a b : IE) : (md c (.zip a b)).i ρ = M.bind ((md c a).b ρ) fun x => M.bind ((md c b).b ρ) fun y => M.of (zipOf x y) := (rfl)
@[simp] theorem y_row_nil  : row (mds c []) ρ = M.pure [] := (rfl)
@[simp] theorem y_row_cons (e : IE) (es : List IE) : row (mds c (e :: es)) ρ = M.bind ((md c e).m ρ) fun xs => M.bind (row (mds c es) ρ) fun ys => M.pure (xs ++ ys) := (rfl)
@[simp] theorem y_part_none  : part (mdo c none) ρ = M.pure none := (rfl)
@[simp] theorem y_part_some (e : IE) : part (mdo c (some e)) ρ = M.bind ((md c e).s ρ) fun d => M.of ((intOf d).map some) := (rfl)
@[simp] theorem y_cnd_none  : cnd (mdo c none) ρ = M.pure true := (rfl)
@[simp] theorem y_cnd_some (e : IE) : cnd (mdo c (some e)) ρ = (md c e).t ρ := (rfl)
@[simp] theorem y_itS_range (a : IE) : itS c (.range a) ρ = M.bind ((md c a).s ρ) fun x => M.of (rng1 x) := (rfl)
@[simp] theorem y_itS_range2 (a b : IE) : itS c (.range2 a b) ρ = M.bind ((md c a).s ρ) fun x => M.bind ((md c b).s ρ) fun y => M.of (rng2 x y) := (rfl)
@[simp] theorem y_itS_enum (a : IE) : itS c (.enum a) ρ = M.bind ((md c a).s ρ) fun x => M.of (enumOf x) := (rfl)
@[simp] theorem y_itS_zip (a b : IE) : itS c (.zip a b) ρ = M.bind ((md c a).s ρ) fun x => M.bind ((md c b).s ρ) fun y => M.of (zipOf x y) := (rfl)
@[simp] theorem y_itS_k (d : D) : itS c (.k d) ρ = M.bind ((md c (.k d)).s ρ) fun d => M.of (itemsOf d) := (rfl)
@[simp] theorem y_itS_nox (e : IE) : itS c (.nox e) ρ = M.bind ((md c (.nox e)).s ρ) fun d => M.of (itemsOf d) := (rfl)
@[simp] theorem y_itS_fld (e : IE) (f : Nat) : itS c (.fld e f) ρ = M.bind ((md c (.fld e f)).s ρ) fun d => M.of (itemsOf d) := (rfl)
@[simp] theorem y_itS_isx (e : IE) (v : Bool) : itS c (.isx e v) ρ = M.bind ((md c (.isx e v)).s ρ) fun d => M.of (itemsOf d) := (rfl)
@[simp] theorem y_itS_g (n : Nat) : itS c (.g n) ρ = M.bind ((md c (.g n)).s ρ) fun d => M.of (itemsOf d) := (rfl)
@[simp] theorem y_itS_v (i : Nat) : itS c (.v i) ρ = M.bind ((md c (.v i)).s ρ) fun d => M.of (itemsOf d) := (rfl)
@[simp] theorem y_itS_tup (es : List IE) : itS c (.tup es) ρ = M.bind ((md c (.tup es)).s ρ) fun d => M.of (itemsOf d) := (rfl)
@[simp] theorem y_itS_lst (es : List IE) : itS c (.lst es) ρ = M.bind ((md c (.lst es)).s ρ) fun d => M.of (itemsOf d) := (rfl)
@[simp] theorem y_itS_call (f : Nat) (es : List IE) : itS c (.call f es) ρ = M.bind ((md c (.call f es)).s ρ) fun d => M.of (itemsOf d) := (rfl)
@[simp] theorem y_itS_callk (f : Nat) (es : List IE) (ks : List Nat) (kes : List IE) : itS c (.callk f es ks kes) ρ = M.bind ((md c (.callk f es ks kes)).s ρ) fun d => M.of (itemsOf d) := (rfl)
@[simp] theorem y_itS_b1 (op : B1) (e : IE) : itS c (.b1 op e) ρ = M.bind ((md c (.b1 op e)).s ρ) fun d => M.of (itemsOf d) := (rfl)
@[simp] theorem y_itS_dst (n : Bool) (e : IE) : itS c (.dst n e) ρ = M.bind ((md c (.dst n e)).s ρ) fun d => M.of (itemsOf d) := (rfl)
@[simp] theorem y_itS_mn0 (e : IE) : itS c (.mn0 e) ρ = M.bind ((md c (.mn0 e)).s ρ) fun d => M.of (itemsOf d) := (rfl)
@[simp] theorem y_itS_b2 (op : B2) (a b : IE) : itS c (.b2 op a b) ρ = M.bind ((md c (.b2 op a b)).s ρ) fun d => M.of (itemsOf d) := (rfl)
@[simp] theorem y_itS_isi (e : IE) (t : Bool) (cs : List Cls) : itS c (.isi e t cs) ρ = M.bind ((md c (.isi e t cs)).s ρ) fun d => M.of (itemsOf d) := (rfl)
@[simp] theorem y_itS_bin (op : Bin) (a b : IE) : itS c (.bin op a b) ρ = M.bind ((md c (.bin op a b)).s ρ) fun d => M.of (itemsOf d) := (rfl)
@[simp] theorem y_itS_neg (a : IE) : itS c (.neg a) ρ = M.bind ((md c (.neg a)).s ρ) fun d => M.of (itemsOf d) := (rfl)
@[simp] theorem y_itS_cmp (op : Cmp) (a b : IE) : itS c (.cmp op a b) ρ = M.bind ((md c (.cmp op a b)).s ρ) fun d => M.of (itemsOf d) := (rfl)
@[simp] theorem y_itS_chain (op op1 : Cmp) (a b e : IE) : itS c (.chain op op1 a b e) ρ = M.bind ((md c (.chain op op1 a b e)).s ρ) fun d => M.of (itemsOf d) := (rfl)
@[simp] theorem y_itS_and (a b : IE) : itS c (.and a b) ρ = M.bind ((md c (.and a b)).s ρ) fun d => M.of (itemsOf d) := (rfl)
@[simp] theorem y_itS_or (a b : IE) : itS c (.or a b) ρ = M.bind ((md c (.or a b)).s ρ) fun d => M.of (itemsOf d) := (rfl)
@[simp] theorem y_itS_not (a : IE) : itS c (.not a) ρ = M.bind ((md c (.not a)).s ρ) fun d => M.of (itemsOf d) := (rfl)
@[simp] theorem y_itS_ite (e a b : IE) : itS c (.ite e a b) ρ = M.bind ((md c (.ite e a b)).s ρ) fun d => M.of (itemsOf d) := (rfl)
@[simp] theorem y_itS_idx (a b : IE) : itS c (.idx a b) ρ = M.bind ((md c (.idx a b)).s ρ) fun d => M.of (itemsOf d) := (rfl)
@[simp] theorem y_itS_slc (a : IE) (lo hi : Option IE) : itS c (.slc a lo hi) ρ = M.bind ((md c (.slc a lo hi)).s ρ) fun d => M.of (itemsOf d) := (rfl)
@[simp] theorem y_itS_rev (a : IE) : itS c (.rev a) ρ = M.bind ((md c (.rev a)).s ρ) fun d => M.of (itemsOf d) := (rfl)
@[simp] theorem y_itS_lc (own : List Nat) (elt : IE) (tg : Tg) (it : IE) (cond : Option IE) : itS c (.lc own elt tg it cond) ρ = M.bind ((md c (.lc own elt tg it cond)).s ρ) fun d => M.of (itemsOf d) := (rfl)
@[simp] theorem y_itS_lc2 (own own1 : List Nat) (elt : IE) (tg : Tg) (it : IE) (tg1 : Tg) (it1 : IE) (cond : Option IE) : itS c (.lc2 own own1 elt tg it tg1 it1 cond) ρ = M.bind ((md c (.lc2 own own1 elt tg it tg1 it1 cond)).s ρ) fun d => M.of (itemsOf d) := (rfl)
@[simp] theorem y_itS_dic0  : itS c (.dic0) ρ = M.bind ((md c (.dic0)).s ρ) fun d => M.of (itemsOf d) := (rfl)
@[simp] theorem y_itS_dc (own : List Nat) (k v : IE) (tg : Tg) (it : IE) : itS c (.dc own k v tg it) ρ = M.bind ((md c (.dc own k v tg it)).s ρ) fun d => M.of (itemsOf d) := (rfl)
@[simp] theorem y_itS_dget (a b e : IE) : itS c (.dget a b e) ρ = M.bind ((md c (.dget a b e)).s ρ) fun d => M.of (itemsOf d) := (rfl)
@[simp] theorem y_x_set (tg : Tg) (e : IE) : xs c (.set tg e) ρ = M.bind ((md c e).s ρ) fun d => nxt (M.of (setTg ρ tg d)) := (rfl)
@[simp] theorem y_x_own (i : Nat) (e : IE) : xs c (.own i e) ρ = M.bind ((md c e).s ρ) fun d => if mutD d then M.pure (.nx (setS ρ i d true)) else M.stuck := (rfl)
@[simp] theorem y_x_par (is : List Nat) (os : List Bool) (es : List IE) : xs c (.par is os es) ρ = M.bind (row (mds c es) ρ) fun ds => nxt (M.of (setPar ρ is os ds)) := (rfl)
@[simp] theorem y_x_frz (i : Nat) : xs c (.frz i) ρ = nxt (M.of (frzS ρ i)) := (rfl)
@[simp] theorem y_x_ret (e : IE) : xs c (.ret e) ρ = M.bind ((md c e).s ρ) fun d => M.pure (.rt d) := (rfl)
@[simp] theorem y_x_ife (e : IE) (a b : List IS) : xs c (.ife e a b) ρ = M.bind ((md c e).t ρ) fun t => if t then xb c a ρ else xb c b ρ := (rfl)
@[simp] theorem y_x_for_ (tg : Tg) (it : IE) (body : List IS) : xs c (.for_ tg it body) ρ = M.bind (itS c it ρ) fun ds => forLoop tg (xb c body) ds ρ := (rfl)
@[simp] theorem y_x_while_ (e : IE) (body : List IS) : xs c (.while_ e body) ρ = whileLoop (md c e).t (xb c body) c.turns ρ := (rfl)
@[simp] theorem y_x_app (i : Nat) (e : IE) : xs c (.app i e) ρ = M.bind ((md c e).s ρ) fun d => nxt (M.of (ownPut ρ i fun xs => short (xs ++ [d]))) := (rfl)
@[simp] theorem y_x_ext (i : Nat) (e : IE) : xs c (.ext i e) ρ = M.bind ((md c e).b ρ) fun d => M.bind (M.of (seqOf d)) fun ys => nxt (M.of (ownPut ρ i fun xs => short (xs ++ ys))) := (rfl)
@[simp] theorem y_x_appPop (i j : Nat) (e : IE) : xs c (.appPop i j e) ρ = M.bind ((md c e).s ρ) fun n => M.bind (M.of ((intOf n).bind (popAt ρ j))) fun p => nxt (M.of (ownPut p.2 i fun xs => short (xs ++ [p.1]))) := (rfl)
@[simp] theorem y_x_pop (t j : Nat) : xs c (.pop t j) ρ = M.bind (M.of (popAt ρ j (-1))) fun p => M.pure (.nx (setS p.2 t p.1 false)) := (rfl)
@[simp] theorem y_x_popI (t j : Nat) (e : IE) : xs c (.popI t j e) ρ = M.bind ((md c e).s ρ) fun n => M.bind (M.of ((intOf n).bind (popAt ρ j))) fun p => M.pure (.nx (setS p.2 t p.1 false)) := (rfl)
@[simp] theorem y_x_seti (i : Nat) (a b : IE) : xs c (.seti i a b) ρ = M.bind ((md c b).s ρ) fun y => M.bind ((md c a).s ρ) fun x => nxt (putIx ρ i x y) := (rfl)
@[simp] theorem y_x_ex (e : IE) : xs c (.ex e) ρ = M.bind ((md c e).s ρ) fun _ => M.pure (.nx ρ) := (rfl)
@[simp] theorem y_x_pass  : xs c (.pass) ρ = M.pure (.nx ρ) := (rfl)
@[simp] theorem y_x_setX (tg : Tg) (e : IE) : xs c (.setX tg e) ρ = tryX (mx c e ρ) ρ fun d => nxt (M.of (setTg ρ tg d)) := (rfl)
@[simp] theorem y_x_exX (e : IE) : xs c (.exX e) ρ = tryX (mx c e ρ) ρ fun _ => M.pure (.nx ρ) := (rfl)
@[simp] theorem y_x_retX (e : IE) : xs c (.retX e) ρ = tryX (mx c e ρ) ρ fun d => M.pure (.rt d) := (rfl)
@[simp] theorem y_x_raise_ (k : Nat) (es : List IE) : xs c (.raise_ k es) ρ = M.bind (row (mds c es) ρ) fun ds => M.pure (.er ρ k ds) := (rfl)
@[simp] theorem y_x_raises  : xs c (.raises) ρ = M.pure (.nx ρ) := (rfl)
@[simp] theorem y_x_try_ (body : List IS) (hs : List Hd) : xs c (.try_ body hs) ρ = M.bind (xb c body ρ) (caught hs) := (rfl)
@[simp] theorem y_mx_call (f : Nat) (es : List IE) : mx c (.call f es) ρ = M.bind (noExc (row (mds c es) ρ)) fun ds => c.call f ds := (rfl)
@[simp] theorem y_mx_ite (e a b : IE) : mx c (.ite e a b) ρ = M.bind (noExc ((md c e).t ρ)) fun t => if t then mx c a ρ else mx c b ρ := (rfl)
@[simp] theorem y_mx_k (d : D) : mx c (.k d) ρ = noExc ((md c (.k d)).s ρ) := (rfl)
@[simp] theorem y_mx_nox (e : IE) : mx c (.nox e) ρ = noExc ((md c (.nox e)).s ρ) := (rfl)
@[simp] theorem y_mx_fld (e : IE) (f : Nat) : mx c (.fld e f) ρ = noExc ((md c (.fld e f)).s ρ) := (rfl)
@[simp] theorem y_mx_isx (e : IE) (v : Bool) : mx c (.isx e v) ρ = noExc ((md c (.isx e v)).s ρ) := (rfl)
@[simp] theorem y_mx_g (n : Nat) : mx c (.g n) ρ = noExc ((md c (.g n)).s ρ) := (rfl)
@[simp] theorem y_mx_v (i : Nat) : mx c (.v i) ρ = noExc ((md c (.v i)).s ρ) := (rfl)
@[simp] theorem y_mx_tup (es : List IE) : mx c (.tup es) ρ = noExc ((md c (.tup es)).s ρ) := (rfl)
@[simp] theorem y_mx_lst (es : List IE) : mx c (.lst es) ρ = noExc ((md c (.lst es)).s ρ) := (rfl)
@[simp] theorem y_mx_callk (f : Nat) (es : List IE) (ks : List Nat) (kes : List IE) : mx c (.callk f es ks kes) ρ = noExc ((md c (.callk f es ks kes)).s ρ) := (rfl)
@[simp] theorem y_mx_b1 (op : B1) (e : IE) : mx c (.b1 op e) ρ = noExc ((md c (.b1 op e)).s ρ) := (rfl)
@[simp] theorem y_mx_dst (n : Bool) (e : IE) : mx c (.dst n e) ρ = noExc ((md c (.dst n e)).s ρ) := (rfl)
@[simp] theorem y_mx_mn0 (e : IE) : mx c (.mn0 e) ρ = noExc ((md c (.mn0 e)).s ρ) := (rfl)
@[simp] theorem y_mx_b2 (op : B2) (a b : IE) : mx c (.b2 op a b) ρ = noExc ((md c (.b2 op a b)).s ρ) := (rfl)
@[simp] theorem y_mx_isi (e : IE) (t : Bool) (cs : List Cls) : mx c (.isi e t cs) ρ = noExc ((md c (.isi e t cs)).s ρ) := (rfl)
@[simp] theorem y_mx_bin (op : Bin) (a b : IE) : mx c (.bin op a b) ρ = noExc ((md c (.bin op a b)).s ρ) := (rfl)
@[simp] theorem y_mx_neg (a : IE) : mx c (.neg a) ρ = noExc ((md c (.neg a)).s ρ) := (rfl)
@[simp] theorem y_mx_cmp (op : Cmp) (a b : IE) : mx c (.cmp op a b) ρ = noExc ((md c (.cmp op a b)).s ρ) := (rfl)
@[simp] theorem y_mx_chain (op op1 : Cmp) (a b e : IE) : mx c (.chain op op1 a b e) ρ = noExc ((md c (.chain op op1 a b e)).s ρ) := (rfl)
@[simp] theorem y_mx_and (a b : IE) : mx c (.and a b) ρ = noExc ((md c (.and a b)).s ρ) := (rfl)
@[simp] theorem y_mx_or (a b : IE) : mx c (.or a b) ρ = noExc ((md c (.or a b)).s ρ) := (rfl)
@[simp] theorem y_mx_not (a : IE) : mx c (.not a) ρ = noExc ((md c (.not a)).s ρ) := (rfl)
@[simp] theorem y_mx_idx (a b : IE) : mx c (.idx a b) ρ = noExc ((md c (.idx a b)).s ρ) := (rfl)
@[simp] theorem y_mx_slc (a : IE) (lo hi : Option IE) : mx c (.slc a lo hi) ρ = noExc ((md c (.slc a lo hi)).s ρ) := (rfl)
@[simp] theorem y_mx_rev (a : IE) : mx c (.rev a) ρ = noExc ((md c (.rev a)).s ρ) := (rfl)
@[simp] theorem y_mx_lc (own : List Nat) (elt : IE) (tg : Tg) (it : IE) (cond : Option IE) : mx c (.lc own elt tg it cond) ρ = noExc ((md c (.lc own elt tg it cond)).s ρ) := (rfl)
@[simp] theorem y_mx_lc2 (own own1 : List Nat) (elt : IE) (tg : Tg) (it : IE) (tg1 : Tg) (it1 : IE) (cond : Option IE) : mx c (.lc2 own own1 elt tg it tg1 it1 cond) ρ = noExc ((md c (.lc2 own own1 elt tg it tg1 it1 cond)).s ρ) := (rfl)
@[simp] theorem y_mx_dic0  : mx c (.dic0) ρ = noExc ((md c (.dic0)).s ρ) := (rfl)
@[simp] theorem y_mx_dc (own : List Nat) (k v : IE) (tg : Tg) (it : IE) : mx c (.dc own k v tg it) ρ = noExc ((md c (.dc own k v tg it)).s ρ) := (rfl)
@[simp] theorem y_mx_dget (a b e : IE) : mx c (.dget a b e) ρ = noExc ((md c (.dget a b e)).s ρ) := (rfl)
@[simp] theorem y_xb_nil_  : xb c [] ρ = M.pure (.nx ρ) := (rfl)
@[simp] theorem y_xb_cons_ (s : IS) (ss : List IS) : xb c (s :: ss) ρ = M.bind (xs c s ρ) (onNx (xb c ss)) := (rfl)
end
end Wy

set_option autoImplicit false
set_option linter.all false
namespace Wy
/-! M as a monad, by equations -/
@[simp] theorem bind_pure_ {α β : Type} (a : α) (f : α → M β) : M.bind (M.pure a) f = f a := (rfl)
@[simp] theorem bind_id {α : Type} (m : M α) : M.bind m (fun a => M.pure a) = m := by
  funext st; unfold M.bind M.pure; cases m st <;> rfl
@[simp] theorem bind_assoc_ {α β γ : Type} (m : M α) (f : α → M β) (g : β → M γ) : M.bind (M.bind m f) g = M.bind m (fun a => M.bind (f a) g) := by
  funext st; unfold M.bind; cases m st <;> rfl
@[simp] theorem of_some_ {α : Type} (a : α) : M.of (some a) = M.pure a := (rfl)
@[simp] theorem noExc_pure {α : Type} (a : α) : noExc (M.pure a) = M.pure a := (rfl)
@[simp] theorem ite_pure {α : Type} {c : Prop} [Decidable c] (a b : α) : (if c then M.pure a else M.pure b) = M.pure (if c then a else b) := by split <;> rfl
@[simp] theorem ite_bind {α β : Type} {c : Prop} [Decidable c] (a b : M α) (f : α → M β) : M.bind (if c then a else b) f = if c then M.bind a f else M.bind b f := by split <;> rfl
@[simp] theorem onNx_nx (f : Env → M Out) (ρ : Env) : onNx f (.nx ρ) = f ρ := (rfl)
@[simp] theorem onNx_rt (f : Env → M Out) (d : D) : onNx f (.rt d) = M.pure (.rt d) := (rfl)
@[simp] theorem onNx_ite {c : Prop} [Decidable c] (f : Env → M Out) (a b : Out) : onNx f (if c then a else b) = if c then onNx f a else onNx f b := by split <;> rfl
@[simp] theorem onNx_er (f : Env → M Out) (ρ : Env) (k : Nat) (ys : List D) : onNx f (.er ρ k ys) = M.pure (.er ρ k ys) := (rfl)
@[simp] theorem finO_rt (d : D) : finO (.rt d) = M.pure d := (rfl)
@[simp] theorem finO_nx (ρ : Env) : finO (.nx ρ) = M.pure .non := (rfl)
@[simp] theorem finO_er (ρ : Env) (k : Nat) (ys : List D) : finO (.er ρ k ys) = M.stuck := (rfl)
@[simp] theorem finX_rt (d : D) : finX (.rt d) = M.pure d := (rfl)
@[simp] theorem finX_nx (ρ : Env) : finX (.nx ρ) = M.pure .non := (rfl)
@[simp] theorem finX_er (ρ : Env) (k : Nat) (ys : List D) : finX (.er ρ k ys) = M.exc k ys := (rfl)
@[simp] theorem finX_ite {c : Prop} [Decidable c] (a b : Out) : finX (if c then a else b) = if c then finX a else finX b := by split <;> rfl
@[simp] theorem finO_ite {c : Prop} [Decidable c] (a b : Out) : finO (if c then a else b) = if c then finO a else finO b := by split <;> rfl
@[simp] theorem noExc_no {α : Type} (m : M α) : noExc (noExc m) = noExc m := by funext st; unfold noExc; cases m st <;> rfl
@[simp] theorem noExc_exc {α : Type} (k : Nat) (ys : List D) : noExc (M.exc k ys : M α) = M.stuck := (rfl)
@[simp] theorem bind_exc {α β : Type} (k : Nat) (ys : List D) (f : α → M β) : M.bind (M.exc k ys) f = M.exc k ys := (rfl)
@[simp] theorem tryX_pure (d : D) (ρ : Env) (f : D → M Out) : tryX (M.pure d) ρ f = f d := (rfl)
@[simp] theorem tryX_exc (k : Nat) (ys : List D) (ρ : Env) (f : D → M Out) : tryX (M.exc k ys) ρ f = M.pure (.er ρ k ys) := (rfl)
@[simp] theorem tryX_ite {c : Prop} [Decidable c] (a b : M D) (ρ : Env) (f : D → M Out) : tryX (if c then a else b) ρ f = if c then tryX a ρ f else tryX b ρ f := by split <;> rfl
@[simp] theorem caught_nx (hs : List Hd) (ρ : Env) : caught hs (.nx ρ) = M.pure (.nx ρ) := (rfl)
@[simp] theorem caught_rt (hs : List Hd) (d : D) : caught hs (.rt d) = M.pure (.rt d) := (rfl)
@[simp] theorem caught_er (hs : List Hd) (ρ : Env) (k : Nat) (ys : List D) : caught hs (.er ρ k ys) = handle hs ρ k ys := (rfl)
@[simp] theorem caught_ite {c : Prop} [Decidable c] (hs : List Hd) (a b : Out) : caught hs (if c then a else b) = if c then caught hs a else caught hs b := by split <;> rfl
@[simp] theorem handle_nil (ρ : Env) (k : Nat) (ys : List D) : handle [] ρ k ys = M.pure (.er ρ k ys) := (rfl)
@[simp] theorem handle_cons (h : Hd) (hs : List Hd) (ρ : Env) (k : Nat) (ys : List D) : handle (h :: hs) ρ k ys = if Nat.beq h.k k then h.run ρ ys else handle hs ρ k ys := (rfl)
@[simp] theorem run_set (j : Nat) (nm : Option Nat) (t : Nat) (e : HX) (ρ : Env) (ys : List D) : (Hd.mk j nm (.set t e)).run ρ ys = M.bind (M.of (hxOf ys e)) fun d => M.pure (.nx ((Hd.mk j nm (.set t e)).drop (setS ρ t d false))) := (rfl)
@[simp] theorem run_ret (j : Nat) (nm : Option Nat) (e : HX) (ρ : Env) (ys : List D) : (Hd.mk j nm (.ret e)).run ρ ys = M.bind (M.of (hxOf ys e)) fun d => M.pure (.rt d) := (rfl)
@[simp] theorem run_keep (j : Nat) (nm : Option Nat) (t : Nat) (ρ : Env) (ys : List D) : (Hd.mk j nm (.keep t)).run ρ ys = M.pure (.nx ((Hd.mk j nm (.keep t)).drop (setS ρ t (.err j ys) false))) := (rfl)
@[simp] theorem drop_some (j i : Nat) (a : HAct) (ρ : Env) : (Hd.mk j (some i) a).drop ρ = ρ.set i none := (rfl)
@[simp] theorem drop_none (j : Nat) (a : HAct) (ρ : Env) : (Hd.mk j none a).drop ρ = ρ := (rfl)
@[simp] theorem doFld_ (k : Nat) (ys : List D) (f : Nat) : doFld (.err k ys) f = (ixOf f (exFi k)).bind fun i => ys[i]? := (rfl)
@[simp] theorem doIsx_ (k : Nat) (ys : List D) (v : Bool) : doIsx (.err k ys) v = some (.bl (exV k == v)) := (rfl)
@[simp] theorem hxOf_one (ys : List D) (a : HA) : hxOf ys (.one a) = haOf ys a := (rfl)
@[simp] theorem hxOf_lst (ys : List D) (as : List HA) : hxOf ys (.lst as) = (hasOf ys as).map .lst := (rfl)
@[simp] theorem hxOf_tup (ys : List D) (as : List HA) : hxOf ys (.tup as) = (hasOf ys as).map .tup := (rfl)
@[simp] theorem haOf_k (ys : List D) (d : D) : haOf ys (.k d) = some d := (rfl)
@[simp] theorem haOf_f (ys : List D) (n : Nat) : haOf ys (.f n) = ys[n]? := (rfl)
@[simp] theorem hasOf_nil (ys : List D) : hasOf ys [] = some [] := (rfl)
@[simp] theorem hasOf_cons (ys : List D) (a : HA) (as : List HA) : hasOf ys (a :: as) = (haOf ys a).bind fun d => (hasOf ys as).map (d :: ·) := (rfl)
@[simp] theorem nxt_ (m : M Env) : nxt m = M.bind m fun ρ => M.pure (.nx ρ) := (rfl)
@[simp] theorem pure_inj {α : Type} {a b : α} : M.pure a = M.pure b ↔ a = b := by
  constructor
  · intro h
    have := congrFun h []
    unfold M.pure at this
    cases this
    rfl
  · intro h; rw [h]
/-- what a def's body runs in -/
def cx (p : Prog) (n : Nat) : Ctx := ⟨p.run (n - 1), fun i => p.glob[i]?, p.turns⟩
@[simp] theorem cx_call (p : Prog) (n : Nat) : (cx p n).call = p.run (n - 1) := (rfl)
@[simp] theorem cx_glob (p : Prog) (n i : Nat) : (cx p n).glob i = p.glob[i]? := (rfl)
@[simp] theorem cx_turns (p : Prog) (n : Nat) : (cx p n).turns = p.turns := (rfl)
/-- one call -/
theorem run_eqF {p : Prog} {i n : Nat} {F : Fn} {ds : List D} (hF : p.fns[i]? = some F) (hn : 0 < n) (hl : ds.length = F.np) :
    p.run n i ds = M.bind (xb (cx p n) F.body (startE F.np F.ns ds)) (finF F.body) := by
  cases n with
  | zero => omega
  | succ n =>
    show (match p.fns[i]? with | some F => _ | none => _) = _
    rw [hF]
    show (if ds.length = F.np then _ else _) = _
    rw [if_pos hl]
    rfl
theorem run_eq {p : Prog} {i n : Nat} {F : Fn} {ds : List D} (hF : p.fns[i]? = some F) (hn : 0 < n) (hl : ds.length = F.np) (hx : raisesB F.body = false := by rfl) :
    p.run n i ds = M.bind (xb (cx p n) F.body (startE F.np F.ns ds)) finO := by
  rw [run_eqF hF hn hl, finF, if_neg (by rw [hx]; decide)]
theorem run_eqX {p : Prog} {i n : Nat} {F : Fn} {ds : List D} (hF : p.fns[i]? = some F) (hn : 0 < n) (hl : ds.length = F.np) (hx : raisesB F.body = true := by rfl) :
    p.run n i ds = M.bind (xb (cx p n) F.body (startE F.np F.ns ds)) finX := by
  rw [run_eqF hF hn hl, finF, if_pos hx]
/-! environments -/
@[simp] theorem startE_ (np ns : Nat) (ds : List D) : startE np ns ds = ds.map (fun d => some (d, false)) ++ List.replicate (ns - np) none := (rfl)
@[simp] theorem getB_0 (d : D) (o : Bool) (ρ : Env) : getB (some (d, o) :: ρ) 0 = some d := (rfl)
@[simp] theorem getB_s (x : Slot) (ρ : Env) (i : Nat) : getB (x :: ρ) (i + 1) = getB ρ i := (rfl)
@[simp] theorem getS_0 (d : D) (ρ : Env) : getS (some (d, false) :: ρ) 0 = some d := (rfl)
@[simp] theorem getS_s (x : Slot) (ρ : Env) (i : Nat) : getS (x :: ρ) (i + 1) = getS ρ i := (rfl)
@[simp] theorem setS_ (ρ : Env) (i : Nat) (d : D) (o : Bool) : setS ρ i d o = ρ.set i (some (d, o)) := (rfl)
@[simp] theorem setTg_n (ρ : Env) (i : Nat) (d : D) : setTg ρ (.n i) d = some (ρ.set i (some (d, false))) := (rfl)
@[simp] theorem setTg_t (ρ : Env) (is : List Nat) (ds : List D) : setTg ρ (.t is) (.tup ds) = setMany ρ is ds := (rfl)
@[simp] theorem setTg_tl (ρ : Env) (is : List Nat) (ds : List D) : setTg ρ (.t is) (.lst ds) = setMany ρ is ds := (rfl)
@[simp] theorem setTg_te (ρ : Env) (is : List Nat) (c : Nat) (ds : List D) : setTg ρ (.t is) (.exc c ds) = setMany ρ is ds := (rfl)
@[simp] theorem setMany_nil (ρ : Env) : setMany ρ [] [] = some ρ := (rfl)
@[simp] theorem setMany_cons (ρ : Env) (i : Nat) (is : List Nat) (d : D) (ds : List D) : setMany ρ (i :: is) (d :: ds) = setMany (ρ.set i (some (d, false))) is ds := (rfl)
@[simp] theorem wipeE_nil (ρ : Env) : wipeE ρ [] = ρ := (rfl)
@[simp] theorem wipeE_cons (ρ : Env) (i : Nat) (is : List Nat) : wipeE ρ (i :: is) = (wipeE ρ is).set i none := (rfl)
@[simp] theorem frzS_0 (d : D) (o : Bool) (ρ : Env) : frzS (some (d, o) :: ρ) 0 = some (some (d, false) :: ρ) := (rfl)
@[simp] theorem frzS_s (x : Slot) (ρ : Env) (i : Nat) : frzS (x :: ρ) (i + 1) = (frzS ρ i).map (x :: ·) := by
  unfold frzS
  simp only [List.getElem?_cons_succ]
  cases h : ρ[i]?.join with
  | none => rfl
  | some q => rfl

@[simp] theorem seqOf_t (l : List D) : seqOf (.tup l) = some l := (rfl)
@[simp] theorem seqOf_l (l : List D) : seqOf (.lst l) = some l := (rfl)
@[simp] theorem itemsOf_t (l : List D) : itemsOf (.tup l) = some l := (rfl)
@[simp] theorem itemsOf_l (l : List D) : itemsOf (.lst l) = some l := (rfl)
@[simp] theorem truth_bl (b : Bool) : truth (.bl b) = some b := (rfl)
@[simp] theorem truth_t (l : List D) : truth (.tup l) = some (!l.isEmpty) := (rfl)
@[simp] theorem truth_l (l : List D) : truth (.lst l) = some (!l.isEmpty) := (rfl)
@[simp] theorem truth_i (i : Int) : truth (.int i) = some (i != 0) := (rfl)
@[simp] theorem lcTurn_ (ρ : Env) (own : List Nat) (tg : Tg) (f : Env → M (List D)) (d : D) : lcTurn ρ own tg f d = M.bind (M.of (setTg (wipeE ρ own) tg d)) f := (rfl)
@[simp] theorem lcElt_ (cond : Env → M Bool) (elt : Env → M D) (ρ : Env) : lcElt cond elt ρ = M.bind (cond ρ) fun t => if t then M.bind (elt ρ) fun y => M.pure [y] else M.pure [] := (rfl)
/-! rows: over a list of things -/
def mapA {α : Type} (f : α → M (List D)) : List α → M (List D)
  | [] => M.pure []
  | x :: xs => M.bind (f x) fun y => M.bind (mapA f xs) fun ys => M.pure (y ++ ys)
@[simp] theorem mapO_map {α : Type} (f : D → M (List D)) (e : α → D) (l : List α) : mapO f (l.map e) = mapA (fun a => f (e a)) l := by
  induction l with
  | nil => rfl
  | cons a l ih => show M.bind _ _ = M.bind _ _; rw [ih]
@[simp] theorem mapO_nil (f : D → M (List D)) : mapO f [] = M.pure [] := (rfl)
@[simp] theorem mapO_cons (f : D → M (List D)) (x : D) (xs : List D) : mapO f (x :: xs) = M.bind (f x) fun y => M.bind (mapO f xs) fun ys => M.pure (y ++ ys) := (rfl)
@[simp] theorem mapA_pure {α : Type} (g : α → List D) (l : List α) : mapA (fun a => M.pure (g a)) l = M.pure (l.flatMap g) := by
  induction l with
  | nil => rfl
  | cons a l ih => show M.bind _ _ = _; rw [ih]; rfl
theorem mapA_congr {α : Type} {f g : α → M (List D)} {l l2 : List α} (hl : l = l2) (h : ∀ a, a ∈ l2 → f a = g a) : mapA f l = mapA g l2 := by
  subst hl
  induction l with
  | nil => rfl
  | cons a l ih => show M.bind _ _ = M.bind _ _; rw [h a List.mem_cons_self, ih fun b hb => h b (List.mem_cons_of_mem _ hb)]
@[simp] theorem flatMap_one {α β : Type} (f : α → β) (l : List α) : l.flatMap (fun a => [f a]) = l.map f := by
  induction l with
  | nil => rfl
  | cons a l ih => simp [List.flatMap_cons, ih]
@[simp] theorem flatMap_if {α β : Type} (p : α → Bool) (f : α → β) (l : List α) : l.flatMap (fun a => if p a = true then [f a] else []) = (l.filter p).map f := by
  induction l with
  | nil => rfl
  | cons a l ih => rw [List.flatMap_cons, ih, List.filter_cons]; split <;> simp
@[simp low] theorem flatMap_ifP {α β : Type} (P : α → Prop) [DecidablePred P] (f : α → β) (l : List α) : l.flatMap (fun a => if P a then [f a] else []) = (l.filter fun a => decide (P a)).map f := by
  induction l with
  | nil => rfl
  | cons a l ih => rw [List.flatMap_cons, ih, List.filter_cons]; by_cases h : P a <;> simp [h]
@[simp low] theorem flatMap_ifN {α β : Type} (P : α → Prop) [DecidablePred P] (f : α → β) (l : List α) : l.flatMap (fun a => if P a then [] else [f a]) = (l.filter fun a => !decide (P a)).map f := by
  induction l with
  | nil => rfl
  | cons a l ih => rw [List.flatMap_cons, ih, List.filter_cons]; by_cases h : P a <;> simp [h]
@[simp] theorem one_lt_cast_ (n : Nat) : ((1 : Int) < (n : Int)) ↔ 1 < n := by omega
@[simp] theorem short_ok_ {xs : List D} (h : xs.length ≤ 16000000) : short xs = some xs := by
  unfold short sizeMax
  rw [if_pos (Nat.ble_eq_true_of_le h)]
@[simp] theorem bools_map {α : Type} (f : α → Bool) (l : List α) : dBools (l.map fun a => .bl (f a)) = some (l.map f) := by
  induction l with
  | nil => rfl
  | cons a l ih => show (dBools (l.map fun a => .bl (f a))).map _ = _; rw [ih]; rfl
@[simp] theorem b1_all (l : List D) : doB1 .all (.lst l) = (dBools l).map fun bs => .bl (bs.all id) := (rfl)
@[simp] theorem b1_any (l : List D) : doB1 .any (.lst l) = (dBools l).map fun bs => .bl (bs.any id) := (rfl)
@[simp] theorem b1_tuple (l : List D) : doB1 .tuple (.lst l) = some (.tup l) := (rfl)
@[simp] theorem b1_tuple_t (l : List D) : doB1 .tuple (.tup l) = some (.tup l) := (rfl)
@[simp] theorem b1_list (l : List D) : doB1 .list (.lst l) = some (.lst l) := (rfl)
@[simp] theorem b1_list_t (l : List D) : doB1 .list (.tup l) = some (.lst l) := (rfl)
@[simp] theorem b1_len_t (l : List D) : doB1 .len (.tup l) = some (.int l.length) := (rfl)
@[simp] theorem b1_len_l (l : List D) : doB1 .len (.lst l) = some (.int l.length) := (rfl)
@[simp] theorem b1_len_d (k v : List D) : doB1 .len (.dic k v) = some (.int k.length) := (rfl)
@[simp] theorem doCmp_in (a b : D) : doCmp .in_ a b = doIn a b := (rfl)
@[simp] theorem doCmp_notin (a b : D) : doCmp .notin a b = (doIn a b).map not := (rfl)
/-! names -/
abbrev Nm := List Nat
theorem deq_str (x y : Nm) : deq (.str x) (.str y) = (x == y) := by rw [deq]
theorem plains_map {α : Type} (f : α → D) (h : ∀ a, plain (f a) = true) (l : List α) : plains (l.map f) = true := by
  induction l with
  | nil => rfl
  | cons a l ih => show (plain (f a) && plains (l.map f)) = true; rw [h, ih]; rfl
@[simp] theorem in_names (x : Nm) (l : List Nm) : doIn (.str x) (.tup (l.map .str)) = some (l.contains x) := by
  show (if okD (.str x) && plains (l.map .str) then some ((l.map D.str).any fun y => deq y (.str x)) else none) = _
  rw [plains_map _ (fun _ => rfl)]
  show some _ = _
  rw [List.any_map]
  congr 1
  induction l with
  | nil => rfl
  | cons a l ih => rw [List.any_cons, List.contains_cons, ih, Function.comp, deq_str, Bool.beq_comm]
/-- a row whose things are known one by one -/
theorem row_eq {α : Type} {F : α → M (List D)} {l : List α} (g : α → List D) (h : ∀ a ∈ l, F a = M.pure (g a)) : mapA F l = M.pure (l.flatMap g) := by
  rw [mapA_congr rfl h, mapA_pure]
theorem row_then {α β : Type} {F : α → M (List D)} {l : List α} {k : List D → M β} {R : M β} (g : α → List D) (h : ∀ a ∈ l, F a = M.pure (g a)) (hk : k (l.flatMap g) = R) : M.bind (noExc (mapA F l)) k = R := by
  rw [row_eq g h]
  exact hk
@[simp] theorem short_fm {α : Type} {l : List α} {p : α → Bool} {f : α → D} (h : l.length ≤ 16000000) : short ((l.filter p).map f) = some ((l.filter p).map f) :=
  short_ok_ (by rw [List.length_map]; exact Nat.le_trans (List.length_filter_le _ _) h)
/-! lists of our own -/
@[simp] theorem mutD_l (l : List D) : mutD (.lst l) = true := (rfl)
@[simp] theorem mutD_d (k v : List D) : mutD (.dic k v) = true := (rfl)
@[simp] theorem setPar_nil (ρ : Env) : setPar ρ [] [] [] = some ρ := (rfl)
@[simp] theorem setPar_tl (ρ : Env) (i : Nat) (is : List Nat) (os : List Bool) (d ds : List D) : setPar ρ (i :: is) (true :: os) (.lst d :: ds) = setPar (ρ.set i (some (.lst d, true))) is os ds := (rfl)
@[simp] theorem setPar_td (ρ : Env) (i : Nat) (is : List Nat) (os : List Bool) (k v ds : List D) : setPar ρ (i :: is) (true :: os) (.dic k v :: ds) = setPar (ρ.set i (some (.dic k v, true))) is os ds := (rfl)
@[simp] theorem setPar_f (ρ : Env) (i : Nat) (is : List Nat) (os : List Bool) (d : D) (ds : List D) : setPar ρ (i :: is) (false :: os) (d :: ds) = setPar (ρ.set i (some (d, false))) is os ds := (rfl)
@[simp] theorem ownPut_0 (l : List D) (ρ : Env) (f : List D → Option (List D)) : ownPut (some (.lst l, true) :: ρ) 0 f = (f l).map fun ys => some (.lst ys, true) :: ρ := (rfl)
@[simp] theorem ownPut_s (x : Slot) (ρ : Env) (i : Nat) (f : List D → Option (List D)) : ownPut (x :: ρ) (i + 1) f = (ownPut ρ i f).map (x :: ·) := by
  unfold ownPut
  simp only [List.getElem?_cons_succ]
  generalize ρ[i]?.join = z
  rcases z with _ | ⟨d, o⟩
  · rfl
  · cases d <;> cases o <;> first | rfl | (rename_i l; show Option.map _ (f l) = Option.map _ (Option.map _ (f l)); cases f l <;> rfl)
@[simp] theorem popAt_s (x : Slot) (ρ : Env) (i : Nat) (n : Int) : popAt (x :: ρ) (i + 1) n = (popAt ρ i n).map fun p => (p.1, x :: p.2) := by
  unfold popAt
  simp only [List.getElem?_cons_succ]
  generalize ρ[i]?.join = z
  rcases z with _ | ⟨d, o⟩
  · rfl
  · cases d <;> cases o <;> first | rfl | skip
    rename_i l
    dsimp only
    by_cases q : Nat.ble l.length sizeMax = true
    · rw [if_pos q, if_pos q]
      cases ixNat l.length n with
      | none => rfl
      | some k =>
        show (l[k]?).map _ = ((l[k]?).map _).map _
        cases l[k]? <;> rfl
    · rw [if_neg q, if_neg q]
      rfl
theorem popAt_0 {l : List D} {ρ : Env} {k : Nat} {d : D} (h : l[k]? = some d) (hl : l.length ≤ 16000000) : popAt (some (.lst l, true) :: ρ) 0 (k : Int) = some (d, some (.lst (l.eraseIdx k), true) :: ρ) := by
  show (if Nat.ble l.length sizeMax then (ixNat l.length k).bind fun k => (l[k]?).map fun d => (d, setS (some (.lst l, true) :: ρ) 0 (.lst (l.eraseIdx k)) true) else none) = _
  rw [if_pos (Nat.ble_eq_true_of_le (by unfold sizeMax; omega))]
  have hk : k < l.length := (List.getElem?_eq_some_iff.mp h).1
  have e : ixNat l.length (k : Int) = some k := by
    unfold ixNat
    rw [if_pos (by omega), if_pos (by omega), Int.toNat_natCast]
  rw [e]
  show (l[k]?).map _ = _
  rw [h]
  rfl
theorem popAt_last {l : List D} {ρ : Env} {d : D} (hl : l.length + 1 ≤ 16000000) : popAt (some (.lst (l ++ [d]), true) :: ρ) 0 (-1) = some (d, some (.lst l, true) :: ρ) := by
  show (if Nat.ble (l ++ [d]).length sizeMax then (ixNat (l ++ [d]).length (-1)).bind fun k => ((l ++ [d])[k]?).map fun x => (x, setS (some (.lst (l ++ [d]), true) :: ρ) 0 (.lst ((l ++ [d]).eraseIdx k)) true) else none) = _
  rw [if_pos (Nat.ble_eq_true_of_le (by unfold sizeMax; rw [List.length_append]; simp; omega))]
  have e : ixNat (l ++ [d]).length (-1) = some l.length := by
    unfold ixNat
    rw [List.length_append]
    rw [if_neg (by omega), if_pos (by simp; omega)]
    simp
    omega
  rw [e]
  simp [List.eraseIdx_append_of_length_le]
end Wy

set_option autoImplicit false
set_option linter.all false
namespace Wy
/-- f writes things as data: alike, in a total order -/
class Enc {α : Type} (f : α → D) (d : outParam Nat) : Prop where
  pl : ∀ a, plain (f a) = true
  dp : ∀ a, dep (f a) ≤ d
  al : ∀ a b, alk (f a) (f b) = true
  eq : ∀ a b, deq (f a) (f b) = true ↔ a = b
  tr : ∀ a b c, dlt (f a) (f b) = true → dlt (f b) (f c) = true → dlt (f a) (f c) = true
  ir : ∀ a, dlt (f a) (f a) = false
  to : ∀ a b, dlt (f a) (f b) = false → dlt (f b) (f a) = false → a = b
  ty : (∀ a, isTup1 (f a) = true) ∨ (∀ a, notTup (f a) = true)
section
variable {α β γ : Type} {f : α → D} {g : β → D} {h : γ → D} {d e k : Nat}
theorem slt_ir : ∀ x : List Nat, slt x x = false
  | [] => rfl
  | a :: x => by
    unfold slt
    simp [slt_ir x, Nat.blt]
theorem slt_tr : ∀ x y z : List Nat, slt x y = true → slt y z = true → slt x z = true
  | [], [], z, h, _ => by cases h
  | [], b :: y, [], _, h => by cases h
  | [], b :: y, c :: z, _, _ => rfl
  | a :: x, [], _, h, _ => by cases h
  | a :: x, b :: y, [], _, h => by cases h
  | a :: x, b :: y, c :: z, h1, h2 => by
    unfold slt at h1 h2 ⊢
    simp only [Nat.blt, Nat.beq_eq] at h1 h2 ⊢
    by_cases p : Nat.ble (a + 1) b = true
    · have p' := Nat.le_of_ble_eq_true p
      by_cases q : Nat.ble (b + 1) c = true
      · have q' := Nat.le_of_ble_eq_true q
        rw [if_pos (Nat.ble_eq_true_of_le (by omega))]
      · rw [if_neg q] at h2
        split at h2
        · rename_i e
          rw [if_pos (Nat.ble_eq_true_of_le (by omega))]
        · cases h2
    · rw [if_neg p] at h1
      split at h1
      · rename_i e
        subst e
        by_cases q : Nat.ble (a + 1) c = true
        · rw [if_pos q]
        · rw [if_neg q] at h2 ⊢
          split at h2
          · rename_i e
            rw [if_pos e]
            exact slt_tr x y z h1 h2
          · cases h2
      · cases h1
theorem slt_to : ∀ x y : List Nat, slt x y = false → slt y x = false → x = y
  | [], [], _, _ => rfl
  | [], b :: y, h, _ => by cases h
  | a :: x, [], _, h => by cases h
  | a :: x, b :: y, h1, h2 => by
    unfold slt at h1 h2
    simp only [Nat.blt, Nat.beq_eq] at h1 h2
    split at h1
    · cases h1
    · rename_i p
      split at h2
      · cases h2
      · rename_i q
        have : a = b := by
          have p1 : ¬ (a + 1 ≤ b) := fun z => p (Nat.ble_eq_true_of_le z)
          have q1 : ¬ (b + 1 ≤ a) := fun z => q (Nat.ble_eq_true_of_le z)
          omega
        subst this
        rw [if_pos rfl] at h1 h2
        rw [slt_to x y h1 h2]
instance encStr : Enc D.str 0 where
  pl _ := rfl
  dp _ := Nat.le_refl _
  al _ _ := rfl
  eq a b := by rw [deq]; exact beq_iff_eq
  tr a b c h1 h2 := by rw [dlt] at *; exact slt_tr a b c h1 h2
  ir a := by rw [dlt]; exact slt_ir a
  to a b h1 h2 := by rw [dlt] at *; exact slt_to a b h1 h2
  ty := .inr fun _ => rfl
instance encInt : Enc D.int 0 where
  pl _ := rfl
  dp _ := Nat.le_refl _
  al _ _ := rfl
  eq a b := by rw [deq]; exact beq_iff_eq
  tr a b c h1 h2 := by
    rw [dlt, decide_eq_true_eq] at *
    omega
  ir a := by rw [dlt]; simp
  to a b h1 h2 := by
    rw [dlt, decide_eq_false_iff_not] at *
    omega
  ty := .inr fun _ => rfl
theorem Enc.deq_ [Enc f d] (a b : α) [Decidable (a = b)] : deq (f a) (f b) = decide (a = b) := by
  rw [Bool.eq_iff_iff, Enc.eq, decide_eq_true_eq]
theorem Enc.deqs_ [Enc f d] : ∀ a b : List α, deqs (a.map f) (b.map f) = true ↔ a = b
  | [], [] => by simp [deqs]
  | [], b :: y => by simp [deqs]
  | a :: x, [] => by simp [deqs]
  | a :: x, b :: y => by
    show (deq (f a) (f b) && deqs (x.map f) (y.map f)) = true ↔ _
    rw [Bool.and_eq_true, Enc.eq, Enc.deqs_ x y, List.cons.injEq]
theorem Enc.alks_ [Enc f d] : ∀ a b : List α, alks (a.map f) (b.map f) = true
  | [], [] => rfl
  | [], b :: y => rfl
  | a :: x, [] => rfl
  | a :: x, b :: y => by
    show (alk (f a) (f b) && alks (x.map f) (y.map f)) = true
    rw [Enc.al, Enc.alks_ x y]
    rfl
theorem Enc.pls_ [Enc f d] (l : List α) : plains (l.map f) = true := plains_map f Enc.pl l
theorem deps_le_ {l : List D} {n : Nat} (h : ∀ x ∈ l, dep x ≤ n) : deps l ≤ n := by
  induction l with
  | nil => exact Nat.zero_le _
  | cons a l ih =>
    show max (dep a) (deps l) ≤ n
    exact Nat.max_le.mpr ⟨h a List.mem_cons_self, ih fun x hx => h x (List.mem_cons_of_mem _ hx)⟩
/-- rows of one sort: by length, too -/
theorem dlts_cons (x y : D) (a b : List D) : dlts (x :: a) (y :: b) = if deq x y then dlts a b else dlt x y := by rw [dlts]
theorem Enc.dlts_ir [Enc f d] : ∀ a : List α, dlts (a.map f) (a.map f) = false
  | [] => rfl
  | a :: x => by
    rw [List.map_cons, dlts_cons, if_pos ((Enc.eq a a).mpr rfl)]
    exact Enc.dlts_ir x
theorem Enc.dlts_tr [Enc f d] : ∀ a b c : List α, dlts (a.map f) (b.map f) = true → dlts (b.map f) (c.map f) = true → dlts (a.map f) (c.map f) = true
  | [], [], _, h, _ => by cases h
  | [], _ :: _, [], _, h => by cases h
  | [], _ :: _, _ :: _, _, _ => rfl
  | _ :: _, [], _, h, _ => by cases h
  | _ :: _, _ :: _, [], _, h => by cases h
  | a :: x, b :: y, c :: z, h1, h2 => by
    classical
    have Ef := fun a b => Enc.eq (f := f) a b
    simp only [List.map_cons, dlts_cons, Ef] at h1 h2 ⊢
    by_cases p : a = b
    · subst p
      rw [if_pos rfl] at h1
      by_cases q : a = c
      · subst q
        rw [if_pos rfl] at h2 ⊢
        exact Enc.dlts_tr x y z h1 h2
      · rw [if_neg q] at h2 ⊢
        exact h2
    · rw [if_neg p] at h1
      by_cases q : b = c
      · subst q
        rw [if_neg p]
        exact h1
      · rw [if_neg q] at h2
        have t := Enc.tr a b c h1 h2
        rw [if_neg]
        · exact t
        · intro e
          subst e
          rw [Enc.ir] at t
          cases t
theorem Enc.dlts_to [Enc f d] : ∀ a b : List α, dlts (a.map f) (b.map f) = false → dlts (b.map f) (a.map f) = false → a = b
  | [], [], _, _ => rfl
  | [], _ :: _, h, _ => by cases h
  | _ :: _, [], _, h => by cases h
  | a :: x, b :: y, h1, h2 => by
    classical
    have Ef := fun a b => Enc.eq (f := f) a b
    simp only [List.map_cons, dlts_cons, Ef] at h1 h2
    by_cases p : a = b
    · subst p
      rw [if_pos rfl] at h1 h2
      rw [Enc.dlts_to x y h1 h2]
    · rw [if_neg p] at h1
      rw [if_neg (fun e => p e.symm)] at h2
      exact absurd (Enc.to a b h1 h2) p
instance encTup [Enc f d] : Enc (fun l : List α => D.tup (l.map f)) (d + 1) where
  pl l := by show plains _ = true; exact Enc.pls_ l
  dp l := by
    show deps _ + 1 ≤ _
    refine Nat.succ_le_succ (deps_le_ fun x hx => ?_)
    obtain ⟨a, _, rfl⟩ := List.mem_map.mp hx
    exact Enc.dp a
  al a b := by show alks _ _ = true; exact Enc.alks_ a b
  eq a b := by show deqs _ _ = true ↔ _; exact Enc.deqs_ a b
  tr a b c h1 h2 := by rw [dlt] at *; exact Enc.dlts_tr a b c h1 h2
  ir a := by rw [dlt]; exact Enc.dlts_ir a
  to a b h1 h2 := by rw [dlt] at *; exact Enc.dlts_to a b h1 h2
  ty := .inl fun _ => rfl
instance encLst [Enc f d] : Enc (fun l : List α => D.lst (l.map f)) (d + 1) where
  pl l := by show plains _ = true; exact Enc.pls_ l
  dp l := by
    show deps _ + 1 ≤ _
    refine Nat.succ_le_succ (deps_le_ fun x hx => ?_)
    obtain ⟨a, _, rfl⟩ := List.mem_map.mp hx
    exact Enc.dp a
  al a b := by show alks _ _ = true; exact Enc.alks_ a b
  eq a b := by show deqs _ _ = true ↔ _; exact Enc.deqs_ a b
  tr a b c h1 h2 := by rw [dlt] at *; exact Enc.dlts_tr a b c h1 h2
  ir a := by rw [dlt]; exact Enc.dlts_ir a
  to a b h1 h2 := by rw [dlt] at *; exact Enc.dlts_to a b h1 h2
  ty := .inr fun _ => rfl
theorem dlts_pair (x y : D) (a b : D) : dlts [x, a] [y, b] = if deq x y then (if deq a b then false else dlt a b) else dlt x y := by
  rw [dlts_cons, dlts_cons]
  rfl
instance encPair [Enc f d] [Enc g e] : Enc (fun q : α × β => D.tup [f q.1, g q.2]) (max d e + 1) where
  pl q := by
    show (plain (f q.1) && (plain (g q.2) && true)) = true
    rw [Enc.pl, Enc.pl]
    rfl
  dp q := by
    show max (dep (f q.1)) (max (dep (g q.2)) 0) + 1 ≤ _
    have h1 := Enc.dp (f := f) q.1
    have h2 := Enc.dp (f := g) q.2
    omega
  al a b := by
    show (alk (f a.1) (f b.1) && (alk (g a.2) (g b.2) && true)) = true
    rw [Enc.al, Enc.al]
    rfl
  eq a b := by
    show (deq (f a.1) (f b.1) && (deq (g a.2) (g b.2) && true)) = true ↔ _
    rw [Bool.and_true, Bool.and_eq_true, Enc.eq, Enc.eq, Prod.ext_iff]
  tr a b c h1 h2 := by
    rw [dlt, dlts_pair] at *
    classical
    have Ef := fun a b => Enc.eq (f := f) a b
    have Eg := fun a b => Enc.eq (f := g) a b
    simp only [Ef, Eg] at h1 h2 ⊢
    by_cases p : a.1 = b.1
    · rw [if_pos p] at h1
      by_cases q : b.1 = c.1
      · rw [if_pos q] at h2
        rw [if_pos (p.trans q)]
        by_cases p2 : a.2 = b.2
        · rw [if_pos p2] at h1; cases h1
        · rw [if_neg p2] at h1
          by_cases q2 : b.2 = c.2
          · rw [if_pos q2] at h2; cases h2
          · rw [if_neg q2] at h2
            have t := Enc.tr _ _ _ h1 h2
            rw [if_neg]
            · exact t
            · intro e
              rw [e, Enc.ir] at t
              cases t
      · rw [if_neg q] at h2
        rw [if_neg (fun z => q (p.symm.trans z)), p]
        exact h2
    · rw [if_neg p] at h1
      by_cases q : b.1 = c.1
      · rw [if_neg (fun z => p (z.trans q.symm)), ← q]
        exact h1
      · rw [if_neg q] at h2
        have t := Enc.tr _ _ _ h1 h2
        rw [if_neg]
        · exact t
        · intro e
          rw [e, Enc.ir] at t
          cases t
  ir a := by
    rw [dlt, dlts_pair, if_pos ((Enc.eq _ _).mpr rfl), if_pos ((Enc.eq _ _).mpr rfl)]
  to a b h1 h2 := by
    rw [dlt, dlts_pair] at *
    classical
    have Ef := fun a b => Enc.eq (f := f) a b
    have Eg := fun a b => Enc.eq (f := g) a b
    simp only [Ef, Eg] at h1 h2 ⊢
    by_cases p : a.1 = b.1
    · rw [if_pos p] at h1
      rw [if_pos p.symm] at h2
      by_cases q : a.2 = b.2
      · exact Prod.ext p q
      · rw [if_neg q] at h1
        rw [if_neg (fun z => q z.symm)] at h2
        exact absurd (Enc.to _ _ h1 h2) q
    · rw [if_neg p] at h1
      rw [if_neg (fun z => p z.symm)] at h2
      exact absurd (Enc.to _ _ h1 h2) p
  ty := .inl fun _ => rfl
theorem Enc.of_inj {φ : β → α} [Enc f d] (h : ∀ a b, φ a = φ b → a = b) : Enc (fun b => f (φ b)) d where
  pl _ := Enc.pl _
  dp _ := Enc.dp _
  al _ _ := Enc.al _ _
  eq a b := by rw [Enc.eq]; exact ⟨h a b, fun e => by rw [e]⟩
  tr _ _ _ := Enc.tr _ _ _
  ir _ := Enc.ir _
  to a b h1 h2 := h _ _ (Enc.to _ _ h1 h2)
  ty := (Enc.ty (f := f)).imp (fun z a => z _) (fun z a => z _)
theorem Enc.okD_ [Enc f d] (hd : d ≤ 60) (a : α) : okD (f a) = true := by
  have h1 := Enc.pl (f := f) a
  have h2 := Enc.dp (f := f) a
  have h3 : Nat.ble (dep (f a)) 60 = true := Nat.ble_eq_true_of_le (by omega)
  unfold okD
  rw [h1]
  unfold flat
  split <;> simp_all
theorem Enc.inT [Enc f d] (x : α) (l : List α) [Decidable (x ∈ l)] (hd : d ≤ 60) : doIn (f x) (.tup (l.map f)) = some (decide (x ∈ l)) := by
  show (if okD (f x) && plains (l.map f) then some ((l.map f).any fun y => deq y (f x)) else none) = _
  rw [Enc.okD_ hd, Enc.pls_]
  show some _ = _
  congr 1
  rw [List.any_map, Bool.eq_iff_iff, List.any_eq_true, decide_eq_true_eq]
  constructor
  · rintro ⟨y, hy, e⟩
    rw [Function.comp, Enc.eq] at e
    rw [← e]
    exact hy
  · intro hx
    exact ⟨x, hx, (Enc.eq x x).mpr rfl⟩
theorem Enc.inL [Enc f d] (x : α) (l : List α) [Decidable (x ∈ l)] (hd : d ≤ 60) : doIn (f x) (.lst (l.map f)) = some (decide (x ∈ l)) := Enc.inT x l hd
theorem Enc.cmpEq [Enc f d] (a b : α) [Decidable (a = b)] (hd : d ≤ 60) : doCmp .eq (f a) (f b) = some (decide (a = b)) := by
  show (if okD (f a) && plain (f b) then some (deq (f a) (f b)) else none) = _
  rw [Enc.okD_ hd, Enc.pl, Enc.deq_]
  rfl
theorem Enc.cmpNe [Enc f d] (a b : α) [Decidable (a = b)] (hd : d ≤ 60) : doCmp .ne (f a) (f b) = some (!decide (a = b)) := by
  show (if okD (f a) && plain (f b) then some (!deq (f a) (f b)) else none) = _
  rw [Enc.okD_ hd, Enc.pl, Enc.deq_]
  rfl
/-! ### sorting -/
/-- a ahead of those that are not less -/
def insK (f : α → D) (x : α) : List α → List α
  | [] => [x]
  | y :: ys => if dlt (f y) (f x) then y :: insK f x ys else x :: y :: ys
def srt (f : α → D) : List α → List α
  | [] => []
  | x :: xs => insK f x (srt f xs)
theorem insK_map (x : α) : ∀ l : List α, dsort.dins' (f x) (l.map f) = (insK f x l).map f
  | [] => rfl
  | y :: l => by
    show (if dlt (f y) (f x) then f y :: dsort.dins' (f x) (l.map f) else _) = (if _ then _ else _ : List α).map f
    split
    · rw [insK_map x l]; rfl
    · rfl
theorem srt_map : ∀ l : List α, dsort (l.map f) = (srt f l).map f
  | [] => rfl
  | x :: l => by
    show dsort.dins' (f x) (dsort (l.map f)) = _
    rw [srt_map l, insK_map]
    rfl
theorem insK_perm (x : α) : ∀ l : List α, (insK f x l).Perm (x :: l)
  | [] => .refl _
  | y :: l => by
    show (if _ then _ else _ : List α).Perm _
    split
    · exact ((insK_perm x l).cons y).trans (.swap _ _ _)
    · exact .refl _
theorem srt_perm : ∀ l : List α, (srt f l).Perm l
  | [] => .refl _
  | x :: l => (insK_perm x _).trans ((srt_perm l).cons x)
@[simp] theorem srt_mem {a : α} {l : List α} : a ∈ srt f l ↔ a ∈ l := (srt_perm l).mem_iff
@[simp] theorem srt_length {l : List α} : (srt f l).length = l.length := (srt_perm l).length_eq
/-- not greater -/
def leK (f : α → D) (a b : α) : Prop := dlt (f b) (f a) = false
theorem leK_tr [Enc f d] {a b c : α} (h1 : leK f a b) (h2 : leK f b c) : leK f a c := by
  unfold leK at *
  cases q : dlt (f c) (f a) with
  | false => rfl
  | true =>
    by_cases p : dlt (f a) (f b) = true
    · rw [Enc.tr _ _ _ q p] at h2
      cases h2
    · have := Enc.to a b (by simpa using p) h1
      subst this
      rw [q] at h2
      cases h2
theorem srt_sorted [Enc f d] : ∀ l : List α, (srt f l).Pairwise (leK f)
  | [] => .nil
  | x :: l => by
    have ih := srt_sorted l
    show (insK f x (srt f l)).Pairwise _
    generalize srt f l = s at ih
    induction s with
    | nil => exact .cons (by simp) .nil
    | cons y s ih2 =>
      show (if dlt (f y) (f x) then y :: insK f x s else x :: y :: s).Pairwise _
      have h1 := List.pairwise_cons.mp ih
      split
      · rename_i q
        refine .cons (fun z hz => ?_) (ih2 h1.2)
        rcases List.mem_cons.mp ((insK_perm x s).mem_iff.mp hz) with e | e
        · subst e
          unfold leK
          cases q2 : dlt (f z) (f y) with
          | false => rfl
          | true => rw [← Enc.ir (f := f) z]; exact (Enc.tr _ _ _ q2 q).symm
        · exact h1.1 z e
      · rename_i q
        have hxy : leK f x y := by unfold leK; simpa using q
        refine .cons (fun z hz => ?_) ih
        rcases List.mem_cons.mp hz with e | e
        · subst e; exact hxy
        · exact leK_tr hxy (h1.1 z e)
theorem leK_anti [Enc f d] {a b : α} (h1 : leK f a b) (h2 : leK f b a) : a = b := Enc.to a b h2 h1
theorem srt_unique [Enc f d] {l l' : List α} (p : l.Perm l') (h : l.Pairwise (leK f)) (h' : l'.Pairwise (leK f)) : l = l' :=
  List.Perm.eq_of_pairwise (le := leK f) (fun a b _ _ h1 h2 => leK_anti h1 h2) h h' p
theorem srt_congr [Enc f d] {l l' : List α} (p : l.Perm l') : srt f l = srt f l' :=
  srt_unique ((srt_perm l).trans (p.trans (srt_perm l').symm)) (srt_sorted l) (srt_sorted l')
theorem allAlk_map [Enc f d] (l : List α) : allAlk (l.map f) = true := by
  unfold allAlk
  rw [Bool.or_eq_true]
  right
  simp only [List.all_map, List.all_eq_true, Function.comp]
  exact fun a _ b _ => Enc.al a b
theorem srtOk_map [Enc f d] (hd : d ≤ 60) (l : List α) : srtOk (l.map f) = true := by
  unfold srtOk
  rw [Enc.pls_, allAlk_map]
  have hf : ((l.map f).all flat) = true := by
    simp only [List.all_map, List.all_eq_true, Function.comp]
    intro a _
    have := Enc.okD_ (f := f) hd a
    unfold okD at this
    rw [Bool.and_eq_true] at this
    exact this.2
  rw [hf]
  simp only [List.all_map, Bool.and_true, Bool.true_and, Bool.or_eq_true, List.all_eq_true, Function.comp]
  exact (Enc.ty (f := f)).imp (fun z a _ => z a) (fun z a _ => z a)
theorem Enc.sorted_ [Enc f d] (l : List α) (hd : d ≤ 60) : doB1 .sorted (.lst (l.map f)) = some (.lst ((srt f l).map f)) := by
  show (if srtOk (l.map f) then some (D.lst (dsort (l.map f))) else none) = _
  rw [srtOk_map hd, srt_map]
  rfl
/-! ### least, greatest -/
def minK (f : α → D) : α → List α → α
  | x, [] => x
  | x, y :: r => if dlt (f y) (f x) then minK f y r else minK f x r
def maxK (f : α → D) : α → List α → α
  | x, [] => x
  | x, y :: r => if dlt (f x) (f y) then maxK f y r else maxK f x r
theorem dmin_map : ∀ (l : List α) (x : α), dmin (f x) (l.map f) = f (minK f x l)
  | [], x => rfl
  | y :: l, x => by
    show (if dlt (f y) (f x) then dmin (f y) (l.map f) else dmin (f x) (l.map f)) = _
    rw [dmin_map l y, dmin_map l x]
    show _ = f (if _ then _ else _)
    split <;> rfl
theorem dmax_map : ∀ (l : List α) (x : α), dmax (f x) (l.map f) = f (maxK f x l)
  | [], x => rfl
  | y :: l, x => by
    show (if dlt (f x) (f y) then dmax (f y) (l.map f) else dmax (f x) (l.map f)) = _
    rw [dmax_map l y, dmax_map l x]
    show _ = f (if _ then _ else _)
    split <;> rfl
theorem minK_spec [Enc f d] : ∀ (l : List α) (x : α), minK f x l ∈ x :: l ∧ ∀ y ∈ x :: l, leK f (minK f x l) y
  | [], x => ⟨List.mem_cons_self, fun y hy => by
      rcases List.mem_cons.mp hy with e | e
      · subst e; exact Enc.ir y
      · cases e⟩
  | y :: l, x => by
    show (if dlt (f y) (f x) then minK f y l else minK f x l) ∈ _ ∧ _
    by_cases q : dlt (f y) (f x) = true
    · obtain ⟨h1, h2⟩ := minK_spec l y
      show (if dlt (f y) (f x) then minK f y l else minK f x l) ∈ _ ∧ ∀ z ∈ _, leK f (if dlt (f y) (f x) then minK f y l else minK f x l) z
      rw [if_pos q]
      refine ⟨List.mem_cons_of_mem _ h1, fun z hz => ?_⟩
      rcases List.mem_cons.mp hz with e | e
      · subst e
        refine leK_tr (h2 y List.mem_cons_self) ?_
        unfold leK
        cases q2 : dlt (f z) (f y) with
        | false => rfl
        | true => rw [← Enc.ir (f := f) z]; exact (Enc.tr _ _ _ q2 q).symm
      · exact h2 z e
    · obtain ⟨h1, h2⟩ := minK_spec l x
      show (if dlt (f y) (f x) then minK f y l else minK f x l) ∈ _ ∧ ∀ z ∈ _, leK f (if dlt (f y) (f x) then minK f y l else minK f x l) z
      rw [if_neg q]
      refine ⟨?_, fun z hz => ?_⟩
      · rcases List.mem_cons.mp h1 with e | e
        · rw [e]; exact List.mem_cons_self
        · exact List.mem_cons_of_mem _ (List.mem_cons_of_mem _ e)
      · rcases List.mem_cons.mp hz with e | e
        · subst e; exact h2 z List.mem_cons_self
        · rcases List.mem_cons.mp e with e | e
          · subst e
            refine leK_tr (h2 x List.mem_cons_self) ?_
            unfold leK
            simpa using q
          · exact h2 z (List.mem_cons_of_mem _ e)
theorem minK_eq [Enc f d] {x : α} {l : List α} {m : α} (h1 : m ∈ x :: l) (h2 : ∀ y ∈ x :: l, leK f m y) : minK f x l = m :=
  leK_anti ((minK_spec l x).2 m h1) (h2 _ (minK_spec l x).1)
theorem Enc.min_ [Enc f d] (x : α) (l : List α) (hd : d ≤ 60) (hk : ∀ a, isKeep (f a) = true) : doB1 .min (.lst (f x :: l.map f)) = some (f (minK f x l)) := by
  show (if srtOk ((x :: l).map f) && isKeep (dmin (f x) (l.map f)) then some (dmin (f x) (l.map f)) else none) = _
  rw [srtOk_map hd, dmin_map, hk]
  rfl
/-- the first of those in order is the least -/
theorem srt_head [Enc f d] {l : List α} {x : α} {r : List α} (h : srt f l = x :: r) : x ∈ l ∧ ∀ y ∈ l, leK f x y := by
  have h1 : x ∈ l := srt_mem.mp (h ▸ List.mem_cons_self)
  refine ⟨h1, fun y hy => ?_⟩
  have h2 := srt_sorted (f := f) l
  rw [h] at h2
  have hy2 : y ∈ x :: r := h ▸ srt_mem.mpr hy
  rcases List.mem_cons.mp hy2 with e | e
  · subst e; exact Enc.ir y
  · exact (List.pairwise_cons.mp h2).1 y e
end
end Wy

set_option autoImplicit false
set_option linter.all false
namespace Wy
/-- m draws from the box at g at most k times, and gives what Q says -/
def Dr (g k : Nat) {α : Type} (m : M α) (Q : α → Prop) : Prop := ∀ (st : St) (B : Nat), Tin st g B → B + k ≤ 1000000 → ∃ a st', m st = .ok a st' ∧ Q a ∧ Tin st' g ((B + k : Nat) : Int)
section
variable {α β : Type} {g k k' : Nat} {Q : α → Prop}
theorem Dr.pure {a : α} (h : Q a) : Dr g 0 (M.pure a) Q := fun st B t _ => ⟨a, st, rfl, h, t⟩
theorem Dr.mono {m : M α} (h : Dr g k m Q) (hk : k ≤ k') : Dr g k' m Q := fun st B t hb => by
  obtain ⟨a, st', h1, h2, h3⟩ := h st B t (by omega)
  exact ⟨a, st', h1, h2, h3.more (by omega)⟩
theorem Dr.imp {Q' : α → Prop} {m : M α} (h : Dr g k m Q) (hq : ∀ a, Q a → Q' a) : Dr g k m Q' := fun st B t hb => by
  obtain ⟨a, st', h1, h2, h3⟩ := h st B t hb
  exact ⟨a, st', h1, hq a h2, h3⟩
theorem Dr.bind {Q' : β → Prop} {m : M α} {f : α → M β} (h : Dr g k m Q) (hf : ∀ a, Q a → Dr g k' (f a) Q') : Dr g (k + k') (M.bind m f) Q' := fun st B t hb => by
  obtain ⟨a, st', h1, h2, h3⟩ := h st B t (by omega)
  obtain ⟨b, st2, h4, h5, h6⟩ := hf a h2 st' (B + k) h3 (by omega)
  exact ⟨b, st2, by rw [bind_ok h1]; exact h4, h5, h6.more (by omega)⟩
theorem Dr.noExc {m : M α} (h : Dr g k m Q) : Dr g k (Wy.noExc m) Q := fun st B t hb => by
  obtain ⟨a, st', h1, h2, h3⟩ := h st B t hb
  exact ⟨a, st', noExc_ok h1, h2, h3⟩
theorem Dr.ret {a : α} (h : Q a) : Dr g k (M.pure a) Q := Dr.mono (Dr.pure h) (Nat.zero_le _)
theorem Dr.step {K : Nat} {Q' : β → Prop} {m : M α} {f : α → M β} (h : Dr g k m Q) (hk : k ≤ K) (hf : ∀ a, Q a → Dr g (K - k) (f a) Q') : Dr g K (M.bind m f) Q' := Dr.mono (Dr.bind h hf) (by omega)
/-- a row, thing by thing -/
theorem Dr.mapA {f : α → M (List D)} {R : α → List D → Prop} : ∀ {l : List α}, (∀ a ∈ l, Dr g k (f a) (R a)) → Dr g (k * l.length) (mapA f l) fun zs => ∃ yss : List (List D), zs = yss.flatten ∧ yss.length = l.length ∧ ∀ q ∈ l.zip yss, R q.1 q.2
  | [], _ => Dr.pure ⟨[], rfl, rfl, fun q hq => by cases hq⟩
  | a :: l, h => by
    refine Dr.mono (Dr.bind (h a List.mem_cons_self) fun y hy => Dr.bind (Dr.mapA (l := l) fun b hb => h b (List.mem_cons_of_mem _ hb)) fun ys hys => Dr.pure ?_) (k := k + (k * l.length + 0)) (by rw [List.length_cons, Nat.mul_succ]; omega)
    obtain ⟨yss, rfl, h1, h2⟩ := hys
    refine ⟨y :: yss, rfl, by rw [List.length_cons, h1, List.length_cons], fun q hq => ?_⟩
    rcases List.mem_cons.mp (show q ∈ (a, y) :: l.zip yss from hq) with e | e
    · rw [e]; exact hy
    · exact h2 q e
/-- some of a row -/
theorem Dr.mapA_sub {f : α → M (List D)} {e : α → D} {l : List α} (h : ∀ a ∈ l, Dr g k (f a) fun ys => ys = [e a] ∨ ys = []) : Dr g (k * l.length) (Wy.mapA f l) fun zs => ∃ s : List α, s.Sublist l ∧ zs = s.map e := by
  induction l with
  | nil => exact Dr.pure ⟨[], .refl _, rfl⟩
  | cons a l ih =>
    refine Dr.mono (Dr.bind (h a List.mem_cons_self) fun y hy => Dr.bind (ih fun b hb => h b (List.mem_cons_of_mem _ hb)) fun ys hys => Dr.pure ?_) (k := k + (k * l.length + 0)) (by rw [List.length_cons, Nat.mul_succ]; omega)
    obtain ⟨s, h1, rfl⟩ := hys
    rcases hy with rfl | rfl
    · exact ⟨a :: s, h1.cons_cons a, rfl⟩
    · exact ⟨s, h1.cons a, rfl⟩
/-- a row of as many -/
theorem Dr.mapA_map {f : α → M (List D)} {e : α → β → D} {R : β → Prop} {l : List α} (h : ∀ a ∈ l, Dr g k (f a) fun ys => ∃ b, ys = [e a b] ∧ R b) : Dr g (k * l.length) (Wy.mapA f l) fun zs => ∃ s : List (α × β), s.map (·.1) = l ∧ (∀ q ∈ s, R q.2) ∧ zs = s.map fun q => e q.1 q.2 := by
  induction l with
  | nil => exact Dr.pure ⟨[], rfl, (fun q (hq : q ∈ []) => nomatch hq), rfl⟩
  | cons a l ih =>
    refine Dr.mono (Dr.bind (h a List.mem_cons_self) fun y hy => Dr.bind (ih fun b hb => h b (List.mem_cons_of_mem _ hb)) fun ys hys => Dr.pure ?_) (k := k + (k * l.length + 0)) (by rw [List.length_cons, Nat.mul_succ]; omega)
    obtain ⟨s, h1, h2, rfl⟩ := hys
    obtain ⟨b, rfl, hb⟩ := hy
    refine ⟨(a, b) :: s, by rw [List.map_cons, h1], fun q hq => ?_, rfl⟩
    rcases List.mem_cons.mp hq with e | e
    · rw [e]; exact hb
    · exact h2 q e
/-- a loop that draws -/
theorem Dr.for_ {tg : Tg} {body : Env → M Out} {e : α → D} {I : Env → Prop} : ∀ {l : List α} {ρ : Env}, I ρ → (∀ a ∈ l, ∀ ρ, I ρ → Dr g k (M.bind (M.of (setTg ρ tg (e a))) body) fun o => ∃ ρ', o = .nx ρ' ∧ I ρ') → Dr g (k * l.length) (forLoop tg body (l.map e) ρ) fun o => ∃ ρ', o = .nx ρ' ∧ I ρ'
  | [], ρ, hi, _ => Dr.pure ⟨ρ, rfl, hi⟩
  | a :: l, ρ, hi, h => by
    have e1 : forLoop tg body ((a :: l).map e) ρ = M.bind (M.bind (M.of (setTg ρ tg (e a))) body) fun o => match o with
      | .nx ρ2 => forLoop tg body (l.map e) ρ2
      | .rt v => M.pure (.rt v)
      | .er ρ k ys => M.pure (.er ρ k ys) := by
      rw [bind_assoc_]
      rfl
    rw [e1]
    refine Dr.mono (Dr.bind (h a List.mem_cons_self ρ hi) fun o ho => ?_) (k := k + k * l.length) (by rw [List.length_cons, Nat.mul_succ]; omega)
    obtain ⟨ρ', rfl, hi'⟩ := ho
    exact Dr.for_ (l := l) hi' fun b hb => h b (List.mem_cons_of_mem _ hb)
end
/-- one draw -/
theorem take_dr {p : Prog} {i n g : Nat} (hF : p.fns[i]? = some takeF) (hn : 0 < n) {top : Int} (h0 : 0 < top) (h1 : top < 1073741824) : Dr g 1 (p.run n i [.cell g, .int top]) fun d => ∃ x : Nat, d = .int x ∧ (x : Int) < top := by
  intro st B t hb
  cases n with
  | zero => omega
  | succ n =>
    obtain ⟨d, st', h2, h3, h4, h5, _⟩ := take_run hF (n := n) t (by omega) h0 h1
    exact ⟨.int d, st', h2, ⟨d.toNat, by rw [Int.toNat_of_nonneg h3], by omega⟩, h5.more (by omega)⟩
/-! ### loops that draw nothing -/
theorem forA_cons {α : Type} {tg : Tg} {body : Env → M Out} {e : α → D} {a : α} {l : List α} {ρ ρ' : Env} (h : M.bind (M.of (setTg ρ tg (e a))) body = M.pure (.nx ρ')) : forLoop tg body ((a :: l).map e) ρ = forLoop tg body (l.map e) ρ' := by
  have e1 : forLoop tg body ((a :: l).map e) ρ = M.bind (M.bind (M.of (setTg ρ tg (e a))) body) fun o => match o with
      | .nx ρ2 => forLoop tg body (l.map e) ρ2
      | .rt v => M.pure (.rt v)
      | .er ρ k ys => M.pure (.er ρ k ys) := by
    rw [bind_assoc_]
    rfl
  rw [e1, h]
  rfl
/-- a for loop is a fold; j: what else stands in the slots -/
theorem for_fold {α σ J : Type} {tg : Tg} {body : Env → M Out} {e : α → D} (E : σ → J → Env) (step : σ → α → σ) (s : σ) (j : J) (l : List α)
    (h : ∀ pre a post, l = pre ++ a :: post → ∀ j, ∃ j', M.bind (M.of (setTg (E (pre.foldl step s) j) tg (e a))) body = M.pure (.nx (E (step (pre.foldl step s) a) j'))) :
    ∃ j', forLoop tg body (l.map e) (E s j) = M.pure (.nx (E (l.foldl step s) j')) := by
  have key : ∀ (post pre : List α), l = pre ++ post → ∀ j, ∃ j', forLoop tg body (post.map e) (E (pre.foldl step s) j) = M.pure (.nx (E (l.foldl step s) j')) := by
    intro post
    induction post with
    | nil =>
      intro pre hp j
      rw [List.append_nil] at hp
      subst hp
      exact ⟨j, rfl⟩
    | cons a post ih =>
      intro pre hp j
      obtain ⟨j1, h1⟩ := h pre a post hp j
      obtain ⟨j2, h2⟩ := ih (pre ++ [a]) (by rw [hp]; simp) j1
      refine ⟨j2, ?_⟩
      rw [forA_cons h1, ← h2, List.foldl_append]
      rfl
  exact key l [] rfl j
theorem for_then {α σ J : Type} {tg : Tg} {body : Env → M Out} {e : α → D} {l : List α} {ρ : Env} {β : Type} {k : Out → M β} {R : M β} (E : σ → J → Env) (step : σ → α → σ) (s : σ) (j : J) (hρ : ρ = E s j)
    (h : ∀ pre a post, l = pre ++ a :: post → ∀ j, ∃ j', M.bind (M.of (setTg (E (pre.foldl step s) j) tg (e a))) body = M.pure (.nx (E (step (pre.foldl step s) a) j')))
    (hk : ∀ j, k (.nx (E (l.foldl step s) j)) = R) : M.bind (forLoop tg body (l.map e) ρ) k = R := by
  obtain ⟨j', hj⟩ := for_fold (body := body) E step s j l h
  rw [hρ, hj]
  exact hk j'
theorem for_thenD {α σ J : Type} {tg : Tg} {body : Env → M Out} {e : α → D} {l : List α} {ρ : Env} {β : Type} {k : Out → M β} {g K : Nat} {Q : β → Prop} (E : σ → J → Env) (step : σ → α → σ) (s : σ) (j : J) (hρ : ρ = E s j)
    (h : ∀ pre a post, l = pre ++ a :: post → ∀ j, ∃ j', M.bind (M.of (setTg (E (pre.foldl step s) j) tg (e a))) body = M.pure (.nx (E (step (pre.foldl step s) a) j')))
    (hk : ∀ j, Dr g K (k (.nx (E (l.foldl step s) j))) Q) : Dr g K (M.bind (forLoop tg body (l.map e) ρ) k) Q := by
  obtain ⟨j', hj⟩ := for_fold (body := body) E step s j l h
  rw [hρ, hj]
  exact hk j'
/-- a loop that draws, and keeps something -/
theorem Dr.forS {α σ J : Type} {g k : Nat} {tg : Tg} {body : Env → M Out} {e : α → D} {l : List α} (E : σ → J → Env) (P : List α → σ → Prop) (s : σ) (j : J) (h0 : P [] s)
    (h : ∀ pre a post s j, l = pre ++ a :: post → P pre s → Dr g k (M.bind (M.of (setTg (E s j) tg (e a))) body) fun o => ∃ s' j', o = .nx (E s' j') ∧ P (pre ++ [a]) s') :
    Dr g (k * l.length) (forLoop tg body (l.map e) (E s j)) fun o => ∃ s' j', o = .nx (E s' j') ∧ P l s' := by
  have key : ∀ (post pre : List α) (s : σ) (j : J), l = pre ++ post → P pre s → Dr g (k * post.length) (forLoop tg body (post.map e) (E s j)) fun o => ∃ s' j', o = .nx (E s' j') ∧ P l s' := by
    intro post
    induction post with
    | nil =>
      intro pre s j hp hs
      rw [List.append_nil] at hp
      subst hp
      exact Dr.ret ⟨s, j, rfl, hs⟩
    | cons a post ih =>
      intro pre s j hp hs
      have e1 : forLoop tg body ((a :: post).map e) (E s j) = M.bind (M.bind (M.of (setTg (E s j) tg (e a))) body) fun o => match o with
          | .nx ρ2 => forLoop tg body (post.map e) ρ2
          | .rt v => M.pure (.rt v)
          | .er ρ k ys => M.pure (.er ρ k ys) := by
        rw [bind_assoc_]
        rfl
      rw [e1]
      refine Dr.mono (Dr.bind (h pre a post s j hp hs) fun o ho => ?_) (k := k + k * post.length) (by rw [List.length_cons, Nat.mul_succ]; omega)
      obtain ⟨s', j', rfl, hs'⟩ := ho
      exact ih (pre ++ [a]) s' j' (by rw [hp]; simp) hs'
  exact key l [] s j rfl h0
end Wy

set_option autoImplicit false
set_option linter.all false
namespace Wy
section
variable {α β γ : Type} {f : α → D} {g : β → D} {h : γ → D} {d e k : Nat}
/-! triples: as a pair of one and a pair -/
theorem dlts_trip (x y a b u v : D) : dlts [x, a, u] [y, b, v] = if deq x y then (if deq a b then (if deq u v then false else dlt u v) else dlt a b) else dlt x y := by
  rw [dlts_cons, dlts_cons, dlts_cons]
  rfl
theorem pair2_lt (x y a b u v : D) : dlt (.tup [x, .tup [a, u]]) (.tup [y, .tup [b, v]]) = dlt (.tup [x, a, u]) (.tup [y, b, v]) := by
  rw [dlt, dlt, dlts_pair, dlts_trip]
  have e1 : deq (.tup [a, u]) (.tup [b, v]) = (deq a b && deq u v) := by
    rw [deq]
    show (deq a b && (deq u v && true)) = _
    rw [Bool.and_true]
  rw [e1, dlt, dlts_pair]
  cases deq x y <;> cases deq a b <;> cases deq u v <;> rfl
theorem pair2_eq (x y a b u v : D) : deq (.tup [x, .tup [a, u]]) (.tup [y, .tup [b, v]]) = deq (.tup [x, a, u]) (.tup [y, b, v]) := by
  rw [deq, deq]
  show (deq x y && (deq (.tup [a, u]) (.tup [b, v]) && true)) = (deq x y && (deq a b && (deq u v && true)))
  rw [deq]
  show (deq x y && ((deq a b && (deq u v && true)) && true)) = _
  rw [Bool.and_true]
instance encTrip [Enc f d] [Enc g e] [Enc h k] : Enc (fun q : α × β × γ => D.tup [f q.1, g q.2.1, h q.2.2]) (max d (max e k + 1) + 1) :=
  have E : Enc (fun q : α × (β × γ) => D.tup [f q.1, (fun r : β × γ => D.tup [g r.1, h r.2]) q.2]) (max d (max e k + 1) + 1) := encPair (f := f) (g := fun r : β × γ => D.tup [g r.1, h r.2])
  { pl := fun q => by
      show (plain (f q.1) && (plain (g q.2.1) && (plain (h q.2.2) && true))) = true
      rw [Enc.pl, Enc.pl, Enc.pl]
      rfl
    dp := fun q => by
      show max (dep (f q.1)) (max (dep (g q.2.1)) (max (dep (h q.2.2)) 0)) + 1 ≤ _
      have h1 := Enc.dp (f := f) q.1
      have h2 := Enc.dp (f := g) q.2.1
      have h3 := Enc.dp (f := h) q.2.2
      omega
    al := fun a b => by
      show (alk (f a.1) (f b.1) && (alk (g a.2.1) (g b.2.1) && (alk (h a.2.2) (h b.2.2) && true))) = true
      rw [Enc.al, Enc.al, Enc.al]
      rfl
    eq := fun a b => by
      rw [← pair2_eq]
      exact E.eq a b
    tr := fun a b c h1 h2 => by
      rw [← pair2_lt] at *
      exact E.tr a b c h1 h2
    ir := fun a => by
      rw [← pair2_lt]
      exact E.ir a
    to := fun a b h1 h2 => by
      rw [← pair2_lt] at h1 h2
      exact E.to a b h1 h2
    ty := .inl fun _ => rfl }
/-! what tupled leaves -/
class Tup {α : Type} (f : α → D) : Prop where
  th : ∀ a, tupD (f a) = f a
instance tupStr : Tup D.str := ⟨fun _ => rfl⟩
instance tupInt : Tup D.int := ⟨fun _ => rfl⟩
theorem tupDs_map_ [Tup f] (l : List α) : tupDs (l.map f) = l.map f := by
  rw [tupDs_map, List.map_map]
  exact List.map_congr_left fun a _ => Tup.th a
instance tupTup [Tup f] : Tup (fun l : List α => D.tup (l.map f)) := ⟨fun l => by
  show D.tup (tupDs (l.map f)) = _
  rw [tupDs_map_]⟩
instance tupPair [Tup f] [Tup g] : Tup (fun q : α × β => D.tup [f q.1, g q.2]) := ⟨fun q => by
  show D.tup [tupD (f q.1), tupD (g q.2)] = _
  rw [Tup.th, Tup.th]⟩
instance tupTrip [Tup f] [Tup g] [Tup h] : Tup (fun q : α × β × γ => D.tup [f q.1, g q.2.1, h q.2.2]) := ⟨fun q => by
  show D.tup [tupD (f q.1), tupD (g q.2.1), tupD (h q.2.2)] = _
  rw [Tup.th, Tup.th, Tup.th]⟩
theorem szOks_map {l : List α} (q : ∀ a ∈ l, szOk (f a) = true) : szOks (l.map f) = true := by
  induction l with
  | nil => rfl
  | cons a l ih =>
    show (szOk (f a) && szOks (l.map f)) = true
    rw [q a List.mem_cons_self, ih fun b hb => q b (List.mem_cons_of_mem _ hb)]
    rfl
theorem sz_tup {l : List α} (hl : l.length ≤ 1000) (q : ∀ a ∈ l, szOk (f a) = true) : szOk (.tup (l.map f)) = true := by
  show (Nat.ble (l.map f).length 1000 && szOks (l.map f)) = true
  rw [szOks_map q, Nat.ble_eq_true_of_le (by rw [List.length_map]; exact hl)]
  rfl
theorem sz_lst {l : List α} (hl : l.length ≤ 1000) (q : ∀ a ∈ l, szOk (f a) = true) : szOk (.lst (l.map f)) = true := sz_tup hl q
theorem sz_2 {a b : D} (h1 : szOk a = true) (h2 : szOk b = true) : szOk (.tup [a, b]) = true := by
  show (true && (szOk a && (szOk b && true))) = true
  rw [h1, h2]
  rfl
theorem sz_3 {a b c : D} (h1 : szOk a = true) (h2 : szOk b = true) (h3 : szOk c = true) : szOk (.tup [a, b, c]) = true := by
  show (true && (szOk a && (szOk b && (szOk c && true)))) = true
  rw [h1, h2, h3]
  rfl
theorem sz_l2 {a b : D} (h1 : szOk a = true) (h2 : szOk b = true) : szOk (.lst [a, b]) = true := sz_2 h1 h2
theorem tupled_eq {p : Prog} {i n : Nat} (hF : p.fns[i]? = some (tupledF i)) {d : D} (hs : szOk d = true) (hd : dep d < n) : p.run n i [d] = M.pure (tupD d) := by
  funext st
  exact tupled_run hF n d st hs hd
/-- d is a, written by f, lists or tuples -/
def As {α : Type} (f : α → D) (d : D) (a : α) : Prop := szOk d = true ∧ dep d ≤ 9 ∧ tupD d = f a
theorem tupled_as {p : Prog} {i n : Nat} (hF : p.fns[i]? = some (tupledF i)) {α : Type} {f : α → D} {d : D} {a : α} (h : As f d a) (hn : 10 ≤ n) : p.run n i [d] = M.pure (f a) := by
  rw [tupled_eq hF h.1 (by have := h.2.1; omega), h.2.2]
theorem As.own {α : Type} {f : α → D} {d : Nat} [Enc f d] [Tup f] {a : α} (hs : szOk (f a) = true) (hd : d ≤ 9) : As f (f a) a := ⟨hs, Nat.le_trans (Enc.dp a) hd, Tup.th a⟩
theorem As.lists {α : Type} {f : α → D} {d : D} {a : α} (h : As f d a) : As f (lstD d) a := ⟨lst_sz d h.1, by rw [lst_dep]; exact h.2.1, by rw [tup_lst]; exact h.2.2⟩
theorem lists_eq {p : Prog} {i n : Nat} (hF : p.fns[i]? = some (listsF i)) {d : D} (hs : szOk d = true) (hd : dep d < n) : p.run n i [d] = M.pure (lstD d) := by
  funext st
  exact lists_run hF n d st hs hd
theorem same_eq {p : Prog} {i n : Nat} (hF : p.fns[i]? = some (sameF i)) {d : D} (hs : szOk d = true) (hd : dep d < n) : p.run n i [d, d] = M.pure (.bl true) := by
  funext st
  exact same_run hF n d st hs hd
end
/-! names, pairs of names, rows of names -/
abbrev Pr := Nm × Nm
abbrev eP (q : Pr) : D := .tup [.str q.1, .str q.2]
abbrev eT (l : List Nm) : D := .tup (l.map .str)
abbrev Book := List Nm × List Pr × List Nm
abbrev eB (b : Book) : D := .tup [.tup (b.1.map .str), .tup (b.2.1.map fun q => .tup [.str q.1, .str q.2]), .tup (b.2.2.map .str)]
instance encP : Enc (fun q : Pr => D.tup [.str q.1, .str q.2]) 1 := encPair (f := D.str) (g := D.str)
instance encT : Enc (fun l : List Nm => D.tup (l.map .str)) 1 := encTup (f := D.str)
instance encB : Enc eB 4 := encTrip (f := eT) (g := fun l : List Pr => D.tup (l.map eP)) (h := eT)
instance tupB : Tup eB := tupTrip (f := eT) (g := fun l : List Pr => D.tup (l.map eP)) (h := eT)
@[simp] theorem in_pairs (x y : Nm) (l : List Pr) : doIn (.tup [.str x, .str y]) (.tup (l.map fun q => .tup [.str q.1, .str q.2])) = some (decide ((x, y) ∈ l)) := Enc.inT (f := fun q : Pr => D.tup [.str q.1, .str q.2]) (x, y) l (by decide)
@[simp] theorem in_rows (x : List Nm) (l : List (List Nm)) : doIn (.tup (x.map .str)) (.tup (l.map fun r => .tup (r.map .str))) = some (decide (x ∈ l)) := Enc.inT (f := fun r : List Nm => D.tup (r.map .str)) x l (by decide)
@[simp] theorem eq_name (x y : Nm) : doCmp .eq (.str x) (.str y) = some (decide (x = y)) := Enc.cmpEq (f := D.str) x y (by decide)
@[simp] theorem ne_name (x y : Nm) : doCmp .ne (.str x) (.str y) = some (!decide (x = y)) := Enc.cmpNe (f := D.str) x y (by decide)
@[simp] theorem eq_int (x y : Int) : doCmp .eq (.int x) (.int y) = some (decide (x = y)) := Enc.cmpEq (f := D.int) x y (by decide)
@[simp] theorem ne_int (x y : Int) : doCmp .ne (.int x) (.int y) = some (!decide (x = y)) := Enc.cmpNe (f := D.int) x y (by decide)
theorem eq_nil (l : List D) : doCmp .eq (.lst l) (.lst []) = if plain (.lst l) && flat (.lst l) then some l.isEmpty else none := by
  show (if (plain (.lst l) && flat (.lst l)) && true then some (deq (.lst l) (.lst [])) else none) = _
  rw [Bool.and_true]
  cases l <;> rfl
@[simp] theorem sorted_names (l : List Nm) : doB1 .sorted (.lst (l.map .str)) = some (.lst ((srt D.str l).map .str)) := Enc.sorted_ l (by decide)
@[simp] theorem sorted_rows (l : List (List Nm)) : doB1 .sorted (.lst (l.map fun r => .tup (r.map .str))) = some (.lst ((srt eT l).map fun r => .tup (r.map .str))) := Enc.sorted_ (f := fun r : List Nm => D.tup (r.map .str)) l (by decide)
@[simp] theorem sorted_pairs (l : List Pr) : doB1 .sorted (.lst (l.map fun q => .tup [.str q.1, .str q.2])) = some (.lst ((srt eP l).map fun q => .tup [.str q.1, .str q.2])) := Enc.sorted_ (f := fun q : Pr => D.tup [.str q.1, .str q.2]) l (by decide)
@[simp] theorem ite_bl {c : Prop} [Decidable c] (a b : Bool) : (if c then D.bl a else D.bl b) = D.bl (if c then a else b) := by split <;> rfl
@[simp] theorem ite_or (a b : Bool) : (if a = true then a else b) = (a || b) := by cases a <;> rfl
@[simp] theorem ite_dor (p : Prop) [Decidable p] (b : Bool) : (if p then decide p else b) = (decide p || b) := by by_cases h : p <;> simp [h]
@[simp] theorem ite_dand (p : Prop) [Decidable p] (b : Bool) : (if p then b else decide p) = (decide p && b) := by by_cases h : p <;> simp [h]
@[simp] theorem ite_lst {c : Prop} [Decidable c] (a b : List D) : (if c then D.lst a else D.lst b) = D.lst (if c then a else b) := by split <;> rfl
@[simp] theorem bin_add_i (i j : Int) : doBin .add (.int i) (.int j) = some (.int (i + j)) := (rfl)
@[simp] theorem bin_sub_i (i j : Int) : doBin .sub (.int i) (.int j) = some (.int (i - j)) := (rfl)
@[simp] theorem bin_add_l {x y : List D} (h : x.length + y.length ≤ 16000000) : doBin .add (.lst x) (.lst y) = some (.lst (x ++ y)) := by
  show (if Nat.ble (x.length + y.length) sizeMax = true then _ else _) = _
  rw [if_pos (Nat.ble_eq_true_of_le (by unfold sizeMax; omega))]
@[simp] theorem bin_add_t {x y : List D} (h : x.length + y.length ≤ 16000000) : doBin .add (.tup x) (.tup y) = some (.tup (x ++ y)) := by
  show (if Nat.ble (x.length + y.length) sizeMax = true then _ else _) = _
  rw [if_pos (Nat.ble_eq_true_of_le (by unfold sizeMax; omega))]
@[simp] theorem bin_add_s {x y : List Nat} (h : x.length + y.length ≤ 16000000) : doBin .add (.str x) (.str y) = some (.str (x ++ y)) := by
  show (if Nat.ble (x.length + y.length) sizeMax = true then _ else _) = _
  rw [if_pos (Nat.ble_eq_true_of_le (by unfold sizeMax; omega))]
theorem map_str_snoc (l : List Nm) (a : Nm) : l.map D.str ++ [D.str a] = (l ++ [a]).map D.str := by rw [List.map_append]; rfl
/-! indices -/
@[simp] theorem ix_t0 (x : D) (l : List D) : doIdx (.tup (x :: l)) (.int 0) = some x := by
  show (ixNat (l.length + 1) 0).bind _ = _
  unfold ixNat
  rw [if_pos (by omega), if_pos (by omega)]
  rfl
@[simp] theorem ix_t1 (x y : D) (l : List D) : doIdx (.tup (x :: y :: l)) (.int 1) = some y := by
  show (ixNat (l.length + 2) 1).bind _ = _
  unfold ixNat
  rw [if_pos (by omega), if_pos (by omega)]
  rfl
@[simp] theorem ix_t2 (x y z : D) (l : List D) : doIdx (.tup (x :: y :: z :: l)) (.int 2) = some z := by
  show (ixNat (l.length + 3) 2).bind _ = _
  unfold ixNat
  rw [if_pos (by omega), if_pos (by omega)]
  rfl
@[simp] theorem ix_t3 (x y z u : D) (l : List D) : doIdx (.tup (x :: y :: z :: u :: l)) (.int 3) = some u := by
  show (ixNat (l.length + 4) 3).bind _ = _
  unfold ixNat
  rw [if_pos (by omega), if_pos (by omega)]
  rfl
@[simp] theorem ix_l0 (x : D) (l : List D) : doIdx (.lst (x :: l)) (.int 0) = some x := ix_t0 x l
@[simp] theorem ix_l1 (x y : D) (l : List D) : doIdx (.lst (x :: y :: l)) (.int 1) = some y := ix_t1 x y l
@[simp] theorem getIx_t (l : List D) (y : D) : getIx (.tup l) y = M.of (doIdx (.tup l) y) := (rfl)
@[simp] theorem getIx_l (l : List D) (y : D) : getIx (.lst l) y = M.of (doIdx (.lst l) y) := (rfl)
@[simp] theorem getIx_d (k v : List D) (y : D) : getIx (.dic k v) y = M.of (doIdx (.dic k v) y) := (rfl)
/-! dicts by names -/
theorem mkDict_go {β : Type} (g : β → D) : ∀ (l done : List (Nm × β)), ((done ++ l).map (·.1)).Nodup → mkDict (l.map fun q => .tup [.str q.1, g q.2]) (done.map fun q => .str q.1) (done.map fun q => g q.2) = some ((done ++ l).map fun q => .str q.1, (done ++ l).map fun q => g q.2)
  | [], done, _ => by rw [List.append_nil]; rfl
  | q :: l, done, hn => by
    have hno : ((done.map fun q => D.str q.1).any fun x => deq x (.str q.1)) = false := by
      rw [List.any_eq_false]
      intro x hx
      obtain ⟨r, hr, rfl⟩ := List.mem_map.mp hx
      rw [deq_str]
      intro e
      have e := beq_iff_eq.mp e
      rw [List.map_append, List.nodup_append] at hn
      exact hn.2.2 r.1 (List.mem_map.mpr ⟨r, hr, rfl⟩) q.1 (by simp) e
    show (if isKey (.str q.1) then mkDict (l.map _) (dputK (.str q.1) _) (dputV (.str q.1) (g q.2) _ _) else none) = _
    unfold dputK dputV
    rw [hno]
    have := mkDict_go g l (done ++ [q]) (by simpa using hn)
    rw [if_pos (show isKey (.str q.1) = true from rfl)]
    simpa using this
@[simp] theorem dict_t {β : Type} {g : β → D} {l : List (Nm × β)} (h : (l.map (·.1)).Nodup) : doB1 .dict (.tup (l.map fun q => .tup [.str q.1, g q.2])) = some (.dic (l.map fun q => .str q.1) (l.map fun q => g q.2)) := by
  show (mkDict _ [] []).map _ = _
  rw [show mkDict (l.map fun q => D.tup [.str q.1, g q.2]) [] [] = _ from mkDict_go g l [] (by simpa using h)]
  rfl
@[simp] theorem look_d {β : Type} (g : β → D) (k : Nm) (l : List (Nm × β)) : doIdx (.dic (l.map fun q => .str q.1) (l.map fun q => g q.2)) (.str k) = (l.lookup k).map g := by
  show dlook (.str k) _ _ = _
  induction l with
  | nil => rfl
  | cons q l ih =>
    show (if deq (.str q.1) (.str k) then some (g q.2) else dlook (.str k) (l.map _) (l.map _)) = _
    rw [deq_str, ih, List.lookup_cons, Bool.beq_comm]
    cases k == q.1 <;> rfl
/-- what a table of numbers says -/
def prc (l : List (Nm × Int)) (k : Nm) : Int := (l.lookup k).getD 0
theorem look_prc {l : List (Nm × Int)} {k : Nm} (h : k ∈ l.map (·.1)) : l.lookup k = some (prc l k) := by
  unfold prc
  induction l with
  | nil => cases h
  | cons q l ih =>
    rw [List.lookup_cons]
    by_cases e : k == q.1
    · rw [e]; rfl
    · simp only [e]
      refine ih ?_
      rcases List.mem_cons.mp h with z | z
      · exact absurd (beq_iff_eq.mpr z) e
      · exact z
@[simp high] theorem look_prc_d {l : List (Nm × Int)} {k : Nm} (h : k ∈ l.map (·.1)) : doIdx (.dic (l.map fun q => .str q.1) (l.map fun q => .int q.2)) (.str k) = some (.int (prc l k)) := by
  rw [look_d, look_prc h]
  rfl
theorem ints_map {α : Type} (f : α → Int) (l : List α) : dInts (l.map fun a => .int (f a)) = some (l.map f) := by
  induction l with
  | nil => rfl
  | cons a l ih => show (dInts (l.map fun a => .int (f a))).map _ = _; rw [ih]; rfl
@[simp] theorem sum_map {α : Type} (f : α → Int) (l : List α) : doB1 .sum (.lst (l.map fun a => .int (f a))) = some (.int (l.map f).sum) := by
  show (dInts _).map _ = _
  rw [ints_map]
  rfl
/-! least ones -/
def least {α : Type} (f : α → D) : List α → Option α
  | [] => none
  | x :: r => some (minK f x r)
theorem least_iff {α : Type} {f : α → D} {d : Nat} [Enc f d] {l : List α} {m : α} : least f l = some m ↔ m ∈ l ∧ ∀ y ∈ l, leK f m y := by
  cases l with
  | nil => simp [least]
  | cons x r =>
    show some (minK f x r) = some m ↔ _
    rw [Option.some.injEq]
    constructor
    · intro e
      subst e
      exact minK_spec r x
    · intro h
      exact minK_eq h.1 h.2
theorem Enc.least_ {α : Type} {f : α → D} {d : Nat} [Enc f d] (l : List α) (hd : d ≤ 60) (hk : ∀ a, isKeep (f a) = true) : doB1 .min (.lst (l.map f)) = (least f l).map f := by
  cases l with
  | nil => rfl
  | cons x r => exact Enc.min_ x r hd hk
theorem least_congr {α : Type} {f : α → D} {d : Nat} [Enc f d] {l l' : List α} (h : ∀ a, a ∈ l ↔ a ∈ l') : least f l = least f l' := by
  apply Option.ext
  intro m
  rw [least_iff, least_iff]
  simp only [h]
theorem least_srt {α : Type} {f : α → D} {d : Nat} [Enc f d] (l : List α) : (srt f l).head? = least f l := by
  apply Option.ext
  intro m
  rw [least_iff]
  constructor
  · intro h
    cases q : srt f l with
    | nil => rw [q] at h; cases h
    | cons x r =>
      rw [q] at h
      cases h
      exact srt_head q
  · intro h
    cases q : srt f l with
    | nil =>
      have := (srt_mem (f := f)).mpr h.1
      rw [q] at this
      cases this
    | cons x r =>
      have e := srt_head q
      rw [List.head?_cons, leK_anti (e.2 m h.1) (h.2 x e.1)]
/-! prices -/
abbrev eC (q : Nm × Int) : D := .tup [.str q.1, .int q.2]
abbrev eCs (l : List (Nm × Int)) : D := .tup (l.map fun q => .tup [.str q.1, .int q.2])
abbrev eS (q : Int × List Nm) : D := .tup [.int q.1, .tup (q.2.map .str)]
instance encC : Enc (fun q : Nm × Int => D.tup [.str q.1, .int q.2]) 1 := encPair (f := D.str) (g := D.int)
instance encS : Enc (fun q : Int × List Nm => D.tup [.int q.1, .tup (q.2.map .str)]) 2 := encPair (f := D.int) (g := fun l : List Nm => D.tup (l.map .str))
instance encCs : Enc eCs 2 := encTup (f := fun q : Nm × Int => D.tup [.str q.1, .int q.2])
instance tupCs : Tup eCs := tupTup (f := fun q : Nm × Int => D.tup [.str q.1, .int q.2])
@[simp] theorem min_S (l : List (Int × List Nm)) : doB1 .min (.lst (l.map fun q => .tup [.int q.1, .tup (q.2.map .str)])) = (least eS l).map eS := Enc.least_ (f := fun q : Int × List Nm => D.tup [.int q.1, .tup (q.2.map .str)]) l (by decide) fun _ => rfl
@[simp] theorem sorted_S (l : List (Int × List Nm)) : doB1 .sorted (.lst (l.map fun q => .tup [.int q.1, .tup (q.2.map .str)])) = some (.lst ((srt eS l).map fun q => .tup [.int q.1, .tup (q.2.map .str)])) := Enc.sorted_ (f := fun q : Int × List Nm => D.tup [.int q.1, .tup (q.2.map .str)]) l (by decide)
/-! texts, places, parts -/
@[simp] theorem itemsOf_s (s : List Nat) : itemsOf (.str s) = some (s.map fun c => .str [c]) := (rfl)
@[simp] theorem enumOf_t (l : List D) : enumOf (.tup l) = some (withIx 0 l) := (rfl)
@[simp] theorem enumOf_s (l : Nm) : enumOf (.str l) = some (withIx 0 (l.map fun c => .str [c])) := (rfl)
@[simp] theorem enumOf_l (l : List D) : enumOf (.lst l) = some (withIx 0 l) := (rfl)
@[simp] theorem withIx_map {α : Type} (f : α → D) : ∀ (l : List α) (k : Nat), withIx k (l.map f) = (l.zipIdx k).map fun q => .exc 0 [.int q.2, f q.1]
  | [], _ => rfl
  | a :: l, k => by
    show D.exc 0 [.int k, f a] :: withIx (k + 1) (l.map f) = _
    rw [withIx_map f l (k + 1)]
    rfl
@[simp] theorem doSlc_t (l : List D) (a b : Option Int) : doSlc (.tup l) a b = some (.tup (cutD l a b)) := (rfl)
@[simp] theorem doSlc_l (l : List D) (a b : Option Int) : doSlc (.lst l) a b = some (.lst (cutD l a b)) := (rfl)
theorem cutIx_p {n d : Nat} {i : Int} (h : 0 ≤ i) : cutIx n d (some i) = min i.toNat n := by
  show (if i < 0 then _ else _) = _
  rw [if_neg (by omega)]
theorem cut_take {l : List D} {i : Int} (h : 0 ≤ i) : cutD l none (some i) = l.take i.toNat := by
  unfold cutD
  rw [cutIx_p h, show cutIx l.length 0 none = 0 from rfl]
  rw [List.drop_zero, Nat.sub_zero]
  by_cases q : i.toNat ≤ l.length
  · rw [Nat.min_eq_left q]
  · rw [Nat.min_eq_right (by omega), List.take_of_length_le (Nat.le_refl _), List.take_of_length_le (by omega)]
theorem cut_drop {l : List D} {i : Int} (h : 0 ≤ i) : cutD l (some i) none = l.drop i.toNat := by
  unfold cutD
  rw [cutIx_p h, show cutIx l.length l.length none = l.length from rfl]
  by_cases q : i.toNat ≤ l.length
  · rw [Nat.min_eq_left q, List.take_of_length_le (by rw [List.length_drop]; exact Nat.le_refl _)]
  · rw [Nat.min_eq_right (by omega), List.drop_of_length_le (Nat.le_refl _), List.drop_of_length_le (by omega), List.take_nil]
@[simp] theorem cut_drop_n (l : List D) (k : Nat) : cutD l (some (k : Int)) none = l.drop k := by rw [cut_drop (by omega), Int.toNat_natCast]
@[simp] theorem cut_take_n (l : List D) (k : Nat) : cutD l none (some (k : Int)) = l.take k := by rw [cut_take (by omega), Int.toNat_natCast]
@[simp] theorem cut_take_1 (l : List D) (k : Nat) : cutD l none (some (1 + (k : Int))) = l.take (k + 1) := by rw [cut_take (by omega)]; congr 1; omega
@[simp] theorem cut_drop_1 (l : List D) : cutD l (some 1) none = l.drop 1 := cut_drop_n l 1
@[simp] theorem intOf_i (i : Int) : intOf (.int i) = some i := (rfl)
theorem drop_map_ {α β : Type} (f : α → β) (l : List α) (k : Nat) : (l.map f).drop k = (l.drop k).map f := List.map_drop.symm
theorem take_map_ {α β : Type} (f : α → β) (l : List α) (k : Nat) : (l.map f).take k = (l.take k).map f := List.map_take.symm
@[simp] theorem eq_nil_ {α : Type} {f : α → D} {d : Nat} [Enc f d] (l : List α) (hd : d ≤ 50) : doCmp .eq (.lst (l.map f)) (.lst []) = some l.isEmpty := by
  have := Enc.cmpEq (f := fun l : List α => D.lst (l.map f)) l [] (by omega)
  rw [show D.lst (([] : List α).map f) = D.lst [] from rfl] at this
  rw [this]
  cases l <;> simp
theorem rangeD_map : ∀ (n : Nat) (lo : Int), rangeD lo n = (List.range n).map fun k => .int (lo + (k : Nat))
  | 0, _ => rfl
  | n + 1, lo => by
    show D.int lo :: rangeD (lo + 1) n = _
    rw [rangeD_map n (lo + 1), List.range_succ_eq_map, List.map_cons, List.map_map]
    congr 1
    · simp
    · apply List.map_congr_left
      intro a _
      show D.int (lo + 1 + (a : Int)) = D.int (lo + ((a + 1 : Nat) : Int))
      congr 1
      omega
@[simp] theorem rng1_ {n : Int} (h : 0 ≤ n) (h2 : n ≤ 1000000000) : rng1 (.int n) = some ((List.range n.toNat).map fun k => .int (k : Nat)) := by
  show (if n ≤ 1000000000 ∧ -1000000000 ≤ n then some (rangeD 0 n.toNat) else none) = _
  rw [if_pos ⟨h2, by omega⟩, rangeD_map]
  simp
@[simp] theorem rng2_ {m n : Int} (h : 0 ≤ m) (h3 : 0 ≤ n) (h2 : n ≤ 1000000000) (h4 : m ≤ 1000000000) : rng2 (.int m) (.int n) = some ((List.range (n - m).toNat).map fun k => .int (m + (k : Nat))) := by
  show (if n ≤ 1000000000 ∧ -1000000000 ≤ n ∧ m ≤ 1000000000 ∧ -1000000000 ≤ m then some (rangeD m (n - m).toNat) else none) = _
  rw [if_pos ⟨h2, by omega, h4, by omega⟩, rangeD_map]
@[simp] theorem bin_pow_ {i j : Int} (h : 0 ≤ j) (h2 : j ≤ 1000) (h3 : -18446744073709551616 < i) (h4 : i < 18446744073709551616) : doBin .pow (.int i) (.int j) = some (.int (i ^ j.toNat)) := by
  show (if 0 ≤ j ∧ j ≤ 1000 ∧ big64 i = true then _ else _) = _
  rw [if_pos ⟨h, h2, big_of h3 h4⟩]
@[simp] theorem bin_mul_r {i j : Int} (h3 : -18446744073709551616 < j) (h4 : j < 18446744073709551616) : doBin .mul (.int i) (.int j) = some (.int (i * j)) := bin_mul (by rw [big_of h3 h4, Bool.or_true])
theorem bin_mul_l {i j : Int} (h3 : -18446744073709551616 < i) (h4 : i < 18446744073709551616) : doBin .mul (.int i) (.int j) = some (.int (i * j)) := bin_mul (by rw [big_of h3 h4, Bool.true_or])
theorem szB {b : Book} (h1 : b.1.length ≤ 1000) (h2 : b.2.1.length ≤ 1000) (h3 : b.2.2.length ≤ 1000) : szOk (eB b) = true :=
  sz_3 (sz_tup h1 fun _ _ => rfl) (sz_tup h2 fun _ _ => sz_2 rfl rfl) (sz_tup h3 fun _ _ => rfl)
theorem szCs {l : List (Nm × Int)} (h1 : l.length ≤ 1000) : szOk (eCs l) = true := sz_tup h1 fun _ _ => sz_2 rfl rfl
theorem asB {b : Book} (h1 : b.1.length ≤ 1000) (h2 : b.2.1.length ≤ 1000) (h3 : b.2.2.length ≤ 1000) : As eB (eB b) b := .own (szB h1 h2 h3) (by decide)
theorem asCs {l : List (Nm × Int)} (h1 : l.length ≤ 1000) : As eCs (eCs l) l := .own (szCs h1) (by decide)
theorem asT {l : List Nm} (h1 : l.length ≤ 1000) : As eT (eT l) l := .own (sz_tup h1 fun _ _ => rfl) (by decide)
theorem dep_l2 {a b : D} {k : Nat} (h1 : dep a ≤ k) (h2 : dep b ≤ k) : dep (.lst [a, b]) ≤ k + 1 := by
  show max (dep a) (max (dep b) 0) + 1 ≤ k + 1
  omega
/-! the law, from its two parts -/
def isT : Res D → Bool
  | .ok (.bl true) [] => true
  | _ => false
theorem isT_ {r : Res D} (h : isT r = true) : r = .ok (.bl true) [] := by
  unfold isT at h
  split at h
  · rfl
  · cases h
theorem law_frame {p : Prog} {li hand cells box right m : Nat} {mb : Int} (hL : p.fns[li]? = some (lawF hand cells box right m)) (hC : p.fns[cells]? = some cellsF) (hB : p.fns[box]? = some (boxF mb)) {n : Nat} (hm : 0 < m) (hm2 : m ≤ 63)
    (hh : p.run (n + 1) hand [] [] = .ok (.bl true) []) (hr : ∀ g, Dr g 1000000 (p.run (n + 1) right [.cell g]) fun d => d = .bl true) {ns : List Int} (hn : ns.length ≤ 63) :
    ∃ st', p.run (n + 2) li [.scr (ns.map D.int)] [] = .ok (.bl true) st' :=
  law_run hL hC hB hm hm2 hh (fun st g t => by
    obtain ⟨a, st', h1, h2, _⟩ := hr g st 0 t (by omega)
    exact ⟨st', by rw [h1, h2]⟩) hn
/-! webs -/
abbrev Row := Nm × List Nm
abbrev Net := List Row
abbrev eR (q : Row) : D := .tup [.str q.1, .tup (q.2.map .str)]
abbrev eN (w : Net) : D := .tup (w.map fun q => .tup [.str q.1, .tup (q.2.map .str)])
instance encR : Enc (fun q : Row => D.tup [.str q.1, .tup (q.2.map .str)]) 2 := encPair (f := D.str) (g := fun l : List Nm => D.tup (l.map .str))
instance encN : Enc eN 3 := encTup (f := fun q : Row => D.tup [.str q.1, .tup (q.2.map .str)])
instance tupR : Tup (fun q : Row => D.tup [.str q.1, .tup (q.2.map .str)]) := tupPair (f := D.str) (g := fun l : List Nm => D.tup (l.map .str))
instance tupN : Tup eN := tupTup (f := fun q : Row => D.tup [.str q.1, .tup (q.2.map .str)])
@[simp] theorem sorted_rowsR (l : Net) : doB1 .sorted (.lst (l.map fun q => .tup [.str q.1, .tup (q.2.map .str)])) = some (.lst ((srt eR l).map fun q => .tup [.str q.1, .tup (q.2.map .str)])) := Enc.sorted_ (f := fun q : Row => D.tup [.str q.1, .tup (q.2.map .str)]) l (by decide)
@[simp] theorem sorted_rowsR_t (l : Net) : doB1 .sorted (.tup (l.map fun q => .tup [.str q.1, .tup (q.2.map .str)])) = some (.lst ((srt eR l).map fun q => .tup [.str q.1, .tup (q.2.map .str)])) := sorted_rowsR l
@[simp] theorem sorted_names_t (l : List Nm) : doB1 .sorted (.tup (l.map .str)) = some (.lst ((srt D.str l).map .str)) := sorted_names l
@[simp] theorem b1_tuple_s (x : List Nat) : doB1 .tuple (.str x) = (short (x.map fun c => .str [c])).map .tup := (rfl)
@[simp] theorem b2_min_i (i j : Int) : doB2 .min (.int i) (.int j) = some (.int (if j < i then j else i)) := (rfl)
@[simp] theorem b2_max_i (i j : Int) : doB2 .max (.int i) (.int j) = some (.int (if j > i then j else i)) := (rfl)
@[simp] theorem b2_min_s (x y : List Nat) : doB2 .min (.str x) (.str y) = some (.str (if slt y x then y else x)) := (rfl)
@[simp] theorem b2_max_s (x y : List Nat) : doB2 .max (.str x) (.str y) = some (.str (if slt x y then y else x)) := (rfl)
theorem szN {w : Net} (h1 : w.length ≤ 1000) (h2 : ∀ q ∈ w, q.2.length ≤ 1000) : szOk (eN w) = true := sz_tup h1 fun q hq => sz_2 rfl (sz_tup (h2 q hq) fun _ _ => rfl)
theorem asN {w : Net} (h1 : w.length ≤ 1000) (h2 : ∀ q ∈ w, q.2.length ≤ 1000) : As eN (eN w) w := .own (szN h1 h2) (by decide)
@[simp] theorem eq_nil_t {α : Type} {f : α → D} {d : Nat} [Enc f d] (l : List α) (hd : d ≤ 50) : doCmp .eq (.tup (l.map f)) (.tup []) = some l.isEmpty := by
  have := Enc.cmpEq (f := fun l : List α => D.tup (l.map f)) l [] (by omega)
  rw [show D.tup (([] : List α).map f) = D.tup [] from rfl] at this
  rw [this]
  cases l <;> simp
theorem cmp_int_lt (i j : Int) : doCmp .lt (.int i) (.int j) = some (decide (i < j)) := rfl
@[simp] theorem cmp_lt_i (i j : Int) : doCmp .lt (.int i) (.int j) = some (decide (i < j)) := (rfl)
@[simp] theorem cmp_gt_i (i j : Int) : doCmp .gt (.int i) (.int j) = some (decide (j < i)) := (rfl)
@[simp] theorem cmp_le_i (i j : Int) : doCmp .le (.int i) (.int j) = some (!decide (j < i)) := (rfl)
@[simp] theorem cmp_ge_i (i j : Int) : doCmp .ge (.int i) (.int j) = some (!decide (i < j)) := (rfl)
@[simp] theorem truth_s (x : List D) : truth (.tup x) = some (!x.isEmpty) := (rfl)
@[simp] theorem ite_int {c : Prop} [Decidable c] (a b : Int) : (if c then D.int a else D.int b) = D.int (if c then a else b) := by split <;> rfl
@[simp] theorem ite_nx {c : Prop} [Decidable c] (a b : D) : (if c then Out.rt a else Out.rt b) = Out.rt (if c then a else b) := by split <;> rfl
@[simp] theorem min_I (l : List Int) : doB1 .min (.lst (l.map .int)) = (least D.int l).map .int := Enc.least_ (f := D.int) l (by decide) fun _ => rfl
@[simp] theorem gP_10 (a b : D) : gP 0 2 [1, 0] [] [a, b] = [b, a] := (rfl)
@[simp] theorem gP_01 (a b : D) : gP 0 2 [0, 1] [] [a, b] = [a, b] := (rfl)
theorem sz_l3 {a b c : D} (h1 : szOk a = true) (h2 : szOk b = true) (h3 : szOk c = true) : szOk (.lst [a, b, c]) = true := sz_3 h1 h2 h3
theorem dep_l3 {a b c : D} {k : Nat} (h1 : dep a ≤ k) (h2 : dep b ≤ k) (h3 : dep c ≤ k) : dep (.lst [a, b, c]) ≤ k + 1 := by
  show max (dep a) (max (dep b) (max (dep c) 0)) + 1 ≤ k + 1
  omega
end Wy

set_option autoImplicit false
set_option linter.all false
namespace Wy
/-! sets: each once, in order -/
/-- f writes what may be a member of a set -/
class Key {α : Type} (f : α → D) (c : outParam Bool) : Prop where
  k : ∀ a, kOk (f a) = true
  d : ∀ a, dep (f a) ≤ 8
  t : c = true → ∀ a, notTup (f a) = true
  u : c = false → ∀ a, isTup1 (f a) = true
section
variable {α β γ : Type} {f : α → D} {g : β → D} {h : γ → D} {d : Nat} {c c' c'' : Bool}
instance keyStr : Key D.str true := ⟨fun _ => rfl, fun _ => Nat.zero_le _, fun _ _ => rfl, fun z => nomatch z⟩
instance keyInt : Key D.int true := ⟨fun _ => rfl, fun _ => Nat.zero_le _, fun _ _ => rfl, fun z => nomatch z⟩
theorem kOks_map (q : ∀ a, kOk (f a) = true) : ∀ l : List α, kOks (l.map f) = true
  | [] => rfl
  | a :: l => by
    show (kOk (f a) && kOks (l.map f)) = true
    rw [q a, kOks_map q l]
    rfl
/-- each once -/
def nub (f : α → D) : List α → List α
  | [] => []
  | x :: xs => if xs.any (fun y => deq (f y) (f x)) then nub f xs else x :: nub f xs
theorem nub_map : ∀ l : List α, ddup (l.map f) = (nub f l).map f
  | [] => rfl
  | x :: l => by
    show (if (l.map f).any (fun y => deq y (f x)) then ddup (l.map f) else f x :: ddup (l.map f)) = (if l.any (fun y => deq (f y) (f x)) then nub f l else x :: nub f l).map f
    rw [List.any_map, nub_map l]
    show (if l.any (fun y => deq (f y) (f x)) then _ else _) = _
    split <;> rfl
@[simp] theorem nub_mem [Enc f d] {x : α} : ∀ {l : List α}, x ∈ nub f l ↔ x ∈ l
  | [] => Iff.rfl
  | y :: l => by
    unfold nub
    have ih : x ∈ nub f l ↔ x ∈ l := nub_mem
    split
    · rename_i q
      obtain ⟨u, hu, e⟩ := List.any_eq_true.mp q
      rw [(Enc.eq u y).mp e] at hu
      rw [ih, List.mem_cons]
      exact ⟨.inr, fun z => z.elim (fun e => e ▸ hu) id⟩
    · rw [List.mem_cons, List.mem_cons, ih]
theorem nub_nodup [Enc f d] : ∀ l : List α, (nub f l).Nodup
  | [] => List.nodup_nil
  | y :: l => by
    unfold nub
    split
    · exact nub_nodup l
    · rename_i q
      exact List.nodup_cons.mpr ⟨fun z => q (List.any_eq_true.mpr ⟨y, nub_mem.mp z, (Enc.eq y y).mpr rfl⟩), nub_nodup l⟩
theorem nub_le : ∀ l : List α, (nub f l).length ≤ l.length
  | [] => Nat.le_refl _
  | y :: l => by
    unfold nub
    split
    · exact Nat.le_succ_of_le (nub_le l)
    · exact Nat.succ_le_succ (nub_le l)
theorem nub_id [Enc f d] : ∀ {l : List α}, l.Nodup → nub f l = l
  | [], _ => rfl
  | y :: l, hn => by
    unfold nub
    rw [if_neg fun q => ?_, nub_id (List.nodup_cons.mp hn).2]
    obtain ⟨u, hu, e⟩ := List.any_eq_true.mp q
    rw [(Enc.eq u y).mp e] at hu
    exact (List.nodup_cons.mp hn).1 hu
theorem perm_mem {l m : List α} (h1 : l.Nodup) (h2 : m.Nodup) (h : ∀ x, x ∈ l ↔ x ∈ m) : l.Perm m := by
  haveI : DecidableEq α := fun a b => Classical.propDecidable (a = b)
  rw [List.perm_iff_count]
  intro a
  rw [h1.count, h2.count]
  by_cases z : a ∈ l
  · rw [if_pos z, if_pos ((h a).mp z)]
  · rw [if_neg z, if_neg fun q => z ((h a).mpr q)]
/-- the set of the things of l, in order -/
def uniq (f : α → D) (l : List α) : List α := srt f (nub f l)
@[simp] theorem uniq_mem [Enc f d] {x : α} {l : List α} : x ∈ uniq f l ↔ x ∈ l := by rw [uniq, srt_mem, nub_mem]
theorem uniq_nodup [Enc f d] (l : List α) : (uniq f l).Nodup := (srt_perm _).nodup_iff.mpr (nub_nodup l)
theorem uniq_sorted [Enc f d] (l : List α) : (uniq f l).Pairwise (leK f) := srt_sorted _
theorem uniq_le (l : List α) : (uniq f l).length ≤ l.length := by rw [uniq, srt_length]; exact nub_le l
theorem uniq_length (l : List α) : (uniq f l).length = (nub f l).length := by rw [uniq, srt_length]
/-- what is in order, each once, with the same things, is the set -/
theorem uniq_is [Enc f d] {l m : List α} (h1 : m.Nodup) (h2 : m.Pairwise (leK f)) (h : ∀ x, x ∈ l ↔ x ∈ m) : uniq f l = m :=
  srt_unique (perm_mem (uniq_nodup l) h1 fun x => by rw [uniq_mem, h]) (uniq_sorted l) h2
theorem uniq_congr [Enc f d] {l m : List α} (h : ∀ x, x ∈ l ↔ x ∈ m) : uniq f l = uniq f m := uniq_is (uniq_nodup m) (uniq_sorted m) fun x => by rw [uniq_mem, h]
theorem uniq_srt [Enc f d] {l : List α} (h : l.Nodup) : uniq f l = srt f l := by rw [uniq, nub_id h]
theorem nub_len_congr [Enc f d] {l m : List α} (h : ∀ x, x ∈ l ↔ x ∈ m) : (nub f l).length = (nub f m).length := (perm_mem (nub_nodup l) (nub_nodup m) fun x => by rw [nub_mem, nub_mem, h]).length_eq
theorem Key.ok [Key f c] {l : List α} (hl : l.length ≤ if c then 4000 else 63) : setOk (l.map f) = true := by
  have h1 : (l.map f).all kOk = true := List.all_eq_true.mpr fun x hx => by
    obtain ⟨a, _, rfl⟩ := List.mem_map.mp hx
    exact Key.k a
  unfold setOk
  rw [h1, Bool.true_and]
  cases c with
  | true =>
    rw [show (l.map f).all notTup = true from List.all_eq_true.mpr fun x hx => by
      obtain ⟨a, _, rfl⟩ := List.mem_map.mp hx
      exact Key.t rfl a, show Nat.ble (l.map f).length 4000 = true from Nat.ble_eq_true_of_le (by rw [List.length_map]; exact hl), Bool.true_and, Bool.or_true]
  | false =>
    rw [show (l.map f).all isTup1 = true from List.all_eq_true.mpr fun x hx => by
      obtain ⟨a, _, rfl⟩ := List.mem_map.mp hx
      exact Key.u rfl a, show Nat.ble (l.map f).length 63 = true from Nat.ble_eq_true_of_le (by rw [List.length_map]; exact hl),
      show (l.map f).all (fun d => Nat.ble (dep d) 8) = true from List.all_eq_true.mpr fun x hx => by
        obtain ⟨a, _, rfl⟩ := List.mem_map.mp hx
        exact Nat.ble_eq_true_of_le (Key.d a)]
    rfl
theorem Key.set_l [Enc f d] [Key f c] {l : List α} (hd : d ≤ 60) (hl : l.length ≤ if c then 4000 else 63) : doSet false (.lst (l.map f)) = some (.lst ((uniq f l).map f)) := by
  show (if setOk (l.map f) then (if false then _ else if srtOk (l.map f) then _ else none) else none) = _
  rw [Key.ok hl, srtOk_map hd, nub_map, srt_map]
  rfl
theorem Key.set_t [Enc f d] [Key f c] {l : List α} (hd : d ≤ 60) (hl : l.length ≤ if c then 4000 else 63) : doSet false (.tup (l.map f)) = some (.lst ((uniq f l).map f)) := Key.set_l hd hl
theorem Key.len_l [Key f c] {l : List α} (hl : l.length ≤ if c then 4000 else 63) : doSet true (.lst (l.map f)) = some (.int (nub f l).length) := by
  show (if setOk (l.map f) then (if true then _ else _) else none) = _
  rw [Key.ok hl, nub_map, List.length_map]
  rfl
theorem Key.len_t [Key f c] {l : List α} (hl : l.length ≤ if c then 4000 else 63) : doSet true (.tup (l.map f)) = some (.int (nub f l).length) := Key.len_l hl
end
instance keyP : Key (fun q : Pr => D.tup [.str q.1, .str q.2]) false := ⟨fun _ => rfl, fun _ => by show 1 ≤ 8; decide, (fun z => nomatch z), fun _ _ => rfl⟩
instance keyT : Key (fun l : List Nm => D.tup (l.map .str)) false := ⟨fun l => kOks_map (fun _ => rfl) l, fun l => Nat.le_trans (encT.dp l) (by decide), (fun z => nomatch z), fun _ _ => rfl⟩
@[simp] theorem set_names {l : List Nm} (h : l.length ≤ 4000) : doSet false (.lst (l.map .str)) = some (.lst ((uniq D.str l).map .str)) := Key.set_l (c := true) (by decide) h
@[simp] theorem set_names_t {l : List Nm} (h : l.length ≤ 4000) : doSet false (.tup (l.map .str)) = some (.lst ((uniq D.str l).map .str)) := Key.set_l (c := true) (by decide) h
@[simp] theorem set_pairs {l : List Pr} (h : l.length ≤ 63) : doSet false (.lst (l.map fun q => .tup [.str q.1, .str q.2])) = some (.lst ((uniq eP l).map fun q => .tup [.str q.1, .str q.2])) := Key.set_l (c := false) (f := fun q : Pr => D.tup [.str q.1, .str q.2]) (by decide) h
@[simp] theorem set_pairs_t {l : List Pr} (h : l.length ≤ 63) : doSet false (.tup (l.map fun q => .tup [.str q.1, .str q.2])) = some (.lst ((uniq eP l).map fun q => .tup [.str q.1, .str q.2])) := Key.set_l (c := false) (f := fun q : Pr => D.tup [.str q.1, .str q.2]) (by decide) h
@[simp] theorem lset_names {l : List Nm} (h : l.length ≤ 4000) : doSet true (.lst (l.map .str)) = some (.int (nub D.str l).length) := Key.len_l (c := true) h
@[simp] theorem lset_names_t {l : List Nm} (h : l.length ≤ 4000) : doSet true (.tup (l.map .str)) = some (.int (nub D.str l).length) := Key.len_l (c := true) h
@[simp] theorem lset_pairs {l : List Pr} (h : l.length ≤ 63) : doSet true (.lst (l.map fun q => .tup [.str q.1, .str q.2])) = some (.int (nub eP l).length) := Key.len_l (c := false) (f := fun q : Pr => D.tup [.str q.1, .str q.2]) h
@[simp] theorem lset_pairs_t {l : List Pr} (h : l.length ≤ 63) : doSet true (.tup (l.map fun q => .tup [.str q.1, .str q.2])) = some (.int (nub eP l).length) := Key.len_l (c := false) (f := fun q : Pr => D.tup [.str q.1, .str q.2]) h
@[simp] theorem in_names_l (x : Nm) (l : List Nm) : doIn (.str x) (.lst (l.map .str)) = some (l.contains x) := in_names x l
@[simp] theorem in_pairs_l (x y : Nm) (l : List Pr) : doIn (.tup [.str x, .str y]) (.lst (l.map fun q => .tup [.str q.1, .str q.2])) = some (decide ((x, y) ∈ l)) := in_pairs x y l
@[simp] theorem in_rows_l (x : List Nm) (l : List (List Nm)) : doIn (.tup (x.map .str)) (.lst (l.map fun r => .tup (r.map .str))) = some (decide (x ∈ l)) := in_rows x l
theorem foldl_app {α β : Type} (g : α → List β) : ∀ (l : List α) (s : List β), l.foldl (fun s a => s ++ g a) s = s ++ l.flatMap g
  | [], s => by simp
  | a :: l, s => by rw [List.foldl_cons, foldl_app g l]; simp
theorem foldl_filter {α : Type} (P : α → Bool) (l : List α) : l.foldl (fun s a => s ++ if P a then [a] else []) [] = l.filter P := by rw [foldl_app, List.nil_append, flatMap_if]; simp
@[simp] theorem cut_drop_k1 (l : List D) (k : Nat) : cutD l (some ((k : Int) + 1)) none = l.drop (k + 1) := by rw [cut_drop (by omega)]; congr 1
@[simp] theorem cut_take_k1 (l : List D) (k : Nat) : cutD l none (some ((k : Int) + 1)) = l.take (k + 1) := by rw [cut_take (by omega)]; congr 1
instance encNat : Enc (fun k : Nat => D.int k) 0 := Enc.of_inj (f := D.int) (φ := fun k : Nat => (k : Int)) fun a b h => by omega
@[simp] theorem ne_nil_ {α : Type} {f : α → D} {d : Nat} [Enc f d] (l : List α) (hd : d ≤ 50) : doCmp .ne (.lst (l.map f)) (.lst []) = some (!l.isEmpty) := by
  have := Enc.cmpNe (f := fun l : List α => D.lst (l.map f)) l [] (by omega)
  rw [show D.lst (([] : List α).map f) = D.lst [] from rfl] at this
  rw [this]
  cases l <;> simp
@[simp] theorem ne_nil_t {α : Type} {f : α → D} {d : Nat} [Enc f d] (l : List α) (hd : d ≤ 50) : doCmp .ne (.tup (l.map f)) (.tup []) = some (!l.isEmpty) := by
  have := Enc.cmpNe (f := fun l : List α => D.tup (l.map f)) l [] (by omega)
  rw [show D.tup (([] : List α).map f) = D.tup [] from rfl] at this
  rw [this]
  cases l <;> simp
@[simp] theorem int_bl (b : Bool) : doB1 .int (.bl b) = some (.int (bInt b)) := (rfl)
@[simp] theorem mul_one_if (d : D) (b : Bool) : doBin .mul (.lst [d]) (.int (bInt b)) = some (.lst (if b then [d] else [])) := by cases b <;> rfl
end Wy

set_option autoImplicit false
set_option linter.all false
namespace Wy
/-! a law that asks twice from each box -/
def lawG (hand cells box right : Nat) (m : Int) : Fn := ⟨1, 4, [
  .ife (.not (.call hand [])) [.ret (.k (.bl false))] [],
  .set (.n 1) (.call cells [(.v 0), (.k (.int (m)))]),
  .for_ (.n 2) (.range (.b1 .len (.v 1))) [.set (.n 3) (.call box [(.v 1), (.v 2)]), .ife (.or (.not (.call right [(.v 3)])) (.not (.call right [(.v 3)]))) [.ret (.k (.bl false))] []],
  .ret (.k (.bl true))]⟩
theorem ok_pure {α : Type} {a : α} {st : St} : (M.pure a) st = .ok a st := rfl
theorem law_frame2 {p : Prog} {li hand cells box right m : Nat} {mb : Int} (hL : p.fns[li]? = some (lawG hand cells box right m)) (hC : p.fns[cells]? = some cellsF) (hB : p.fns[box]? = some (boxF mb)) {n : Nat} (hm : 0 < m) (hm2 : m ≤ 63)
    (hh : p.run (n + 1) hand [] [] = .ok (.bl true) []) (hr : ∀ g, Dr g 400000 (p.run (n + 1) right [.cell g]) fun d => d = .bl true) {ns : List Int} (hn : ns.length ≤ 63) :
    ∃ st', p.run (n + 2) li [.scr (ns.map D.int)] [] = .ok (.bl true) st' := by
  obtain ⟨xs, a1, a2, hc⟩ := cells_run (n := n) hC (st := []) hm hm2 hn
  have loop : ∀ (l : List D), (∀ d ∈ l, ∃ j : Int, d = .int j ∧ 0 ≤ j ∧ j < xs.length) → ∀ (s2 s3 : Slot) (st : St), ∃ s2' s3' st', forLoop (.n 2) (xb (cx p (n + 2)) [.set (.n 3) (.call box [(.v 1), (.v 2)]), .ife (.or (.not (.call right [(.v 3)])) (.not (.call right [(.v 3)]))) [.ret (.k (.bl false))] []]) l [some (.scr (ns.map D.int), false), some (.lst (xs.map D.int), false), s2, s3] st = .ok (.nx [some (.scr (ns.map D.int), false), some (.lst (xs.map D.int), false), s2', s3']) st' := by
    intro l
    induction l with
    | nil => exact fun _ s2 s3 st => ⟨s2, s3, st, rfl⟩
    | cons d l ih =>
      intro hd s2 s3 st
      obtain ⟨j, rfl, j0, j1⟩ := hd d List.mem_cons_self
      obtain ⟨st1, b1, b2⟩ := box_run hB (n := n) (xs := xs) (k := j) (st := st) j0 (by omega)
      obtain ⟨d1, st2, c1, rfl, c3⟩ := hr st.length st1 0 b2 (by omega)
      obtain ⟨d2, st3, e1, rfl, e3⟩ := hr st.length st2 (0 + 400000) c3 (by omega)
      obtain ⟨s2', s3', st', h⟩ := ih (fun d hd' => hd d (List.mem_cons_of_mem _ hd')) (some (.int j, false)) (some (.cell st.length, false)) st3
      refine ⟨s2', s3', st', ?_⟩
      rw [← h]
      have e0 : ∀ (body : Env → M Out) (ρ : Env), forLoop (.n 2) body (D.int j :: l) ρ = M.bind (M.of (setTg ρ (.n 2) (.int j))) fun ρ1 => M.bind (body ρ1) fun o => match o with
        | .nx ρ2 => forLoop (.n 2) body l ρ2
        | .rt v => M.pure (.rt v)
        | .er ρ2 k ys => M.pure (.er ρ2 k ys) := fun _ _ => rfl
      rw [e0]
      simp
      refine (bind_ok b1).trans ((bind_ok c1).trans ?_)
      refine (bind_ok (a := true) (st' := st2) rfl).trans ?_
      rw [if_neg (by decide)]
      refine (bind_ok e1).trans ?_
      exact (bind_ok (a := true) (st' := st3) rfl).trans rfl
  have hr2 : ∀ d ∈ rangeD 0 xs.length, ∃ j : Int, d = .int j ∧ 0 ≤ j ∧ j < xs.length := fun d hd => by
    obtain ⟨j, h1, h2, h3⟩ := range_mem _ _ _ hd
    exact ⟨j, h1, h2, by omega⟩
  obtain ⟨s2', s3', st', h⟩ := loop (rangeD 0 xs.length) hr2 none none []
  refine ⟨st', ?_⟩
  rw [run_eq hL (by omega) rfl]
  have hrg : rng1 (.int (xs.length : Nat)) = some (rangeD 0 xs.length) := by
    show (if ((xs.length : Nat) : Int) ≤ 1000000000 ∧ -1000000000 ≤ ((xs.length : Nat) : Int) then some (rangeD 0 (((xs.length : Nat) : Int)).toNat) else none) = _
    rw [if_pos ⟨by omega, by omega⟩, Int.toNat_natCast]
  simp [lawG]
  refine (bind_ok hh).trans ?_
  refine (bind_ok (a := true) (st' := []) rfl).trans ?_
  rw [if_neg (by decide)]
  refine (bind_ok hc).trans ?_
  have hlen : doB1 .len (.lst (xs.map D.int)) = some (.int (xs.length : Nat)) := by
    show some (D.int ((xs.map D.int).length : Nat)) = _
    rw [List.length_map]
  refine (bind_ok (of_some (st := []) hlen)).trans ?_
  refine (bind_ok (of_some (st := []) hrg)).trans ?_
  refine (bind_ok h).trans ?_
  simp
  rfl
end Wy

set_option autoImplicit false
set_option linter.all false
set_option maxRecDepth 100000
namespace Wy
/-- thing part -/
def tupled_F (i : Nat) : Fn := ⟨1, 2, [
  .ret (.ite (.isi (.v 0) true [.list, .tuple]) (.b1 .tuple (.lc [1] (.call i [(.v 1)]) (.n 1) (.v 0) none)) (.v 0))]⟩
def tupled_H (p : Prog) (i : Nat) : Prop := p.fns[i]? = some (tupled_F i)
theorem tupled_run_ {p : Prog} {i n : Nat} (h : tupled_H p i) {α : Type} {f : α → D} {d : D} {a : α} (ha : As f d a) (hn : 10 ≤ n) : p.run n i [d] = M.pure (f a) := tupled_as h ha hn

end Wy

set_option autoImplicit false
set_option linter.all false
set_option maxRecDepth 100000
namespace Wy
/-- web -/
def as_table_F (i0 : Nat) : Fn := ⟨1, 1, [
  .ret (.b1 .dict (.call i0 [(.v 0)]))]⟩
def as_table_H (p : Prog) (i : Nat) : Prop := ∃ i0, p.fns[i]? = some (as_table_F i0) ∧ tupled_H p i0
theorem as_table_run {p : Prog} {i n : Nat} (h : as_table_H p i) (hn : 11 ≤ n) {d : D} {w : Net} (hw : As eN d w) (hd : (w.map (·.1)).Nodup) : p.run n i [d] = M.pure (.dic (w.map fun q => .str q.1) (w.map fun q => .tup (q.2.map .str))) := by
  obtain ⟨i0, h, g0⟩ := h
  rw [run_eq h (by omega) rfl]
  simp (disch := (first | omega | (show (_ : Nat) ≤ _; simp <;> omega) | fail)) [-List.map_drop, -List.map_take, drop_map_, take_map_, Function.comp_def, as_table_F, tupled_run_ g0 hw, dict_t (g := fun r : List Nm => D.tup (r.map .str)) hd]

end Wy

set_option autoImplicit false
set_option linter.all false
set_option maxRecDepth 100000
namespace Wy
/-- web name holders -/
def things_F (i0 : Nat) : Fn := ⟨1, 3, [
  .ret (.b1 .tuple (.lc [1, 2] (.v 1) (.t [1, 2]) (.call i0 [(.v 0)]) none))]⟩
def things_H (p : Prog) (i : Nat) : Prop := ∃ i0, p.fns[i]? = some (things_F i0) ∧ tupled_H p i0
theorem things_run {p : Prog} {i n : Nat} (h : things_H p i) (hn : 11 ≤ n) {d : D} {w : Net} (hw : As eN d w) (hl : w.length ≤ 1000) : p.run n i [d] = M.pure (.tup ((w.map (·.1)).map .str)) := by
  obtain ⟨i0, h, g0⟩ := h
  rw [run_eq h (by omega) rfl]
  simp (disch := (first | omega | (show (_ : Nat) ≤ _; simp <;> omega) | fail)) [-List.map_drop, -List.map_take, drop_map_, take_map_, Function.comp_def, things_F, tupled_run_ g0 hw]

end Wy

set_option autoImplicit false
set_option linter.all false
set_option maxRecDepth 100000
namespace Wy
/-- web wanted known name -/
def check_things_2_F (i0 : Nat) : Fn := ⟨2, 4, [
  .raises,
  .set (.n 2) (.call i0 [(.v 0)]),
  .for_ (.n 3) (.v 1) [.ife (.cmp .notin (.v 3) (.v 2)) [.raise_ 0 [(.v 3)]] []]]⟩
def check_things_2_H (p : Prog) (i : Nat) : Prop := ∃ i0, p.fns[i]? = some (check_things_2_F i0) ∧ things_H p i0
theorem check_things_2_run {p : Prog} {i n : Nat} (h : check_things_2_H p i) (hn : 12 ≤ n) {d : D} {w : Net} (hb : As eN d w) (hl : w.length ≤ 1000) {z : List Nm} (hw : ∀ a ∈ z, a ∈ w.map (·.1)) : p.run n i [d, .tup (z.map .str)] = M.pure .non := by
  obtain ⟨i0, h, g0⟩ := h
  rw [run_eqX h (by omega) rfl]
  simp (disch := (first | omega | (show (_ : Nat) ≤ _; simp <;> omega) | fail)) [-List.map_drop, -List.map_take, drop_map_, take_map_, Function.comp_def, check_things_2_F, things_run g0 (n := n - 1) (by omega) hb hl]
  refine for_then (fun (_ : Unit) (j : Slot) => [some (d, false), some (D.tup (z.map .str), false), some (.tup ((w.map (·.1)).map .str), false), j]) (fun s a => s) () none (by first | rfl | simp) (fun pre a post hp j => ?_) fun j => ?_
  · have ha : a ∈ w.map (·.1) := hw a (by rw [hp]; simp)
    have hc : (w.map (·.1)).contains a = true := by rw [List.contains_iff_mem]; exact ha
    have hi : doIn (D.str a) (D.tup (w.map fun x => D.str x.fst)) = some true := by
      have := in_names a (w.map (·.1))
      rw [hc, List.map_map] at this
      exact this
    simp (disch := (first | omega | (show (_ : Nat) ≤ _; simp <;> omega) | fail)) [-List.map_drop, -List.map_take, drop_map_, take_map_, Function.comp_def, hi]
  · simp (disch := (first | omega | (show (_ : Nat) ≤ _; simp <;> omega) | fail)) [-List.map_drop, -List.map_take, drop_map_, take_map_, Function.comp_def]
theorem check_things_2_run1 {p : Prog} {i n : Nat} (h : check_things_2_H p i) (hn : 12 ≤ n) {d : D} {w : Net} (hb : As eN d w) (hl : w.length ≤ 1000) {x : Nm} (hx : x ∈ w.map (·.1)) : p.run n i [d, .tup [.str x]] = M.pure .non :=
  check_things_2_run h hn hb hl (z := [x]) (by intro a ha; rw [List.mem_singleton.mp ha]; exact hx)
theorem for_errs_then {α J : Type} {tg : Tg} {body : Env → M Out} {e : α → D} {ρ : Env} {β : Type} {k : Out → M β} {R : M β} (E : J → Env) (bad : α → Bool) (er : α → Nat × List D) : ∀ (l : List α) (j : J), ρ = E j →
    (∀ a j, ∃ j', M.bind (M.of (setTg (E j) tg (e a))) body = if bad a then M.pure (.er (E j') (er a).1 (er a).2) else M.pure (.nx (E j'))) →
    (l.filter bad = [] → ∀ j, k (.nx (E j)) = R) → (∀ a r, l.filter bad = a :: r → ∀ j, k (.er (E j) (er a).1 (er a).2) = R) → M.bind (forLoop tg body (l.map e) ρ) k = R := by
  intro l
  induction l generalizing ρ with
  | nil =>
    intro j hρ _ h0 _
    rw [hρ]
    exact h0 rfl j
  | cons a l ih =>
    intro j hρ h h0 h1
    obtain ⟨j', hj⟩ := h a j
    have e1 : forLoop tg body ((a :: l).map e) ρ = M.bind (M.bind (M.of (setTg ρ tg (e a))) body) fun o => match o with
      | .nx ρ2 => forLoop tg body (l.map e) ρ2
      | .rt v => M.pure (.rt v)
      | .er ρ k ys => M.pure (.er ρ k ys) := by
      rw [bind_assoc_]
      rfl
    rw [e1, hρ, hj]
    cases hb : bad a with
    | true =>
      rw [if_pos rfl]
      exact h1 a (l.filter bad) (by rw [List.filter_cons, hb]; rfl) j'
    | false =>
      rw [if_neg (by decide)]
      refine ih j' rfl h (fun z => h0 (by rw [List.filter_cons, hb]; exact z)) fun b r z => h1 b r (by rw [List.filter_cons, hb]; exact z)
theorem in_fst (x : Nm) (w : Net) : doIn (.str x) (.tup (w.map fun q => .str q.1)) = some ((w.map (·.1)).contains x) := by
  have := in_names x (w.map (·.1))
  rw [List.map_map] at this
  exact this
def missN (ns z : List Nm) : List Nm := z.filter fun x => !ns.contains x
def missR (ns z : List Nm) : M D := match missN ns z with
  | [] => M.pure .non
  | y :: _ => M.exc 0 [.str y]
theorem check_things_2_any {p : Prog} {i n : Nat} (h : check_things_2_H p i) (hn : 12 ≤ n) {d : D} {w : Net} (hb : As eN d w) (hl : w.length ≤ 1000) {z : List Nm} {x : D} (hx : x = .tup (z.map .str) ∨ x = .lst (z.map .str)) : p.run n i [d, x] = missR (w.map (·.1)) z := by
  obtain ⟨i0, h, g0⟩ := h
  rw [run_eqX h (by omega) rfl]
  have key : ∀ x : D, M.bind (M.bind (forLoop (.n 3) (xb (cx p n) [.ife (.cmp .notin (.v 3) (.v 2)) [.raise_ 0 [(.v 3)]] []]) (z.map D.str) [some (d, false), some (x, false), some (.tup (w.map fun q => .str q.1), false), none]) (fun o => onNx (xb (cx p n) []) o)) finX = missR (w.map (·.1)) z := fun x => by
    rw [bind_assoc_]
    refine for_errs_then (fun (j : Slot) => [some (d, false), some (x, false), some (.tup (w.map fun q => .str q.1), false), j]) (fun y => !(w.map (·.1)).contains y) (fun y => (0, [.str y])) z none rfl (fun a j => ?_) (fun hz j => ?_) (fun a r hz j => ?_)
    · refine ⟨some (.str a, false), ?_⟩
      have hi := in_fst a w
      cases hc : (w.map (·.1)).contains a <;> rw [hc] at hi <;> simp (disch := (first | omega | (show (_ : Nat) ≤ _; simp <;> omega) | fail)) [-List.map_drop, -List.map_take, drop_map_, take_map_, Function.comp_def, hi]
    · unfold missR missN
      rw [hz]
      rfl
    · unfold missR missN
      rw [hz]
      rfl
  have e1 := things_run g0 (n := n - 1) (by omega) hb hl
  have k1 := key (.tup (z.map D.str))
  have k2 := key (.lst (z.map D.str))
  rcases hx with rfl | rfl
  · simp (disch := (first | omega | (show (_ : Nat) ≤ _; simp <;> omega) | fail)) [-List.map_drop, -List.map_take, drop_map_, take_map_, Function.comp_def, check_things_2_F, e1]
    simpa using k1
  · simp (disch := (first | omega | (show (_ : Nat) ≤ _; simp <;> omega) | fail)) [-List.map_drop, -List.map_take, drop_map_, take_map_, Function.comp_def, check_things_2_F, e1]
    simpa using k2

end Wy

set_option autoImplicit false
set_option linter.all false
set_option maxRecDepth 100000
namespace Wy
/-- web name holders -/
def roots_F (i0 : Nat) : Fn := ⟨1, 3, [
  .ret (.b1 .tuple (.lc [1, 2] (.v 1) (.t [1, 2]) (.call i0 [(.v 0)]) (some (.cmp .eq (.b1 .len (.v 2)) (.k (.int (0)))))))]⟩
def roots_H (p : Prog) (i : Nat) : Prop := ∃ i0, p.fns[i]? = some (roots_F i0) ∧ tupled_H p i0
theorem roots_run {p : Prog} {i n : Nat} (h : roots_H p i) (hn : 11 ≤ n) {d : D} {w : Net} (hw : As eN d w) (hl : w.length ≤ 1000) : p.run n i [d] = M.pure (.tup ((w.filter fun q => decide (q.2 = [])).map fun q => .str q.1)) := by
  obtain ⟨i0, h, g0⟩ := h
  rw [run_eq h (by omega) rfl]
  simp (disch := (first | omega | (show (_ : Nat) ≤ _; simp <;> omega) | fail)) [-List.map_drop, -List.map_take, drop_map_, take_map_, Function.comp_def, roots_F, tupled_run_ g0 hw]

end Wy

set_option autoImplicit false
set_option linter.all false
set_option maxRecDepth 100000
namespace Wy
/-- web name -/
def straight_in_2_F (i0 i1 : Nat) : Fn := ⟨2, 2, [
  .raises,
  .exX (.call i0 [(.v 0), (.tup [(.v 1)])]),
  .ret (.idx (.call i1 [(.v 0)]) (.v 1))]⟩
def straight_in_2_H (p : Prog) (i : Nat) : Prop := ∃ i0 i1, p.fns[i]? = some (straight_in_2_F i0 i1) ∧ check_things_2_H p i0 ∧ as_table_H p i1
theorem lookup_of_nodup {w : Net} {q : Row} (hd : (w.map (·.1)).Nodup) (hq : q ∈ w) : w.lookup q.1 = some q.2 := by
  induction w with
  | nil => cases hq
  | cons a w ih =>
    rw [List.map_cons, List.nodup_cons] at hd
    rw [List.lookup_cons]
    rcases List.mem_cons.mp hq with rfl | z
    · simp
    · have : q.1 ≠ a.1 := fun e => hd.1 (e ▸ List.mem_map.mpr ⟨q, z, rfl⟩)
      rw [beq_eq_false_iff_ne.mpr this]
      exact ih hd.2 z
theorem straight_in_2_run {p : Prog} {i n : Nat} (h : straight_in_2_H p i) (hn : 13 ≤ n) {d : D} {w : Net} (hw : As eN d w) (hl : w.length ≤ 1000) (hd : (w.map (·.1)).Nodup) {q : Row} (hq : q ∈ w) : p.run n i [d, .str q.1] = M.pure (.tup (q.2.map .str)) := by
  obtain ⟨i0, i1, h, g0, g1⟩ := h
  rw [run_eqX h (by omega) rfl]
  have e : w.lookup q.1 = some q.2 := lookup_of_nodup hd hq
  have e2 := look_d (fun r : List Nm => D.tup (r.map .str)) q.1 w
  rw [e] at e2
  simp (disch := (first | omega | (show (_ : Nat) ≤ _; simp <;> omega) | fail)) [-List.map_drop, -List.map_take, drop_map_, take_map_, Function.comp_def, straight_in_2_F, check_things_2_run1 g0 (n := n - 1) (by omega) hw hl (List.mem_map.mpr ⟨q, hq, rfl⟩), as_table_run g1 (n := n - 1) (by omega) hw hd, e2]

end Wy

set_option autoImplicit false
set_option linter.all false
set_option maxRecDepth 100000
namespace Wy
/-- web name own holders -/
def straight_under_2_F (i0 i1 : Nat) : Fn := ⟨2, 4, [
  .raises,
  .exX (.call i0 [(.v 0), (.tup [(.v 1)])]),
  .ret (.b1 .tuple (.lc [2, 3] (.v 2) (.t [2, 3]) (.call i1 [(.v 0)]) (some (.cmp .in_ (.v 1) (.v 3)))))]⟩
def straight_under_2_H (p : Prog) (i : Nat) : Prop := ∃ i0 i1, p.fns[i]? = some (straight_under_2_F i0 i1) ∧ check_things_2_H p i0 ∧ tupled_H p i1
theorem straight_under_2_run {p : Prog} {i n : Nat} (h : straight_under_2_H p i) (hn : 13 ≤ n) {d : D} {w : Net} (hw : As eN d w) (hl : w.length ≤ 1000) {q : Row} (hq : q ∈ w) : p.run n i [d, .str q.1] = M.pure (.tup ((w.filter fun a => a.2.contains q.1).map fun a => .str a.1)) := by
  obtain ⟨i0, i1, h, g0, g1⟩ := h
  rw [run_eqX h (by omega) rfl]
  simp (disch := (first | omega | (show (_ : Nat) ≤ _; simp <;> omega) | fail)) [-List.map_drop, -List.map_take, drop_map_, take_map_, Function.comp_def, straight_under_2_F, check_things_2_run1 g0 (n := n - 1) (by omega) hw hl (List.mem_map.mpr ⟨q, hq, rfl⟩), tupled_run_ g1 hw]

end Wy

set_option autoImplicit false
set_option linter.all false
set_option maxRecDepth 100000
namespace Wy
/-- web name holders -/
def shared_F (i0 : Nat) : Fn := ⟨1, 3, [
  .ret (.b1 .tuple (.lc [1, 2] (.v 1) (.t [1, 2]) (.call i0 [(.v 0)]) (some (.cmp .gt (.b1 .len (.v 2)) (.k (.int (1)))))))]⟩
def shared_H (p : Prog) (i : Nat) : Prop := ∃ i0, p.fns[i]? = some (shared_F i0) ∧ tupled_H p i0
theorem shared_run {p : Prog} {i n : Nat} (h : shared_H p i) (hn : 11 ≤ n) {d : D} {w : Net} (hw : As eN d w) (hl : w.length ≤ 1000) : p.run n i [d] = M.pure (.tup ((w.filter fun q => decide (1 < q.2.length)).map fun q => .str q.1)) := by
  obtain ⟨i0, h, g0⟩ := h
  rw [run_eq h (by omega) rfl]
  simp (disch := (first | omega | (show (_ : Nat) ≤ _; simp <;> omega) | fail)) [-List.map_drop, -List.map_take, drop_map_, take_map_, Function.comp_def, shared_F, tupled_run_ g0 hw]

end Wy

set_option autoImplicit false
set_option linter.all false
set_option maxRecDepth 100000
namespace Wy
/-- web -/
def is_forest_F (i0 : Nat) : Fn := ⟨1, 1, [
  .ret (.cmp .eq (.b1 .len (.call i0 [(.v 0)])) (.k (.int (0))))]⟩
def is_forest_H (p : Prog) (i : Nat) : Prop := ∃ i0, p.fns[i]? = some (is_forest_F i0) ∧ shared_H p i0
theorem is_forest_run {p : Prog} {i n : Nat} (h : is_forest_H p i) (hn : 12 ≤ n) {d : D} {w : Net} (hw : As eN d w) (hl : w.length ≤ 1000) : p.run n i [d] = M.pure (.bl ((w.filter fun q => decide (1 < q.2.length)).isEmpty)) := by
  obtain ⟨i0, h, g0⟩ := h
  rw [run_eq h (by omega) rfl]
  simp (disch := (first | omega | (show (_ : Nat) ≤ _; simp <;> omega) | fail)) [-List.map_drop, -List.map_take, drop_map_, take_map_, Function.comp_def, is_forest_F, shared_run g0 (n := n - 1) (by omega) hw hl]
  generalize w.filter (fun q => decide (1 < q.2.length)) = l
  cases l with
  | nil => rfl
  | cons a l => simp; omega

end Wy

set_option autoImplicit false
set_option linter.all false
set_option maxRecDepth 100000
namespace Wy
/-- _law_script _law_k _law_great_so -/
def l_box_18_F : Fn := ⟨2, 3, [
  .set (.n 2) (.ite (.cmp .lt (.v 1) (.b1 .len (.v 0))) (.idx (.v 0) (.v 1)) (.k (.int (0)))),
  .retCell [(.bin .mul (.b1 .abs (.v 2)) (.b1 .int (.cmp .ge (.b1 .abs (.v 2)) (.bin .pow (.k (.int (10))) (.k (.int (18))))))), (.bin .add (.bin .add (.bin .mod (.b1 .int (.v 2)) (.k (.int (2305843009213693951)))) (.bin .mul (.k (.int (39373))) (.v 1))) (.k (.int (1222)))), (.k (.int (0)))]]⟩
def l_box_18_H (p : Prog) (i : Nat) : Prop := p.fns[i]? = some (l_box_18_F)

end Wy

set_option autoImplicit false
set_option linter.all false
set_option maxRecDepth 100000
namespace Wy
/-- _law_tin _law_top_so _law_once _law_far _law_twice _law_digit_so -/
def l_take_F : Fn := ⟨2, 6, [
  .ife (.cmp .gt (.idx (.v 0) (.k (.int (0)))) (.k (.int (0)))) [.set (.n 5) (.bin .mod (.b1 .int (.idx (.v 0) (.k (.int (0))))) (.v 1)), .seti 0 (.k (.int (0))) (.bin .fdiv (.idx (.v 0) (.k (.int (0)))) (.v 1)), .ret (.v 5)] [],
  .seti 0 (.k (.int (2))) (.bin .add (.idx (.v 0) (.k (.int (2)))) (.k (.int (1)))),
  .set (.n 2) (.bin .mod (.b1 .int (.bin .mul (.bin .add (.idx (.v 0) (.k (.int (1)))) (.bin .mul (.k (.int (48271))) (.idx (.v 0) (.k (.int (2)))))) (.bin .add (.k (.int (39373))) (.idx (.v 0) (.k (.int (2))))))) (.k (.int (2147483647)))),
  .set (.n 3) (.bin .add (.bin .mod (.b1 .int (.v 2)) (.k (.int (40009)))) (.k (.int (7)))),
  .set (.n 4) (.bin .mod (.b1 .int (.bin .mul (.bin .add (.bin .add (.v 2) (.idx (.v 0) (.k (.int (2))))) (.bin .fdiv (.idx (.v 0) (.k (.int (1)))) (.k (.int (1000003))))) (.v 3))) (.k (.int (2147483629)))),
  .ret (.bin .mod (.b1 .int (.bin .fdiv (.bin .mod (.b1 .int (.bin .add (.bin .mul (.v 4) (.k (.int (48271)))) (.v 2))) (.k (.int (2147483587)))) (.k (.int (64))))) (.v 1))]⟩
def l_take_H (p : Prog) (i : Nat) : Prop := p.fns[i]? = some (l_take_F)
theorem l_take_dr {p : Prog} {i n g : Nat} (h : l_take_H p i) (hn : 0 < n) {top : Int} (h0 : 0 < top) (h1 : top < 1073741824) : Dr g 1 (p.run n i [.cell g, .int top]) fun d => ∃ x : Nat, d = .int x ∧ (x : Int) < top := take_dr h hn h0 h1
/-- one way or the other, as a draw falls -/
theorem l_take_coin {p : Prog} {i n g : Nat} (h : l_take_H p i) (hn : 0 < n) {top k : Int} (h0 : 0 < top) (h1 : top < 1073741824) {α : Type} {x y : α} :
    Dr g 1 (M.bind (p.run n i [.cell g, .int top]) fun a => M.bind (M.of (Option.map D.bl (doCmp .eq a (.int k)))) fun b => M.bind (M.of (truth b)) fun t => M.pure (if t = true then x else y)) fun r => r = x ∨ r = y := by
  refine Dr.step (l_take_dr h hn h0 h1) (by omega) ?_
  rintro _ ⟨z, rfl, hz⟩
  simp
  refine Dr.ret ?_
  split
  · exact .inl rfl
  · exact .inr rfl

end Wy

set_option autoImplicit false
set_option linter.all false
set_option maxRecDepth 100000
namespace Wy
/-- _law_script _law_most _law_cells_here _law_k _law_great_so _law_at_so -/
def l_cells_F : Fn := ⟨2, 6, [
  .own 2 (.or (.b1 .list (.slc (.v 0) none (some (.v 1)))) (.lst [(.k (.int (0)))])),
  .for_ (.t [3, 4]) (.enum (.slc (.v 0) (some (.v 1)) (some (.k (.int (63)))))) [.set (.n 5) (.bin .mod (.b1 .int (.v 3)) (.v 1)), .seti 2 (.v 5) (.bin .add (.idx (.v 2) (.v 5)) (.bin .mul (.v 4) (.bin .add (.v 3) (.k (.int (2))))))],
  .frz 2,
  .ret (.v 2)]⟩
def l_cells_H (p : Prog) (i : Nat) : Prop := p.fns[i]? = some (l_cells_F)

end Wy

set_option autoImplicit false
set_option linter.all false
set_option maxRecDepth 100000
namespace Wy
/-- _law_tin _law_pool _law_size_so _law_turn _law_rest _law_lot -/
def l_pick_F (i0 : Nat) : Fn := ⟨3, 6, [
  .par [4, 5] [true, true] [(.b1 .list (.v 1)), (.lst [])],
  .for_ (.n 3) (.range (.b2 .min (.v 2) (.b1 .len (.v 4)))) [.appPop 5 4 (.call i0 [(.v 0), (.b1 .len (.v 4))])],
  .frz 5,
  .ret (.v 5)]⟩
def l_pick_H (p : Prog) (i : Nat) : Prop := ∃ i0, p.fns[i]? = some (l_pick_F i0) ∧ l_take_H p i0
theorem cons_erase_perm {α : Type} : ∀ (l : List α) (k : Nat) (h : k < l.length), ([l[k]] ++ l.eraseIdx k).Perm l
  | a :: l, 0, _ => .refl _
  | a :: l, k + 1, h => by
    have := cons_erase_perm l k (by simpa using h)
    exact (List.Perm.swap a _ _).trans (this.cons a)
theorem eraseIdx_map_ {α β : Type} (e : α → β) : ∀ (l : List α) (k : Nat), (l.map e).eraseIdx k = (l.eraseIdx k).map e
  | [], _ => rfl
  | _ :: _, 0 => rfl
  | a :: l, k + 1 => by
    show e a :: (l.map e).eraseIdx k = e a :: (l.eraseIdx k).map e
    rw [eraseIdx_map_ e l k]
theorem l_pick_dr {p : Prog} {i n g : Nat} (h : l_pick_H p i) (hn : 2 ≤ n) {α : Type} {e : α → D} {pool : List α} {x : D} (hx : seqOf x = some (pool.map e)) (hb : doB1 .list x = some (.lst (pool.map e))) {m : Nat} (hm : m ≤ pool.length) (hl : pool.length ≤ 1000) :
    Dr g m (p.run n i [.cell g, x, .int m]) fun d => ∃ f r : List α, (f ++ r).Perm pool ∧ f.length = m ∧ d = .lst (f.map e) := by
  obtain ⟨i0, h, g0⟩ := h
  rw [run_eq h (by omega) rfl]
  simp (disch := (first | omega | (show (_ : Nat) ≤ _; simp <;> omega) | fail)) [-List.map_drop, -List.map_take, drop_map_, take_map_, Function.comp_def, l_pick_F, hb]
  rw [if_neg (by omega), Int.toNat_natCast]
  have loop : ∀ (k : Nat) (l : List Nat) (f r : List α) (j : Slot), l.length = k → (f ++ r).Perm pool → f.length + k = m → Dr g k (forLoop (.n 3) (xb (cx p n) [.appPop 5 4 (.call i0 [(.v 0), (.b1 .len (.v 4))])]) (l.map fun k => D.int (k : Nat)) [some (.cell g, false), some (x, false), some (.int m, false), j, some (.lst (r.map e), true), some (.lst (f.map e), true)])
      fun o => ∃ (f r : List α), (f ++ r).Perm pool ∧ f.length = m ∧ ∃ (j : Slot), o = .nx [some (.cell g, false), some (x, false), some (.int m, false), j, some (.lst (r.map e), true), some (.lst (f.map e), true)] := by
    intro k
    induction k with
    | zero =>
      intro l f r j hl hp hf
      rw [List.length_eq_zero_iff.mp hl]
      exact Dr.ret ⟨f, r, hp, by omega, j, rfl⟩
    | succ k ih =>
      intro l f r j hk hp hf
      cases l with
      | nil => cases hk
      | cons a l =>
        have hrl := hp.length_eq
        rw [List.length_append] at hrl
        have e1 : forLoop (.n 3) (xb (cx p n) [.appPop 5 4 (.call i0 [(.v 0), (.b1 .len (.v 4))])]) ((a :: l).map fun k => D.int (k : Nat)) [some (.cell g, false), some (x, false), some (.int m, false), j, some (.lst (r.map e), true), some (.lst (f.map e), true)] =
            M.bind (M.bind (M.of (setTg [some (.cell g, false), some (x, false), some (.int m, false), j, some (.lst (r.map e), true), some (.lst (f.map e), true)] (.n 3) (.int (a : Nat)))) (xb (cx p n) [.appPop 5 4 (.call i0 [(.v 0), (.b1 .len (.v 4))])])) fun o => match o with
              | .nx ρ2 => forLoop (.n 3) (xb (cx p n) [.appPop 5 4 (.call i0 [(.v 0), (.b1 .len (.v 4))])]) (l.map fun k => D.int (k : Nat)) ρ2
              | .rt v => M.pure (.rt v)
              | .er ρ k ys => M.pure (.er ρ k ys) := by
          rw [bind_assoc_]
          rfl
        rw [e1]
        clear e1
        simp (disch := (first | omega | (show (_ : Nat) ≤ _; simp <;> omega) | fail)) [-List.map_drop, -List.map_take, drop_map_, take_map_, Function.comp_def]
        refine Dr.mono (Dr.bind (k := 1) (k' := k) (l_take_dr g0 (by omega) (by omega) (by omega)) ?_) (by omega)
        rintro _ ⟨y, rfl, hy⟩
        have hyr : y < r.length := by omega
        have hg : (r.map e)[y]? = some (e r[y]) := by rw [List.getElem?_map, List.getElem?_eq_getElem hyr]; rfl
        simp (disch := (first | omega | (show (_ : Nat) ≤ _; simp <;> omega) | fail)) [-List.map_drop, -List.map_take, drop_map_, take_map_, Function.comp_def, popAt_0 hg]
        have hf2 : f.map e ++ [e r[y]] = (f ++ [r[y]]).map e := by simp
        have hr2 : (r.map e).eraseIdx y = (r.eraseIdx y).map e := eraseIdx_map_ e r y
        rw [hf2, hr2]
        refine ih l (f ++ [r[y]]) (r.eraseIdx y) _ (by simpa using hk) ?_ (by rw [List.length_append, List.length_singleton]; omega)
        refine List.Perm.trans ?_ hp
        rw [List.append_assoc]
        refine List.Perm.append_left f ?_
        exact cons_erase_perm r y hyr
  have first := loop m (List.range m) [] pool none (List.length_range) (.refl _) (by simp)
  refine Dr.mono (Dr.bind (k' := 0) first ?_) (by omega)
  rintro _ ⟨f, r, hp, hf, j, rfl⟩
  simp (disch := (first | omega | (show (_ : Nat) ≤ _; simp <;> omega) | fail)) [-List.map_drop, -List.map_take, drop_map_, take_map_, Function.comp_def]
  exact Dr.ret ⟨f, ⟨r, hp⟩, hf, rfl⟩
theorem l_pick_dr_min {p : Prog} {i n g : Nat} (h : l_pick_H p i) (hn : 2 ≤ n) {α : Type} {e : α → D} {pool : List α} {x : D} (hx : seqOf x = some (pool.map e)) (hb : doB1 .list x = some (.lst (pool.map e))) {sz m : Nat} (hM : m = min sz pool.length) (hl : pool.length ≤ 1000) :
    Dr g m (p.run n i [.cell g, x, .int sz]) fun d => ∃ f r : List α, (f ++ r).Perm pool ∧ f.length = m ∧ d = .lst (f.map e) := by
  obtain ⟨i0, h, g0⟩ := h
  rw [run_eq h (by omega) rfl]
  simp (disch := (first | omega | (show (_ : Nat) ≤ _; simp <;> omega) | fail)) [-List.map_drop, -List.map_take, drop_map_, take_map_, Function.comp_def, l_pick_F, hb]
  have hm : m ≤ pool.length := by omega
  have hmin : (if pool.length < sz then (pool.length : Int) else (sz : Int)).toNat = m := by
    split <;> omega
  rw [hmin]
  have loop : ∀ (k : Nat) (l : List Nat) (f r : List α) (j : Slot), l.length = k → (f ++ r).Perm pool → f.length + k = m → Dr g k (forLoop (.n 3) (xb (cx p n) [.appPop 5 4 (.call i0 [(.v 0), (.b1 .len (.v 4))])]) (l.map fun k => D.int (k : Nat)) [some (.cell g, false), some (x, false), some (.int sz, false), j, some (.lst (r.map e), true), some (.lst (f.map e), true)])
      fun o => ∃ (f r : List α), (f ++ r).Perm pool ∧ f.length = m ∧ ∃ (j : Slot), o = .nx [some (.cell g, false), some (x, false), some (.int sz, false), j, some (.lst (r.map e), true), some (.lst (f.map e), true)] := by
    intro k
    induction k with
    | zero =>
      intro l f r j hl hp hf
      rw [List.length_eq_zero_iff.mp hl]
      exact Dr.ret ⟨f, r, hp, by omega, j, rfl⟩
    | succ k ih =>
      intro l f r j hk hp hf
      cases l with
      | nil => cases hk
      | cons a l =>
        have hrl := hp.length_eq
        rw [List.length_append] at hrl
        have e1 : forLoop (.n 3) (xb (cx p n) [.appPop 5 4 (.call i0 [(.v 0), (.b1 .len (.v 4))])]) ((a :: l).map fun k => D.int (k : Nat)) [some (.cell g, false), some (x, false), some (.int sz, false), j, some (.lst (r.map e), true), some (.lst (f.map e), true)] =
            M.bind (M.bind (M.of (setTg [some (.cell g, false), some (x, false), some (.int sz, false), j, some (.lst (r.map e), true), some (.lst (f.map e), true)] (.n 3) (.int (a : Nat)))) (xb (cx p n) [.appPop 5 4 (.call i0 [(.v 0), (.b1 .len (.v 4))])])) fun o => match o with
              | .nx ρ2 => forLoop (.n 3) (xb (cx p n) [.appPop 5 4 (.call i0 [(.v 0), (.b1 .len (.v 4))])]) (l.map fun k => D.int (k : Nat)) ρ2
              | .rt v => M.pure (.rt v)
              | .er ρ k ys => M.pure (.er ρ k ys) := by
          rw [bind_assoc_]
          rfl
        rw [e1]
        clear e1
        simp (disch := (first | omega | (show (_ : Nat) ≤ _; simp <;> omega) | fail)) [-List.map_drop, -List.map_take, drop_map_, take_map_, Function.comp_def]
        refine Dr.mono (Dr.bind (k := 1) (k' := k) (l_take_dr g0 (by omega) (by omega) (by omega)) ?_) (by omega)
        rintro _ ⟨y, rfl, hy⟩
        have hyr : y < r.length := by omega
        have hg : (r.map e)[y]? = some (e r[y]) := by rw [List.getElem?_map, List.getElem?_eq_getElem hyr]; rfl
        simp (disch := (first | omega | (show (_ : Nat) ≤ _; simp <;> omega) | fail)) [-List.map_drop, -List.map_take, drop_map_, take_map_, Function.comp_def, popAt_0 hg]
        have hf2 : f.map e ++ [e r[y]] = (f ++ [r[y]]).map e := by simp
        have hr2 : (r.map e).eraseIdx y = (r.eraseIdx y).map e := eraseIdx_map_ e r y
        rw [hf2, hr2]
        refine ih l (f ++ [r[y]]) (r.eraseIdx y) _ (by simpa using hk) ?_ (by rw [List.length_append, List.length_singleton]; omega)
        refine List.Perm.trans ?_ hp
        rw [List.append_assoc]
        refine List.Perm.append_left f ?_
        exact cons_erase_perm r y hyr
  have first := loop m (List.range m) [] pool none (List.length_range) (.refl _) (by simp)
  refine Dr.mono (Dr.bind (k' := 0) first ?_) (by omega)
  rintro _ ⟨f, r, hp, hf, j, rfl⟩
  simp (disch := (first | omega | (show (_ : Nat) ≤ _; simp <;> omega) | fail)) [-List.map_drop, -List.map_take, drop_map_, take_map_, Function.comp_def]
  exact Dr.ret ⟨f, ⟨r, hp⟩, hf, rfl⟩

end Wy

set_option autoImplicit false
set_option linter.all false
set_option maxRecDepth 100000
namespace Wy
/-- _law_matter _law_bit -/
def l_lists_F (i : Nat) : Fn := ⟨1, 2, [
  .ret (.ite (.isi (.v 0) true [.list, .tuple]) (.lc [1] (.call i [(.v 1)]) (.n 1) (.v 0) none) (.v 0))]⟩
def l_lists_H (p : Prog) (i : Nat) : Prop := p.fns[i]? = some (l_lists_F i)
theorem l_lists_run {p : Prog} {i n : Nat} (h : l_lists_H p i) {d : D} (hs : szOk d = true) (hd : dep d < n) : p.run n i [d] = M.pure (lstD d) := lists_eq h hs hd

end Wy

set_option autoImplicit false
set_option linter.all false
set_option maxRecDepth 100000
namespace Wy
/-- _law_got _law_due _law_lot_so _law_mine _law_its -/
def l_same_F (i : Nat) : Fn := ⟨2, 5, [
  .ife (.isi (.v 1) true [.list, .tuple]) [.ife (.or (.cmp .ne (.isi (.v 0) false [.list]) (.isi (.v 1) false [.list])) (.cmp .ne (.isi (.v 0) false [.tuple]) (.isi (.v 1) false [.tuple]))) [.ret (.k (.bl false))] [], .ret (.and (.cmp .eq (.b1 .len (.v 0)) (.b1 .len (.v 1))) (.b1 .all (.lc [3, 4] (.call i [(.v 3), (.v 4)]) (.t [3, 4]) (.zip (.v 0) (.v 1)) none)))] [],
  .ife (.isi (.v 1) false [.dict]) [.ife (.or (.not (.isi (.v 0) false [.dict])) (.cmp .ne (.b1 .sorted (.v 0)) (.b1 .sorted (.v 1)))) [.ret (.k (.bl false))] [], .ret (.b1 .all (.lc [2] (.call i [(.idx (.v 0) (.v 2)), (.idx (.v 1) (.v 2))]) (.n 2) (.v 1) none))] [],
  .ife (.or (.cmp .is_ (.v 1) (.k .non)) (.isi (.v 1) true [.bool, .str])) [.ret (.and (.cmp .eq (.v 0) (.v 1)) (.and (.cmp .eq (.isi (.v 0) false [.bool]) (.isi (.v 1) false [.bool])) (.cmp .eq (.cmp .is_ (.v 0) (.k .non)) (.cmp .is_ (.v 1) (.k .non)))))] [],
  .ret (.and (.isi (.v 0) false [.int]) (.and (.not (.isi (.v 0) false [.bool])) (.cmp .eq (.v 0) (.v 1))))]⟩
def l_same_H (p : Prog) (i : Nat) : Prop := p.fns[i]? = some (l_same_F i)
theorem l_same_run {p : Prog} {i n : Nat} (h : l_same_H p i) {d : D} (hs : szOk d = true) (hd : dep d < n) : p.run n i [d, d] = M.pure (.bl true) := same_eq h hs hd

end Wy

set_option autoImplicit false
set_option linter.all false
set_option maxRecDepth 100000
namespace Wy
/-- _law_tin _law_many _law_spots _law_turn_so _law_rows_so _law_k _law_spot _law_above_so _law_letter _law_mate -/
def l_net_F (i0 i1 : Nat) : Fn := ⟨2, 10, [
  .set (.n 2) (.slc (.lc [8] (.bin .add (.k (.str [116])) (.v 8)) (.n 8) (.k (.str [97, 98, 99, 100, 101, 102, 103, 104, 105, 106, 107, 108])) none) none (some (.bin .add (.k (.int (1))) (.call i0 [(.v 0), (.v 1)])))),
  .set (.n 3) (.call i1 [(.v 0), (.v 2), (.b1 .len (.v 2))]),
  .own 4 (.lst []),
  .for_ (.t [5, 6]) (.enum (.v 3)) [.set (.n 7) (.lc [9] (.v 9) (.n 9) (.slc (.v 3) none (some (.v 5))) (some (.cmp .eq (.call i0 [(.v 0), (.k (.int (3)))]) (.k (.int (0)))))), .app 4 (.tup [(.v 6), (.b1 .tuple (.b1 .sorted (.v 7)))])],
  .ret (.b1 .tuple (.b1 .sorted (.v 4)))]⟩
def l_net_H (p : Prog) (i : Nat) : Prop := ∃ i0 i1, p.fns[i]? = some (l_net_F i0 i1) ∧ l_take_H p i0 ∧ l_pick_H p i1
def tNames : List Nm := [[116, 97], [116, 98], [116, 99], [116, 100], [116, 101], [116, 102], [116, 103], [116, 104], [116, 105], [116, 106], [116, 107], [116, 108]]
/-- a drawn web of up to m things: turn is the order in which they were drawn -/
structure DrawnN (m : Nat) (w : Net) (turn : List Nm) (rows : Net) : Prop where
  ks : ∃ k, 1 ≤ k ∧ k ≤ m ∧ turn.Perm (tNames.take k)
  rt : rows.map (·.1) = turn
  rs : ∀ pre q post, rows = pre ++ q :: post → ∃ s : List Nm, s.Sublist (pre.map (·.1)) ∧ q.2 = srt D.str s
  w : w = srt eR rows
theorem l_net_dr {p : Prog} {i n g : Nat} (h : l_net_H p i) (hn : 4 ≤ n) {m : Nat} (hm : 1 ≤ m) (hm2 : m ≤ 12) : Dr g 200 (p.run n i [.cell g, .int m]) fun d => ∃ w, d = eN w ∧ ∃ turn rows, DrawnN m w turn rows := by
  obtain ⟨i0, i1, h, g0, g1⟩ := h
  rw [run_eq h (by omega) rfl]
  simp (disch := (first | omega | (show (_ : Nat) ≤ _; simp <;> omega) | fail)) [-List.map_drop, -List.map_take, drop_map_, take_map_, Function.comp_def, l_net_F]
  refine Dr.step (l_take_dr g0 (by omega) (by omega) (by omega)) (by omega) ?_
  rintro _ ⟨x, rfl, hx⟩
  obtain ⟨ks, hk⟩ : ∃ ks, tNames.take (x + 1) = ks := ⟨_, rfl⟩
  have hl : ks.length = x + 1 := by rw [← hk]; simp [tNames]; omega
  have e : [D.str [116, 97], D.str [116, 98], D.str [116, 99], D.str [116, 100], D.str [116, 101], D.str [116, 102], D.str [116, 103], D.str [116, 104], D.str [116, 105], D.str [116, 106], D.str [116, 107], D.str [116, 108]].take (x + 1) = ks.map D.str := by rw [← hk, List.map_take]; rfl
  simp (disch := (first | omega | (show (_ : Nat) ≤ _; simp <;> omega) | fail)) [-List.map_drop, -List.map_take, drop_map_, take_map_, Function.comp_def, e, hl]
  refine Dr.step (l_pick_dr g1 (e := D.str) (pool := ks) (m := x + 1) (by omega) rfl rfl (by omega) (by omega)) (by omega) ?_
  rintro _ ⟨turn, r, hp, ht, rfl⟩
  have hr : r = [] := by
    have := hp.length_eq
    rw [List.length_append] at this
    exact List.length_eq_zero_iff.mp (by omega)
  subst hr
  rw [List.append_nil] at hp
  simp (disch := (first | omega | (show (_ : Nat) ≤ _; simp <;> omega) | fail)) [-List.map_drop, -List.map_take, drop_map_, take_map_, Function.comp_def]
  refine Dr.step (Dr.forS (k := 12) (fun (rows : Net) (j : Slot × Slot × Slot × Slot × Slot) => [some (.cell g, false), some (.int m, false), some (.lst (ks.map .str), false), some (.lst (turn.map .str), false), some (.lst (rows.map fun q => .tup [.str q.1, .tup (q.2.map .str)]), true), j.1, j.2.1, j.2.2.1, none, none])
    (fun (pre : List (Nm × Nat)) (rows : Net) => rows.map (·.1) = pre.map (·.1) ∧ ∀ p q o, rows = p ++ q :: o → ∃ s : List Nm, s.Sublist (p.map (·.1)) ∧ q.2 = srt D.str s) [] (none, none, none, none, none) ⟨rfl, fun p q o h => by simp at h⟩ ?_) (by simp; omega) ?_
  · rintro pre ⟨a, k⟩ post rows j hpre ⟨h1, h2⟩
    have hk2 : k = pre.length := by
      have := congrArg (fun l => l[pre.length]?) hpre
      simp at this
      omega
    subst hk2
    have htt : turn = pre.map (·.1) ++ a :: post.map (·.1) := by
      have := congrArg (List.map (·.1)) hpre
      simpa using this
    have htk : turn.take pre.length = pre.map (·.1) := by
      rw [htt]
      exact List.take_left' (by simp)
    have hlen : pre.length + 1 ≤ 12 := by
      have := congrArg List.length htt
      simp at this
      omega
    have hrl : rows.length = pre.length := by
      have := congrArg List.length h1
      simpa using this
    simp (disch := (first | omega | (show (_ : Nat) ≤ _; simp <;> omega) | fail)) [-List.map_drop, -List.map_take, drop_map_, take_map_, Function.comp_def, htk]
    refine Dr.mono (Dr.bind (k' := 0) (Dr.noExc (Dr.mapA_sub (k := 1) (e := fun q : Nm × Nat => D.str q.1) fun b hb => l_take_coin g0 (by omega) (by omega) (by omega))) ?_) (by omega)
    rintro _ ⟨s, hs, rfl⟩
    have hsl := hs.length_le
    have hs2 : (s.map fun q => D.str q.1) = (s.map (·.1)).map D.str := by rw [List.map_map]; rfl
    have hu := hs.map (·.1)
    have hul : (s.map (·.1)).length ≤ 12 := by rw [List.length_map]; omega
    rw [hs2]
    clear hs2 hs hsl
    generalize s.map (·.1) = u at hu hul
    rw [← h1] at hu
    simp (disch := (first | omega | (show (_ : Nat) ≤ _; simp <;> omega) | fail)) [-List.map_drop, -List.map_take, drop_map_, take_map_, Function.comp_def]
    refine Dr.ret ⟨rows ++ [(a, srt D.str u)], ⟨some (.int pre.length, false), some (.str a, false), some (.lst (u.map .str), false), by simp⟩, ?_, ?_⟩
    · rw [List.map_append, h1]; rfl
    · intro q y1 y2 o hq
      rcases List.eq_nil_or_concat o with rfl | ⟨o', z, rfl⟩
      · have := List.append_inj' hq (by simp)
        obtain ⟨rfl, h4⟩ := this
        cases h4
        exact ⟨_, hu, rfl⟩
      · have hq2 : rows ++ [(a, srt D.str u)] = (q ++ (y1, y2) :: o') ++ [z] := by rw [hq]; simp
        have := List.append_inj' hq2 (by simp)
        exact h2 q (y1, y2) o' this.1
  · rintro _ ⟨rows, j, rfl, h1, h2⟩
    have hrl : rows.length = turn.length := by
      have := congrArg List.length h1
      simpa using this
    simp (disch := (first | omega | (show (_ : Nat) ≤ _; simp <;> omega) | fail)) [-List.map_drop, -List.map_take, drop_map_, take_map_, Function.comp_def]
    refine Dr.ret ⟨srt eR rows, rfl, turn, rows, ⟨x + 1, by omega, by omega, by rw [hk]; exact hp⟩, ?_, h2, rfl⟩
    rw [h1]
    simp
theorem tNames_nodup : tNames.Nodup := by decide
section
variable {m : Nat} {w : Net} {turn : List Nm} {rows : Net}
theorem DrawnN.perm (h : DrawnN m w turn rows) : w.Perm rows := by
  rw [h.w]
  exact srt_perm rows
theorem DrawnN.turn_nodup (h : DrawnN m w turn rows) : turn.Nodup := by
  obtain ⟨k, _, _, hp⟩ := h.ks
  exact hp.nodup_iff.mpr (tNames_nodup.sublist (List.take_sublist _ _))
theorem DrawnN.turn_len (h : DrawnN m w turn rows) : turn.length ≤ m := by
  obtain ⟨k, _, h2, hp⟩ := h.ks
  rw [hp.length_eq, List.length_take]
  omega
theorem DrawnN.len (h : DrawnN m w turn rows) : w.length ≤ m := by
  rw [h.perm.length_eq, ← List.length_map (f := (·.1)), h.rt]
  exact h.turn_len
theorem DrawnN.names (h : DrawnN m w turn rows) : (w.map (·.1)).Perm turn := by
  have := h.perm.map (·.1)
  rwa [h.rt] at this
theorem DrawnN.nodup (h : DrawnN m w turn rows) : (w.map (·.1)).Nodup := h.names.nodup_iff.mpr h.turn_nodup
theorem DrawnN.row (h : DrawnN m w turn rows) {q : Row} (hq : q ∈ w) : ∃ pre post s, turn = pre ++ q.1 :: post ∧ s.Sublist pre ∧ q.2 = srt D.str s := by
  obtain ⟨pre, post, e⟩ := List.append_of_mem (h.perm.mem_iff.mp hq)
  obtain ⟨s, h1, h2⟩ := h.rs pre q post e
  refine ⟨pre.map (·.1), post.map (·.1), s, ?_, h1, h2⟩
  rw [← h.rt, e]
  simp
theorem DrawnN.holders (h : DrawnN m w turn rows) {q : Row} (hq : q ∈ w) : q.2.Nodup ∧ q.2.length ≤ m ∧ ∀ x ∈ q.2, x ∈ turn := by
  obtain ⟨pre, post, s, e, h1, h2⟩ := h.row hq
  have hs : s.Sublist turn := h1.trans (by rw [e]; exact List.sublist_append_left _ _)
  rw [h2]
  exact ⟨(srt_perm s).nodup_iff.mpr (h.turn_nodup.sublist hs), by rw [srt_length]; exact Nat.le_trans hs.length_le h.turn_len, fun x hx => hs.subset (srt_mem.mp hx)⟩
theorem DrawnN.as (h : DrawnN m w turn rows) (hm : m ≤ 100) : As eN (eN w) w := asN (Nat.le_trans h.len (by omega)) fun q hq => Nat.le_trans (h.holders hq).2.1 (by omega)
end

end Wy

set_option autoImplicit false
set_option linter.all false
set_option maxRecDepth 100000
namespace Wy
/-- _law_diamond _law_skip -/
def l_nets_F : Fn := ⟨0, 2, [
  .set (.n 0) (.tup [(.tup [(.k (.str [116])), (.tup [])]), (.tup [(.k (.str [120])), (.tup [(.k (.str [116]))])]), (.tup [(.k (.str [121])), (.tup [(.k (.str [116]))])]), (.tup [(.k (.str [122])), (.tup [(.k (.str [120])), (.k (.str [121]))])])]),
  .set (.n 1) (.tup [(.tup [(.k (.str [116])), (.tup [])]), (.tup [(.k (.str [120])), (.tup [(.k (.str [116]))])]), (.tup [(.k (.str [121])), (.tup [(.k (.str [116])), (.k (.str [120]))])])]),
  .ret (.tup [(.v 0), (.v 1), (.tup [(.tup [(.k (.str [97])), (.tup [])]), (.tup [(.k (.str [98])), (.tup [(.k (.str [97]))])]), (.tup [(.k (.str [99])), (.tup [(.k (.str [98]))])])])])]⟩
def l_nets_H (p : Prog) (i : Nat) : Prop := p.fns[i]? = some (l_nets_F)

end Wy

set_option autoImplicit false
set_option linter.all false
set_option maxRecDepth 100000
namespace Wy
/-- _law_door _law_net_here _law_spot error _law_got _law_caught -/
def l_heard_5_F (i0 i1 : Nat) : Fn := ⟨3, 6, [
  .par [4, 5] [false, false] [(.k .non), (.k .non)],
  .try_ [.setX (.n 4) (.ite (.cmp .eq (.v 0) (.k (.int (0)))) (.call i0 [(.v 1), (.v 2)]) (.call i1 [(.v 1), (.v 2)]))] [⟨0, some 3, .set 5 (.lst [.f 0, .k (.bl true)])⟩],
  .ret (.ite (.cmp .is_ (.v 5) (.k .non)) (.v 4) (.v 5))]⟩
def l_heard_5_H (p : Prog) (i : Nat) : Prop := ∃ i0 i1, p.fns[i]? = some (l_heard_5_F i0 i1) ∧ straight_in_2_H p i0 ∧ straight_under_2_H p i1

end Wy

set_option autoImplicit false
set_option linter.all false
set_option maxRecDepth 100000
namespace Wy
/-- _law_got _law_due _law_ten _law_seven _law_door _law_soft _law_diamond _law_skip _law_row_so _law_net_here _law_letter _law_spot -/
def l_hand_right_25_F (i0 i1 i2 i3 i4 i5 i6 i7 i8 i9 : Nat) : Fn := ⟨0, 12, [
  .set (.t [6, 7, 8]) (.call i0 []),
  .own 0 (.lc [9] (.lst [(.call i1 [(.v 9)]), (.call i2 [(.v 9)]), (.call i3 [(.v 9)]), (.call i4 [(.v 9)])]) (.n 9) (.tup [(.v 6), (.v 7), (.v 8), (.tup [(.tup [(.k (.str [116])), (.tup [])])])]) none),
  .own 1 (.lst [(.lst [(.tup [(.k (.str [116])), (.k (.str [120])), (.k (.str [121])), (.k (.str [122]))]), (.tup [(.k (.str [116]))]), (.tup [(.k (.str [122]))]), (.k (.bl false))]), (.lst [(.tup [(.k (.str [116])), (.k (.str [120])), (.k (.str [121]))]), (.tup [(.k (.str [116]))]), (.tup [(.k (.str [121]))]), (.k (.bl false))])]),
  .own 1 (.bin .add (.v 1) (.lst [(.lst [(.tup [(.k (.str [97])), (.k (.str [98])), (.k (.str [99]))]), (.tup [(.k (.str [97]))]), (.tup []), (.k (.bl true))]), (.lst [(.tup [(.k (.str [116]))]), (.tup [(.k (.str [116]))]), (.tup []), (.k (.bl true))])])),
  .own 0 (.bin .add (.v 0) (.lst [(.lc [11] (.call i5 [(.v 6), (.v 11)]) (.n 11) (.k (.str [116, 120, 121, 122])) none)])),
  .own 0 (.bin .add (.v 0) (.lst [(.lc [11] (.call i6 [(.v 6), (.v 11)]) (.n 11) (.k (.str [116, 120, 121, 122])) none)])),
  .own 0 (.bin .add (.v 0) (.lst [(.lc [11] (.call i5 [(.v 7), (.v 11)]) (.n 11) (.k (.str [116, 120, 121])) none), (.lc [11] (.call i6 [(.v 7), (.v 11)]) (.n 11) (.k (.str [116, 120, 121])) none)])),
  .own 1 (.bin .add (.v 1) (.lst [(.lst [(.tup []), (.tup [(.k (.str [116]))]), (.tup [(.k (.str [116]))]), (.tup [(.k (.str [120])), (.k (.str [121]))])]), (.lst [(.tup [(.k (.str [120])), (.k (.str [121]))]), (.tup [(.k (.str [122]))]), (.tup [(.k (.str [122]))]), (.tup [])]), (.lst [(.tup []), (.tup [(.k (.str [116]))]), (.tup [(.k (.str [116])), (.k (.str [120]))])])])),
  .own 1 (.bin .add (.v 1) (.lst [(.lst [(.tup [(.k (.str [120])), (.k (.str [121]))]), (.tup [(.k (.str [121]))]), (.tup [])])])),
  .set (.n 2) (.bin .add (.tup [(.tup [(.k (.str [104])), (.tup [(.k (.str [105])), (.k (.str [106]))])]), (.tup [(.k (.str [105])), (.tup [])]), (.tup [(.k (.str [106])), (.tup [])])]) (.b1 .tuple (.lc [10] (.tup [(.bin .add (.k (.str [107])) (.v 10)), (.tup [(.k (.str [104])), (.k (.str [105]))])]) (.n 10) (.k (.str [97, 98, 99, 100, 101, 102, 103])) none))),
  .own 0 (.bin .add (.v 0) (.lst [(.call i1 [(.v 2)]), (.call i2 [(.v 2)]), (.call i3 [(.v 2)]), (.call i4 [(.v 2)]), (.nox (.call i6 [(.v 2), (.k (.str [104]))]))])),
  .own 0 (.bin .add (.v 0) (.lst [(.nox (.call i6 [(.v 2), (.k (.str [105]))])), (.nox (.call i6 [(.v 2), (.k (.str [106]))]))])),
  .set (.n 3) (.b1 .tuple (.lc [10] (.bin .add (.k (.str [107])) (.v 10)) (.n 10) (.k (.str [97, 98, 99, 100, 101, 102, 103])) none)),
  .own 1 (.bin .add (.v 1) (.lst [(.bin .add (.tup [(.k (.str [104])), (.k (.str [105])), (.k (.str [106]))]) (.v 3)), (.tup [(.k (.str [105])), (.k (.str [106]))]), (.bin .add (.tup [(.k (.str [104]))]) (.v 3)), (.k (.bl false)), (.v 3), (.bin .add (.tup [(.k (.str [104]))]) (.v 3)), (.tup [(.k (.str [104]))])])),
  .for_ (.n 4) (.range (.k (.int (2)))) [.app 0 (.lc [11] (.call i7 [(.v 4), (.v 6), (.v 11)]) (.n 11) (.tup [(.k (.str [113])), (.k (.str [101])), (.k (.str [116, 116])), (.k (.str [120, 121])), (.k (.str [116, 120]))]) none), .app 1 (.lst [(.lst [(.k (.str [113])), (.k (.bl true))]), (.lst [(.k (.str [101])), (.k (.bl true))]), (.lst [(.k (.str [116, 116])), (.k (.bl true))]), (.lst [(.k (.str [120, 121])), (.k (.bl true))]), (.lst [(.k (.str [116, 120])), (.k (.bl true))])])],
  .set (.n 5) (.call i8 [(.v 6)]),
  .own 0 (.bin .add (.v 0) (.lst [(.callk i1 [] [0] [(.v 5)]), (.callk i2 [] [0] [(.v 5)]), (.callk i3 [] [0] [(.v 5)]), (.callk i4 [] [0] [(.v 5)])])),
  .own 0 (.bin .add (.v 0) (.lst [(.nox (.callk i5 [] [1, 0] [(.k (.str [122])), (.v 5)])), (.nox (.callk i6 [] [1, 0] [(.k (.str [116])), (.v 5)]))])),
  .frz 0,
  .ret (.call i9 [(.v 0), (.bin .add (.v 1) (.lst [(.tup [(.k (.str [116])), (.k (.str [120])), (.k (.str [121])), (.k (.str [122]))]), (.tup [(.k (.str [116]))]), (.tup [(.k (.str [122]))]), (.k (.bl false)), (.tup [(.k (.str [120])), (.k (.str [121]))]), (.tup [(.k (.str [120])), (.k (.str [121]))])]))])]⟩
def l_hand_right_25_H (p : Prog) (i : Nat) : Prop := ∃ i0 i1 i2 i3 i4 i5 i6 i7 i8 i9, p.fns[i]? = some (l_hand_right_25_F i0 i1 i2 i3 i4 i5 i6 i7 i8 i9) ∧ l_nets_H p i0 ∧ things_H p i1 ∧ roots_H p i2 ∧ shared_H p i3 ∧ is_forest_H p i4 ∧ straight_in_2_H p i5 ∧ straight_under_2_H p i6 ∧ l_heard_5_H p i7 ∧ l_lists_H p i8 ∧ l_same_H p i9

end Wy

set_option autoImplicit false
set_option linter.all false
namespace Wy
/-! data of any kind, narrow: what is looked at by is_.. -/
mutual
/-- no row is longer than m, no text than 1000 -/
def narN (m : Nat) : D → Bool
  | .tup xs => Nat.ble xs.length m && narNs m xs
  | .lst xs => Nat.ble xs.length m && narNs m xs
  | .str s => Nat.ble s.length 1000
  | .int _ | .bl _ | .non => true
  | _ => false
def narNs (m : Nat) : List D → Bool
  | [] => true
  | x :: xs => narN m x && narNs m xs
end
theorem narNs_all {m : Nat} : ∀ {xs : List D}, narNs m xs = true ↔ ∀ x ∈ xs, narN m x = true
  | [] => .intro (fun _ _ hx => by cases hx) fun _ => rfl
  | y :: xs => by
    unfold narNs
    rw [Bool.and_eq_true, narNs_all (xs := xs)]
    simp
theorem nar_t {m : Nat} {xs : List D} : narN m (.tup xs) = true ↔ xs.length ≤ m ∧ ∀ x ∈ xs, narN m x = true := by
  show (Nat.ble xs.length m && narNs m xs) = true ↔ _
  rw [Bool.and_eq_true, Nat.ble_eq, narNs_all]
theorem nar_l {m : Nat} {xs : List D} : narN m (.lst xs) = true ↔ xs.length ≤ m ∧ ∀ x ∈ xs, narN m x = true := by
  show (Nat.ble xs.length m && narNs m xs) = true ↔ _
  rw [Bool.and_eq_true, Nat.ble_eq, narNs_all]
theorem nar_s {m : Nat} {s : List Nat} (h : narN m (.str s) = true) : s.length ≤ 1000 := by
  unfold narN at h
  rwa [Nat.ble_eq] at h
mutual
theorem nar_mono {m k : Nat} (h : m ≤ k) : ∀ d : D, narN m d = true → narN k d = true
  | .tup xs, e => by rw [nar_t] at *; exact ⟨by omega, fun x hx => nars_mono h xs (narNs_all.mpr e.2) x hx⟩
  | .lst xs, e => by rw [nar_l] at *; exact ⟨by omega, fun x hx => nars_mono h xs (narNs_all.mpr e.2) x hx⟩
  | .str _, e => e
  | .int _, e => e
  | .bl _, e => e
  | .non, e => e
  | .dic _ _, e => by cases e
  | .cell _, e => by cases e
  | .exc _ _, e => by cases e
  | .scr _, e => by cases e
theorem nars_mono {m k : Nat} (h : m ≤ k) : ∀ xs : List D, narNs m xs = true → ∀ x ∈ xs, narN k x = true
  | [], _, x, hx => nomatch hx
  | y :: xs, e, x, hx => by
    unfold narNs at e
    rw [Bool.and_eq_true] at e
    rcases List.mem_cons.mp hx with z | z
    · rw [z]; exact nar_mono h y e.1
    · exact nars_mono h xs e.2 x z
end
mutual
theorem nar_sz {m : Nat} (h : m ≤ 1000) : ∀ d : D, narN m d = true → szOk d = true
  | .tup xs, e => by
    rw [nar_t] at e
    unfold szOk
    rw [Bool.and_eq_true, Nat.ble_eq]
    exact ⟨by omega, nars_sz h xs (narNs_all.mpr e.2)⟩
  | .lst xs, e => by
    rw [nar_l] at e
    unfold szOk
    rw [Bool.and_eq_true, Nat.ble_eq]
    exact ⟨by omega, nars_sz h xs (narNs_all.mpr e.2)⟩
  | .str _, e => rfl
  | .int _, e => rfl
  | .bl _, e => rfl
  | .non, e => rfl
  | .dic _ _, e => by cases e
  | .cell _, e => by cases e
  | .exc _ _, e => by cases e
  | .scr _, e => by cases e
theorem nars_sz {m : Nat} (h : m ≤ 1000) : ∀ xs : List D, narNs m xs = true → szOks xs = true
  | [], _ => rfl
  | y :: xs, e => by
    unfold narNs at e
    unfold szOks
    rw [Bool.and_eq_true] at *
    exact ⟨nar_sz h y e.1, nars_sz h xs e.2⟩
end
mutual
theorem nar_plain {m : Nat} : ∀ d : D, narN m d = true → plain d = true
  | .tup xs, e => by rw [nar_t] at e; unfold plain; exact nars_plain xs (narNs_all.mpr e.2)
  | .lst xs, e => by rw [nar_l] at e; unfold plain; exact nars_plain xs (narNs_all.mpr e.2)
  | .str _, e => rfl
  | .int _, e => rfl
  | .bl _, e => rfl
  | .non, e => rfl
  | .dic _ _, e => by cases e
  | .cell _, e => by cases e
  | .exc _ _, e => by cases e
  | .scr _, e => by cases e
theorem nars_plain {m : Nat} : ∀ xs : List D, narNs m xs = true → plains xs = true
  | [], _ => rfl
  | y :: xs, e => by
    unfold narNs at e
    unfold plains
    rw [Bool.and_eq_true] at *
    exact ⟨nar_plain y e.1, nars_plain xs e.2⟩
end
/-- narrow and not deep -/
structure Nar (m k : Nat) (d : D) : Prop where
  n : narN m d = true
  d : dep d ≤ k
theorem Nar.mono {m m' k k' : Nat} {d : D} (h : Nar m k d) (hm : m ≤ m') (hk : k ≤ k') : Nar m' k' d := ⟨nar_mono hm d h.n, Nat.le_trans h.d hk⟩
theorem Nar.sz {m k : Nat} {d : D} (h : Nar m k d) (hm : m ≤ 1000) : szOk d = true := nar_sz hm d h.n
theorem Nar.ok {m k : Nat} {d : D} (h : Nar m k d) (hk : k ≤ 60) : okD d = true := by
  unfold okD
  rw [nar_plain d h.n, Bool.true_and]
  unfold flat
  split
  · exact Nat.ble_eq_true_of_le (Nat.le_trans h.d hk)
  · exact Nat.ble_eq_true_of_le (Nat.le_trans h.d hk)
  · rfl
theorem Nar.tup {m k : Nat} {xs : List D} (hl : xs.length ≤ m) (h : ∀ x ∈ xs, Nar m k x) : Nar m (k + 1) (.tup xs) := ⟨nar_t.mpr ⟨hl, fun x hx => (h x hx).n⟩, by unfold dep; exact Nat.succ_le_succ (deps_le_ fun x hx => (h x hx).d)⟩
theorem Nar.lst {m k : Nat} {xs : List D} (hl : xs.length ≤ m) (h : ∀ x ∈ xs, Nar m k x) : Nar m (k + 1) (.lst xs) := ⟨nar_l.mpr ⟨hl, fun x hx => (h x hx).n⟩, by unfold dep; exact Nat.succ_le_succ (deps_le_ fun x hx => (h x hx).d)⟩
theorem Nar.of_t {m k : Nat} {xs : List D} (h : Nar m k (.tup xs)) : xs.length ≤ m ∧ ∀ x ∈ xs, Nar m (k - 1) x := ⟨(nar_t.mp h.n).1, fun x hx => ⟨(nar_t.mp h.n).2 x hx, by
  have h1 := h.d
  unfold dep at h1
  have := dep_1 hx
  omega⟩⟩
theorem Nar.of_l {m k : Nat} {xs : List D} (h : Nar m k (.lst xs)) : xs.length ≤ m ∧ ∀ x ∈ xs, Nar m (k - 1) x := ⟨(nar_l.mp h.n).1, fun x hx => ⟨(nar_l.mp h.n).2 x hx, by
  have h1 := h.d
  unfold dep at h1
  have := dep_1 hx
  omega⟩⟩
theorem Nar.leaf {m k : Nat} {d : D} (h : narN m d = true) (hd : dep d = 0) : Nar m k d := ⟨h, by omega⟩
theorem nm_nar {l : List Nm} {m : Nat} (hl : l.length ≤ m) (h : ∀ x ∈ l, x.length ≤ 1000) : Nar m 1 (.tup (l.map .str)) := by
  refine Nar.tup (by rw [List.length_map]; exact hl) fun x hx => ?_
  obtain ⟨s, hs, rfl⟩ := List.mem_map.mp hx
  exact Nar.leaf (by show Nat.ble s.length 1000 = true; exact Nat.ble_eq_true_of_le (h s hs)) rfl
/-! ### names -/
def LET : List Nat := [97, 98, 99, 100, 101, 102, 103, 104, 105, 106, 107, 108, 109, 110, 111, 112, 113, 114, 115, 116, 117, 118, 119, 120, 121, 122]
def nameOk (s : Nm) : Bool := decide (1 ≤ s.length) && (decide (s.length ≤ 8) && s.all fun c => LET.contains c)
def isNm : D → Bool
  | .str s => nameOk s
  | _ => false
theorem isNm_iff {d : D} : isNm d = true ↔ ∃ s, d = .str s ∧ nameOk s = true := by
  cases d <;> simp [isNm]
theorem names_of : ∀ {l : List D}, l.all isNm = true → ∃ ns : List Nm, l = ns.map .str ∧ ns.all nameOk = true
  | [], _ => ⟨[], rfl, rfl⟩
  | d :: l, h => by
    rw [List.all_cons, Bool.and_eq_true] at h
    obtain ⟨s, rfl, hs⟩ := isNm_iff.mp h.1
    obtain ⟨ns, rfl, hn⟩ := names_of h.2
    exact ⟨s :: ns, rfl, by rw [List.all_cons, hs, hn]; rfl⟩
theorem all_nm (ns : List Nm) : (ns.map D.str).all isNm = ns.all nameOk := by rw [List.all_map]; rfl
@[simp] theorem in_sign (c : Nat) (s : List Nat) : doIn (.str [c]) (.str s) = some (s.contains c) := (rfl)
@[simp] theorem len_s {s : List Nat} (h : s.length ≤ 16000000) : doB1 .len (.str s) = some (.int s.length) := by
  show (if Nat.ble s.length sizeMax then _ else _) = _
  unfold sizeMax
  rw [if_pos (Nat.ble_eq_true_of_le h)]
/-! ### ascending -/
def riseF {α : Type} (f : α → D) (l : List α) : Bool := (l.zip (l.drop 1)).all fun q => dlt (f q.1) (f q.2)
section
variable {α β : Type} {f : α → D} {g : β → D} {d : Nat}
theorem rise_cons {a b : α} {l : List α} : riseF f (a :: b :: l) = (dlt (f a) (f b) && riseF f (b :: l)) := rfl
theorem rise_pw [Enc f d] : ∀ {l : List α}, riseF f l = true ↔ l.Pairwise fun a b => dlt (f a) (f b) = true
  | [] => ⟨fun _ => .nil, fun _ => rfl⟩
  | [a] => ⟨fun _ => .cons (by simp) .nil, fun _ => rfl⟩
  | a :: b :: l => by
    rw [rise_cons, Bool.and_eq_true, rise_pw (l := b :: l)]
    rw [show (a :: b :: l).Pairwise (fun a b => dlt (f a) (f b) = true) ↔ _ from List.pairwise_cons]
    refine ⟨fun h => ⟨fun x hx => ?_, h.2⟩, fun h => ⟨h.1 b List.mem_cons_self, h.2⟩⟩
    rcases List.mem_cons.mp hx with e | e
    · rw [e]; exact h.1
    · exact Enc.tr _ _ _ h.1 ((List.pairwise_cons.mp h.2).1 x e)
theorem lt_le [Enc f d] {a b : α} (h : dlt (f a) (f b) = true) : leK f a b := by
  unfold leK
  cases q : dlt (f b) (f a) with
  | false => rfl
  | true => rw [← Enc.ir (f := f) a]; exact (Enc.tr _ _ _ h q).symm
theorem rise_uniq [Enc f d] {l : List α} : riseF f l = true ↔ uniq f l = l := by
  rw [rise_pw]
  constructor
  · intro h
    refine uniq_is (h.imp fun {a b} q e => ?_) (h.imp fun q => lt_le q) fun _ => Iff.rfl
    subst e
    rw [Enc.ir] at q
    cases q
  · intro h
    have h1 := uniq_nodup (f := f) l
    have h2 := uniq_sorted (f := f) l
    rw [h] at h1 h2
    refine List.Pairwise.imp ?_ (h1.and h2)
    rintro a b ⟨q1, q2⟩
    cases z : dlt (f a) (f b) with
    | true => rfl
    | false => exact absurd (Enc.to a b z q2) q1
theorem pairUp_map : ∀ (l : List α) (m : List β), pairUp (l.map f) (m.map g) = (l.zip m).map fun q => .exc 0 [f q.1, g q.2]
  | [], _ => by cases ‹List β› <;> rfl
  | _ :: _, [] => rfl
  | a :: l, b :: m => by
    show D.exc 0 [f a, g b] :: pairUp (l.map f) (m.map g) = _
    rw [pairUp_map l m]
    rfl
theorem Enc.cmpLt [Enc f d] (a b : α) (hd : d ≤ 60) : doCmp .lt (f a) (f b) = some (dlt (f a) (f b)) := by
  show (if (okD (f a) && plain (f b)) && (alk (f a) (f b) && srtOk1 (f a)) then some (dlt (f a) (f b)) else none) = _
  rw [Enc.okD_ hd, Enc.pl, Enc.al]
  have : srtOk1 (f a) = true := by
    rcases Enc.ty (f := f) with h | h
    · have := h a
      cases q : f a <;> rw [q] at this <;> first | rfl | cases this
    · have := h a
      cases q : f a <;> rw [q] at this <;> first | rfl | cases this
  rw [this]
  rfl
theorem Enc.cmpGt [Enc f d] (a b : α) (hd : d ≤ 60) : doCmp .gt (f a) (f b) = some (dlt (f b) (f a)) := by
  have h := Enc.cmpLt (f := f) a b hd
  have : doCmp .lt (f a) (f b) = if (okD (f a) && plain (f b)) && (alk (f a) (f b) && srtOk1 (f a)) then some (dlt (f a) (f b)) else none := rfl
  rw [this] at h
  show (if (okD (f a) && plain (f b)) && (alk (f a) (f b) && srtOk1 (f a)) then some (dlt (f b) (f a)) else none) = _
  split at h
  · rename_i q; rw [if_pos q]
  · cases h
theorem Enc.cmpLe [Enc f d] (a b : α) (hd : d ≤ 60) : doCmp .le (f a) (f b) = some (!dlt (f b) (f a)) := by
  have h := Enc.cmpLt (f := f) a b hd
  have : doCmp .lt (f a) (f b) = if (okD (f a) && plain (f b)) && (alk (f a) (f b) && srtOk1 (f a)) then some (dlt (f a) (f b)) else none := rfl
  rw [this] at h
  show (if (okD (f a) && plain (f b)) && (alk (f a) (f b) && srtOk1 (f a)) then some (!dlt (f b) (f a)) else none) = _
  split at h
  · rename_i q; rw [if_pos q]
  · cases h
end
@[simp] theorem zipOf_t (x y : List D) : zipOf (.tup x) (.tup y) = some (pairUp x y) := (rfl)
@[simp] theorem zipOf_l (x y : List D) : zipOf (.lst x) (.lst y) = some (pairUp x y) := (rfl)
@[simp] theorem lt_names (x y : Nm) : doCmp .lt (.str x) (.str y) = some (dlt (.str x) (.str y)) := Enc.cmpLt (f := D.str) x y (by decide)
@[simp] theorem gt_names (x y : Nm) : doCmp .gt (.str x) (.str y) = some (dlt (.str y) (.str x)) := Enc.cmpGt (f := D.str) x y (by decide)
@[simp] theorem le_names (x y : Nm) : doCmp .le (.str x) (.str y) = some (!dlt (.str y) (.str x)) := Enc.cmpLe (f := D.str) x y (by decide)
def inN (ns : List Nm) : D → Bool
  | .str s => ns.contains s
  | _ => false
def subN (ns : List Nm) : D → Bool
  | .tup l => l.all (inN ns)
  | _ => false
/-- what is in a row of names is a name -/
theorem in_names_any {d : D} {ns : List Nm} (h : okD d = true) : doIn d (.tup (ns.map .str)) = some (inN ns d) := by
  show (if okD d && plains (ns.map .str) then some ((ns.map D.str).any fun y => deq y d) else none) = _
  rw [h, plains_map D.str (fun _ => rfl)]
  show some _ = _
  congr 1
  rw [List.any_map]
  cases d
  case str s =>
    rw [Bool.eq_iff_iff, List.any_eq_true]
    show _ ↔ ns.contains s = true
    rw [List.contains_iff_mem]
    constructor
    · rintro ⟨x, hx, e⟩
      rw [Function.comp, deq_str, beq_iff_eq] at e
      rw [← e]; exact hx
    · intro hx
      exact ⟨s, hx, by rw [Function.comp, deq_str]; simp⟩
  all_goals
    show _ = false
    rw [List.any_eq_false]
    intro x _
    simp [deq]
theorem in_names_anyL {d : D} {ns : List Nm} (h : okD d = true) : doIn d (.lst (ns.map .str)) = some (inN ns d) := in_names_any h
theorem mapO_raw (f : D → M (List D)) : ∀ l : List D, mapO f l = mapA f l
  | [] => rfl
  | x :: l => by
    show M.bind _ _ = M.bind _ _
    rw [mapO_raw f l]
theorem rise_map {α β : Type} (g : β → D) (f : α → β) (l : List α) : riseF g (l.map f) = riseF (fun a => g (f a)) l := by
  unfold riseF
  rw [← List.map_drop, List.zip_map, List.all_map]
  rfl
/-- a set of names -/
def isNms : D → Bool
  | .tup l => l.all isNm && riseF id l
  | _ => false
theorem isNms_iff {d : D} : isNms d = true ↔ ∃ ns : List Nm, d = .tup (ns.map .str) ∧ ns.all nameOk = true ∧ riseF D.str ns = true := by
  constructor
  · intro h
    cases d <;> try cases h
    rename_i l
    unfold isNms at h
    rw [Bool.and_eq_true] at h
    obtain ⟨ns, rfl, hn⟩ := names_of h.1
    refine ⟨ns, rfl, hn, ?_⟩
    have := h.2
    rwa [rise_map] at this
  · rintro ⟨ns, rfl, h1, h2⟩
    show ((ns.map D.str).all isNm && riseF id (ns.map D.str)) = true
    rw [all_nm, h1, rise_map]
    exact h2
/-- a pair of kinds, the first one not greater -/
def clashOk (ks : List Nm) (q : Pr) : Bool := ks.contains q.1 && (ks.contains q.2 && !dlt (.str q.2) (.str q.1))
structure BookOk (b : Book) : Prop where
  ks : b.1.all nameOk = true
  kr : riseF D.str b.1 = true
  kn : b.1 ≠ []
  cl : b.2.1.all (clashOk b.1) = true
  cr : riseF eP b.2.1 = true
  al : b.2.2.all nameOk = true
  ar : riseF D.str b.2.2 = true
  ak : b.2.2.all (fun x => b.1.contains x) = true
def IsBook (d : D) : Prop := ∃ b, d = eB b ∧ BookOk b
theorem pairs_of {ks : List Nm} : ∀ {l : List D}, (∀ x ∈ l, ∃ q : Pr, x = eP q ∧ clashOk ks q = true) → ∃ cl : List Pr, l = cl.map eP ∧ cl.all (clashOk ks) = true
  | [], _ => ⟨[], rfl, rfl⟩
  | d :: l, h => by
    obtain ⟨q, rfl, hq⟩ := h d List.mem_cons_self
    obtain ⟨cl, rfl, hc⟩ := pairs_of fun x hx => h x (List.mem_cons_of_mem _ hx)
    exact ⟨q :: cl, rfl, by rw [List.all_cons, hq, hc]; rfl⟩
theorem str_inj {a b : List Nm} (h : a.map D.str = b.map D.str) : a = b := by
  induction a generalizing b with
  | nil => cases b <;> first | rfl | cases h
  | cons x a ih =>
    cases b with
    | nil => cases h
    | cons y b =>
      rw [List.map_cons, List.map_cons] at h
      injection h with h1 h2
      injection h1 with h1
      rw [h1, ih h2]
theorem eP_inj {a b : Pr} (h : eP a = eP b) : a = b := by
  obtain ⟨a1, a2⟩ := a
  obtain ⟨b1, b2⟩ := b
  simp [eP] at h
  rw [h.1, h.2]
theorem eP_injL {a b : List Pr} (h : a.map eP = b.map eP) : a = b := by
  induction a generalizing b with
  | nil => cases b <;> first | rfl | cases h
  | cons x a ih =>
    cases b with
    | nil => cases h
    | cons y b =>
      rw [List.map_cons, List.map_cons] at h
      injection h with h1 h2
      rw [eP_inj h1, ih h2]
def isCl (ks : List Nm) : D → Bool
  | .tup [.str x, .str y] => clashOk ks (x, y)
  | _ => false
theorem isCl_iff {ks : List Nm} {d : D} : isCl ks d = true ↔ ∃ q : Pr, d = eP q ∧ clashOk ks q = true := by
  constructor
  · intro h
    unfold isCl at h
    split at h
    · exact ⟨(_, _), rfl, h⟩
    · cases h
  · rintro ⟨q, rfl, h⟩
    exact h
/-- a loop that may return -/
theorem for_all {α J : Type} {tg : Tg} {body : Env → M Out} {e : α → D} (E : J → Env) (P : α → Bool) (v : D) : ∀ (l : List α) (j : J),
    (∀ a ∈ l, ∀ j, ∃ j', M.bind (M.of (setTg (E j) tg (e a))) body = M.pure (if P a then .nx (E j') else .rt v)) → ∃ j', forLoop tg body (l.map e) (E j) = M.pure (if l.all P then .nx (E j') else .rt v)
  | [], j, _ => ⟨j, rfl⟩
  | a :: l, j, h => by
    have e1 : forLoop tg body ((a :: l).map e) (E j) = M.bind (M.bind (M.of (setTg (E j) tg (e a))) body) fun o => match o with
      | .nx ρ2 => forLoop tg body (l.map e) ρ2
      | .rt v => M.pure (.rt v)
      | .er ρ k ys => M.pure (.er ρ k ys) := by
      rw [bind_assoc_]
      rfl
    obtain ⟨j1, h1⟩ := h a List.mem_cons_self j
    rw [e1, h1, List.all_cons]
    cases P a with
    | true =>
      obtain ⟨j2, h2⟩ := for_all E P v l j1 fun b hb => h b (List.mem_cons_of_mem _ hb)
      exact ⟨j2, h2⟩
    | false => exact ⟨j, rfl⟩
theorem for_allT {α J β : Type} {tg : Tg} {body : Env → M Out} {e : α → D} {k : Out → M β} {R : M β} (E : J → Env) (P : α → Bool) (v : D) (l : List α) (ρ : Env) (j : J) (hρ : ρ = E j)
    (h : ∀ a ∈ l, ∀ j, ∃ j', M.bind (M.of (setTg (E j) tg (e a))) body = M.pure (if P a then .nx (E j') else .rt v))
    (hk : ∀ j, l.all P = true → k (.nx (E j)) = R) (hr : l.all P = false → k (.rt v) = R) : M.bind (forLoop tg body (l.map e) ρ) k = R := by
  obtain ⟨j', h1⟩ := for_all E P v l j h
  rw [hρ, h1]
  cases q : l.all P with
  | true => exact hk j' q
  | false => exact hr q
theorem for_allR {J β : Type} {tg : Tg} {body : Env → M Out} {k : Out → M β} {R : M β} (E : J → Env) (P : D → Bool) (v : D) (l : List D) (ρ : Env) (j : J) (hρ : ρ = E j)
    (h : ∀ a ∈ l, ∀ j, ∃ j', M.bind (M.of (setTg (E j) tg a)) body = M.pure (if P a then .nx (E j') else .rt v))
    (hk : ∀ j, l.all P = true → k (.nx (E j)) = R) (hr : l.all P = false → k (.rt v) = R) : M.bind (forLoop tg body l ρ) k = R := by
  have := for_allT (e := fun d : D => d) E P v l ρ j hρ h hk hr
  rwa [List.map_id'] at this
@[simp] theorem eq_namesL (x y : List Nm) : doCmp .eq (.lst (x.map .str)) (.lst (y.map .str)) = some (decide (x = y)) := Enc.cmpEq (f := fun l : List Nm => D.lst (l.map .str)) x y (by decide)
@[simp] theorem eq_pairsL (x y : List Pr) : doCmp .eq (.lst (x.map fun q => .tup [.str q.1, .str q.2])) (.lst (y.map fun q => .tup [.str q.1, .str q.2])) = some (decide (x = y)) := Enc.cmpEq (f := fun l : List Pr => D.lst (l.map eP)) x y (by decide)
theorem names_of_clash {ks : List Nm} {l : List D} (h : l.all (isCl ks) = true) : ∃ cl : List Pr, l = cl.map eP ∧ cl.all (clashOk ks) = true :=
  pairs_of fun x hx => isCl_iff.mp (List.all_eq_true.mp h x hx)
theorem ne_raw {l : List D} (h : okD (.lst l) = true) : doCmp .ne (.lst l) (.lst []) = some (!l.isEmpty) := by
  show (if okD (.lst l) && plain (.lst []) then some (!deq (.lst l) (.lst [])) else none) = _
  rw [h]
  cases l <;> rfl
theorem ne_rawT {l : List D} (h : okD (.tup l) = true) : doCmp .ne (.tup l) (.tup []) = some (!l.isEmpty) := by
  show (if okD (.tup l) && plain (.tup []) then some (!deq (.tup l) (.tup [])) else none) = _
  rw [h]
  cases l <;> rfl
def isS : D → Bool
  | .str _ => true
  | _ => false
theorem isS_iff {d : D} : isS d = true ↔ ∃ s, d = .str s := by cases d <;> simp [isS]
theorem any_str_ {m : Nat} {d : D} (h : narN m d = true) : isAny d [.str] = some (isS d) := by
  cases d <;> first | rfl | cases h
theorem szl {xs : List D} {k : Nat} (hl : xs.length ≤ 1000) (h : ∀ x ∈ xs, szOk x = true ∧ dep x ≤ k) : szOk (.lst xs) = true ∧ dep (.lst xs) ≤ k + 1 := by
  have e : xs = xs.map id := (List.map_id xs).symm
  refine ⟨by rw [e]; exact sz_lst hl fun a ha => (h a ha).1, ?_⟩
  unfold dep
  exact Nat.succ_le_succ (deps_le_ fun x hx => (h x hx).2)
instance encSign : Enc (fun c : Nat => D.str [c]) 0 := Enc.of_inj (f := D.str) (φ := fun c : Nat => [c]) fun a b h => by simpa using h
end Wy

set_option autoImplicit false
set_option linter.all false
set_option maxRecDepth 100000
namespace Wy
/-- _law_tin _law_net_here _law_spots _law_due _law_got _law_soft _law_near _law_own _law_spot -/
def l_case_right_41_F (i0 i1 i2 i3 i4 i5 i6 i7 i8 : Nat) : Fn := ⟨1, 9, [
  .set (.n 1) (.call i0 [(.v 0), (.k (.int (7)))]),
  .set (.n 2) (.b1 .tuple (.lc [7] (.idx (.v 7) (.k (.int (0)))) (.n 7) (.v 1) none)),
  .own 3 (.lst [(.v 2), (.b1 .tuple (.lc [7] (.idx (.v 7) (.k (.int (0)))) (.n 7) (.v 1) (some (.cmp .eq (.idx (.v 7) (.k (.int (1)))) (.tup [])))))]),
  .own 3 (.bin .add (.v 3) (.lst [(.b1 .tuple (.lc [7] (.idx (.v 7) (.k (.int (0)))) (.n 7) (.v 1) (some (.cmp .gt (.b1 .len (.idx (.v 7) (.k (.int (1))))) (.k (.int (1)))))))])),
  .app 3 (.cmp .eq (.idx (.v 3) (.k (.int (2)))) (.tup [])),
  .own 3 (.bin .add (.v 3) (.lst [(.lc [7] (.idx (.v 7) (.k (.int (1)))) (.n 7) (.v 1) none), (.lc [8] (.b1 .tuple (.lc [7] (.idx (.v 7) (.k (.int (0)))) (.n 7) (.v 1) (some (.cmp .in_ (.v 8) (.idx (.v 7) (.k (.int (1)))))))) (.n 8) (.v 2) none)])),
  .own 4 (.lst []),
  .for_ (.n 5) (.tup [(.v 1), (.call i1 [(.v 1)])]) [.set (.n 6) (.lst [(.lc [8] (.call i2 [(.v 5), (.v 8)]) (.n 8) (.v 2) none), (.lc [8] (.call i3 [(.v 5), (.v 8)]) (.n 8) (.v 2) none)]), .app 4 (.bin .add (.lst [(.call i4 [(.v 5)]), (.call i5 [(.v 5)]), (.call i6 [(.v 5)]), (.call i7 [(.v 5)])]) (.v 6))],
  .frz 4,
  .frz 3,
  .ret (.call i8 [(.v 4), (.lst [(.v 3), (.v 3)])])]⟩
def l_case_right_41_H (p : Prog) (i : Nat) : Prop := ∃ i0 i1 i2 i3 i4 i5 i6 i7 i8, p.fns[i]? = some (l_case_right_41_F i0 i1 i2 i3 i4 i5 i6 i7 i8) ∧ l_net_H p i0 ∧ l_lists_H p i1 ∧ straight_in_2_H p i2 ∧ straight_under_2_H p i3 ∧ things_H p i4 ∧ roots_H p i5 ∧ shared_H p i6 ∧ is_forest_H p i7 ∧ l_same_H p i8
theorem l_case_right_41_dr {p : Prog} {i n g : Nat} (h : l_case_right_41_H p i) (hn : 20 ≤ n) : Dr g 300 (p.run n i [.cell g]) fun d => d = .bl true := by
  obtain ⟨i0, i1, i2, i3, i4, i5, i6, i7, i8, h, g0, g1, g2, g3, g4, g5, g6, g7, g8⟩ := h
  rw [run_eq h (by omega) rfl]
  simp (disch := (first | omega | (show (_ : Nat) ≤ _; simp <;> omega) | fail)) [-List.map_drop, -List.map_take, drop_map_, take_map_, Function.comp_def, l_case_right_41_F]
  refine Dr.step (l_net_dr g0 (m := 7) (by omega) (by omega) (by omega)) (by omega) ?_
  rintro _ ⟨w, rfl, turn, rows, hw⟩
  have hwl := hw.len
  have as1 : As eN (eN w) w := hw.as (by omega)
  have as2 : As eN (lstD (eN w)) w := as1.lists
  have e5 := l_lists_run g1 (n := n - 1) as1.1 (Nat.lt_of_le_of_lt (encN.dp w) (by omega))
  simp (disch := (first | omega | (show (_ : Nat) ≤ _; simp <;> omega) | fail)) [-List.map_drop, -List.map_take, drop_map_, take_map_, Function.comp_def, e5]
  obtain ⟨Z, hZ⟩ : ∃ Z, Z = w.filter (fun a => decide (1 < a.2.length)) := ⟨_, rfl⟩
  have ix2 : ∀ a b c : D, doIdx (.lst [a, b, c]) (.int 2) = some c := fun _ _ _ => rfl
  have e1 : doCmp .eq (.tup (Z.map fun a => D.str a.1)) (.tup []) = some Z.isEmpty := by
    have := eq_nil_t (f := D.str) (d := 0) (Z.map (·.1)) (by omega)
    rw [List.map_map] at this
    rw [show Z.map (fun a => D.str a.1) = Z.map (D.str ∘ (·.1)) from rfl, this]
    cases Z <;> rfl
  rw [← hZ]
  simp (disch := (first | omega | (show (_ : Nat) ≤ _; simp <;> omega) | fail)) [-List.map_drop, -List.map_take, drop_map_, take_map_, Function.comp_def, ix2, e1]
  obtain ⟨K, hK⟩ : ∃ K : List D, K = [D.tup (w.map fun a => D.str a.1), D.tup ((w.filter fun a => decide (a.2 = [])).map fun a => D.str a.1), D.tup (Z.map fun a => D.str a.1), .bl Z.isEmpty, .lst (w.map fun a => .tup (a.2.map .str)), .lst (w.map fun a => .tup ((w.filter fun b => decide (a.1 ∈ b.2)).map fun b => .str b.1))] := ⟨_, rfl⟩
  rw [← hK]
  have szN1 : ∀ l : Net, l.length ≤ 1000 → szOk (.tup (l.map fun a => D.str a.1)) = true ∧ dep (.tup (l.map fun a => D.str a.1)) ≤ 1 := fun l hl => ⟨sz_tup hl fun _ _ => rfl, Nat.le_of_lt_succ (Nat.lt_succ_of_le (by rw [show l.map (fun a => D.str a.1) = (l.map (·.1)).map D.str by rw [List.map_map]; rfl]; exact Enc.dp (f := fun r : List Nm => D.tup (r.map .str)) (l.map (·.1))))⟩
  have hf : ∀ P : Row → Bool, (w.filter P).length ≤ 1000 := fun P => Nat.le_trans (List.length_filter_le _ _) (by omega)
  have hKs : ∀ x ∈ K, szOk x = true ∧ dep x ≤ 2 := by
    intro x hx
    rw [hK] at hx
    simp only [List.mem_cons, List.not_mem_nil, or_false] at hx
    rcases hx with rfl | rfl | rfl | rfl | rfl | rfl
    · exact ⟨(szN1 w (by omega)).1, Nat.le_trans (szN1 w (by omega)).2 (by omega)⟩
    · exact ⟨(szN1 _ (hf _)).1, Nat.le_trans (szN1 _ (hf _)).2 (by omega)⟩
    · rw [hZ]; exact ⟨(szN1 _ (hf _)).1, Nat.le_trans (szN1 _ (hf _)).2 (by omega)⟩
    · exact ⟨rfl, Nat.zero_le _⟩
    · refine szl (by rw [List.length_map]; omega) fun x hx => ?_
      obtain ⟨q, hq, rfl⟩ := List.mem_map.mp hx
      exact ⟨sz_tup (Nat.le_trans (hw.holders hq).2.1 (by omega)) fun _ _ => rfl, Enc.dp (f := fun r : List Nm => D.tup (r.map .str)) q.2⟩
    · refine szl (by rw [List.length_map]; omega) fun x hx => ?_
      obtain ⟨q, hq, rfl⟩ := List.mem_map.mp hx
      exact szN1 _ (hf _)
  have hKl : K.length = 6 := by rw [hK]; rfl
  have hS := szl (xs := [.lst K, .lst K]) (k := 3) (by simp) fun x hx => by
    have : x = .lst K := by simpa using hx
    rw [this]
    exact szl (by omega) hKs
  have e8 := l_same_run g8 (n := n - 1) hS.1 (Nat.lt_of_le_of_lt hS.2 (by omega))
  refine for_thenD (l := [eN w, lstD (eN w)]) (e := id) (fun (s : List D) (j : Slot × Slot) => [some (.cell g, false), some (eN w, false), some (.tup (w.map fun a => .str a.1), false), some (.lst K, true), some (.lst s, true), j.1, j.2, none, none]) (fun s _ => s ++ [.lst K]) [] (none, none) rfl (fun pre a post hp j => ?_) fun j => ?_
  · have ha : As eN a w := by
      have : a ∈ [eN w, lstD (eN w)] := by rw [hp]; simp
      simp only [List.mem_cons, List.not_mem_nil, or_false] at this
      rcases this with rfl | rfl
      · exact as1
      · exact as2
    obtain ⟨S, hS2⟩ : ∃ S, S = pre.foldl (fun (s : List D) (_ : D) => s ++ [.lst K]) [] := ⟨_, rfl⟩
    have hSl : S.length ≤ 100 := by
      have h1 : ∀ (l : List D) (s : List D), (l.foldl (fun (s : List D) (_ : D) => s ++ [.lst K]) s).length = s.length + l.length := by
        intro l
        induction l with
        | nil => intro s; rfl
        | cons a l ih => intro s; rw [List.foldl_cons, ih]; simp; omega
      rw [hS2, h1]
      have := congrArg List.length hp
      simp at this
      simp
      omega
    rw [← hS2]
    have r1 : ∀ q ∈ w, p.run (n - 1) i2 [a, .str q.1] = M.pure (.tup (q.2.map .str)) := fun q hq => straight_in_2_run g2 (n := n - 1) (by omega) ha (by omega) hw.nodup hq
    have r2 : ∀ q ∈ w, p.run (n - 1) i3 [a, .str q.1] = M.pure (.tup ((w.filter fun b => decide (q.1 ∈ b.2)).map fun b => .str b.1)) := fun q hq => by
      rw [straight_under_2_run g3 (n := n - 1) (by omega) ha (by omega) hq]
      simp
    have r3 := things_run g4 (n := n - 1) (by omega) ha (by omega)
    have r4 := roots_run g5 (n := n - 1) (by omega) ha (by omega)
    have r5 := shared_run g6 (n := n - 1) (by omega) ha (by omega)
    have r6 := is_forest_run g7 (n := n - 1) (by omega) ha (by omega)
    rw [← hZ] at r5 r6
    simp (disch := (first | omega | (show (_ : Nat) ≤ _; simp <;> omega) | fail)) [-List.map_drop, -List.map_take, drop_map_, take_map_, Function.comp_def]
    refine ⟨some (a, false), some (.lst [.lst (w.map fun a => .tup (a.2.map .str)), .lst (w.map fun a => .tup ((w.filter fun b => decide (a.1 ∈ b.2)).map fun b => .str b.1))], false), ?_⟩
    refine row_then (fun q => [.tup (q.2.map .str)]) (fun q hq => by rw [r1 q hq]; rfl) ?_
    rw [← List.map_eq_flatMap, short_ok_ (by rw [List.length_map]; omega)]
    simp (disch := (first | omega | (show (_ : Nat) ≤ _; simp <;> omega) | fail)) [-List.map_drop, -List.map_take, drop_map_, take_map_, Function.comp_def]
    refine row_then (fun q => [.tup ((w.filter fun b => decide (q.1 ∈ b.2)).map fun b => .str b.1)]) (fun q hq => by rw [r2 q hq]; rfl) ?_
    rw [← List.map_eq_flatMap, short_ok_ (by rw [List.length_map]; omega)]
    simp (disch := (first | omega | (show (_ : Nat) ≤ _; simp <;> omega) | fail)) [-List.map_drop, -List.map_take, drop_map_, take_map_, Function.comp_def, r3, r4, r5, r6]
    rw [hK]
  · simp (disch := (first | omega | (show (_ : Nat) ≤ _; simp <;> omega) | fail)) [-List.map_drop, -List.map_take, drop_map_, take_map_, Function.comp_def, e8]
    exact Dr.ret rfl

end Wy

set_option autoImplicit false
set_option linter.all false
set_option maxRecDepth 100000
namespace Wy
/-- _law_tin _law_turn -/
def l_right_50_F (i0 : Nat) : Fn := ⟨1, 2, [
  .ret (.b1 .all (.lc [1] (.call i0 [(.v 0)]) (.n 1) (.range (.k (.int (30)))) none))]⟩
def l_right_50_H (p : Prog) (i : Nat) : Prop := ∃ i0, p.fns[i]? = some (l_right_50_F i0) ∧ l_case_right_41_H p i0
theorem l_right_50_dr {p : Prog} {i n g : Nat} (h : l_right_50_H p i) (hn : 21 ≤ n) : Dr g 9000 (p.run n i [.cell g]) fun d => d = .bl true := by
  obtain ⟨i0, h, g0⟩ := h
  rw [run_eq h (by omega) rfl]
  simp (disch := (first | omega | (show (_ : Nat) ≤ _; simp <;> omega) | fail)) [-List.map_drop, -List.map_take, drop_map_, take_map_, Function.comp_def, l_right_50_F]
  refine Dr.step (Dr.noExc (Dr.mapA_map (k := 300) (e := fun _ (_ : Unit) => .bl true) (R := fun _ => True) (fun a ha => ?_))) (by rw [List.length_range]; omega) ?_
  · refine Dr.step (l_case_right_41_dr g0 (by omega)) (by omega) ?_
    rintro _ rfl
    exact Dr.ret (by first | rfl | exact ⟨(), rfl, trivial⟩)
  · rintro _ ⟨s, h1, _, rfl⟩
    have hl : s.length = 30 := by
      have := congrArg List.length h1
      rw [List.length_map, List.length_range] at this
      exact this
    have e : (s.map fun q => D.bl true) = List.replicate 30 (D.bl true) := by rw [List.map_const', hl]
    rw [e]
    exact Dr.ret rfl

end Wy

set_option autoImplicit false
set_option linter.all false
set_option maxRecDepth 100000
namespace Wy
/-- _law_script _law_cells_here _law_k -/
def law_37_F (i0 i1 i2 i3 : Nat) : Fn := ⟨1, 3, [
  .ife (.not (.call i0 [])) [.ret (.k (.bl false))] [],
  .set (.n 1) (.call i1 [(.v 0), (.k (.int (3)))]),
  .ret (.b1 .all (.lc [2] (.call i2 [(.call i3 [(.v 1), (.v 2)])]) (.n 2) (.range (.b1 .len (.v 1))) none))]⟩
def law_37_H (p : Prog) (i : Nat) : Prop := ∃ i0 i1 i2 i3, p.fns[i]? = some (law_37_F i0 i1 i2 i3) ∧ l_hand_right_25_H p i0 ∧ l_cells_H p i1 ∧ l_right_50_H p i2 ∧ l_box_18_H p i3

end Wy

set_option maxRecDepth 100000
namespace Lk
open Wy
/-- tupled: thing part -/
def b0 : List IS := [
  .ret (.ite (.isi (.v 0) true [.list, .tuple]) (.b1 .tuple (.lc [1] (.call 0 [(.v 1)]) (.n 1) (.v 0) none)) (.v 0))]
def f0 : Fn := ⟨1, 2, b0⟩
/-- as_table: web -/
def b1 : List IS := [
  .ret (.b1 .dict (.call 0 [(.v 0)]))]
def f1 : Fn := ⟨1, 1, b1⟩
/-- things: web name holders -/
def b2 : List IS := [
  .ret (.b1 .tuple (.lc [1, 2] (.v 1) (.t [1, 2]) (.call 0 [(.v 0)]) none))]
def f2 : Fn := ⟨1, 3, b2⟩
/-- check_things: web wanted known name -/
def b3 : List IS := [
  .raises,
  .set (.n 2) (.call 2 [(.v 0)]),
  .for_ (.n 3) (.v 1) [.ife (.cmp .notin (.v 3) (.v 2)) [.raise_ 0 [(.v 3)]] []]]
def f3 : Fn := ⟨2, 4, b3⟩
/-- roots: web name holders -/
def b4 : List IS := [
  .ret (.b1 .tuple (.lc [1, 2] (.v 1) (.t [1, 2]) (.call 0 [(.v 0)]) (some (.cmp .eq (.b1 .len (.v 2)) (.k (.int (0)))))))]
def f4 : Fn := ⟨1, 3, b4⟩
/-- straight_in: web name -/
def b5 : List IS := [
  .raises,
  .exX (.call 3 [(.v 0), (.tup [(.v 1)])]),
  .ret (.idx (.call 1 [(.v 0)]) (.v 1))]
def f5 : Fn := ⟨2, 2, b5⟩
/-- straight_under: web name own holders -/
def b6 : List IS := [
  .raises,
  .exX (.call 3 [(.v 0), (.tup [(.v 1)])]),
  .ret (.b1 .tuple (.lc [2, 3] (.v 2) (.t [2, 3]) (.call 0 [(.v 0)]) (some (.cmp .in_ (.v 1) (.v 3)))))]
def f6 : Fn := ⟨2, 4, b6⟩
/-- is_forest: web -/
def b7 : List IS := [
  .ret (.cmp .eq (.b1 .len (.call 8 [(.v 0)])) (.k (.int (0))))]
def f7 : Fn := ⟨1, 1, b7⟩
/-- shared: web name holders -/
def b8 : List IS := [
  .ret (.b1 .tuple (.lc [1, 2] (.v 1) (.t [1, 2]) (.call 0 [(.v 0)]) (some (.cmp .gt (.b1 .len (.v 2)) (.k (.int (1)))))))]
def f8 : Fn := ⟨1, 3, b8⟩
/-- _law_box: _law_script _law_k _law_great_so -/
def b9 : List IS := [
  .set (.n 2) (.ite (.cmp .lt (.v 1) (.b1 .len (.v 0))) (.idx (.v 0) (.v 1)) (.k (.int (0)))),
  .retCell [(.bin .mul (.b1 .abs (.v 2)) (.b1 .int (.cmp .ge (.b1 .abs (.v 2)) (.bin .pow (.k (.int (10))) (.k (.int (18))))))), (.bin .add (.bin .add (.bin .mod (.b1 .int (.v 2)) (.k (.int (2305843009213693951)))) (.bin .mul (.k (.int (39373))) (.v 1))) (.k (.int (1222)))), (.k (.int (0)))]]
def f9 : Fn := ⟨2, 3, b9⟩
/-- _law_take: _law_tin _law_top_so _law_once _law_far _law_twice _law_digit_so -/
def b10 : List IS := [
  .ife (.cmp .gt (.idx (.v 0) (.k (.int (0)))) (.k (.int (0)))) [.set (.n 5) (.bin .mod (.b1 .int (.idx (.v 0) (.k (.int (0))))) (.v 1)), .seti 0 (.k (.int (0))) (.bin .fdiv (.idx (.v 0) (.k (.int (0)))) (.v 1)), .ret (.v 5)] [],
  .seti 0 (.k (.int (2))) (.bin .add (.idx (.v 0) (.k (.int (2)))) (.k (.int (1)))),
  .set (.n 2) (.bin .mod (.b1 .int (.bin .mul (.bin .add (.idx (.v 0) (.k (.int (1)))) (.bin .mul (.k (.int (48271))) (.idx (.v 0) (.k (.int (2)))))) (.bin .add (.k (.int (39373))) (.idx (.v 0) (.k (.int (2))))))) (.k (.int (2147483647)))),
  .set (.n 3) (.bin .add (.bin .mod (.b1 .int (.v 2)) (.k (.int (40009)))) (.k (.int (7)))),
  .set (.n 4) (.bin .mod (.b1 .int (.bin .mul (.bin .add (.bin .add (.v 2) (.idx (.v 0) (.k (.int (2))))) (.bin .fdiv (.idx (.v 0) (.k (.int (1)))) (.k (.int (1000003))))) (.v 3))) (.k (.int (2147483629)))),
  .ret (.bin .mod (.b1 .int (.bin .fdiv (.bin .mod (.b1 .int (.bin .add (.bin .mul (.v 4) (.k (.int (48271)))) (.v 2))) (.k (.int (2147483587)))) (.k (.int (64))))) (.v 1))]
def f10 : Fn := ⟨2, 6, b10⟩
/-- _law_cells: _law_script _law_most _law_cells_here _law_k _law_great_so _law_at_so -/
def b11 : List IS := [
  .own 2 (.or (.b1 .list (.slc (.v 0) none (some (.v 1)))) (.lst [(.k (.int (0)))])),
  .for_ (.t [3, 4]) (.enum (.slc (.v 0) (some (.v 1)) (some (.k (.int (63)))))) [.set (.n 5) (.bin .mod (.b1 .int (.v 3)) (.v 1)), .seti 2 (.v 5) (.bin .add (.idx (.v 2) (.v 5)) (.bin .mul (.v 4) (.bin .add (.v 3) (.k (.int (2))))))],
  .frz 2,
  .ret (.v 2)]
def f11 : Fn := ⟨2, 6, b11⟩
/-- _law_pick: _law_tin _law_pool _law_size_so _law_turn _law_rest _law_some -/
def b12 : List IS := [
  .par [4, 5] [true, true] [(.b1 .list (.v 1)), (.lst [])],
  .for_ (.n 3) (.range (.b2 .min (.v 2) (.b1 .len (.v 4)))) [.appPop 5 4 (.call 10 [(.v 0), (.b1 .len (.v 4))])],
  .frz 5,
  .ret (.v 5)]
def f12 : Fn := ⟨3, 6, b12⟩
/-- _law_lists: _law_matter _law_bit -/
def b13 : List IS := [
  .ret (.ite (.isi (.v 0) true [.list, .tuple]) (.lc [1] (.call 13 [(.v 1)]) (.n 1) (.v 0) none) (.v 0))]
def f13 : Fn := ⟨1, 2, b13⟩
/-- _law_same: _law_got _law_due _law_lot_so _law_mine _law_its -/
def b14 : List IS := [
  .ife (.isi (.v 1) true [.list, .tuple]) [.ife (.or (.cmp .ne (.isi (.v 0) false [.list]) (.isi (.v 1) false [.list])) (.cmp .ne (.isi (.v 0) false [.tuple]) (.isi (.v 1) false [.tuple]))) [.ret (.k (.bl false))] [], .ret (.and (.cmp .eq (.b1 .len (.v 0)) (.b1 .len (.v 1))) (.b1 .all (.lc [3, 4] (.call 14 [(.v 3), (.v 4)]) (.t [3, 4]) (.zip (.v 0) (.v 1)) none)))] [],
  .ife (.isi (.v 1) false [.dict]) [.ife (.or (.not (.isi (.v 0) false [.dict])) (.cmp .ne (.b1 .sorted (.v 0)) (.b1 .sorted (.v 1)))) [.ret (.k (.bl false))] [], .ret (.b1 .all (.lc [2] (.call 14 [(.idx (.v 0) (.v 2)), (.idx (.v 1) (.v 2))]) (.n 2) (.v 1) none))] [],
  .ife (.or (.cmp .is_ (.v 1) (.k .non)) (.isi (.v 1) true [.bool, .str])) [.ret (.and (.cmp .eq (.v 0) (.v 1)) (.and (.cmp .eq (.isi (.v 0) false [.bool]) (.isi (.v 1) false [.bool])) (.cmp .eq (.cmp .is_ (.v 0) (.k .non)) (.cmp .is_ (.v 1) (.k .non)))))] [],
  .ret (.and (.isi (.v 0) false [.int]) (.and (.not (.isi (.v 0) false [.bool])) (.cmp .eq (.v 0) (.v 1))))]
def f14 : Fn := ⟨2, 5, b14⟩
/-- _law_net: _law_tin _law_many _law_spots _law_turn_so _law_rows_so _law_k _law_spot _law_above_so _law_letter _law_mate -/
def b15 : List IS := [
  .set (.n 2) (.slc (.lc [8] (.bin .add (.k (.str [116])) (.v 8)) (.n 8) (.k (.str [97, 98, 99, 100, 101, 102, 103, 104, 105, 106, 107, 108])) none) none (some (.bin .add (.k (.int (1))) (.call 10 [(.v 0), (.v 1)])))),
  .set (.n 3) (.call 12 [(.v 0), (.v 2), (.b1 .len (.v 2))]),
  .own 4 (.lst []),
  .for_ (.t [5, 6]) (.enum (.v 3)) [.set (.n 7) (.lc [9] (.v 9) (.n 9) (.slc (.v 3) none (some (.v 5))) (some (.cmp .eq (.call 10 [(.v 0), (.k (.int (3)))]) (.k (.int (0)))))), .app 4 (.tup [(.v 6), (.b1 .tuple (.b1 .sorted (.v 7)))])],
  .ret (.b1 .tuple (.b1 .sorted (.v 4)))]
def f15 : Fn := ⟨2, 10, b15⟩
/-- _law_nets: _law_diamond _law_skip -/
def b16 : List IS := [
  .set (.n 0) (.tup [(.tup [(.k (.str [116])), (.tup [])]), (.tup [(.k (.str [120])), (.tup [(.k (.str [116]))])]), (.tup [(.k (.str [121])), (.tup [(.k (.str [116]))])]), (.tup [(.k (.str [122])), (.tup [(.k (.str [120])), (.k (.str [121]))])])]),
  .set (.n 1) (.tup [(.tup [(.k (.str [116])), (.tup [])]), (.tup [(.k (.str [120])), (.tup [(.k (.str [116]))])]), (.tup [(.k (.str [121])), (.tup [(.k (.str [116])), (.k (.str [120]))])])]),
  .ret (.tup [(.v 0), (.v 1), (.tup [(.tup [(.k (.str [97])), (.tup [])]), (.tup [(.k (.str [98])), (.tup [(.k (.str [97]))])]), (.tup [(.k (.str [99])), (.tup [(.k (.str [98]))])])])])]
def f16 : Fn := ⟨0, 2, b16⟩
/-- _law_heard: _law_door _law_net_here _law_spot error _law_got _law_caught -/
def b17 : List IS := [
  .par [4, 5] [false, false] [(.k .non), (.k .non)],
  .try_ [.setX (.n 4) (.ite (.cmp .eq (.v 0) (.k (.int (0)))) (.call 5 [(.v 1), (.v 2)]) (.call 6 [(.v 1), (.v 2)]))] [⟨0, some 3, .set 5 (.lst [.f 0, .k (.bl true)])⟩],
  .ret (.ite (.cmp .is_ (.v 5) (.k .non)) (.v 4) (.v 5))]
def f17 : Fn := ⟨3, 6, b17⟩
/-- _law_hand_right: _law_got _law_due _law_ten _law_seven _law_door _law_soft _law_diamond _law_skip _law_row_so _law_net_here _law_letter _law_spot -/
def b18 : List IS := [
  .set (.t [6, 7, 8]) (.call 16 []),
  .own 0 (.lc [9] (.lst [(.call 2 [(.v 9)]), (.call 4 [(.v 9)]), (.call 8 [(.v 9)]), (.call 7 [(.v 9)])]) (.n 9) (.tup [(.v 6), (.v 7), (.v 8), (.tup [(.tup [(.k (.str [116])), (.tup [])])])]) none),
  .own 1 (.lst [(.lst [(.tup [(.k (.str [116])), (.k (.str [120])), (.k (.str [121])), (.k (.str [122]))]), (.tup [(.k (.str [116]))]), (.tup [(.k (.str [122]))]), (.k (.bl false))]), (.lst [(.tup [(.k (.str [116])), (.k (.str [120])), (.k (.str [121]))]), (.tup [(.k (.str [116]))]), (.tup [(.k (.str [121]))]), (.k (.bl false))])]),
  .own 1 (.bin .add (.v 1) (.lst [(.lst [(.tup [(.k (.str [97])), (.k (.str [98])), (.k (.str [99]))]), (.tup [(.k (.str [97]))]), (.tup []), (.k (.bl true))]), (.lst [(.tup [(.k (.str [116]))]), (.tup [(.k (.str [116]))]), (.tup []), (.k (.bl true))])])),
  .own 0 (.bin .add (.v 0) (.lst [(.lc [11] (.call 5 [(.v 6), (.v 11)]) (.n 11) (.k (.str [116, 120, 121, 122])) none)])),
  .own 0 (.bin .add (.v 0) (.lst [(.lc [11] (.call 6 [(.v 6), (.v 11)]) (.n 11) (.k (.str [116, 120, 121, 122])) none)])),
  .own 0 (.bin .add (.v 0) (.lst [(.lc [11] (.call 5 [(.v 7), (.v 11)]) (.n 11) (.k (.str [116, 120, 121])) none), (.lc [11] (.call 6 [(.v 7), (.v 11)]) (.n 11) (.k (.str [116, 120, 121])) none)])),
  .own 1 (.bin .add (.v 1) (.lst [(.lst [(.tup []), (.tup [(.k (.str [116]))]), (.tup [(.k (.str [116]))]), (.tup [(.k (.str [120])), (.k (.str [121]))])]), (.lst [(.tup [(.k (.str [120])), (.k (.str [121]))]), (.tup [(.k (.str [122]))]), (.tup [(.k (.str [122]))]), (.tup [])]), (.lst [(.tup []), (.tup [(.k (.str [116]))]), (.tup [(.k (.str [116])), (.k (.str [120]))])])])),
  .own 1 (.bin .add (.v 1) (.lst [(.lst [(.tup [(.k (.str [120])), (.k (.str [121]))]), (.tup [(.k (.str [121]))]), (.tup [])])])),
  .set (.n 2) (.bin .add (.tup [(.tup [(.k (.str [104])), (.tup [(.k (.str [105])), (.k (.str [106]))])]), (.tup [(.k (.str [105])), (.tup [])]), (.tup [(.k (.str [106])), (.tup [])])]) (.b1 .tuple (.lc [10] (.tup [(.bin .add (.k (.str [107])) (.v 10)), (.tup [(.k (.str [104])), (.k (.str [105]))])]) (.n 10) (.k (.str [97, 98, 99, 100, 101, 102, 103])) none))),
  .own 0 (.bin .add (.v 0) (.lst [(.call 2 [(.v 2)]), (.call 4 [(.v 2)]), (.call 8 [(.v 2)]), (.call 7 [(.v 2)]), (.nox (.call 6 [(.v 2), (.k (.str [104]))]))])),
  .own 0 (.bin .add (.v 0) (.lst [(.nox (.call 6 [(.v 2), (.k (.str [105]))])), (.nox (.call 6 [(.v 2), (.k (.str [106]))]))])),
  .set (.n 3) (.b1 .tuple (.lc [10] (.bin .add (.k (.str [107])) (.v 10)) (.n 10) (.k (.str [97, 98, 99, 100, 101, 102, 103])) none)),
  .own 1 (.bin .add (.v 1) (.lst [(.bin .add (.tup [(.k (.str [104])), (.k (.str [105])), (.k (.str [106]))]) (.v 3)), (.tup [(.k (.str [105])), (.k (.str [106]))]), (.bin .add (.tup [(.k (.str [104]))]) (.v 3)), (.k (.bl false)), (.v 3), (.bin .add (.tup [(.k (.str [104]))]) (.v 3)), (.tup [(.k (.str [104]))])])),
  .for_ (.n 4) (.range (.k (.int (2)))) [.app 0 (.lc [11] (.call 17 [(.v 4), (.v 6), (.v 11)]) (.n 11) (.tup [(.k (.str [113])), (.k (.str [101])), (.k (.str [116, 116])), (.k (.str [120, 121])), (.k (.str [116, 120]))]) none), .app 1 (.lst [(.lst [(.k (.str [113])), (.k (.bl true))]), (.lst [(.k (.str [101])), (.k (.bl true))]), (.lst [(.k (.str [116, 116])), (.k (.bl true))]), (.lst [(.k (.str [120, 121])), (.k (.bl true))]), (.lst [(.k (.str [116, 120])), (.k (.bl true))])])],
  .set (.n 5) (.call 13 [(.v 6)]),
  .own 0 (.bin .add (.v 0) (.lst [(.callk 2 [] [0] [(.v 5)]), (.callk 4 [] [0] [(.v 5)]), (.callk 8 [] [0] [(.v 5)]), (.callk 7 [] [0] [(.v 5)])])),
  .own 0 (.bin .add (.v 0) (.lst [(.nox (.callk 5 [] [1, 0] [(.k (.str [122])), (.v 5)])), (.nox (.callk 6 [] [1, 0] [(.k (.str [116])), (.v 5)]))])),
  .frz 0,
  .ret (.call 14 [(.v 0), (.bin .add (.v 1) (.lst [(.tup [(.k (.str [116])), (.k (.str [120])), (.k (.str [121])), (.k (.str [122]))]), (.tup [(.k (.str [116]))]), (.tup [(.k (.str [122]))]), (.k (.bl false)), (.tup [(.k (.str [120])), (.k (.str [121]))]), (.tup [(.k (.str [120])), (.k (.str [121]))])]))])]
def f18 : Fn := ⟨0, 12, b18⟩
/-- _law_case_right: _law_tin _law_net_here _law_spots _law_due _law_got _law_soft _law_near _law_own _law_spot -/
def b19 : List IS := [
  .set (.n 1) (.call 15 [(.v 0), (.k (.int (7)))]),
  .set (.n 2) (.b1 .tuple (.lc [7] (.idx (.v 7) (.k (.int (0)))) (.n 7) (.v 1) none)),
  .own 3 (.lst [(.v 2), (.b1 .tuple (.lc [7] (.idx (.v 7) (.k (.int (0)))) (.n 7) (.v 1) (some (.cmp .eq (.idx (.v 7) (.k (.int (1)))) (.tup [])))))]),
  .own 3 (.bin .add (.v 3) (.lst [(.b1 .tuple (.lc [7] (.idx (.v 7) (.k (.int (0)))) (.n 7) (.v 1) (some (.cmp .gt (.b1 .len (.idx (.v 7) (.k (.int (1))))) (.k (.int (1)))))))])),
  .app 3 (.cmp .eq (.idx (.v 3) (.k (.int (2)))) (.tup [])),
  .own 3 (.bin .add (.v 3) (.lst [(.lc [7] (.idx (.v 7) (.k (.int (1)))) (.n 7) (.v 1) none), (.lc [8] (.b1 .tuple (.lc [7] (.idx (.v 7) (.k (.int (0)))) (.n 7) (.v 1) (some (.cmp .in_ (.v 8) (.idx (.v 7) (.k (.int (1)))))))) (.n 8) (.v 2) none)])),
  .own 4 (.lst []),
  .for_ (.n 5) (.tup [(.v 1), (.call 13 [(.v 1)])]) [.set (.n 6) (.lst [(.lc [8] (.call 5 [(.v 5), (.v 8)]) (.n 8) (.v 2) none), (.lc [8] (.call 6 [(.v 5), (.v 8)]) (.n 8) (.v 2) none)]), .app 4 (.bin .add (.lst [(.call 2 [(.v 5)]), (.call 4 [(.v 5)]), (.call 8 [(.v 5)]), (.call 7 [(.v 5)])]) (.v 6))],
  .frz 4,
  .frz 3,
  .ret (.call 14 [(.v 4), (.lst [(.v 3), (.v 3)])])]
def f19 : Fn := ⟨1, 9, b19⟩
/-- _law_right: _law_tin _law_turn -/
def b20 : List IS := [
  .ret (.b1 .all (.lc [1] (.call 19 [(.v 0)]) (.n 1) (.range (.k (.int (30)))) none))]
def f20 : Fn := ⟨1, 2, b20⟩
/-- law: _law_script _law_cells_here _law_k -/
def b21 : List IS := [
  .ife (.not (.call 18 [])) [.ret (.k (.bl false))] [],
  .set (.n 1) (.call 11 [(.v 0), (.k (.int (3)))]),
  .ret (.b1 .all (.lc [2] (.call 20 [(.call 9 [(.v 1), (.v 2)])]) (.n 2) (.range (.b1 .len (.v 1))) none))]
def f21 : Fn := ⟨1, 3, b21⟩
def P : Prog := ⟨[f0, f1, f2, f3, f4, f5, f6, f7, f8, f9, f10, f11, f12, f13, f14, f15, f16, f17, f18, f19, f20, f21], [], 100000⟩
end Lk
namespace Lk
open Wy PySem L2
def top (i : Nat) : Stmt := PySem.Challenge.pw_waysup_k17_things_and_what_lies_straight.main.body.getD i (.Pass ⟨0, 0, 0, 0⟩)
def d0 : DefI := ⟨"tupled", defArgs (top 3), defBody (top 3), defScope (top 3), ["thing", "part"], ["thing"], false⟩
def d1 : DefI := ⟨"as_table", defArgs (top 5), defBody (top 5), defScope (top 5), ["web"], ["web"], false⟩
def d2 : DefI := ⟨"things", defArgs (top 6), defBody (top 6), defScope (top 6), ["web", "name", "holders"], ["web"], false⟩
def d3 : DefI := ⟨"check_things", defArgs (top 7), defBody (top 7), defScope (top 7), ["web", "wanted", "known", "name"], ["web", "wanted"], false⟩
def d4 : DefI := ⟨"roots", defArgs (top 8), defBody (top 8), defScope (top 8), ["web", "name", "holders"], ["web"], false⟩
def d5 : DefI := ⟨"straight_in", defArgs (top 9), defBody (top 9), defScope (top 9), ["web", "name"], ["web", "name"], false⟩
def d6 : DefI := ⟨"straight_under", defArgs (top 10), defBody (top 10), defScope (top 10), ["web", "name", "own", "holders"], ["web", "name"], false⟩
def d7 : DefI := ⟨"is_forest", defArgs (top 11), defBody (top 11), defScope (top 11), ["web"], ["web"], false⟩
def d8 : DefI := ⟨"shared", defArgs (top 12), defBody (top 12), defScope (top 12), ["web", "name", "holders"], ["web"], false⟩
def d9 : DefI := ⟨"_law_box", defArgs (top 14), defBody (top 14), defScope (top 14), ["_law_script", "_law_k", "_law_great_so"], ["_law_script", "_law_k"], false⟩
def d10 : DefI := ⟨"_law_take", defArgs (top 15), defBody (top 15), defScope (top 15), ["_law_tin", "_law_top_so", "_law_once", "_law_far", "_law_twice", "_law_digit_so"], ["_law_tin", "_law_top_so"], false⟩
def d11 : DefI := ⟨"_law_cells", defArgs (top 16), defBody (top 16), defScope (top 16), ["_law_script", "_law_most", "_law_cells_here", "_law_k", "_law_great_so", "_law_at_so"], ["_law_script", "_law_most"], false⟩
def d12 : DefI := ⟨"_law_pick", defArgs (top 17), defBody (top 17), defScope (top 17), ["_law_tin", "_law_pool", "_law_size_so", "_law_turn", "_law_rest", "_law_some"], ["_law_tin", "_law_pool", "_law_size_so"], false⟩
def d13 : DefI := ⟨"_law_lists", defArgs (top 18), defBody (top 18), defScope (top 18), ["_law_matter", "_law_bit"], ["_law_matter"], false⟩
def d14 : DefI := ⟨"_law_same", defArgs (top 19), defBody (top 19), defScope (top 19), ["_law_got", "_law_due", "_law_lot_so", "_law_mine", "_law_its"], ["_law_got", "_law_due"], false⟩
def d15 : DefI := ⟨"_law_net", defArgs (top 20), defBody (top 20), defScope (top 20), ["_law_tin", "_law_many", "_law_spots", "_law_turn_so", "_law_rows_so", "_law_k", "_law_spot", "_law_above_so", "_law_letter", "_law_mate"], ["_law_tin", "_law_many"], false⟩
def d16 : DefI := ⟨"_law_nets", defArgs (top 21), defBody (top 21), defScope (top 21), ["_law_diamond", "_law_skip"], [], false⟩
def d17 : DefI := ⟨"_law_heard", defArgs (top 22), defBody (top 22), defScope (top 22), ["_law_door", "_law_net_here", "_law_spot", "error", "_law_got", "_law_caught"], ["_law_door", "_law_net_here", "_law_spot"], false⟩
def d18 : DefI := ⟨"_law_hand_right", defArgs (top 23), defBody (top 23), defScope (top 23), ["_law_got", "_law_due", "_law_ten", "_law_seven", "_law_door", "_law_soft", "_law_diamond", "_law_skip", "_law_row_so", "_law_net_here", "_law_letter", "_law_spot"], [], false⟩
def d19 : DefI := ⟨"_law_case_right", defArgs (top 24), defBody (top 24), defScope (top 24), ["_law_tin", "_law_net_here", "_law_spots", "_law_due", "_law_got", "_law_soft", "_law_near", "_law_own", "_law_spot"], ["_law_tin"], false⟩
def d20 : DefI := ⟨"_law_right", defArgs (top 25), defBody (top 25), defScope (top 25), ["_law_tin", "_law_turn"], ["_law_tin"], false⟩
def d21 : DefI := ⟨"law", defArgs (top 26), defBody (top 26), defScope (top 26), ["_law_script", "_law_cells_here", "_law_k"], ["_law_script"], false⟩
def ds : List DefI := [d0, d1, d2, d3, d4, d5, d6, d7, d8, d9, d10, d11, d12, d13, d14, d15, d16, d17, d18, d19, d20, d21]
def ec : List Nat := [0]
def ini0 (i : Nat) : Stmt := match top i with
  | .ClassDef (body := b) .. => b.getD 0 (.Pass ⟨0, 0, 0, 0⟩)
  | _ => .Pass ⟨0, 0, 0, 0⟩
def i_NoName : IniD := ⟨0, "__init__", "NoName.__init__", defArgs (ini0 1), defBody (ini0 1), (defScope (ini0 1)).names⟩
def ini : List IniD := [i_NoName]
def gl : List (Str × Nat) := [(("tupled" : Str), 0), (("as_table" : Str), 1), (("things" : Str), 2), (("check_things" : Str), 3), (("roots" : Str), 4), (("straight_in" : Str), 5), (("straight_under" : Str), 6), (("is_forest" : Str), 7), (("shared" : Str), 8), (("_law_box" : Str), 9), (("_law_take" : Str), 10), (("_law_cells" : Str), 11), (("_law_pick" : Str), 12), (("_law_lists" : Str), 13), (("_law_same" : Str), 14), (("_law_net" : Str), 15), (("_law_nets" : Str), 16), (("_law_heard" : Str), 17), (("_law_hand_right" : Str), 18), (("_law_case_right" : Str), 19), (("_law_right" : Str), 20), (("law" : Str), 21)]
def gc : GC := []
def kl : KL := [("things", 2, 0, ["web"], [0]), ("roots", 4, 0, ["web"], [0]), ("shared", 8, 0, ["web"], [0]), ("is_forest", 7, 0, ["web"], [0]), ("straight_in", 5, 0, ["name", "web"], [1, 0]), ("straight_under", 6, 0, ["name", "web"], [1, 0])]
end Lk
namespace Lk
open Wy PySem PySem.Spec PyProof.Rows L2
theorem chk : chkFs gl kl gc ec (frOf ds) ds P.fns = true := by decide +kernel
theorem gcOk : gcB gc P.glob = true := by decide +kernel
theorem pureOk : pureP P = true := by decide +kernel
theorem glsOk : glsB gl ds = true := by decide +kernel
theorem bd0 {K : PySem.W.Frag} : ∀ f fd, FunI K d0 f fd → Binds K fd d0.ps [] := fun f fd F => FunD.bindsN F fun _ _ _ _ _ _ us hl => match us, hl with | [_], _ => rfl
theorem bd1 {K : PySem.W.Frag} : ∀ f fd, FunI K d1 f fd → Binds K fd d1.ps [] := fun f fd F => FunD.bindsN F fun _ _ _ _ _ _ us hl => match us, hl with | [_], _ => rfl
theorem bd2 {K : PySem.W.Frag} : ∀ f fd, FunI K d2 f fd → Binds K fd d2.ps [] := fun f fd F => FunD.bindsN F fun _ _ _ _ _ _ us hl => match us, hl with | [_], _ => rfl
theorem bd3 {K : PySem.W.Frag} : ∀ f fd, FunI K d3 f fd → Binds K fd d3.ps [] := fun f fd F => FunD.bindsN F fun _ _ _ _ _ _ us hl => match us, hl with | [_, _], _ => rfl
theorem bd4 {K : PySem.W.Frag} : ∀ f fd, FunI K d4 f fd → Binds K fd d4.ps [] := fun f fd F => FunD.bindsN F fun _ _ _ _ _ _ us hl => match us, hl with | [_], _ => rfl
theorem bd5 {K : PySem.W.Frag} : ∀ f fd, FunI K d5 f fd → Binds K fd d5.ps [] := fun f fd F => FunD.bindsN F fun _ _ _ _ _ _ us hl => match us, hl with | [_, _], _ => rfl
theorem bd6 {K : PySem.W.Frag} : ∀ f fd, FunI K d6 f fd → Binds K fd d6.ps [] := fun f fd F => FunD.bindsN F fun _ _ _ _ _ _ us hl => match us, hl with | [_, _], _ => rfl
theorem bd7 {K : PySem.W.Frag} : ∀ f fd, FunI K d7 f fd → Binds K fd d7.ps [] := fun f fd F => FunD.bindsN F fun _ _ _ _ _ _ us hl => match us, hl with | [_], _ => rfl
theorem bd8 {K : PySem.W.Frag} : ∀ f fd, FunI K d8 f fd → Binds K fd d8.ps [] := fun f fd F => FunD.bindsN F fun _ _ _ _ _ _ us hl => match us, hl with | [_], _ => rfl
theorem bd9 {K : PySem.W.Frag} : ∀ f fd, FunI K d9 f fd → Binds K fd d9.ps [] := fun f fd F => FunD.bindsN F fun _ _ _ _ _ _ us hl => match us, hl with | [_, _], _ => rfl
theorem bd10 {K : PySem.W.Frag} : ∀ f fd, FunI K d10 f fd → Binds K fd d10.ps [] := fun f fd F => FunD.bindsN F fun _ _ _ _ _ _ us hl => match us, hl with | [_, _], _ => rfl
theorem bd11 {K : PySem.W.Frag} : ∀ f fd, FunI K d11 f fd → Binds K fd d11.ps [] := fun f fd F => FunD.bindsN F fun _ _ _ _ _ _ us hl => match us, hl with | [_, _], _ => rfl
theorem bd12 {K : PySem.W.Frag} : ∀ f fd, FunI K d12 f fd → Binds K fd d12.ps [] := fun f fd F => FunD.bindsN F fun _ _ _ _ _ _ us hl => match us, hl with | [_, _, _], _ => rfl
theorem bd13 {K : PySem.W.Frag} : ∀ f fd, FunI K d13 f fd → Binds K fd d13.ps [] := fun f fd F => FunD.bindsN F fun _ _ _ _ _ _ us hl => match us, hl with | [_], _ => rfl
theorem bd14 {K : PySem.W.Frag} : ∀ f fd, FunI K d14 f fd → Binds K fd d14.ps [] := fun f fd F => FunD.bindsN F fun _ _ _ _ _ _ us hl => match us, hl with | [_, _], _ => rfl
theorem bd15 {K : PySem.W.Frag} : ∀ f fd, FunI K d15 f fd → Binds K fd d15.ps [] := fun f fd F => FunD.bindsN F fun _ _ _ _ _ _ us hl => match us, hl with | [_, _], _ => rfl
theorem bd16 {K : PySem.W.Frag} : ∀ f fd, FunI K d16 f fd → Binds K fd d16.ps [] := fun f fd F => FunD.bindsN F fun _ _ _ _ _ _ us hl => match us, hl with | [], _ => rfl
theorem bd17 {K : PySem.W.Frag} : ∀ f fd, FunI K d17 f fd → Binds K fd d17.ps [] := fun f fd F => FunD.bindsN F fun _ _ _ _ _ _ us hl => match us, hl with | [_, _, _], _ => rfl
theorem bd18 {K : PySem.W.Frag} : ∀ f fd, FunI K d18 f fd → Binds K fd d18.ps [] := fun f fd F => FunD.bindsN F fun _ _ _ _ _ _ us hl => match us, hl with | [], _ => rfl
theorem bd19 {K : PySem.W.Frag} : ∀ f fd, FunI K d19 f fd → Binds K fd d19.ps [] := fun f fd F => FunD.bindsN F fun _ _ _ _ _ _ us hl => match us, hl with | [_], _ => rfl
theorem bd20 {K : PySem.W.Frag} : ∀ f fd, FunI K d20 f fd → Binds K fd d20.ps [] := fun f fd F => FunD.bindsN F fun _ _ _ _ _ _ us hl => match us, hl with | [_], _ => rfl
theorem bd21 {K : PySem.W.Frag} : ∀ f fd, FunI K d21 f fd → Binds K fd d21.ps [] := fun f fd F => FunD.bindsN F fun _ _ _ _ _ _ us hl => match us, hl with | [_], _ => rfl
theorem bds {K : PySem.W.Frag} : ∀ d ∈ ds, ∀ f fd, FunI K d f fd → Binds K fd d.ps [] := by
  intro d hd
  simp only [ds, List.mem_cons, List.not_mem_nil, or_false] at hd
  rcases hd with rfl | rfl | rfl | rfl | rfl | rfl | rfl | rfl | rfl | rfl | rfl | rfl | rfl | rfl | rfl | rfl | rfl | rfl | rfl | rfl | rfl | rfl
  · exact bd0
  · exact bd1
  · exact bd2
  · exact bd3
  · exact bd4
  · exact bd5
  · exact bd6
  · exact bd7
  · exact bd8
  · exact bd9
  · exact bd10
  · exact bd11
  · exact bd12
  · exact bd13
  · exact bd14
  · exact bd15
  · exact bd16
  · exact bd17
  · exact bd18
  · exact bd19
  · exact bd20
  · exact bd21
theorem kw0 {K : PySem.W.Frag} : ∀ f fd, FunI K d2 f fd → KBinds K fd d2.ps ["web"] (gP 0 (["web"] : List Str).length [0]) (gP 0 (["web"] : List Str).length [0]) := kb_of (n := 0) (perm := [0]) (by simp [d2]) rfl fun _ _ _ _ _ _ us ws h1 h2 => match us, ws, h1, h2 with | [], [_], _, _ => rfl
theorem kw1 {K : PySem.W.Frag} : ∀ f fd, FunI K d4 f fd → KBinds K fd d4.ps ["web"] (gP 0 (["web"] : List Str).length [0]) (gP 0 (["web"] : List Str).length [0]) := kb_of (n := 0) (perm := [0]) (by simp [d4]) rfl fun _ _ _ _ _ _ us ws h1 h2 => match us, ws, h1, h2 with | [], [_], _, _ => rfl
theorem kw2 {K : PySem.W.Frag} : ∀ f fd, FunI K d8 f fd → KBinds K fd d8.ps ["web"] (gP 0 (["web"] : List Str).length [0]) (gP 0 (["web"] : List Str).length [0]) := kb_of (n := 0) (perm := [0]) (by simp [d8]) rfl fun _ _ _ _ _ _ us ws h1 h2 => match us, ws, h1, h2 with | [], [_], _, _ => rfl
theorem kw3 {K : PySem.W.Frag} : ∀ f fd, FunI K d7 f fd → KBinds K fd d7.ps ["web"] (gP 0 (["web"] : List Str).length [0]) (gP 0 (["web"] : List Str).length [0]) := kb_of (n := 0) (perm := [0]) (by simp [d7]) rfl fun _ _ _ _ _ _ us ws h1 h2 => match us, ws, h1, h2 with | [], [_], _, _ => rfl
theorem kw4 {K : PySem.W.Frag} : ∀ f fd, FunI K d5 f fd → KBinds K fd d5.ps ["name", "web"] (gP 0 (["name", "web"] : List Str).length [1, 0]) (gP 0 (["name", "web"] : List Str).length [1, 0]) := kb_of (n := 0) (perm := [1, 0]) (by simp [d5]) rfl fun _ _ _ _ _ _ us ws h1 h2 => match us, ws, h1, h2 with | [], [_, _], _, _ => rfl
theorem kw5 {K : PySem.W.Frag} : ∀ f fd, FunI K d6 f fd → KBinds K fd d6.ps ["name", "web"] (gP 0 (["name", "web"] : List Str).length [1, 0]) (gP 0 (["name", "web"] : List Str).length [1, 0]) := kb_of (n := 0) (perm := [1, 0]) (by simp [d6]) rfl fun _ _ _ _ _ _ us ws h1 h2 => match us, ws, h1, h2 with | [], [_, _], _, _ => rfl
theorem kws {K : PySem.W.Frag} : ∀ q ∈ kl, ∃ d, ds[q.2.1]? = some d ∧ d.x = q.1 ∧ ∀ f fd, FunI K d f fd → KBinds K fd d.ps q.2.2.2.1 (gP q.2.2.1 q.2.2.2.1.length q.2.2.2.2) (gP q.2.2.1 q.2.2.2.1.length q.2.2.2.2) := by
  intro q hq
  simp only [kl, List.mem_cons, List.not_mem_nil, or_false] at hq
  rcases hq with rfl | rfl | rfl | rfl | rfl | rfl
  · exact ⟨d2, rfl, rfl, kw0⟩
  · exact ⟨d4, rfl, rfl, kw1⟩
  · exact ⟨d8, rfl, rfl, kw2⟩
  · exact ⟨d7, rfl, rfl, kw3⟩
  · exact ⟨d5, rfl, rfl, kw4⟩
  · exact ⟨d6, rfl, rfl, kw5⟩
theorem is_NoName : InS i_NoName "name" := ⟨⟨⟨5, 8, 5, 13⟩, ⟨5, 8, 5, 15⟩, ⟨5, 8, 5, 24⟩, ⟨5, 25, 5, 29⟩, ⟨5, 8, 5, 30⟩, ⟨5, 8, 5, 30⟩, ⟨6, 8, 6, 12⟩, ⟨6, 8, 6, 17⟩, ⟨6, 20, 6, 24⟩, ⟨6, 8, 6, 24⟩, { arg := "self", annotation := none, pos := ⟨4, 17, 4, 21⟩ }, by kernel_rfl, rfl, by kernel_rfl, rfl⟩, fun _ _ _ _ _ _ _ _ _ => rfl, by decide +kernel, by kernel_rfl, by kernel_rfl, by kernel_rfl, by kernel_rfl, by decide +kernel⟩
theorem inS : ∀ d ∈ ini, ∀ f, exF d.k = [f] → InS d f := by
  intro d hd f hf
  simp only [ini, List.mem_cons, List.not_mem_nil, or_false] at hd
  rcases hd with rfl
  · cases hf
    exact is_NoName
def file : Str := PySem.Challenge.pw_waysup_k17_things_and_what_lies_straight.main.file
abbrev R : PySem.W.OpenRow := PySem.W.OpenLaw.row PySem.Challenge.rw_waysup_k17_things_and_what_lies_straight
abbrev hk : PySem.W.Hook := hookY 4 (faOf ds gc) (ds.map DefI.d) ini (exB ec file ini)
def ob (s : PySem.W.SharedT) : He.AlD × (Bool × List FnY) := obsYG 4 (faOf ds gc) (ds.map DefI.d) ini (exB ec file ini) (HandSHeadRun.getT s)
theorem ob_eq (s : PySem.W.SharedT) : ob s = hk.obs s.abs := obsYG_eq (HandSHeadRun.getT_eq s)
def loose : List PySem.Str := ["NoName", "tupled", "as_table", "things", "check_things", "roots", "straight_in", "straight_under", "is_forest", "shared", "_law_box", "_law_take", "_law_cells", "_law_pick", "_law_lists", "_law_same", "_law_net", "_law_nets", "_law_heard", "_law_hand_right", "_law_case_right", "_law_right"]
set_option maxHeartbeats 0 in
theorem run (w : World) : HandSHeadRun.RunEq R (PySem.W.view R.prog [26]) hk ob 4000 loose w := by
  intro os
  kernel_rfl
abbrev Pg : Program := (PySem.Challenge.rw_waysup_k17_things_and_what_lies_straight).prog
theorem facts {w : World} {K : PySem.W.Frag} {h : Heap} {mg : Str → Option Value} {f : Addr} (X : K.In h) (G : h.Ns mainGlobals mg) (hfa : mg ("law" : Str) = some (.ref f)) (c : obsY (faOf ds gc) (ds.map DefI.d) ini (exB ec file ini) K = valY (ds.map DefI.d) ini) :
    ∃ fd : FuncData, (∀ (s : Shared) (v : Value), BindsTo s fd ⟨[v], []⟩ [("_law_script", v)]) ∧ ∀ base : Heap, FnOk Pg w K mg base (CXw Pg) 30 f fd ["_law_script"] (spF K false (P.run 30 21)) := by
  have c1 : He.SaysD (faOf ds gc) (ds.map DefI.d) K := congrArg (fun z : He.AlD × (Bool × List FnY) => z.1) c
  have sup : mg ("super" : Str) = none := (told_of (prog := Pg) (ec := []) X G c1 bds glsOk kws (fun _ z => nomatch z)).blt _ (by simp [bnames])
  have T : Told K Pg mg gl kl gc ec ds := told_of X G c1 bds glsOk kws (exs_of X G c sup (fun _ => by kernel_rfl) inS)
  obtain ⟨f', fd, F, e⟩ := T.def_ 21 d21 rfl
  have e2 : mg ("law" : Str) = some (.ref f') := e
  rw [hfa] at e2
  cases e2
  have b := FunD.bindsA (ps := ["_law_script"]) F fun _ _ _ _ _ _ us hl => match us, hl with | [_], _ => rfl
  exact ⟨fd, fun s v => b s [v] rfl, fun base => fn_w (fns_ok T pureOk gcOk chk 30 21 d21 f fd rfl F)⟩
end Lk
namespace Lk
open Wy
set_option maxRecDepth 100000
set_option maxHeartbeats 0
theorem has_0 : Wy.tupled_H P 0 := rfl
theorem has_1 : Wy.as_table_H P 1 := ⟨0, rfl, has_0⟩
theorem has_2 : Wy.things_H P 2 := ⟨0, rfl, has_0⟩
theorem has_3 : Wy.check_things_2_H P 3 := ⟨2, rfl, has_2⟩
theorem has_4 : Wy.roots_H P 4 := ⟨0, rfl, has_0⟩
theorem has_5 : Wy.straight_in_2_H P 5 := ⟨3, 1, rfl, has_3, has_1⟩
theorem has_6 : Wy.straight_under_2_H P 6 := ⟨3, 0, rfl, has_3, has_0⟩
theorem has_8 : Wy.shared_H P 8 := ⟨0, rfl, has_0⟩
theorem has_7 : Wy.is_forest_H P 7 := ⟨8, rfl, has_8⟩
theorem has_9 : Wy.l_box_18_H P 9 := rfl
theorem has_10 : Wy.l_take_H P 10 := rfl
theorem has_11 : Wy.l_cells_H P 11 := rfl
theorem has_12 : Wy.l_pick_H P 12 := ⟨10, rfl, has_10⟩
theorem has_13 : Wy.l_lists_H P 13 := rfl
theorem has_14 : Wy.l_same_H P 14 := rfl
theorem has_15 : Wy.l_net_H P 15 := ⟨10, 12, rfl, has_10, has_12⟩
theorem has_16 : Wy.l_nets_H P 16 := rfl
theorem has_17 : Wy.l_heard_5_H P 17 := ⟨5, 6, rfl, has_5, has_6⟩
theorem has_18 : Wy.l_hand_right_25_H P 18 := ⟨16, 2, 4, 8, 7, 5, 6, 17, 13, 14, rfl, has_16, has_2, has_4, has_8, has_7, has_5, has_6, has_17, has_13, has_14⟩
theorem has_19 : Wy.l_case_right_41_H P 19 := ⟨15, 13, 5, 6, 2, 4, 8, 7, 14, rfl, has_15, has_13, has_5, has_6, has_2, has_4, has_8, has_7, has_14⟩
theorem has_20 : Wy.l_right_50_H P 20 := ⟨19, rfl, has_19⟩
theorem has_21 : Wy.law_37_H P 21 := ⟨18, 11, 20, 9, rfl, has_18, has_11, has_20, has_9⟩
theorem hand : P.run 29 18 [] [] = .ok (.bl true) [] := isT_ (by decide +kernel)
theorem law_true (ns : List Int) (hn : ns.length ≤ 63) : ∃ st', P.run 30 21 [.scr (ns.map D.int)] [] = .ok (.bl true) st' :=
  law_frame (n := 28) (m := 3) (hand := 18) (cells := 11) (box := 9) (right := 20) rfl rfl rfl (by decide) (by decide) hand (fun g => Dr.mono (l_right_50_dr has_20 (by decide)) (by decide)) hn

end Lk

open PySem PySem.W PySem.Calls PyProof.Rows in
theorem PySem.Challenge.cw_waysup_k17_things_and_what_lies_straight_holds : PySem.Challenge.rw_waysup_k17_things_and_what_lies_straight.Holds := by
  w_on; o_law
  refine HandSHeadRun.head_any (r := OpenLaw.row PySem.Challenge.rw_waysup_k17_things_and_what_lies_straight) (q := view (OpenLaw.row PySem.Challenge.rw_waysup_k17_things_and_what_lies_straight).prog [26]) (H := Lk.hk) (ob := Lk.ob) (M := 4000) (loose := Lk.loose) (d := HandSHeadRun.topDef (OpenLaw.row PySem.Challenge.rw_waysup_k17_things_and_what_lies_straight).prog 26) (kwd := []) Lk.ob_eq
    (by kernel_rfl) (fun s => by kernel_rfl) Lk.run (by kernel_rfl) (by kernel_rfl) (by kernel_rfl) (by rfl) (by first | assumption | decide +kernel) (by decide +kernel) ⟨rfl, rfl, rfl, rfl, rfl, by decide +kernel⟩ ?hw ?hc
  case hw => w_witness2
  case hc =>
    refine L2.walk_ofE (l := PySem.Challenge.rw_waysup_k17_things_and_what_lies_straight) (n := 63) (k := 30) (x := "_law_script") (CX := Wy.CXw (PySem.Challenge.rw_waysup_k17_things_and_what_lies_straight).prog) rfl (by decide) (by kernel_rfl) ⟨rfl, by decide, by decide⟩ ?F (fun H s e s' => Wy.cxw_none H s e s')
    intro w mg fa h Y G hm
    obtain ⟨K, X, c⟩ := Y
    have hl : mg ("law" : PySem.Str) = some (.ref fa) := by
      have e : (HandSHeadRun.topDef (OpenLaw.row PySem.Challenge.rw_waysup_k17_things_and_what_lies_straight).prog 26).name = ("law" : PySem.Str) := by kernel_rfl
      rw [← e]
      exact hm
    obtain ⟨fd, hb, hF⟩ := Lk.facts (w := w) X G hl c
    exact ⟨K, fd, _, X, hb, fun H a ns hn _ hS => Wy.law_sp (call := Lk.P.run 30 21) (Lk.law_true ns hn) hS, fun base _ _ => hF base⟩
